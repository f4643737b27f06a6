import PyProof.Rows.All
import Wide.All
import OpenK.AllK
import Wide.FinOn
import KE.KStateDown
import KE.KeyNested
import KE.KDictKeyed
import KE.SortKeyHeap
import HandS.Base
import HandS.Call
import HandS.List
import HandS.Comp
import HandS.Ends
import HandS.Exc
import HandS.TryOnly
import HandS.ExcOwn
import HandS.Words
import HandS.WordsExc
import HandS.Defaults
import HandS.Lambda
import HandS.TupAny
import HandS.Style
import HandS.Flow
import HandS.IsInst
import HandS.Deep
import HandS.Wide
import HandS.Iter
import HandS.Conv
import HandS.Text
import PyProof.TupleOfSeq
import KE.SortData
import HandS.TupSets
import HandS.SetFor
import KE.SortKeyed
import HandS.HeadHook4
import HandS.HeadWalk
import HandS.EndTab
import HandS.Codes
import KE.OsSortAny
import HandS.Head0
import HandS.Head1
import HandS.Head2
import HandS.HeadEnd
import PySem.Challenge.RW_acceptlists_k06_whole_choosing
set_option Elab.async false
set_option linter.all false
set_option maxRecDepth 100000
set_option maxHeartbeats 0
namespace Pz
open PySem PySem.Spec PyProof.Rows L2 LamX

/-! ### values, results -/
inductive W where
  | d (x : PyData)
  | dic (l : List (PyData × PyData))
  | fn (x : Str)
  /-- what a range, an enumerate, a zip walks (no value of a name) -/
  | it (xs : List PyData)
inductive Rs (α : Type) where
  | ok (a : α)
  | exc (c : Str)
  | stuck
def Rs.bind {α β : Type} (m : Rs α) (f : α → Rs β) : Rs β := match m with
  | .ok a => f a
  | .exc c => .exc c
  | .stuck => .stuck
@[simp] theorem Rs.bind_ok {α β : Type} (a : α) (f : α → Rs β) : (Rs.ok a).bind f = f a := rfl
@[simp] theorem Rs.bind_exc {α β : Type} (c : Str) (f : α → Rs β) : (Rs.exc c : Rs α).bind f = .exc c := rfl
@[simp] theorem Rs.bind_stuck {α β : Type} (f : α → Rs β) : (Rs.stuck : Rs α).bind f = .stuck := rfl
inductive Sl where
  | un
  | va (w : W)
  | mu (w : W)
abbrev En := List Sl

/-! ### who owns an object -/
inductive OT where
  | foreign
  | tmp (w : W)
  | slot (i : Nat) (w : W)
abbrev Os := Addr → Option OT
def Os.put (os : Os) (p : Addr) (t : OT) : Os := fun a => if a = p then some t else os a
def dropT (i : Nat) : OT → Option OT
  | .slot j w => if j = i then none else some (.slot j w)
  | t => some t
def Os.drop (os : Os) (i : Nat) : Os := fun a => (os a).bind (dropT i)
def frz (os : Os) (H : Hp) : Hp := fun a => match os a with
  | none => H a
  | some _ => none
theorem foreign_ne (w : W) (i : Nat) : OT.foreign ≠ .slot i w := fun z => nomatch z
theorem put_same {os : Os} {p : Addr} {t : OT} : os.put p t p = some t := by unfold Os.put; rw [if_pos rfl]
theorem put_ne {os : Os} {p a : Addr} {t : OT} (h : a ≠ p) : os.put p t a = os a := by unfold Os.put; rw [if_neg h]
theorem frz_none {os : Os} {H : Hp} {a : Addr} (h : os a = none) : frz os H a = H a := by unfold frz; rw [h]
theorem frz_some {os : Os} {H : Hp} {a : Addr} {t : OT} (h : os a = some t) : frz os H a = none := by unfold frz; rw [h]
theorem frz_of {os : Os} {H : Hp} {a : Addr} {o : HO} (h : frz os H a = some o) : os a = none ∧ H a = some o := by
  unfold frz at h
  cases e : os a with
  | none => rw [e] at h; exact ⟨rfl, h⟩
  | some t => rw [e] at h; cases h
theorem frz_le (os : Os) (H : Hp) : ExtN (frz os H) H := fun b o h _ => (frz_of h).2
theorem frz_ext {os os' : Os} {H H' : Hp} (ho : ∀ a, os a = none → os' a = none) (e : ExtN H H') : ExtN (frz os H) (frz os' H') := fun b o h n => by
  obtain ⟨h1, h2⟩ := frz_of h
  rw [frz_none (ho b h1)]
  exact e b o h2 n
theorem drop_none {os : Os} {i : Nat} {a : Addr} (h : os a = none) : os.drop i a = none := by unfold Os.drop; rw [h]; rfl
theorem drop_some {os : Os} {i : Nat} {a : Addr} {t : OT} (h : os.drop i a = some t) : os a = some t ∧ ∀ w, t ≠ .slot i w := by
  unfold Os.drop at h
  cases e : os a with
  | none => rw [e] at h; cases h
  | some u =>
    rw [e] at h
    have h2 : dropT i u = some t := h
    cases u with
    | foreign => cases h2; exact ⟨rfl, fun w z => by cases z⟩
    | tmp w => cases h2; exact ⟨rfl, fun w z => by cases z⟩
    | slot j w =>
      have h2 : (if j = i then none else some (OT.slot j w)) = some t := h2
      by_cases hj : j = i
      · rw [if_pos hj] at h2; cases h2
      · rw [if_neg hj] at h2; cases h2; exact ⟨rfl, fun w' z => by injection z with z1 _; exact hj z1⟩
theorem drop_keep {os : Os} {i : Nat} {a : Addr} {t : OT} (h : os a = some t) (n : ∀ w, t ≠ .slot i w) : os.drop i a = some t := by
  unfold Os.drop
  rw [h]
  show dropT i t = some t
  cases t with
  | foreign => rfl
  | tmp w => rfl
  | slot j w =>
    show (if j = i then none else some (OT.slot j w)) = some (OT.slot j w)
    rw [if_neg fun e => n w (by rw [e])]

/-! ### data in the heap -/
theorem ExtN.self_upd {H : Hp} {p : Addr} {o : HO} (h : H p = none) : ExtN H (upd H p o) := fun b u e _ => by rw [upd_ne (ne_of_none e h)]; exact e
theorem sqL_ext {K : PySem.W.Frag} {F F' : Hp} {a : Addr} {xs : List V} (e : ExtN F F') (h : SqL K F a xs) : SqL K F' a xs := by
  rcases h with (h | ⟨o, h⟩) | h
  · exact .inl (.inl (e _ _ h fun _ z => by cases z))
  · exact .inl (.inr ⟨o, e _ _ h fun _ z => by cases z⟩)
  · exact .inr h
theorem sqT_ext {K : PySem.W.Frag} {F F' : Hp} {a : Addr} {xs : List V} (e : ExtN F F') (h : SqT K F a xs) : SqT K F' a xs := by
  rcases h with (h | ⟨o, h⟩) | h
  · exact .inl (.inl (e _ _ h fun _ z => by cases z))
  · exact .inl (.inr ⟨o, e _ _ h fun _ z => by cases z⟩)
  · exact .inr h
mutual
theorem dp_ext {K : PySem.W.Frag} {F F' : Hp} (e : ExtN F F') : ∀ (d : PyData) (v : V), Dp K F v d → Dp K F' v d
  | .none, _, h => by cases h; exact .non
  | .bool b, _, h => by cases h; exact .bl b
  | .int i, _, h => by cases h; exact .int i
  | .str x, _, h => by cases h; exact .str x
  | .list ds, _, h => by
    cases h with
    | lst h1 h2 => exact .lst (sqL_ext e h1) (dpAll_ext e ds _ h2)
  | .tuple ds, _, h => by
    cases h with
    | tup h1 h2 => exact .tup (sqT_ext e h1) (dpAll_ext e ds _ h2)
  | .dict _, _, h => by cases h
theorem dpAll_ext {K : PySem.W.Frag} {F F' : Hp} (e : ExtN F F') : ∀ (ds : List PyData) (vs : List V), DpAll K F vs ds → DpAll K F' vs ds
  | [], _, h => by cases h; exact .nil
  | d :: ds, _, h => by
    cases h with
    | cons h1 h2 => exact .cons (dp_ext e d _ h1) (dpAll_ext e ds _ h2)
end
theorem dpAll_len {K : PySem.W.Frag} {F : Hp} : ∀ {ds : List PyData} {vs : List V}, DpAll K F vs ds → vs.length = ds.length
  | [], _, h => by cases h; rfl
  | d :: ds, _, h => by
    cases h with
    | cons h1 h2 => simp [dpAll_len h2]
theorem dpAll_get {K : PySem.W.Frag} {F : Hp} : ∀ {ds : List PyData} {vs : List V}, DpAll K F vs ds → ∀ {i : Nat} {v : V}, vs[i]? = some v → ∃ d, ds[i]? = some d ∧ Dp K F v d
  | [], _, h, i, v, e => by cases h; simp at e
  | d :: ds, _, h, i, v, e => by
    cases h with
    | cons h1 h2 =>
      cases i with
      | zero => simp at e; subst e; exact ⟨d, rfl, h1⟩
      | succ j =>
        obtain ⟨d', q1, q2⟩ := dpAll_get h2 (i := j) (v := v) (by simpa using e)
        exact ⟨d', by simpa using q1, q2⟩
theorem dpAll_get2 {K : PySem.W.Frag} {F : Hp} : ∀ {ds : List PyData} {vs : List V}, DpAll K F vs ds → ∀ {i : Nat} {d : PyData}, ds[i]? = some d → ∃ v, vs[i]? = some v ∧ Dp K F v d
  | [], _, h, i, d, e => by simp at e
  | x :: ds, _, h, i, d, e => by
    cases h with
    | cons h1 h2 =>
      cases i with
      | zero => simp at e; subst e; exact ⟨_, rfl, h1⟩
      | succ j =>
        obtain ⟨v', q1, q2⟩ := dpAll_get2 h2 (i := j) (d := d) (by simpa using e)
        exact ⟨v', by simpa using q1, q2⟩
theorem dpAll_append {K : PySem.W.Frag} {F : Hp} : ∀ {ds es : List PyData} {vs us : List V}, DpAll K F vs ds → DpAll K F us es → DpAll K F (vs ++ us) (ds ++ es)
  | [], _, _, _, h, g => by cases h; exact g
  | d :: ds, _, _, _, h, g => by
    cases h with
    | cons h1 h2 => exact .cons h1 (dpAll_append h2 g)
theorem dpAll_take {K : PySem.W.Frag} {F : Hp} : ∀ {ds : List PyData} {vs : List V} (n : Nat), DpAll K F vs ds → DpAll K F (vs.take n) (ds.take n)
  | _, _, 0, _ => by simp; exact .nil
  | [], _, n + 1, h => by cases h; exact .nil
  | d :: ds, _, n + 1, h => by
    cases h with
    | cons h1 h2 => exact .cons h1 (dpAll_take n h2)
theorem dpAll_drop {K : PySem.W.Frag} {F : Hp} : ∀ {ds : List PyData} {vs : List V} (n : Nat), DpAll K F vs ds → DpAll K F (vs.drop n) (ds.drop n)
  | _, _, 0, h => h
  | [], _, n + 1, h => by cases h; exact .nil
  | d :: ds, _, n + 1, h => by
    cases h with
    | cons h1 h2 => exact dpAll_drop n h2
theorem dpAll_reverse {K : PySem.W.Frag} {F : Hp} : ∀ {ds : List PyData} {vs : List V}, DpAll K F vs ds → DpAll K F vs.reverse ds.reverse
  | [], _, h => by cases h; exact .nil
  | d :: ds, _, h => by
    cases h with
    | cons h1 h2 => rw [List.reverse_cons, List.reverse_cons]; exact dpAll_append (dpAll_reverse h2) (.cons h1 .nil)
theorem dpAll_set {K : PySem.W.Frag} {F : Hp} {v : V} {d : PyData} (hd : Dp K F v d) : ∀ {ds : List PyData} {vs : List V} (j : Nat), DpAll K F vs ds → DpAll K F (vs.set j v) (ds.set j d)
  | [], _, j, h => by cases h; exact .nil
  | x :: ds, _, 0, h => by
    cases h with
    | cons h1 h2 => exact .cons hd h2
  | x :: ds, _, j + 1, h => by
    cases h with
    | cons h1 h2 => exact .cons h1 (dpAll_set hd j h2)

/-! ### keys of dicts -/
mutual
def nk : PyData → Option NestedKey
  | .none => some .none
  | .bool b => some (.num (if b then 1 else 0))
  | .int i => some (.num i)
  | .str x => some (.text x)
  | .tuple xs => match nks xs with
    | some ks => some (.tup ks)
    | none => none
  | .list _ => none
  | .dict _ => none
def nks : List PyData → Option (List NestedKey)
  | [] => some []
  | x :: xs => match nk x, nks xs with
    | some k, some ks => some (k :: ks)
    | _, _ => none
end
/-- a key that may stand in a dict -/
def keyOf (x : PyData) : Option NestedKey := match nk x with
  | some k => if k.depth ≤ 7 then some k else none
  | none => none

structure Gc where
  K : PySem.W.Frag
  mg : Str → Option Value
  w : World
  T : List (Addr × Str)
def dcO (a : Addr) (es : Array DictEntry) : HO := .ext fun h => ∃ ep, h.get? a = some { cls := .type "dict", data := .dict es ep }
def EntOk (G : Gc) (F : Hp) (kv : PyData × PyData) (e : DictEntry) : Prop :=
  ∃ k v n, RelV k e.key ∧ Dp G.K F k kv.1 ∧ RelV v e.val ∧ Dp G.K F v kv.2 ∧ keyOf kv.1 = some n ∧ e.hash = n.hash G.w
def DicRep (G : Gc) (F : Hp) (es : Array DictEntry) (l : List (PyData × PyData)) : Prop :=
  Paired (EntOk G F) l es.toList ∧ (l.map fun p => keyOf p.1).Nodup ∧ l.length ≤ sizeLine
theorem EntOk.ext {G : Gc} {F F' : Hp} (e : ExtN F F') {kv : PyData × PyData} {en : DictEntry} (h : EntOk G F kv en) : EntOk G F' kv en := by
  obtain ⟨k, v, n, h1, h2, h3, h4, h5, h6⟩ := h
  exact ⟨k, v, n, h1, dp_ext e _ _ h2, h3, dp_ext e _ _ h4, h5, h6⟩
theorem DicRep.ext {G : Gc} {F F' : Hp} (e : ExtN F F') {es : Array DictEntry} {l : List (PyData × PyData)} (h : DicRep G F es l) : DicRep G F' es l :=
  ⟨L2.Paired.mapP h.1 fun _ _ q => q.ext e, h.2⟩
def RepW (G : Gc) (F : Hp) (v : V) : W → Prop
  | .d x => Dp G.K F v x
  | .dic l => ∃ a es, v = .ref a ∧ F a = some (dcO a es) ∧ DicRep G F es l
  | .fn x => ∃ a, v = .ref a ∧ G.mg x = some (.ref a)
  | .it _ => False
def RepO (G : Gc) (F H : Hp) (p : Addr) : W → Prop
  | .d (.list ds) => ∃ vs, H p = some (.lst vs) ∧ DpAll G.K F vs ds
  | .dic l => ∃ es, H p = some (dcO p es) ∧ DicRep G F es l
  | _ => False
theorem dcO_ne {a : Addr} {es : Array DictEntry} (ps : Array Value) : dcO a es ≠ .tbl ps := fun z => by unfold dcO at z; cases z
theorem RepW.ext {G : Gc} {F F' : Hp} (e : ExtN F F') {v : V} {w : W} (h : RepW G F v w) : RepW G F' v w := by
  cases w with
  | d x => exact dp_ext e _ _ h
  | dic l =>
    obtain ⟨a, es, h1, h2, h3⟩ := h
    exact ⟨a, es, h1, e _ _ h2 dcO_ne, h3.ext e⟩
  | fn x => exact h
  | it xs => exact h
theorem RepO.ext {G : Gc} {F F' H H' : Hp} {p : Addr} {w : W} (e : ExtN F F') (eH : ∀ o, H p = some o → (∀ ps, o ≠ .tbl ps) → H' p = some o) (h : RepO G F H p w) : RepO G F' H' p w := by
  cases w with
  | d x =>
    cases x with
    | list ds =>
      obtain ⟨vs, h1, h2⟩ := h
      exact ⟨vs, eH _ h1 (fun _ z => by cases z), dpAll_ext e _ _ h2⟩
    | _ => exact h.elim
  | dic l =>
    obtain ⟨es, h1, h2⟩ := h
    exact ⟨es, eH _ h1 dcO_ne, h2.ext e⟩
  | fn x => exact h.elim
  | it xs => exact h.elim
theorem RepO.some {G : Gc} {F H : Hp} {p : Addr} {w : W} (h : RepO G F H p w) : H p ≠ none := by
  cases w with
  | d x =>
    cases x with
    | list ds => obtain ⟨vs, h1, _⟩ := h; rw [h1]; exact fun z => by cases z
    | _ => exact h.elim
  | dic l => obtain ⟨es, h1, _⟩ := h; rw [h1]; exact fun z => by cases z
  | fn x => exact h.elim
  | it xs => exact h.elim
/-- an owned object, given away -/
theorem RepO.give {G : Gc} {F H : Hp} {p : Addr} {w : W} (h : RepO G F H p w) (e : F p = H p) : RepW G F (.ref p) w := by
  cases w with
  | d x =>
    cases x with
    | list ds => obtain ⟨vs, h1, h2⟩ := h; exact .lst (.of (e.trans h1)) h2
    | _ => exact h.elim
  | dic l => obtain ⟨es, h1, h2⟩ := h; exact ⟨p, es, rfl, e.trans h1, h2⟩
  | fn x => exact h.elim
  | it xs => exact h.elim

/-! ### a heap that grew -/
structure Gr (H H' : Hp) : Prop where
  ext : ExtN H H'
  dom : ∀ b, H b ≠ none → H' b ≠ none
theorem Gr.refl (H : Hp) : Gr H H := ⟨ExtN.refl H, fun _ h => h⟩
theorem Gr.trans {H H1 H2 : Hp} (a : Gr H H1) (b : Gr H1 H2) : Gr H H2 := ⟨a.ext.trans b.ext, fun x h => b.dom x (a.dom x h)⟩
theorem Gr.upd {H : Hp} {p : Addr} {o : HO} (h : H p = none) : Gr H (upd H p o) := ⟨ExtN.self_upd h, fun b hb => by
  by_cases e : b = p
  · rw [e] at hb; exact absurd h hb
  · rw [upd_ne e]; exact hb⟩
/-- an object that is not the entry's is written -/
theorem Gr.write {H0 H : Hp} {p : Addr} {o : HO} (g : Gr H0 H) (h : H0 p = none) : Gr H0 (L2.upd H p o) := ⟨fun b u e n => by
    have hb : b ≠ p := ne_of_none e h
    rw [upd_ne hb]; exact g.ext b u e n, fun b hb => by
  by_cases e : b = p
  · rw [e, upd_same]; exact fun z => by cases z
  · rw [upd_ne e]; exact g.dom b hb⟩
theorem Gr.free {H H' : Hp} (g : Gr H H') {p : Addr} (h : H' p = none) : H p = none := by
  cases e : H p with
  | none => rfl
  | some u => exact absurd h (g.dom p (by rw [e]; exact fun z => by cases z))

/-- a list or a dict stands at p -/
def OwnAt (H : Hp) (p : Addr) : Prop := ∃ o, H p = some o ∧ ((∃ vs, o = .lst vs) ∨ ∃ es, o = dcO p es)
theorem OwnAt.ne {H : Hp} {p : Addr} (h : OwnAt H p) : H p ≠ none := by
  obtain ⟨o, e, _⟩ := h
  rw [e]; exact fun z => by cases z
theorem OwnAt.ext {H H' : Hp} {p : Addr} (h : OwnAt H p) (e : ExtN H H') : OwnAt H' p := by
  obtain ⟨o, e1, e2⟩ := h
  refine ⟨o, e p o e1 fun ps z => ?_, e2⟩
  rcases e2 with ⟨vs, e2⟩ | ⟨es, e2⟩
  · rw [e2] at z; cases z
  · rw [e2] at z; exact dcO_ne ps z
theorem OwnAt.upd {H : Hp} {p q : Addr} {o : HO} (h : OwnAt H q) (n : q ≠ p) : OwnAt (L2.upd H p o) q := by
  obtain ⟨u, e1, e2⟩ := h
  exact ⟨u, by rw [upd_ne n]; exact e1, e2⟩
theorem RepO.own {G : Gc} {F H : Hp} {p : Addr} {w : W} (h : RepO G F H p w) : OwnAt H p := by
  cases w with
  | d x =>
    cases x with
    | list ds => obtain ⟨vs, h1, _⟩ := h; exact ⟨_, h1, .inl ⟨vs, rfl⟩⟩
    | _ => exact h.elim
  | dic l => obtain ⟨es, h1, _⟩ := h; exact ⟨_, h1, .inr ⟨es, rfl⟩⟩
  | fn x => exact h.elim
  | it xs => exact h.elim

/-! ### the state -/
abbrev Tm := V × W × Bool
def TmOk (G : Gc) (os : Os) (F : Hp) (t : Tm) : Prop := RepW G F t.1 t.2.1 ∨ (t.2.2 = true ∧ ∃ p i, t.1 = .ref p ∧ os p = some (.slot i t.2.1))
/-- the entry: the heap, what is not ours -/
structure Bs where
  H0 : Hp
  os0 : Os
structure StV (G : Gc) (H0 : Bs) (os : Os) (ρ : En) (σ : L2.St) (H : Hp) (l : List Tm) : Prop where
  len : σ.length = ρ.length
  va : ∀ (i : Nat) (w : W), ρ[i]? = some (Sl.va w) → ∃ v : V, σ[i]? = some (some v) ∧ RepW G (frz os H) v w
  mu : ∀ (i : Nat) (w : W), ρ[i]? = some (Sl.mu w) → ∃ p : Addr, σ[i]? = some (some (V.ref p)) ∧ os p = some (OT.slot i w)
  cs : ∀ (p : Addr) (i : Nat) (w : W), os p = some (OT.slot i w) → RepO G (frz os H) H p w ∧ H0.H0 p = none
  ct : ∀ (p : Addr) (w : W), os p = some (OT.tmp w) → RepO G (frz os H) H p w ∧ H0.H0 p = none
  od : ∀ (p : Addr) (t : OT), os p = some t → OwnAt H p
  base : Gr H0.H0 H
  fo : ∀ (a : Addr) (t : OT), H0.os0 a = some t → os a = some OT.foreign
  tabs : Tabs G.T (frz os H)
  tm : ∀ t ∈ l, TmOk G os (frz os H) t

section
variable {G : Gc} {H0 : Bs} {os : Os} {ρ : En} {σ : L2.St} {H H' : Hp} {l : List Tm}
theorem StV.fresh (S : StV G H0 os ρ σ H l) {p : Addr} (h : H p = none) : os p = none := by
  cases e : os p with
  | none => rfl
  | some t => exact absurd h (S.od p t e).ne
/-- all of F stands in F' -/
def FE (F F' : Hp) : Prop := ∀ b o, F b = some o → F' b = some o
theorem FE.n {F F' : Hp} (e : FE F F') : ExtN F F' := ExtN.of e
theorem frz_fe {os os' : Os} {H H' : Hp} (ho : ∀ a, os a = none → os' a = none) (e : FE H H') : FE (frz os H) (frz os' H') := fun b o h => by
  obtain ⟨h1, h2⟩ := frz_of h
  rw [frz_none (ho b h1)]
  exact e b o h2
theorem FE.upd {H : Hp} {p : Addr} {o : HO} (h : H p = none) : FE H (upd H p o) := fun b u e => by rw [upd_ne (ne_of_none e h)]; exact e
theorem FE.refl (H : Hp) : FE H H := fun _ _ h => h
theorem StV.grow (S : StV G H0 os ρ σ H l) (e : Gr H H') (ht : Tabs G.T (frz os H')) : StV G H0 os ρ σ H' l := by
  have eF : ExtN (frz os H) (frz os H') := frz_ext (fun _ h => h) e.ext
  refine ⟨S.len, fun i w h => ?_, S.mu, fun p i w h => ⟨(S.cs p i w h).1.ext eF fun o => e.ext p o, (S.cs p i w h).2⟩, fun p w h => ⟨(S.ct p w h).1.ext eF fun o => e.ext p o, (S.ct p w h).2⟩, fun p t h => (S.od p t h).ext e.ext, S.base.trans e, S.fo, ht, fun t h => ?_⟩
  · obtain ⟨v, h1, h2⟩ := S.va i w h
    exact ⟨v, h1, h2.ext eF⟩
  · rcases S.tm t h with q | q
    · exact .inl (q.ext eF)
    · exact .inr q
theorem StV.sub (S : StV G H0 os ρ σ H l) {l' : List Tm} (h : ∀ t ∈ l', t ∈ l) : StV G H0 os ρ σ H l' := { S with tm := fun t ht => S.tm t (h t ht) }
theorem StV.sub' (S : StV G H0 os ρ σ H l) {l' : List Tm} (h : ∀ t ∈ l', TmOk G os (frz os H) t) : StV G H0 os ρ σ H l' := ⟨S.len, S.va, S.mu, S.cs, S.ct, S.od, S.base, S.fo, S.tabs, h⟩
theorem StV.tail {t : Tm} (S : StV G H0 os ρ σ H (t :: l)) : StV G H0 os ρ σ H l := S.sub fun x hx => List.mem_cons_of_mem _ hx
theorem StV.push (S : StV G H0 os ρ σ H l) {t : Tm} (h : TmOk G os (frz os H) t) : StV G H0 os ρ σ H (t :: l) :=
  ⟨S.len, S.va, S.mu, S.cs, S.ct, S.od, S.base, S.fo, S.tabs, fun x hx => (List.mem_cons.mp hx).elim (fun e => by rw [e]; exact h) (S.tm x)⟩
theorem StV.pushW (S : StV G H0 os ρ σ H l) {v : V} {w : W} (m : Bool) (h : RepW G (frz os H) v w) : StV G H0 os ρ σ H ((v, w, m) :: l) := S.push (.inl h)
/-- a new object -/
theorem StV.laid (S : StV G H0 os ρ σ H l) {p : Addr} (hp : H p = none) {o : HO} : StV G H0 os ρ σ (upd H p o) l :=
  S.grow (Gr.upd hp) (S.tabs.ext (frz_fe (fun _ h => h) (FE.upd hp)))
theorem frz_laid {p : Addr} (hos : os p = none) {o : HO} : frz os (upd H p o) p = some o := by rw [frz_none hos, upd_same]
theorem StV.newT (S : StV G H0 os ρ σ H l) {p : Addr} (hp : H p = none) {vs : List V} {ds : List PyData} (h : DpAll G.K (frz os H) vs ds) (m : Bool) :
    StV G H0 os ρ σ (upd H p (.tup vs)) ((.ref p, .d (.tuple ds), m) :: l) := by
  have S1 := S.laid hp (o := .tup vs)
  refine S1.pushW m ?_
  show Dp _ _ _ _
  exact .tup (.of (frz_laid (S.fresh hp))) (dpAll_ext (frz_ext (fun _ h => h) (ExtN.self_upd hp)) _ _ h)
theorem StV.newLf (S : StV G H0 os ρ σ H l) {p : Addr} (hp : H p = none) {vs : List V} {ds : List PyData} (h : DpAll G.K (frz os H) vs ds) (m : Bool) :
    StV G H0 os ρ σ (upd H p (.lst vs)) ((.ref p, .d (.list ds), m) :: l) := by
  have S1 := S.laid hp (o := .lst vs)
  refine S1.pushW m ?_
  show Dp _ _ _ _
  exact .lst (.of (frz_laid (S.fresh hp))) (dpAll_ext (frz_ext (fun _ h => h) (ExtN.self_upd hp)) _ _ h)
/-- p is taken out of the frozen part -/
theorem frz_put_ext {p : Addr} {t : OT} {o : HO} (hp : H p = none) : FE (frz os H) (frz (os.put p t) (upd H p o)) := fun b u h => by
  obtain ⟨h1, h2⟩ := frz_of h
  have hb : b ≠ p := ne_of_none h2 hp
  rw [frz_none ((put_ne hb).trans h1), upd_ne hb]
  exact h2
/-- a new object that is ours -/
theorem StV.own (S : StV G H0 os ρ σ H l) {p : Addr} (hp : H p = none) {o : HO} {w : W} (hw : RepO G (frz os H) (upd H p o) p w) :
    StV G H0 (os.put p (.tmp w)) ρ σ (upd H p o) l := by
  have hos := S.fresh hp
  have eF' : FE (frz os H) (frz (os.put p (.tmp w)) (upd H p o)) := frz_put_ext hp
  have eF := eF'.n
  have g : Gr H (upd H p o) := Gr.upd hp
  have np : ∀ q t, os q = some t → q ≠ p := fun q t h z => by rw [z, hos] at h; cases h
  refine ⟨S.len, fun i w h => ?_, fun i w h => ?_, fun q i u h => ?_, fun q u h => ?_, fun q t h => ?_, S.base.trans g, fun a t h => (put_ne (np a _ (S.fo a t h))).trans (S.fo a t h), S.tabs.ext eF', fun t h => ?_⟩
  · obtain ⟨v, h1, h2⟩ := S.va i w h
    exact ⟨v, h1, h2.ext eF⟩
  · obtain ⟨q, h1, h2⟩ := S.mu i w h
    exact ⟨q, h1, (put_ne (np q _ h2)).trans h2⟩
  · have hq : q ≠ p := fun z => by rw [z, put_same] at h; cases h
    rw [put_ne hq] at h
    exact ⟨(S.cs q i u h).1.ext eF fun o => g.ext q o, (S.cs q i u h).2⟩
  · by_cases hq : q = p
    · subst hq
      rw [put_same] at h
      cases h
      exact ⟨hw.ext eF fun o h _ => h, S.base.free hp⟩
    · rw [put_ne hq] at h
      exact ⟨(S.ct q u h).1.ext eF fun o => g.ext q o, (S.ct q u h).2⟩
  · by_cases hq : q = p
    · rw [hq]; exact hw.own
    · rw [put_ne hq] at h
      exact (S.od q t h).ext g.ext
  · rcases S.tm t h with q | ⟨h1, p', i, h2, h3⟩
    · exact .inl (q.ext eF)
    · exact .inr ⟨h1, p', i, h2, (put_ne (np p' _ h3)).trans h3⟩
/-- what is ours is given away -/
theorem StV.give {p : Addr} {w : W} (S : StV G H0 (os.put p (.tmp w)) ρ σ H l) (hos : os p = none) (m : Bool) : StV G H0 os ρ σ H ((.ref p, w, m) :: l) := by
  have np : ∀ q t, os q = some t → q ≠ p := fun q t h z => by rw [z, hos] at h; cases h
  have eF' : FE (frz (os.put p (.tmp w)) H) (frz os H) := frz_fe (fun a h => by
    by_cases ha : a = p
    · rw [ha]; exact hos
    · rw [put_ne ha] at h; exact h) (FE.refl H)
  have eF := eF'.n
  have hw := (S.ct p w put_same).1
  refine StV.pushW ⟨S.len, fun i w h => ?_, fun i u h => ?_, fun q i u h => ?_, fun q u h => ?_, fun q t h => ?_, S.base, fun a t h => by
    have h2 := S.fo a t h
    have ha : a ≠ p := fun z => by rw [z, put_same] at h2; cases h2
    rw [put_ne ha] at h2
    exact h2, S.tabs.ext eF', fun t h => ?_⟩ m ((hw.ext eF fun o h _ => h).give (frz_none hos))
  · obtain ⟨v, h1, h2⟩ := S.va i w h
    exact ⟨v, h1, h2.ext eF⟩
  · obtain ⟨q, h1, h2⟩ := S.mu i u h
    refine ⟨q, h1, ?_⟩
    have hq : q ≠ p := fun z => by rw [z, put_same] at h2; cases h2
    rw [put_ne hq] at h2
    exact h2
  · have h' : os.put p (.tmp w) q = some (.slot i u) := (put_ne (np q _ h)).trans h
    exact ⟨(S.cs q i u h').1.ext eF fun o h _ => h, (S.cs q i u h').2⟩
  · have h' : os.put p (.tmp w) q = some (.tmp u) := (put_ne (np q _ h)).trans h
    exact ⟨(S.ct q u h').1.ext eF fun o h _ => h, (S.ct q u h').2⟩
  · exact S.od q t ((put_ne (np q _ h)).trans h)
  · rcases S.tm t h with q | ⟨h1, p', i, h2, h3⟩
    · exact .inl (q.ext eF)
    · refine .inr ⟨h1, p', i, h2, ?_⟩
      have hq : p' ≠ p := fun z => by rw [z, put_same] at h3; cases h3
      rw [put_ne hq] at h3
      exact h3
theorem frz_drop_fe {i : Nat} : FE (frz os H) (frz (os.drop i) H) := frz_fe (fun _ h => drop_none h) (FE.refl H)
theorem frz_drop_ext {i : Nat} : ExtN (frz os H) (frz (os.drop i) H) := frz_drop_fe.n
theorem getElem?_set_cases {α : Type} {xs : List α} {i j : Nat} {a b : α} (h : (xs.set i a)[j]? = some b) : (j = i ∧ b = a) ∨ (j ≠ i ∧ xs[j]? = some b) := by
  by_cases e : j = i
  · subst e
    by_cases hj : j < xs.length
    · rw [List.getElem?_set_self hj] at h; exact .inl ⟨rfl, (Option.some.inj h).symm⟩
    · rw [List.getElem?_eq_none (by simpa using hj)] at h; cases h
  · rw [List.getElem?_set_ne (Ne.symm e)] at h; exact .inr ⟨e, h⟩
/-- a slot is stored -/
theorem StV.store {i : Nat} {v : V} {w : W} {m : Bool} (S : StV G H0 os ρ σ H l) (hw : RepW G (frz os H) v w) (hi : i < σ.length) (hl : ∀ t ∈ l, t.2.2 = false) :
    StV G H0 (os.drop i) (ρ.set i (.va w)) (σ.set i (some v)) H l := by
  refine ⟨by rw [List.length_set, List.length_set]; exact S.len, fun j u h => ?_, fun j u h => ?_, fun q j u h => ?_, fun q u h => ?_, fun q t h => ?_, S.base, fun a t h => drop_keep (S.fo a t h) (fun w => foreign_ne w _), S.tabs.ext frz_drop_fe, fun t h => ?_⟩
  · rcases getElem?_set_cases h with ⟨rfl, e⟩ | ⟨e, h⟩
    · cases e
      exact ⟨v, List.getElem?_set_self hi, hw.ext frz_drop_ext⟩
    · obtain ⟨x, h1, h2⟩ := S.va j u h
      exact ⟨x, by rw [List.getElem?_set_ne (Ne.symm e)]; exact h1, h2.ext frz_drop_ext⟩
  · rcases getElem?_set_cases h with ⟨rfl, e⟩ | ⟨e, h⟩
    · cases e
    · obtain ⟨q, h1, h2⟩ := S.mu j u h
      exact ⟨q, by rw [List.getElem?_set_ne (Ne.symm e)]; exact h1, drop_keep h2 fun w z => by injection z with z1 _; exact e z1⟩
  · obtain ⟨h1, _⟩ := drop_some h
    exact ⟨(S.cs q j u h1).1.ext frz_drop_ext fun o h _ => h, (S.cs q j u h1).2⟩
  · obtain ⟨h1, _⟩ := drop_some h
    exact ⟨(S.ct q u h1).1.ext frz_drop_ext fun o h _ => h, (S.ct q u h1).2⟩
  · exact S.od q t (drop_some h).1
  · rcases S.tm t h with q | ⟨h1, _⟩
    · exact .inl (q.ext frz_drop_ext)
    · rw [hl t h] at h1; cases h1
/-- a slot takes over what is ours -/
theorem StV.storeMu {i : Nat} {p : Addr} {w : W} (S : StV G H0 (os.put p (.tmp w)) ρ σ H l) (hos : os p = none) (hi : i < σ.length) (hl : ∀ t ∈ l, t.2.2 = false) :
    StV G H0 ((os.drop i).put p (.slot i w)) (ρ.set i (.mu w)) (σ.set i (some (.ref p))) H l := by
  have eF' : FE (frz (os.put p (.tmp w)) H) (frz ((os.drop i).put p (.slot i w)) H) := frz_fe (fun a h => by
    have ha : a ≠ p := fun z => by rw [z, put_same] at h; cases h
    rw [put_ne ha] at h ⊢
    exact drop_none h) (FE.refl H)
  have eF := eF'.n
  have old : ∀ q t, (os.drop i).put p (.slot i w) q = some t → (q = p ∧ t = .slot i w) ∨ (q ≠ p ∧ os.put p (.tmp w) q = some t ∧ ∀ u, t ≠ .slot i u) := fun q t h => by
    by_cases hq : q = p
    · subst hq; rw [put_same] at h; exact .inl ⟨rfl, (Option.some.inj h).symm⟩
    · rw [put_ne hq] at h
      obtain ⟨h1, h2⟩ := drop_some h
      exact .inr ⟨hq, (put_ne hq).trans h1, h2⟩
  have hw := S.ct p w put_same
  refine ⟨by rw [List.length_set, List.length_set]; exact S.len, fun j u h => ?_, fun j u h => ?_, fun q j u h => ?_, fun q u h => ?_, fun q t h => ?_, S.base, fun a t h => by
    have h2 := S.fo a t h
    have ha : a ≠ p := fun z => by rw [z, put_same] at h2; cases h2
    rw [put_ne ha] at h2 ⊢
    exact drop_keep h2 (fun w => foreign_ne w _), S.tabs.ext eF', fun t h => ?_⟩
  · rcases getElem?_set_cases h with ⟨rfl, e⟩ | ⟨e, h⟩
    · cases e
    · obtain ⟨x, h1, h2⟩ := S.va j u h
      exact ⟨x, by rw [List.getElem?_set_ne (Ne.symm e)]; exact h1, h2.ext eF⟩
  · rcases getElem?_set_cases h with ⟨rfl, e⟩ | ⟨e, h⟩
    · cases e
      exact ⟨p, List.getElem?_set_self hi, put_same⟩
    · obtain ⟨q, h1, h2⟩ := S.mu j u h
      have hq : q ≠ p := fun z => by rw [z, put_same] at h2; cases h2
      refine ⟨q, by rw [List.getElem?_set_ne (Ne.symm e)]; exact h1, ?_⟩
      rw [put_ne hq] at h2 ⊢
      exact drop_keep h2 fun w z => by injection z with z1 _; exact e z1
  · rcases old q _ h with ⟨rfl, e⟩ | ⟨hq, h1, _⟩
    · cases e; exact ⟨hw.1.ext eF fun o h _ => h, hw.2⟩
    · exact ⟨(S.cs q j u h1).1.ext eF fun o h _ => h, (S.cs q j u h1).2⟩
  · rcases old q _ h with ⟨rfl, e⟩ | ⟨hq, h1, _⟩
    · cases e
    · exact ⟨(S.ct q u h1).1.ext eF fun o h _ => h, (S.ct q u h1).2⟩
  · rcases old q _ h with ⟨rfl, e⟩ | ⟨hq, h1, _⟩
    · exact S.od q _ put_same
    · exact S.od q t h1
  · rcases S.tm t h with q | ⟨h1, _⟩
    · exact .inl (q.ext eF)
    · rw [hl t h] at h1; cases h1
/-- a slot's object is ours no more -/
theorem StV.freeze {i : Nat} {w : W} (S : StV G H0 os ρ σ H l) (h : ρ[i]? = some (Sl.mu w)) (hl : ∀ t ∈ l, t.2.2 = false) : StV G H0 (os.drop i) (ρ.set i (.va w)) σ H l := by
  obtain ⟨p, h1, h2⟩ := S.mu i w h
  obtain ⟨hi, e⟩ := List.getElem?_eq_some_iff.mp h1
  have hd : os.drop i p = none := by
    unfold Os.drop
    rw [h2]
    show (if i = i then none else some (OT.slot i w)) = none
    rw [if_pos rfl]
  have hσ : σ.set i (some (.ref p)) = σ := by rw [← e]; exact List.set_getElem_self hi
  have hw : RepW G (frz (os.drop i) H) (.ref p) w := ((S.cs p i w h2).1.ext frz_drop_ext fun o h _ => h).give (frz_none hd)
  have hlen : i < ρ.length := by rw [← S.len]; exact hi
  refine ⟨by rw [List.length_set]; exact S.len, fun j u h => ?_, fun j u h => ?_, fun q j u h => ?_, fun q u h => ?_, fun q t h => S.od q t (drop_some h).1, S.base, fun a t h => drop_keep (S.fo a t h) (fun w => foreign_ne w _), S.tabs.ext frz_drop_fe, fun t h => ?_⟩
  · rcases getElem?_set_cases h with ⟨hj, e2⟩ | ⟨e, h⟩
    · cases e2; rw [hj]; exact ⟨.ref p, h1, hw⟩
    · obtain ⟨x, q1, q2⟩ := S.va j u h
      exact ⟨x, q1, q2.ext frz_drop_ext⟩
  · rcases getElem?_set_cases h with ⟨hj, e2⟩ | ⟨e, h⟩
    · cases e2
    · obtain ⟨q, q1, q2⟩ := S.mu j u h
      exact ⟨q, q1, drop_keep q2 fun w z => by injection z with z1 _; exact e z1⟩
  · exact ⟨(S.cs q j u (drop_some h).1).1.ext frz_drop_ext fun o h _ => h, (S.cs q j u (drop_some h).1).2⟩
  · exact ⟨(S.ct q u (drop_some h).1).1.ext frz_drop_ext fun o h _ => h, (S.ct q u (drop_some h).1).2⟩
  · rcases S.tm t h with q | ⟨h1, _⟩
    · exact .inl (q.ext frz_drop_ext)
    · rw [hl t h] at h1; cases h1
/-- a slot's object is written -/
theorem frz_put_upd {p : Addr} {t t' : OT} {o : HO} (h : os p = some t) : frz (os.put p t') (upd H p o) = frz os H := by
  funext a
  by_cases ha : a = p
  · rw [ha, frz_some put_same, frz_some h]
  · unfold frz
    rw [put_ne ha, upd_ne ha]
theorem StV.mutate {i : Nat} {p : Addr} {w w' : W} {o : HO} (S : StV G H0 os ρ σ H l) (h : ρ[i]? = some (Sl.mu w)) (hp : σ[i]? = some (some (V.ref p))) (hos : os p = some (.slot i w)) (hl : ∀ t ∈ l, t.2.2 = false)
    (hw : RepO G (frz os H) (upd H p o) p w') : StV G H0 (os.put p (.slot i w')) (ρ.set i (.mu w')) σ (upd H p o) l := by
  have eF : frz (os.put p (.slot i w')) (upd H p o) = frz os H := frz_put_upd hos
  have hi : i < ρ.length := (List.getElem?_eq_some_iff.mp h).1
  have old : ∀ q t, os.put p (.slot i w') q = some t → (q = p ∧ t = .slot i w') ∨ (q ≠ p ∧ os q = some t) := fun q t h => by
    by_cases hq : q = p
    · subst hq; rw [put_same] at h; exact .inl ⟨rfl, (Option.some.inj h).symm⟩
    · rw [put_ne hq] at h; exact .inr ⟨hq, h⟩
  have keep : ∀ {q : Addr} {u : W}, q ≠ p → RepO G (frz os H) H q u → RepO G (frz os H) (upd H p o) q u := fun hq r => r.ext (ExtN.refl _) fun u hu _ => by rw [upd_ne hq]; exact hu
  refine ⟨by rw [List.length_set]; exact S.len, fun j u h' => ?_, fun j u h' => ?_, fun q j u h' => ?_, fun q u h' => ?_, fun q t h' => ?_, S.base.write (S.cs p i w hos).2, fun a t h => by
    have h2 := S.fo a t h
    have ha : a ≠ p := fun z => by rw [z, hos] at h2; cases h2
    exact (put_ne ha).trans h2, by rw [eF]; exact S.tabs, fun t h' => ?_⟩
  · rw [eF]
    rcases getElem?_set_cases h' with ⟨rfl, e⟩ | ⟨e, h'⟩
    · cases e
    · exact S.va j u h'
  · rcases getElem?_set_cases h' with ⟨rfl, e⟩ | ⟨e, h'⟩
    · cases e; exact ⟨p, hp, put_same⟩
    · obtain ⟨q, q1, q2⟩ := S.mu j u h'
      refine ⟨q, q1, ?_⟩
      have hq : q ≠ p := fun z => by rw [z, hos] at q2; injection q2 with q2; injection q2 with q3 _; exact e q3.symm
      rw [put_ne hq]; exact q2
  · rw [eF]
    rcases old q _ h' with ⟨rfl, e⟩ | ⟨hq, h1⟩
    · cases e; exact ⟨hw, (S.cs q i w hos).2⟩
    · exact ⟨keep hq (S.cs q j u h1).1, (S.cs q j u h1).2⟩
  · rw [eF]
    rcases old q _ h' with ⟨rfl, e⟩ | ⟨hq, h1⟩
    · cases e
    · exact ⟨keep hq (S.ct q u h1).1, (S.ct q u h1).2⟩
  · rcases old q _ h' with ⟨rfl, e⟩ | ⟨hq, h1⟩
    · exact hw.own
    · exact (S.od q t h1).upd hq
  · rw [eF]
    rcases S.tm t h' with q | ⟨h1, _⟩
    · exact .inl q
    · rw [hl t h'] at h1; cases h1
/-- a new object of ours is written -/
theorem StV.mutTmp {p : Addr} {w w' : W} {o : HO} (S : StV G H0 os ρ σ H l) (hos : os p = some (.tmp w)) (hw : RepO G (frz os H) (upd H p o) p w') : StV G H0 (os.put p (.tmp w')) ρ σ (upd H p o) l := by
  have eF : frz (os.put p (.tmp w')) (upd H p o) = frz os H := frz_put_upd hos
  have old : ∀ q t, os.put p (.tmp w') q = some t → (q = p ∧ t = .tmp w') ∨ (q ≠ p ∧ os q = some t) := fun q t h => by
    by_cases hq : q = p
    · subst hq; rw [put_same] at h; exact .inl ⟨rfl, (Option.some.inj h).symm⟩
    · rw [put_ne hq] at h; exact .inr ⟨hq, h⟩
  have keep : ∀ {q : Addr} {u : W}, q ≠ p → RepO G (frz os H) H q u → RepO G (frz os H) (upd H p o) q u := fun hq r => r.ext (ExtN.refl _) fun u hu _ => by rw [upd_ne hq]; exact hu
  have np : ∀ q i u, os q = some (.slot i u) → q ≠ p := fun q i u h z => by rw [z, hos] at h; cases h
  refine ⟨S.len, fun j u h' => by rw [eF]; exact S.va j u h', fun j u h' => ?_, fun q j u h' => ?_, fun q u h' => ?_, fun q t h' => ?_, S.base.write (S.ct p w hos).2, fun a t h => by
    have h2 := S.fo a t h
    have ha : a ≠ p := fun z => by rw [z, hos] at h2; cases h2
    exact (put_ne ha).trans h2, by rw [eF]; exact S.tabs, fun t h' => ?_⟩
  · obtain ⟨q, q1, q2⟩ := S.mu j u h'
    exact ⟨q, q1, (put_ne (np q _ _ q2)).trans q2⟩
  · rw [eF]
    rcases old q _ h' with ⟨rfl, e⟩ | ⟨hq, h1⟩
    · cases e
    · exact ⟨keep hq (S.cs q j u h1).1, (S.cs q j u h1).2⟩
  · rw [eF]
    rcases old q _ h' with ⟨rfl, e⟩ | ⟨hq, h1⟩
    · cases e; exact ⟨hw, (S.ct q w hos).2⟩
    · exact ⟨keep hq (S.ct q u h1).1, (S.ct q u h1).2⟩
  · rcases old q _ h' with ⟨rfl, e⟩ | ⟨hq, h1⟩
    · exact hw.own
    · exact (S.od q t h1).upd hq
  · rw [eF]
    rcases S.tm t h' with q | ⟨h1, p', i, h2, h3⟩
    · exact .inl q
    · exact .inr ⟨h1, p', i, h2, (put_ne (np p' _ _ h3)).trans h3⟩

/-! ### a block's names -/
def wipeE (ρ : En) : List Nat → En
  | [] => ρ
  | v :: vs => (wipeE ρ vs).set v .un
theorem StV.unset {v : Nat} {x : Option V} (S : StV G H0 os ρ σ H l) : StV G H0 os (ρ.set v .un) (σ.set v x) H l := by
  refine ⟨by rw [List.length_set, List.length_set]; exact S.len, fun j u h => ?_, fun j u h => ?_, S.cs, S.ct, S.od, S.base, S.fo, S.tabs, S.tm⟩
  · rcases getElem?_set_cases h with ⟨rfl, e⟩ | ⟨e, h⟩
    · cases e
    · obtain ⟨y, h1, h2⟩ := S.va j u h
      exact ⟨y, by rw [List.getElem?_set_ne (Ne.symm e)]; exact h1, h2⟩
  · rcases getElem?_set_cases h with ⟨rfl, e⟩ | ⟨e, h⟩
    · cases e
    · obtain ⟨y, h1, h2⟩ := S.mu j u h
      exact ⟨y, by rw [List.getElem?_set_ne (Ne.symm e)]; exact h1, h2⟩
theorem StV.wipe (S : StV G H0 os ρ σ H l) : ∀ vs : List Nat, StV G H0 os (wipeE ρ vs) (L2.wipe σ vs) H l
  | [] => S
  | v :: vs => (S.wipe vs).unset
/-- a block's own name is stored (in a comprehension: nothing of the def's slots is given up) -/
theorem StV.bind {i : Nat} {v : V} {w : W} {m : Bool} (S : StV G H0 os ρ σ H l) (hw : RepW G (frz os H) v w) (hi : i < σ.length) : StV G H0 os (ρ.set i (.va w)) (σ.set i (some v)) H l := by
  refine ⟨by rw [List.length_set, List.length_set]; exact S.len, fun j u h => ?_, fun j u h => ?_, S.cs, S.ct, S.od, S.base, S.fo, S.tabs, S.tm⟩
  · rcases getElem?_set_cases h with ⟨rfl, e⟩ | ⟨e, h⟩
    · cases e
      exact ⟨v, List.getElem?_set_self hi, hw⟩
    · obtain ⟨x, h1, h2⟩ := S.va j u h
      exact ⟨x, by rw [List.getElem?_set_ne (Ne.symm e)]; exact h1, h2⟩
  · rcases getElem?_set_cases h with ⟨rfl, e⟩ | ⟨e, h⟩
    · cases e
    · obtain ⟨q, h1, h2⟩ := S.mu j u h
      exact ⟨q, by rw [List.getElem?_set_ne (Ne.symm e)]; exact h1, h2⟩
def slotTm : Sl → Option V → Option Tm
  | .va w, some v => some (v, w, false)
  | _, _ => none
def slotTms (ρ : En) (σ : L2.St) : List Tm := (ρ.zip σ).filterMap fun p => slotTm p.1 p.2
theorem StV.keepSlots (S : StV G H0 os ρ σ H l) : StV G H0 os ρ σ H (slotTms ρ σ ++ l) := S.sub' (fun t ht => by
  rcases List.mem_append.mp ht with h | h
  · obtain ⟨⟨s, x⟩, hp, e⟩ := List.mem_filterMap.mp h
    obtain ⟨i, hi⟩ := List.mem_iff_getElem?.mp hp
    have hi := List.getElem?_zip_eq_some.mp hi
    cases s with
    | va w =>
      cases x with
      | none => cases e
      | some v =>
        cases e
        obtain ⟨v', h1, h2⟩ := S.va i w hi.1
        rw [hi.2] at h1; cases h1
        exact .inl h2
    | un => cases e
    | mu w => cases e
  · exact S.tm t h)
theorem StV.back {ρ' : En} {σ' : L2.St} (S : StV G H0 os ρ σ H l) (S' : StV G H0 os ρ' σ' H' (slotTms ρ σ ++ l)) : StV G H0 os ρ σ H' l := by
  refine ⟨S.len, fun i w h => ?_, S.mu, S'.cs, S'.ct, S'.od, S'.base, S'.fo, S'.tabs, fun t ht => S'.tm t (List.mem_append_right _ ht)⟩
  obtain ⟨v, h1, _⟩ := S.va i w h
  refine ⟨v, h1, ?_⟩
  have hm : ((v, w, false) : Tm) ∈ slotTms ρ σ := List.mem_filterMap.mpr ⟨(.va w, some v), List.mem_of_getElem? (i := i) (List.getElem?_zip_eq_some.mpr ⟨h, h1⟩), rfl⟩
  rcases S'.tm _ (List.mem_append_left _ hm) with q | ⟨q, _⟩
  · exact q
  · cases q
end
end Pz
namespace Pz
open PySem PySem.Spec PyProof.Rows L2 LamX

/-! ### the core language -/
inductive BOp where | add | sub | mul | div | mod | pow
  deriving DecidableEq
inductive COp where | eq | ne | lt | le | gt | ge | mem | nmem | is | isn
  deriving DecidableEq
inductive BT where | int | bool | str | tuple | list
  deriving DecidableEq
/-- built-in functions of one value or more -/
inductive BF where | len | all | any | sorted | list | tuple | min1 | max1 | max2 | min2 | abs | dict | str | int | lenset | srtset | sum
  deriving DecidableEq
inductive MF where | get1 | get2 | index | count | join | split
  deriving DecidableEq
inductive Tg where
  | n (i : Nat)
  | t (is : List Nat)
inductive CE where
  | v (i : Nat)
  | vr (i : Nat)
  | k (d : PyData)
  | g (x : Str) (d : PyData)
  | gf (x : Str)
  | tup (l : List CE)
  | lst (l : List CE)
  | emp
  | dsp (ks vs : List CE)
  | bin (op : BOp) (a b : CE)
  | neg (a : CE)
  | not (a : CE)
  | and (l : List CE)
  | or (l : List CE)
  | cmp (op : COp) (a b : CE)
  | ch (op op' : COp) (a b c : CE)
  | ite (t a b : CE)
  | call (f : Nat) (l : List CE)
  | dyn (f : CE) (l : List CE)
  | bi (f : BF) (l : List CE)
  | isi (a : CE) (t : BT)
  | isx (i : Nat) (x : Str)
  | ix (a b : CE)
  | sl (a : CE) (lo hi : List CE)
  | rev (a : CE)
  | lc (e : CE) (tg : Tg) (it : CE) (ifs : List CE)
  | lc2 (e : CE) (tg : Tg) (it : CE) (ifs : List CE) (tg' : Tg) (it' : CE) (ifs' : List CE)
  | dc (ke ve : CE) (tg : Tg) (it : CE) (ifs : List CE)
  | dc2 (ke ve : CE) (tg : Tg) (it : CE) (ifs : List CE) (tg' : Tg) (it' : CE) (ifs' : List CE)
  | srtk (a : CE) (x : Nat) (body : CE)
  | mth (m : MF) (o : CE) (l : List CE)
  | rng (a : CE)
  | rng2 (a b : CE)
  | enm (a : CE)
  | zp (a b : CE)
inductive CS where
  | asg (i : Nat) (c : CE)
  | asgN (i : Nat) (c : CE)
  | par (l : List (Nat × Bool)) (cs : List CE)
  | unp (is : List Nat) (c : CE)
  | app (i : Nat) (c : CE)
  | ext (i : Nat) (c : CE)
  | put (i : Nat) (k v : CE)
  | iff (t : CE) (a b : List CS)
  | whl (t : CE) (b : List CS)
  | fo (tg : Tg) (it : CE) (b : List CS)
  | ret (c : CE)
  | ret0
  | rse (x : Str)
  | exp (c : CE)
  | fz (is : List Nat)
  | tr (b : List CS) (x : Str) (i : Nat) (s : List CS)

/-! ### what values do -/
def okd (d : PyData) : Bool := SeqAt.shaped d
def fits (n : Nat) : Bool := decide (n ≤ 16777216)
def truthD : PyData → Rs Bool
  | .none => .ok false
  | .bool b => .ok b
  | .int i => .ok (i != 0)
  | .str x => if fits x.length then .ok (x.length != 0) else .stuck
  | .list xs => .ok (!xs.isEmpty)
  | .tuple xs => .ok (!xs.isEmpty)
  | .dict _ => .stuck
def truth : W → Rs Bool
  | .d x => truthD x
  | .dic _ => .stuck
  | .fn _ => .stuck
  | .it _ => .stuck
def small64 (i : Int) : Bool := decide (i.natAbs < 18446744073709551616)
def wBin : BOp → W → W → Rs W
  | .add, .d (.int a), .d (.int b) => .ok (.d (.int (a + b)))
  | .add, .d (.str a), .d (.str b) => if fits (a.length + b.length) then .ok (.d (.str (a ++ b))) else .stuck
  | .add, .d (.list a), .d (.list b) => if fits (a.length + b.length) then .ok (.d (.list (a ++ b))) else .stuck
  | .add, .d (.tuple a), .d (.tuple b) => if fits (a.length + b.length) then .ok (.d (.tuple (a ++ b))) else .stuck
  | .sub, .d (.int a), .d (.int b) => .ok (.d (.int (a - b)))
  | .mul, .d (.int a), .d (.int b) => if small64 a && small64 b then .ok (.d (.int (a * b))) else .stuck
  | .div, .d (.int a), .d (.int b) => if decide (0 < b) && small64 b then .ok (.d (.int (a / b))) else .stuck
  | .mod, .d (.int a), .d (.int b) => if decide (0 < b) then .ok (.d (.int (a % b))) else .stuck
  | .pow, .d (.int a), .d (.int b) => if decide (0 ≤ b) && (decide (b ≤ 1000) && small64 a) then .ok (.d (.int (a ^ b.toNat))) else .stuck
  | _, _, _ => .stuck
def wNeg : W → Rs W
  | .d (.int a) => .ok (.d (.int (-a)))
  | _ => .stuck
def dGet : List (PyData × PyData) → NestedKey → Option PyData
  | [], _ => none
  | (k, v) :: r, n => if keyOf k = some n then some v else dGet r n
def dPut : List (PyData × PyData) → PyData → NestedKey → PyData → List (PyData × PyData)
  | [], key, _, v => [(key, v)]
  | (k, u) :: r, key, n, v => if keyOf k = some n then (k, v) :: r else (k, u) :: dPut r key n v
def wEq : W → W → Rs Bool
  | .d a, .d b => if okd a && okd b then .ok (PyData.eqv a b) else .stuck
  | _, _ => .stuck
def alikeLt (a b : PyData) : Bool := okd a && (okd b && W.alike a b)
def wLt : W → W → Rs Bool
  | .d (.int a), .d (.int b) => .ok (decide (a < b))
  | .d (.tuple _), .d (.tuple _) => .stuck
  | _, _ => .stuck
def wMem : W → W → Rs Bool
  | .d (.str x), .d (.str y) => match x.cps.toList with
    | [c] => .ok (decide (c ∈ y.cps.toList))
    | _ => .stuck
  | .d a, .d (.list xs) => if okd a && okd (.list xs) then .ok (xs.any fun z => PyData.eqv z a) else .stuck
  | .d a, .d (.tuple xs) => if okd a && okd (.tuple xs) then .ok (xs.any fun z => PyData.eqv z a) else .stuck
  | .d _, .dic _ => .stuck
  | _, _ => .stuck
def wIs : W → W → Rs Bool
  | .d (.bool a), .d (.bool b) => .ok (decide (a = b))
  | .d .none, .d .none => .ok true
  | .d (.bool _), .d .none => .ok false
  | .d (.int _), .d .none => .ok false
  | .d (.str _), .d .none => .ok false
  | .d (.list _), .d .none => .ok false
  | .d (.tuple _), .d .none => .ok false
  | _, _ => .stuck
def rNot (r : Rs Bool) : Rs Bool := r.bind fun b => .ok (!b)
def wCmp : COp → W → W → Rs Bool
  | .eq, a, b => wEq a b
  | .ne, a, b => rNot (wEq a b)
  | .lt, a, b => wLt a b
  | .gt, .d (.int a), .d (.int b) => .ok (decide (b < a))
  | .le, .d (.int a), .d (.int b) => .ok (decide (a ≤ b))
  | .ge, .d (.int a), .d (.int b) => .ok (decide (b ≤ a))
  | .mem, a, b => wMem a b
  | .nmem, a, b => rNot (wMem a b)
  | .is, a, b => wIs a b
  | .isn, a, b => rNot (wIs a b)
  | _, _, _ => .stuck
def rBl (r : Rs Bool) : Rs W := r.bind fun b => .ok (.d (.bool b))
def wIsi : W → BT → Rs W
  | .d (.bool _), t => .ok (.d (.bool (decide (t = .bool ∨ t = .int))))
  | .d (.int _), t => .ok (.d (.bool (decide (t = .int))))
  | .d (.str _), t => .ok (.d (.bool (decide (t = .str))))
  | .d (.tuple _), t => .ok (.d (.bool (decide (t = .tuple))))
  | .d (.list _), t => .ok (.d (.bool (decide (t = .list))))
  | .d .none, _ => .ok (.d (.bool false))
  | _, _ => .stuck
def wIx : W → W → Rs W
  | .d (.list xs), .d (.int i) => match atI xs i with
    | some d => .ok (.d d)
    | none => .stuck
  | .d (.tuple xs), .d (.int i) => match atI xs i with
    | some d => .ok (.d d)
    | none => .stuck
  | .d (.str x), .d (.int i) => if fits x.length then (match atI x.cps.toList i with
    | some c => .ok (.d (.str ⟨#[c]⟩))
    | none => .stuck) else .stuck
  | _, _ => .stuck
def cutD (xs : List PyData) (lo hi : Option Int) : List PyData := (xs.drop (HT.sIx xs.length 0 lo)).take (HT.sIx xs.length xs.length hi - HT.sIx xs.length 0 lo)
def wSl : W → Option Int → Option Int → Rs W
  | .d (.list xs), lo, hi => .ok (.d (.list (cutD xs lo hi)))
  | .d (.tuple xs), lo, hi => .ok (.d (.tuple (cutD xs lo hi)))
  | .d (.str x), lo, hi => if fits x.length then .ok (.d (.str (cutS x lo hi))) else .stuck
  | _, _, _ => .stuck
def wRev : W → Rs W
  | .d (.list xs) => .ok (.d (.list xs.reverse))
  | .d (.tuple xs) => .ok (.d (.tuple xs.reverse))
  | _ => .stuck
/-- all are bools -/
def bools : List PyData → Option (List Bool)
  | [] => some []
  | .bool b :: r => match bools r with
    | some bs => some (b :: bs)
    | none => none
  | _ => none
def intsOf : List PyData → Option (List Int)
  | [] => some []
  | .int b :: r => match intsOf r with
    | some bs => some (b :: bs)
    | none => none
  | _ => none
/-- can be sorted -/
def sortable (ds : List PyData) : Bool :=
  (ds.all fun a => okd a && ds.all fun b => W.alike a b) && ((ds.all fun a => match a with
    | .tuple (_ :: _) => true
    | _ => false) || (ds.all fun a => match a with
    | .none => false
    | .tuple _ => false
    | _ => true))
def sortD (ds : List PyData) : Rs (List PyData) := if sortable ds then .ok (ds.mergeSort (W.dataLe false id)) else .stuck
/-- equal ones once (the first of them) -/
def keysAll (ds : List PyData) : Bool := ds.all fun d => (keyOf d).isSome
def tupKeys (ds : List PyData) : Bool := ds.all fun d => match d with
  | .tuple _ => (keyOf d).isSome
  | _ => false
def dedup : List PyData → List PyData
  | [] => []
  | d :: r => d :: (dedup r).filter fun e => !decide (keyOf e = keyOf d)
/-- what is walked -/
def items : W → Rs (List PyData)
  | .d (.list xs) => .ok xs
  | .d (.tuple xs) => .ok xs
  | .d (.str x) => if fits x.length then .ok (x.cps.toList.map fun c => .str ⟨#[c]⟩) else .stuck
  | .dic _ => .stuck
  | .it xs => .ok xs
  | _ => .stuck
/-- what can be sorted by a key -/
def itemsLT : W → Rs (List PyData)
  | .d (.list xs) => .ok xs
  | .d (.tuple xs) => .ok xs
  | _ => .stuck
def wBi : BF → List W → Rs W
  | .len, [.d (.list xs)] => .ok (.d (.int xs.length))
  | .len, [.d (.tuple xs)] => .ok (.d (.int xs.length))
  | .len, [.d (.str x)] => if fits x.length then .ok (.d (.int x.length)) else .stuck
  | .all, [.d (.list xs)] => match bools xs with
    | some bs => .ok (.d (.bool (bs.all id)))
    | none => .stuck
  | .any, [.d (.list xs)] => match bools xs with
    | some bs => .ok (.d (.bool (bs.any id)))
    | none => .stuck
  | .sorted, [.d (.list xs)] => (sortD xs).bind fun ys => .ok (.d (.list ys))
  | .sorted, [.d (.tuple xs)] => (sortD xs).bind fun ys => .ok (.d (.list ys))
  | .list, [.d (.list xs)] => .ok (.d (.list xs))
  | .list, [.d (.tuple xs)] => .ok (.d (.list xs))
  | .tuple, [.d (.list xs)] => .ok (.d (.tuple xs))
  | .tuple, [.d (.tuple xs)] => .ok (.d (.tuple xs))
  | .dict, [.dic l] => .ok (.dic l)
  | .max1, [.d (.list xs)] => match intsOf xs with
    | some (n :: ns) => .ok (.d (.int (ns.foldl max n)))
    | _ => .stuck
  | .min1, [.d (.list xs)] => match intsOf xs with
    | some (n :: ns) => .ok (.d (.int (ns.foldl min n)))
    | _ => .stuck
  | .max2, [.d (.int a), .d (.int b)] => .ok (.d (.int (if b > a then b else a)))
  | .min2, [.d (.int a), .d (.int b)] => .ok (.d (.int (if b < a then b else a)))
  | .lenset, [.d (.list xs)] => if tupKeys xs && decide (xs.length ≤ 60) then .ok (.d (.int (dedup xs).length)) else .stuck
  | .lenset, [.d (.tuple xs)] => if tupKeys xs && decide (xs.length ≤ 60) then .ok (.d (.int (dedup xs).length)) else .stuck
  | _, _ => .stuck
/-- the first place of an equal one -/
def indexD (ds : List PyData) (d : PyData) : Option Nat := ds.findIdx? fun z => PyData.eqv z d
def wMth : MF → W → List W → Rs W
  | .get1, .dic l, [.d a] => match keyOf a with
    | some n => .ok (.d ((dGet l n).getD .none))
    | none => .stuck
  | .get2, .dic l, [.d a, .d b] => match keyOf a with
    | some n => .ok (.d ((dGet l n).getD b))
    | none => .stuck
  | .index, .d (.list xs), [.d a] => if okd a && okd (.list xs) then (match indexD xs a with
    | some j => .ok (.d (.int (j : Nat)))
    | none => .stuck) else .stuck
  | .index, .d (.tuple xs), [.d a] => if okd a && okd (.tuple xs) then (match indexD xs a with
    | some j => .ok (.d (.int (j : Nat)))
    | none => .stuck) else .stuck
  | .index, .d (.str x), [.d (.str y)] => match y.cps.toList with
    | [c] => match x.cps.toList.findIdx? (· == c) with
      | some j => .ok (.d (.int (j : Nat)))
      | none => .stuck
    | _ => .stuck
  | _, _, _ => .stuck

/-! ### running -/
/-- the functions by number -/
abbrev Fns := Nat → List W → Rs W
abbrev Dyn := Str → List W → Rs W
def getV (ρ : En) (i : Nat) : Rs W := match ρ[i]? with
  | some (.va w) => .ok w
  | _ => .stuck
def getR (ρ : En) (i : Nat) : Rs W := match ρ[i]? with
  | some (.va w) => .ok w
  | some (.mu w) => .ok w
  | _ => .stuck
/-- the target's slots -/
def Tg.is : Tg → List Nat
  | .n i => [i]
  | .t is => is
def bindAll (ρ : En) : List Nat → List PyData → Rs En
  | [], [] => .ok ρ
  | i :: is, d :: ds => bindAll (ρ.set i (.va (.d d))) is ds
  | _, _ => .stuck
def bindT (ρ : En) : Tg → PyData → Rs En
  | .n i, d => .ok (ρ.set i (.va (.d d)))
  | .t is, .tuple ds => bindAll ρ is ds
  | .t _, _ => .stuck
/-- a list comprehension's turns: f gives none where a test fails -/
def lcF (f : PyData → Rs (Option W)) : List PyData → Rs (List PyData)
  | [] => .ok []
  | x :: xs => match f x with
    | .ok none => lcF f xs
    | .ok (some (.d d)) => match lcF f xs with
      | .ok ds => .ok (d :: ds)
      | _ => .stuck
    | _ => .stuck
/-- two for clauses -/
def lcF2 (f : PyData → Rs (Option (List PyData))) : List PyData → Rs (List PyData)
  | [] => .ok []
  | x :: xs => match f x with
    | .ok none => lcF2 f xs
    | .ok (some ds) => match lcF2 f xs with
      | .ok es => .ok (ds ++ es)
      | _ => .stuck
    | _ => .stuck
def dcPut (acc : List (PyData × PyData)) (kv : W × W) : Rs (List (PyData × PyData)) := match kv with
  | (.d k, .d v) => match keyOf k with
    | some n => if fits (acc.length + 1) then .ok (dPut acc k n v) else .stuck
    | none => .stuck
  | _ => .stuck
def dcF (f : PyData → Rs (Option (W × W))) : List PyData → List (PyData × PyData) → Rs (List (PyData × PyData))
  | [], acc => .ok acc
  | x :: xs, acc => match f x with
    | .ok none => dcF f xs acc
    | .ok (some kv) => match dcPut acc kv with
      | .ok acc' => dcF f xs acc'
      | _ => .stuck
    | _ => .stuck
def dcF2 (f : PyData → List (PyData × PyData) → Rs (List (PyData × PyData))) : List PyData → List (PyData × PyData) → Rs (List (PyData × PyData))
  | [], acc => .ok acc
  | x :: xs, acc => match f x acc with
    | .ok acc' => dcF2 f xs acc'
    | _ => .stuck
def keysOfF (f : PyData → Rs W) : List PyData → Rs (List (PyData × PyData))
  | [] => .ok []
  | x :: xs => match f x with
    | .ok (.d k) => match keysOfF f xs with
      | .ok r => .ok ((k, x) :: r)
      | _ => .stuck
    | _ => .stuck
def sortK (l : List (PyData × PyData)) : Rs (List PyData) := if sortable (l.map (·.1)) then .ok ((l.mergeSort (W.dataLe false (·.1))).map (·.2)) else .stuck
def optInt : List W → Rs (Option Int)
  | [] => .ok none
  | [.d (.int i)] => .ok (some i)
  | _ => .stuck
def wRng : W → Rs (List PyData)
  | .d (.int n) => if fits n.toNat && decide (-(4611686018427387904) ≤ n) then .ok ((List.range n.toNat).map fun (i : Nat) => PyData.int (0 + (i : Int))) else .stuck
  | _ => .stuck
def wRng2 : W → W → Rs (List PyData)
  | .d (.int a), .d (.int b) => if fits (b - a).toNat && (small64 (2 * a + 2) && small64 (2 * b + 2)) then .ok ((List.range (b - a).toNat).map fun (i : Nat) => PyData.int (a + (i : Int))) else .stuck
  | _, _ => .stuck
def enumD (xs : List PyData) : List PyData := (xs.zipIdx).map fun p => .tuple [.int (p.2 : Nat), p.1]
def zipD (xs ys : List PyData) : List PyData := (xs.zip ys).map fun p => .tuple [p.1, p.2]

def wEnm : W → Rs (List PyData)
  | .d (.list xs) => .ok (enumD xs)
  | .d (.tuple xs) => .ok (enumD xs)
  | _ => .stuck
def wZip : W → W → Rs (List PyData)
  | .d (.list xs), .d (.list ys) => .ok (zipD xs ys)
  | .d (.tuple xs), .d (.tuple ys) => .ok (zipD xs ys)
  | _, _ => .stuck
/-- data alone -/
def allD : List W → Rs (List PyData)
  | [] => .ok []
  | .d d :: r => (allD r).bind fun ds => .ok (d :: ds)
  | _ => .stuck
/-- what is ours is not seen in a lambda -/
def noMu (ρ : En) : En := ρ.map fun s => match s with
  | .mu _ => .un
  | s => s
mutual
def evE (Γ : Fns) (Δ : Dyn) : CE → En → Rs W
  | .v i, ρ => getV ρ i
  | .vr i, ρ => getR ρ i
  | .k d, _ => .ok (.d d)
  | .g _ d, _ => .ok (.d d)
  | .gf x, _ => .ok (.fn x)
  | .tup l, ρ => (evWs Γ Δ l ρ).bind fun ws => (allD ws).bind fun ds => if fits ds.length then .ok (.d (.tuple ds)) else .stuck
  | .lst l, ρ => (evWs Γ Δ l ρ).bind fun ws => (allD ws).bind fun ds => if fits ds.length then .ok (.d (.list ds)) else .stuck
  | .emp, _ => .ok (.dic [])
  | .dsp _ _, _ => .stuck
  | .bin op a b, ρ => (evE Γ Δ a ρ).bind fun x => (evE Γ Δ b ρ).bind fun y => wBin op x y
  | .neg a, ρ => (evE Γ Δ a ρ).bind wNeg
  | .not a, ρ => (evE Γ Δ a ρ).bind fun x => (truth x).bind fun b => .ok (.d (.bool (!b)))
  | .and l, ρ => evAnd Γ Δ l ρ
  | .or l, ρ => evOr Γ Δ l ρ
  | .cmp op a b, ρ => (evE Γ Δ a ρ).bind fun x => (evE Γ Δ b ρ).bind fun y => rBl (wCmp op x y)
  | .ch op op' a b c, ρ => (evE Γ Δ a ρ).bind fun x => (evE Γ Δ b ρ).bind fun y => (wCmp op x y).bind fun k =>
      if k then (evE Γ Δ c ρ).bind fun z => rBl (wCmp op' y z) else .ok (.d (.bool false))
  | .ite t a b, ρ => (evE Γ Δ t ρ).bind fun x => (truth x).bind fun k => if k then evE Γ Δ a ρ else evE Γ Δ b ρ
  | .call f l, ρ => (evWs Γ Δ l ρ).bind fun ws => Γ f ws
  | .dyn f l, ρ => (evE Γ Δ f ρ).bind fun x => (evWs Γ Δ l ρ).bind fun ws => match x with
    | .fn n => Δ n ws
    | _ => .stuck
  | .bi f l, ρ => (evWs Γ Δ l ρ).bind fun ws => wBi f ws
  | .isi a t, ρ => (evE Γ Δ a ρ).bind fun x => wIsi x t
  | .isx _ _, _ => .stuck
  | .ix a b, ρ => (evE Γ Δ a ρ).bind fun x => (evE Γ Δ b ρ).bind fun y => wIx x y
  | .sl a lo hi, ρ => (evE Γ Δ a ρ).bind fun x => (evWs Γ Δ lo ρ).bind fun l => (optInt l).bind fun i => (evWs Γ Δ hi ρ).bind fun h => (optInt h).bind fun j => wSl x i j
  | .rev a, ρ => (evE Γ Δ a ρ).bind wRev
  | .lc e tg it ifs, ρ => (evE Γ Δ it ρ).bind fun wi => (items wi).bind fun xs =>
      (lcF (fun x => (bindT (wipeE ρ tg.is) tg x).bind fun ρ' => (evTs Γ Δ ifs ρ').bind fun b => if b then (evE Γ Δ e ρ').bind fun y => .ok (some y) else .ok none) xs).bind fun ds => .ok (.d (.list ds))
  | .lc2 e tg it ifs tg' it' ifs', ρ => (evE Γ Δ it ρ).bind fun wi => (items wi).bind fun xs =>
      (lcF2 (fun x => (bindT (wipeE ρ (tg.is ++ tg'.is)) tg x).bind fun ρ' => (evTs Γ Δ ifs ρ').bind fun b => if b then (evE Γ Δ it' ρ').bind fun wi => (items wi).bind fun ys =>
        (lcF (fun y => (bindT ρ' tg' y).bind fun ρ2 => (evTs Γ Δ ifs' ρ2).bind fun b => if b then (evE Γ Δ e ρ2).bind fun z => .ok (some z) else .ok none) ys).bind fun ds => .ok (some ds) else .ok none) xs).bind fun ds => if fits ds.length then .ok (.d (.list ds)) else .stuck
  | .dc ke ve tg it ifs, ρ => (evE Γ Δ it ρ).bind fun wi => (items wi).bind fun xs =>
      (dcF (fun x => (bindT (wipeE ρ tg.is) tg x).bind fun ρ' => (evTs Γ Δ ifs ρ').bind fun b => if b then (evE Γ Δ ke ρ').bind fun y => (evE Γ Δ ve ρ').bind fun z => .ok (some (y, z)) else .ok none) xs []).bind fun l => .ok (.dic l)
  | .dc2 ke ve tg it ifs tg' it' ifs', ρ => (evE Γ Δ it ρ).bind fun wi => (items wi).bind fun xs =>
      (dcF2 (fun x acc => (bindT (wipeE ρ (tg.is ++ tg'.is)) tg x).bind fun ρ' => (evTs Γ Δ ifs ρ').bind fun b => if b then (evE Γ Δ it' ρ').bind fun wi => (items wi).bind fun ys =>
        dcF (fun y => (bindT ρ' tg' y).bind fun ρ2 => (evTs Γ Δ ifs' ρ2).bind fun b => if b then (evE Γ Δ ke ρ2).bind fun z => (evE Γ Δ ve ρ2).bind fun u => .ok (some (z, u)) else .ok none) ys acc else .ok acc) xs []).bind fun l => .ok (.dic l)
  | .srtk a x body, ρ => (evE Γ Δ a ρ).bind fun wi => (itemsLT wi).bind fun xs => (keysOfF (fun y => evE Γ Δ body ((noMu ρ).set x (.va (.d y)))) xs).bind fun kl => (sortK kl).bind fun ds => .ok (.d (.list ds))
  | .mth m o l, ρ => (evE Γ Δ o ρ).bind fun x => (evWs Γ Δ l ρ).bind fun ws => wMth m x ws
  | .rng a, ρ => (evE Γ Δ a ρ).bind fun x => (wRng x).bind fun xs => .ok (.it xs)
  | .rng2 a b, ρ => (evE Γ Δ a ρ).bind fun x => (evE Γ Δ b ρ).bind fun y => (wRng2 x y).bind fun xs => .ok (.it xs)
  | .enm a, ρ => (evE Γ Δ a ρ).bind fun x => (wEnm x).bind fun xs => .ok (.it xs)
  | .zp a b, ρ => (evE Γ Δ a ρ).bind fun x => (evE Γ Δ b ρ).bind fun y => (wZip x y).bind fun xs => .ok (.it xs)
def evWs (Γ : Fns) (Δ : Dyn) : List CE → En → Rs (List W)
  | [], _ => .ok []
  | c :: r, ρ => (evE Γ Δ c ρ).bind fun x => (evWs Γ Δ r ρ).bind fun xs => .ok (x :: xs)
def evAnd (Γ : Fns) (Δ : Dyn) : List CE → En → Rs W
  | [], _ => .stuck
  | c :: r, ρ => match r with
    | [] => evE Γ Δ c ρ
    | _ :: _ => (evE Γ Δ c ρ).bind fun x => (truth x).bind fun k => if k then evAnd Γ Δ r ρ else .ok x
def evOr (Γ : Fns) (Δ : Dyn) : List CE → En → Rs W
  | [], _ => .stuck
  | c :: r, ρ => match r with
    | [] => evE Γ Δ c ρ
    | _ :: _ => (evE Γ Δ c ρ).bind fun x => (truth x).bind fun k => if k then .ok x else evOr Γ Δ r ρ
def evTs (Γ : Fns) (Δ : Dyn) : List CE → En → Rs Bool
  | [], _ => .ok true
  | c :: r, ρ => (evE Γ Δ c ρ).bind fun x => (truth x).bind fun k => if k then evTs Γ Δ r ρ else .ok false
end

inductive Fl where
  | nx
  | rt (w : W)
/-- the turns of a while, at most n of them -/
def whlF (t : En → Rs Bool) (b : En → Rs (En × Fl)) : Nat → En → Rs (En × Fl)
  | 0, _ => .stuck
  | n + 1, ρ => (t ρ).bind fun k => if k then (b ρ).bind fun p => match p.2 with
      | .nx => whlF t b n p.1
      | .rt w => .ok (p.1, .rt w)
    else .ok (ρ, .nx)
def forF (f : En → PyData → Rs En) (b : En → Rs (En × Fl)) : List PyData → En → Rs (En × Fl)
  | [], ρ => .ok (ρ, .nx)
  | x :: xs, ρ => (f ρ x).bind fun ρ' => (b ρ').bind fun p => match p.2 with
      | .nx => forF f b xs p.1
      | .rt w => .ok (p.1, .rt w)
def freezeE (ρ : En) (i : Nat) : En := match ρ[i]? with
  | some (.mu w) => ρ.set i (.va w)
  | _ => ρ
def appD (xs : List PyData) : W → Rs W
  | .d d => if fits (xs.length + 1) then .ok (.d (.list (xs ++ [d]))) else .stuck
  | _ => .stuck
def extD (xs : List PyData) : W → Rs W
  | .d (.list ys) => if fits (xs.length + ys.length) then .ok (.d (.list (xs ++ ys))) else .stuck
  | _ => .stuck
def putD : W → W → W → Rs W
  | .dic l, .d k, .d v => match keyOf k with
    | some n => if fits (l.length + 1) then .ok (.dic (dPut l k n v)) else .stuck
    | none => .stuck
  | .d (.list xs), .d (.int i), .d v => match ixN xs.length i with
    | some j => .ok (.d (.list (xs.set j v)))
    | none => .stuck
  | _, _, _ => .stuck
/-- an own list -/
def getML (ρ : En) (i : Nat) : Rs (List PyData) := match ρ[i]? with
  | some (.mu (.d (.list xs))) => .ok xs
  | _ => .stuck
def getMu (ρ : En) (i : Nat) : Rs W := match ρ[i]? with
  | some (.mu w) => .ok w
  | _ => .stuck
def parF : List (Nat × Bool) → List W → En → Rs En
  | [], [], ρ => .ok ρ
  | (i, b) :: r, w :: ws, ρ => parF r ws (ρ.set i (if b then .mu w else .va w))
  | _, _, _ => .stuck
def unpF (ρ : En) (is : List Nat) : W → Rs En
  | .d (.tuple ds) => bindAll ρ is ds
  | _ => .stuck
mutual
def evS (Γ : Fns) (Δ : Dyn) (N : Nat) : CS → En → Rs (En × Fl)
  | .asg i c, ρ => (evE Γ Δ c ρ).bind fun w => .ok (ρ.set i (.va w), .nx)
  | .asgN i c, ρ => (evE Γ Δ c ρ).bind fun w => .ok (ρ.set i (.mu w), .nx)
  | .par l cs, ρ => (evWs Γ Δ cs ρ).bind fun ws => (parF l ws ρ).bind fun ρ' => .ok (ρ', .nx)
  | .unp is c, ρ => (evE Γ Δ c ρ).bind fun w => (unpF ρ is w).bind fun ρ' => .ok (ρ', .nx)
  | .app i c, ρ => (getML ρ i).bind fun x => (evE Γ Δ c ρ).bind fun y => (appD x y).bind fun z => .ok (ρ.set i (.mu z), .nx)
  | .ext i c, ρ => (getML ρ i).bind fun x => (evE Γ Δ c ρ).bind fun y => (extD x y).bind fun z => .ok (ρ.set i (.mu z), .nx)
  | .put i k v, ρ => (evE Γ Δ v ρ).bind fun y => (getMu ρ i).bind fun x => (evE Γ Δ k ρ).bind fun u => (putD x u y).bind fun z => .ok (ρ.set i (.mu z), .nx)
  | .iff t a b, ρ => (evE Γ Δ t ρ).bind fun x => (truth x).bind fun k => if k then evSs Γ Δ N a ρ else evSs Γ Δ N b ρ
  | .whl t b, ρ => whlF (fun ρ => (evE Γ Δ t ρ).bind truth) (evSs Γ Δ N b) N ρ
  | .fo tg it b, ρ => (evE Γ Δ it ρ).bind fun wi => (items wi).bind fun xs => forF (fun ρ x => bindT ρ tg x) (evSs Γ Δ N b) xs ρ
  | .ret c, ρ => (evE Γ Δ c ρ).bind fun w => .ok (ρ, .rt w)
  | .ret0, ρ => .ok (ρ, .rt (.d .none))
  | .rse x, _ => .exc x
  | .exp c, ρ => (evE Γ Δ c ρ).bind fun _ => .ok (ρ, .nx)
  | .fz is, ρ => .ok (is.foldl freezeE ρ, .nx)
  | .tr _ _ _ _, _ => .stuck
def evSs (Γ : Fns) (Δ : Dyn) (N : Nat) : List CS → En → Rs (En × Fl)
  | [], ρ => .ok (ρ, .nx)
  | c :: r, ρ => (evS Γ Δ N c ρ).bind fun p => match p.2 with
    | .nx => evSs Γ Δ N r p.1
    | .rt w => .ok (p.1, .rt w)
end
/-- a def: the number of its names, its body, at the arguments -/
def evF (Γ : Fns) (Δ : Dyn) (N : Nat) (n : Nat) (body : List CS) (ws : List W) : Rs W :=
  (evSs Γ Δ N body (ws.map Sl.va ++ List.replicate (n - ws.length) .un)).bind fun p => match p.2 with
    | .nx => .ok (.d .none)
    | .rt w => .ok w
end Pz
namespace Pz
open PySem PySem.Spec PyProof.Rows L2 LamX

/-- what a raised error asks -/
def XW (G : Gc) (B : Bs) (E : XK) (x : Str) : Prop := ∀ H' C, Gr B.H0 H' → Tabs G.T (frz B.os0 H') → G.mg x = some (.ref C) → E (.ref C) none H'
/-- what a result asks -/
def Rs.P {α : Type} (r : Rs α) (k : α → Prop) (x : Str → Prop) : Prop := match r with
  | .ok a => k a
  | .exc c => x c
  | .stuck => False
theorem Rs.P_bind {α β : Type} {r : Rs α} {f : α → Rs β} {k : β → Prop} {x : Str → Prop} (h : (r.bind f).P k x) : r.P (fun a => (f a).P k x) x := by
  cases r <;> exact h
theorem Rs.P.mono {α : Type} {r : Rs α} {k k' : α → Prop} {x : Str → Prop} (h : r.P k x) (i : ∀ a, r = .ok a → k a → k' a) : r.P k' x := by
  cases r with
  | ok a => exact i a rfl h
  | exc c => exact h
  | stuck => exact h
def tOf (G : Gc) (B : Bs) (E : XK) (m : Bool) (ev : En → Rs W) : TE := fun σ H Q => ∃ os ρ l, StV G B os ρ σ H l ∧
  (ev ρ).P (fun w => ∀ v H', StV G B os ρ σ H' ((v, w, m) :: l) → Q v H') (XW G B E)
/-- .. the value a new object, ours -/
def tOfN (G : Gc) (B : Bs) (E : XK) (ev : En → Rs W) : TE := fun σ H Q => ∃ os ρ l, StV G B os ρ σ H l ∧
  (ev ρ).P (fun w => ∀ p H', os p = none → StV G B (os.put p (.tmp w)) ρ σ H' l → Q (.ref p) H') (XW G B E)
def tOfT (G : Gc) (B : Bs) (E : XK) (ev : En → Rs Bool) : TT := fun σ H Q => ∃ os ρ l, StV G B os ρ σ H l ∧
  (ev ρ).P (fun b => ∀ H', StV G B os ρ σ H' l → Q b H') (XW G B E)
def tms (m : Bool) : List V → List W → List Tm
  | v :: vs, w :: ws => (v, w, m) :: tms m vs ws
  | _, _ => []
def tOfA (G : Gc) (B : Bs) (E : XK) (m : Bool) (ev : En → Rs (List W)) : TA := fun σ H Q => ∃ os ρ l, StV G B os ρ σ H l ∧
  (ev ρ).P (fun ws => ∀ vs H', vs.length = ws.length → StV G B os ρ σ H' (tms m vs ws ++ l) → Q vs H') (XW G B E)

section
variable {X : Cx} {e : Expr} {es : List Expr}
theorem pe_of {t t' : TE} (h : PE X e t) (i : ∀ σ H Q, t' σ H Q → t σ H Q) : PE X e t' := ⟨fun pins s σ H Q I hq => h.run pins s σ H Q I (i _ _ _ hq)⟩
theorem pt_of {t t' : TT} (h : PT X e t) (i : ∀ σ H Q, t' σ H Q → t σ H Q) : PT X e t' := ⟨fun pins s σ H Q I hq => h.run pins s σ H Q I (i _ _ _ hq)⟩
theorem pw_of {t t' : TT} (h : PW X e t) (i : ∀ σ H Q, t' σ H Q → t σ H Q) : PW X e t' := ⟨fun wh pins s σ H Q I hq => h.run wh pins s σ H Q I (i _ _ _ hq)⟩
theorem pa_of {t t' : TA} (h : PA X es t) (i : ∀ σ H Q, t' σ H Q → t σ H Q) : PA X es t' := ⟨fun pos pins s σ H Q I hq => h.run pos pins s σ H Q I (i _ _ _ hq)⟩
end

section
variable {G : Gc} {B : Bs} {E : XK} {os : Os} {ρ : En} {σ : L2.St} {H H' : Hp} {l : List Tm}
/-- data at a temporary, as the layer reads it -/
theorem StV.dp {v : V} {x : PyData} {m : Bool} (S : StV G B os ρ σ H l) (h : (v, W.d x, m) ∈ l) : Dp G.K H v x := by
  rcases S.tm _ h with q | ⟨_, p, i, e1, e2⟩
  · exact dp_ext (frz_le os H) _ _ q
  · have r := (S.cs p i _ e2).1
    cases x with
    | list ds =>
      obtain ⟨vs, h1, h2⟩ := r
      have e1 : v = V.ref p := e1
      rw [e1]
      exact .lst (.of h1) (dpAll_ext (frz_le os H) _ _ h2)
    | _ => exact r.elim
theorem StV.repW {v : V} {w : W} (S : StV G B os ρ σ H l) (h : (v, w, false) ∈ l) : RepW G (frz os H) v w := by
  rcases S.tm _ h with q | ⟨q, _⟩
  · exact q
  · cases q
/-- a list's items are frozen, whoever owns the list -/
theorem StV.lst {v : V} {ds : List PyData} {m : Bool} (S : StV G B os ρ σ H l) (h : (v, W.d (.list ds), m) ∈ l) : ∃ a xs, v = .ref a ∧ SqL G.K H a xs ∧ DpAll G.K (frz os H) xs ds := by
  rcases S.tm _ h with q | ⟨_, p, i, e1, e2⟩
  · have q : Dp G.K (frz os H) v (.list ds) := q
    cases q with
    | lst h1 h2 => exact ⟨_, _, rfl, sqL_ext (frz_le os H) h1, h2⟩
  · obtain ⟨vs, h1, h2⟩ := (S.cs p i _ e2).1
    exact ⟨p, vs, e1, .of h1, h2⟩
theorem StV.tup {v : V} {ds : List PyData} {m : Bool} (S : StV G B os ρ σ H l) (h : (v, W.d (.tuple ds), m) ∈ l) : ∃ a xs, v = .ref a ∧ SqT G.K H a xs ∧ DpAll G.K (frz os H) xs ds := by
  rcases S.tm _ h with q | ⟨_, p, i, e1, e2⟩
  · have q : Dp G.K (frz os H) v (.tuple ds) := q
    cases q with
    | tup h1 h2 => exact ⟨_, _, rfl, sqT_ext (frz_le os H) h1, h2⟩
  · exact ((S.cs p i _ e2).1).elim
theorem StV.dic {v : V} {kvs : List (PyData × PyData)} {m : Bool} (S : StV G B os ρ σ H l) (h : (v, W.dic kvs, m) ∈ l) : ∃ a es, v = .ref a ∧ H a = some (dcO a es) ∧ DicRep G (frz os H) es kvs := by
  rcases S.tm _ h with q | ⟨_, p, i, e1, e2⟩
  · obtain ⟨a, es, h1, h2, h3⟩ := q
    exact ⟨a, es, h1, (frz_of h2).2, h3⟩
  · obtain ⟨es, h1, h2⟩ := (S.cs p i _ e2).1
    exact ⟨p, es, e1, h1, h2⟩
theorem StV.int {v : V} {i : Int} {m : Bool} (S : StV G B os ρ σ H l) (h : (v, W.d (.int i), m) ∈ l) : v = .int i := by
  have q := S.dp h
  cases q
  rfl
theorem StV.bl {v : V} {i : Bool} {m : Bool} (S : StV G B os ρ σ H l) (h : (v, W.d (.bool i), m) ∈ l) : v = .bl i := by
  have q := S.dp h
  cases q
  rfl
theorem StV.str {v : V} {i : Str} {m : Bool} (S : StV G B os ρ σ H l) (h : (v, W.d (.str i), m) ∈ l) : v = .str i := by
  have q := S.dp h
  cases q
  rfl
theorem StV.non {v : V} {m : Bool} (S : StV G B os ρ σ H l) (h : (v, W.d .none, m) ∈ l) : v = .non := by
  have q := S.dp h
  cases q
  rfl
theorem StV.tupW {v : V} {ds : List PyData} {m : Bool} (S : StV G B os ρ σ H l) (h : (v, W.d (.tuple ds), m) ∈ l) : RepW G (frz os H) v (.d (.tuple ds)) := by
  rcases S.tm _ h with q | ⟨_, p, i, e1, e2⟩
  · exact q
  · exact ((S.cs p i _ e2).1).elim
/-- the temporaries change, the state stays -/
theorem StV.re (S : StV G B os ρ σ H l) {l' r : List Tm} (e : l = l' ++ r) {v : V} {w : W} (m : Bool) (h : RepW G (frz os H) v w) : StV G B os ρ σ H ((v, w, m) :: r) :=
  (S.sub (l' := r) fun t ht => by rw [e]; exact List.mem_append_right _ ht).pushW m h
theorem StV.reI (S : StV G B os ρ σ H l) {l' r : List Tm} (e : l = l' ++ r) (m : Bool) (i : Int) : StV G B os ρ σ H ((.int i, .d (.int i), m) :: r) := S.re e m (show Dp _ _ _ _ from .int i)
theorem StV.reB (S : StV G B os ρ σ H l) {l' r : List Tm} (e : l = l' ++ r) (m : Bool) (i : Bool) : StV G B os ρ σ H ((.bl i, .d (.bool i), m) :: r) := S.re e m (show Dp _ _ _ _ from .bl i)
theorem StV.reS (S : StV G B os ρ σ H l) {l' r : List Tm} (e : l = l' ++ r) (m : Bool) (i : Str) : StV G B os ρ σ H ((.str i, .d (.str i), m) :: r) := S.re e m (show Dp _ _ _ _ from .str i)
theorem StV.reN (S : StV G B os ρ σ H l) {l' r : List Tm} (e : l = l' ++ r) (m : Bool) : StV G B os ρ σ H ((.non, .d .none, m) :: r) := S.re e m (show Dp _ _ _ _ from .non)
end

/-! ### names, constants -/
section
variable {X : Cx} {G : Gc} {B : Bs} {E : XK}
theorem r_v {i : Nat} {x : Str} {pos : Pos} (m : Bool) (hN : X.N[i]? = some x) (hv : Vis X.env.scope x) (hd : (x == ("__debug__" : Str)) = false) (hcd : (x == ("__classdict__" : Str)) = false) : PE X (.Name x pos) (tOf G B E m (getV · i)) := by
  refine pe_of (pe_var hN hv hd hcd) fun σ H Q ⟨os, ρ, l, S, h⟩ => ?_
  show ∃ v, σ[i]? = some (some v) ∧ Q v H
  dsimp only [getV] at h
  split at h
  · rename_i w e
    obtain ⟨v, h1, h2⟩ := S.va i w e
    exact ⟨v, h1, h v H (S.pushW m h2)⟩
  · exact h.elim
theorem r_vr {i : Nat} {x : Str} {pos : Pos} (hN : X.N[i]? = some x) (hv : Vis X.env.scope x) (hd : (x == ("__debug__" : Str)) = false) (hcd : (x == ("__classdict__" : Str)) = false) : PE X (.Name x pos) (tOf G B E true (getR · i)) := by
  refine pe_of (pe_var hN hv hd hcd) fun σ H Q ⟨os, ρ, l, S, h⟩ => ?_
  show ∃ v, σ[i]? = some (some v) ∧ Q v H
  dsimp only [getR] at h
  split at h
  · rename_i w e
    obtain ⟨v, h1, h2⟩ := S.va i w e
    exact ⟨v, h1, h v H (S.pushW true h2)⟩
  · rename_i w e
    obtain ⟨p, h1, h2⟩ := S.mu i w e
    exact ⟨.ref p, h1, h _ H (S.push (.inr ⟨rfl, p, i, rfl, h2⟩))⟩
  · exact h.elim
/-- the constants that stand in a text -/
def constV : PyData → Option V
  | .none => some .non
  | .bool b => some (.bl b)
  | .int i => some (.int i)
  | .str x => some (.str x)
  | _ => none
theorem constV_dp {K : PySem.W.Frag} {F : Hp} {d : PyData} {v : V} (h : constV d = some v) : Dp K F v d := by
  cases d with
  | none => cases h; exact .non
  | bool b => cases h; exact .bl b
  | int i => cases h; exact .int i
  | str x => cases h; exact .str x
  | list xs => cases h
  | tuple xs => cases h
  | dict xs => cases h
theorem r_tC {e : Expr} {v : V} {d : PyData} (m : Bool) (h : PE X e (tC v)) (hv : constV d = some v) : PE X e (tOf G B E m fun _ => .ok (.d d)) :=
  pe_of h fun σ H Q ⟨os, ρ, l, S, q⟩ => q v H (S.pushW m (show Dp _ _ _ _ from constV_dp hv))
theorem r_gf {x : Str} {a : Addr} {pos : Pos} (m : Bool) (hg : Gl X x) (hm : X.mg x = some (.ref a)) (hG : G.mg = X.mg) (hd : (x == ("__debug__" : Str)) = false) : PE X (.Name x pos) (tOf G B E m fun _ => .ok (.fn x)) :=
  pe_of (pe_glob (v := .ref a) hg hm rfl hd) fun σ H Q ⟨os, ρ, l, S, q⟩ => q _ H (S.pushW m ⟨a, rfl, by rw [hG]; exact hm⟩)
/-- a frozen value may be read -/
theorem r_weak {e : Expr} {ev : En → Rs W} (h : PE X e (tOf G B E false ev)) (m : Bool) : PE X e (tOf G B E m ev) :=
  pe_of h fun σ H Q ⟨os, ρ, l, S, q⟩ => ⟨os, ρ, l, S, Rs.P.mono q fun w _ k v H' S' => k v H' ((S'.tail).push (.inl (S'.repW List.mem_cons_self)))⟩
theorem r_give {e : Expr} {ev : En → Rs W} (h : PE X e (tOfN G B E ev)) (m : Bool) : PE X e (tOf G B E m ev) :=
  pe_of h fun σ H Q ⟨os, ρ, l, S, q⟩ => ⟨os, ρ, l, S, Rs.P.mono q fun w _ k p H' hos S' => k _ H' (S'.give hos m)⟩

/-! ### arguments, displays -/
theorem r_args {e : Expr} {es : List Expr} {m : Bool} {ev : En → Rs W} {ew : En → Rs (List W)} (h : PE X e (tOf G B E m ev)) (hr : PA X es (tOfA G B E m ew)) (hs : starEach (e :: es) X.env = (false, eval e X.env) :: starEach es X.env) :
    PA X (e :: es) (tOfA G B E m fun ρ => (ev ρ).bind fun x => (ew ρ).bind fun xs => .ok (x :: xs)) :=
  pa_of (pa_cons h hr hs) fun σ H Q ⟨os, ρ, l, S, q⟩ => ⟨os, ρ, l, S, (Rs.P_bind q).mono fun w _ q v H1 S1 => ⟨os, ρ, _, S1, (Rs.P_bind q).mono fun ws _ q vs H2 hl S2 =>
    q (v :: vs) H2 (by simp [hl]) (S2.sub fun t ht => by
      rcases List.mem_cons.mp ht with e | ht
      · rw [e]; exact List.mem_append_right _ List.mem_cons_self
      · rcases List.mem_append.mp ht with h | h
        · exact List.mem_append_left _ h
        · exact List.mem_append_right _ (List.mem_cons_of_mem _ h))⟩⟩
theorem r_nil {m : Bool} : PA X [] (tOfA G B E m fun _ => .ok []) := pa_of pa_nil fun σ H Q ⟨os, ρ, l, S, q⟩ => q [] H rfl S
theorem allD_nexc : ∀ (ws : List W) (x : Str), allD ws ≠ .exc x
  | [], x, h => by cases h
  | w :: ws, x, h => by
    cases w with
    | d d =>
      have h : (allD ws).bind (fun ds => .ok (d :: ds)) = .exc x := h
      cases e : allD ws with
      | ok es => rw [e] at h; cases h
      | exc y => exact allD_nexc ws y e
      | stuck => rw [e] at h; cases h
    | _ => cases h
theorem allD_dp {os : Os} {ρ : En} {σ : L2.St} {H : Hp} {l : List Tm} : ∀ {ws : List W} {vs : List V} {ds : List PyData}, vs.length = ws.length → allD ws = .ok ds → StV G B os ρ σ H (tms false vs ws ++ l) → DpAll G.K (frz os H) vs ds
  | [], vs, ds, hl, h, S => by
    cases h
    have : vs = [] := List.length_eq_zero_iff.mp hl
    subst this
    exact .nil
  | w :: ws, [], ds, hl, h, S => by simp at hl
  | w :: ws, v :: vs, ds, hl, h, S => by
    cases w with
    | d d =>
      have h : (allD ws).bind (fun ds => .ok (d :: ds)) = .ok ds := h
      cases e : allD ws with
      | ok es =>
        rw [e] at h
        cases h
        exact .cons (S.repW List.mem_cons_self) (allD_dp (by simpa using hl) e (S.sub fun t ht => List.mem_cons_of_mem _ ht))
      | exc x => rw [e] at h; cases h
      | stuck => rw [e] at h; cases h
    | _ => cases h
theorem r_tup {es : List Expr} {k : Nat} {pos : Pos} {ew : En → Rs (List W)} (m : Bool) (h : PA X es (tOfA G B E false ew)) :
    PE X (.Tuple es k pos) (tOf G B E m fun ρ => (ew ρ).bind fun ws => (allD ws).bind fun ds => if fits ds.length then .ok (.d (.tuple ds)) else .stuck) := by
  refine pe_of (pe_tup h) fun σ H Q ⟨os, ρ, l, S, q⟩ => ⟨os, ρ, l, S, (Rs.P_bind q).mono fun ws _ q vs H1 hl S1 => ?_⟩
  cases e2 : allD ws with
  | ok ds =>
    rw [e2] at q
    have hd := allD_dp hl e2 S1
    dsimp only [Rs.bind_ok] at q
    split at q
    · rename_i hf
      have hf : ds.length ≤ 16777216 := of_decide_eq_true hf
      exact ⟨by rw [dpAll_len hd]; exact hf, fun p hp => q _ _ ((S1.sub fun t ht => List.mem_append_right _ ht).newT hp hd m)⟩
    · exact q.elim
  | exc x => exact absurd e2 (allD_nexc ws x)
  | stuck => rw [e2] at q; exact q.elim
theorem r_lstN {es : List Expr} {pos : Pos} {ew : En → Rs (List W)} (h : PA X es (tOfA G B E false ew)) :
    PE X (.List es pos) (tOfN G B E fun ρ => (ew ρ).bind fun ws => (allD ws).bind fun ds => if fits ds.length then .ok (.d (.list ds)) else .stuck) := by
  refine pe_of (pe_lst h) fun σ H Q ⟨os, ρ, l, S, q⟩ => ⟨os, ρ, l, S, (Rs.P_bind q).mono fun ws _ q vs H1 hl S1 => ?_⟩
  cases e2 : allD ws with
  | ok ds =>
    rw [e2] at q
    have hd := allD_dp hl e2 S1
    dsimp only [Rs.bind_ok] at q
    split at q
    · rename_i hf
      have hf : ds.length ≤ 16777216 := of_decide_eq_true hf
      have S2 := S1.sub (l' := l) fun t ht => List.mem_append_right _ ht
      exact ⟨by rw [dpAll_len hd]; exact hf, fun p hp => q _ _ (S2.fresh hp) (S2.own hp ⟨vs, upd_same, hd⟩)⟩
    · exact q.elim
  | exc x => exact absurd e2 (allD_nexc ws x)
  | stuck => rw [e2] at q; exact q.elim
end

/-! ### operators -/
/-- what an operator of two values does -/
def rW (G : Gc) (B : Bs) (E : XK) (ma mb m : Bool) (g : W → W → Rs W) : R2 := fun x y H Q => ∃ os ρ σ l wx wy, StV G B os ρ σ H ((y, wy, mb) :: (x, wx, ma) :: l) ∧
  (g wx wy).P (fun w => ∀ z H', StV G B os ρ σ H' ((z, w, m) :: l) → Q z H') (XW G B E)
/-- lists of the written part are plain ones -/
def KLs (K : PySem.W.Frag) : Prop := ∀ a o, K.lookup a = some o → o.cls = .type "list" → o.slots = #[]
section
variable {X : Cx} {G : Gc} {B : Bs} {E : XK}
theorem lstE {pins : List (Addr × Obj)} {σ : L2.St} {H : Hp} {s : Shared} {a : Addr} {xs : List V} (KL : KLs X.K) (I : Inv X pins σ H s) (h : SqL X.K H a xs) :
    ∃ (its : List Value) (n : Nat), Vals xs its ∧ xs.length = its.length ∧ xs.length ≤ sizeLine ∧ s.heap.get? a = some { cls := .type "list", data := .seq its.toArray n } := by
  rcases h with h | ⟨o, its, n, hk, hc, hd, hs, hz, r⟩
  · obtain ⟨z, its, n, r, e⟩ := h.ok I.hok
    exact ⟨its, n, r, r.length, z, e⟩
  · have hsl := KL a o hk hc
    obtain ⟨c, d, dt, sl⟩ := o
    simp only at hc hd hs hsl
    subst hc hd hs hsl
    have hl := r.length
    refine ⟨its.toList, n, r, hl, by rw [hl]; simpa using hz, ?_⟩
    have := I.kIn a _ hk
    simpa using this
theorem r_bin {a b : Expr} {op : Operator} {pos : Pos} {ma mb m : Bool} {fa fb : En → Rs W} {g : W → W → Rs W} (ho : OpR X (binaryOp op) (rW G B E ma mb m g)) (ha : PE X a (tOf G B E ma fa)) (hb : PE X b (tOf G B E mb fb)) :
    PE X (.BinOp a op b pos) (tOf G B E m fun ρ => (fa ρ).bind fun x => (fb ρ).bind fun y => g x y) :=
  pe_of (pe_op ho ha hb) fun σ H Q ⟨os, ρ, l, S, q⟩ => ⟨os, ρ, l, S, (Rs.P_bind q).mono fun wx _ q x H1 S1 => ⟨os, ρ, _, S1, (Rs.P_bind q).mono fun wy _ q y H2 S2 => ⟨os, ρ, σ, l, wx, wy, S2, q⟩⟩⟩
theorem r_cmp {a b : Expr} {op : CmpOp} {pos : Pos} {ma mb m : Bool} {fa fb : En → Rs W} {g : W → W → Rs W} (ho : OpR X (compareOp op) (rW G B E ma mb m g)) (ha : PE X a (tOf G B E ma fa)) (hb : PE X b (tOf G B E mb fb)) (hm : behindInMarks op b = false) :
    PE X (.Compare a [op] [b] pos) (tOf G B E m fun ρ => (fa ρ).bind fun x => (fb ρ).bind fun y => g x y) :=
  pe_of (pe_cmpR ho ha hb hm) fun σ H Q ⟨os, ρ, l, S, q⟩ => ⟨os, ρ, l, S, (Rs.P_bind q).mono fun wx _ q x H1 S1 => ⟨os, ρ, _, S1, (Rs.P_bind q).mono fun wy _ q y H2 S2 => ⟨os, ρ, σ, l, wx, wy, S2, q⟩⟩⟩
theorem fits_le {n : Nat} (h : fits n = true) : n ≤ sizeLine := of_decide_eq_true h
theorem small_log {i j : Int} (h1 : small64 i = true) (h2 : small64 j = true) : CMulW i j := by
  have a1 : i.natAbs < 18446744073709551616 := of_decide_eq_true h1
  have a2 : j.natAbs < 18446744073709551616 := of_decide_eq_true h2
  exact wide_mul (a := 64) (b := 64) (by omega) (by omega) (by decide) (by decide) (by decide)
theorem small_div {i j : Int} (h0 : 0 < j) (h2 : small64 j = true) : CDivW i j := by
  have a2 : j.natAbs < 18446744073709551616 := of_decide_eq_true h2
  exact wide_div (b := 64) h0 (by omega) (by decide) (by decide)
theorem o_add {ma mb m : Bool} (KL : KLs X.K) (hG : G.K = X.K) : OpR X (binaryOp .Add) (rW G B E ma mb m (wBin .add)) := by
  intro pins s σ H x y v u Q I rx ry ⟨os, ρ, σ', l, wx, wy, S, q⟩
  have mx : (x, wx, ma) ∈ (y, wy, mb) :: (x, wx, ma) :: l := List.mem_cons_of_mem _ List.mem_cons_self
  have my : (y, wy, mb) ∈ (y, wy, mb) :: (x, wx, ma) :: l := List.mem_cons_self
  unfold wBin at q
  split at q <;> first | contradiction | skip
  · exact op_add pins s σ H x y v u Q I rx ry ⟨_, _, S.int mx, S.int my, q _ _ (S.reI (l' := [_, _]) rfl m _)⟩
  · split at q
    · rename_i hf
      exact op_add_str pins s σ H x y v u Q I rx ry ⟨_, _, S.str mx, S.str my, fits_le hf, q _ _ (S.reS (l' := [_, _]) rfl m _)⟩
    · exact q.elim
  · split at q
    · rename_i hf
      obtain ⟨a, xs, rfl, h1, d1⟩ := S.lst mx
      obtain ⟨b, ys, rfl, h2, d2⟩ := S.lst my
      rw [hG] at h1 h2
      obtain ⟨its, n, r1, l1, z1, e1⟩ := lstE KL I h1
      obtain ⟨its2, n2, r2, l2, z2, e2⟩ := lstE KL I h2
      have hz : xs.length + ys.length ≤ sizeLine := by rw [dpAll_len d1, dpAll_len d2]; exact fits_le hf
      cases rx
      cases ry
      refine PySem.P.add_list e1 e2 ?_ (by rw [List.size_toArray, List.size_toArray]; omega)
      have ea : its.toArray ++ its2.toArray = (its ++ its2).toArray := by simp
      rw [ea]
      exact ⟨.ref _, _, I.lnew (t' := s.toks) (r1.append r2) (by rw [List.length_append]; exact hz), rfl, q _ _ (S.tail.tail.newLf I.fresh (dpAll_append d1 d2) m)⟩
    · exact q.elim
  · split at q
    · rename_i hf
      obtain ⟨a, xs, rfl, h1, d1⟩ := S.tup mx
      obtain ⟨b, ys, rfl, h2, d2⟩ := S.tup my
      rw [hG] at h1 h2
      have hz : xs.length + ys.length ≤ sizeLine := by rw [dpAll_len d1, dpAll_len d2]; exact fits_le hf
      have S0 := S.tail.tail
      refine op_catA pins s σ H _ _ v u Q I rx ry ⟨a, b, xs, ys, rfl, rfl, h1, h2, hz, fun e => ?_, fun _ e => ?_, fun _ _ p hp => q _ _ (S0.newT hp (dpAll_append d1 d2) m)⟩
      · subst e
        cases d1
        exact q _ _ (S0.pushW m (S.tupW my))
      · subst e
        cases d2
        rw [List.append_nil] at q
        exact q _ _ (S0.pushW m (S.tupW mx))
    · exact q.elim
theorem o_sub {ma mb m : Bool} : OpR X (binaryOp .Sub) (rW G B E ma mb m (wBin .sub)) := by
  intro pins s σ H x y v u Q I rx ry ⟨os, ρ, σ', l, wx, wy, S, q⟩
  have mx : (x, wx, ma) ∈ (y, wy, mb) :: (x, wx, ma) :: l := List.mem_cons_of_mem _ List.mem_cons_self
  have my : (y, wy, mb) ∈ (y, wy, mb) :: (x, wx, ma) :: l := List.mem_cons_self
  unfold wBin at q
  split at q <;> first | contradiction | skip
  exact op_sub pins s σ H x y v u Q I rx ry ⟨_, _, S.int mx, S.int my, q _ _ (S.reI (l' := [_, _]) rfl m _)⟩
theorem o_div {ma mb m : Bool} : OpR X (binaryOp .FloorDiv) (rW G B E ma mb m (wBin .div)) := by
  intro pins s σ H x y v u Q I rx ry ⟨os, ρ, σ', l, wx, wy, S, q⟩
  have mx : (x, wx, ma) ∈ (y, wy, mb) :: (x, wx, ma) :: l := List.mem_cons_of_mem _ List.mem_cons_self
  have my : (y, wy, mb) ∈ (y, wy, mb) :: (x, wx, ma) :: l := List.mem_cons_self
  unfold wBin at q
  split at q <;> first | contradiction | skip
  split at q
  · rename_i hc
    obtain ⟨h1, h2⟩ := Bool.and_eq_true_iff.mp hc
    exact op_fdivW pins s σ H x y v u Q I rx ry ⟨_, _, S.int mx, S.int my, small_div (of_decide_eq_true h1) h2, q _ _ (S.reI (l' := [_, _]) rfl m _)⟩
  · exact q.elim
theorem o_mod {ma mb m : Bool} : OpR X (binaryOp .Mod) (rW G B E ma mb m (wBin .mod)) := by
  intro pins s σ H x y v u Q I rx ry ⟨os, ρ, σ', l, wx, wy, S, q⟩
  have mx : (x, wx, ma) ∈ (y, wy, mb) :: (x, wx, ma) :: l := List.mem_cons_of_mem _ List.mem_cons_self
  have my : (y, wy, mb) ∈ (y, wy, mb) :: (x, wx, ma) :: l := List.mem_cons_self
  unfold wBin at q
  split at q <;> first | contradiction | skip
  split at q
  · rename_i hc
    exact op_mod pins s σ H x y v u Q I rx ry ⟨_, _, S.int mx, S.int my, of_decide_eq_true hc, q _ _ (S.reI (l' := [_, _]) rfl m _)⟩
  · exact q.elim
theorem o_pow {ma mb m : Bool} : OpR X (binaryOp .Pow) (rW G B E ma mb m (wBin .pow)) := by
  intro pins s σ H x y v u Q I rx ry ⟨os, ρ, σ', l, wx, wy, S, q⟩
  have mx : (x, wx, ma) ∈ (y, wy, mb) :: (x, wx, ma) :: l := List.mem_cons_of_mem _ List.mem_cons_self
  have my : (y, wy, mb) ∈ (y, wy, mb) :: (x, wx, ma) :: l := List.mem_cons_self
  unfold wBin at q
  split at q <;> first | contradiction | skip
  split at q
  · rename_i hc
    obtain ⟨h1, h2⟩ := Bool.and_eq_true_iff.mp hc
    obtain ⟨h2, h3⟩ := Bool.and_eq_true_iff.mp h2
    have a1 := of_decide_eq_true h1
    have a2 := of_decide_eq_true h2
    have a3 := of_decide_eq_true h3
    exact op_pow pins s σ H x y v u Q I rx ry ⟨_, _, S.int mx, S.int my, ⟨a1, by omega, by omega⟩, q _ _ (S.reI (l' := [_, _]) rfl m _)⟩
  · exact q.elim
theorem o_mul {ma mb m : Bool} (hG : G.K = X.K) (KL : KLs X.K) : OpR X (binaryOp .Mult) (rW G B E ma mb m (wBin .mul)) := by
  intro pins s σ H x y v u Q I rx ry ⟨os, ρ, σ', l, wx, wy, S, q⟩
  have mx : (x, wx, ma) ∈ (y, wy, mb) :: (x, wx, ma) :: l := List.mem_cons_of_mem _ List.mem_cons_self
  have my : (y, wy, mb) ∈ (y, wy, mb) :: (x, wx, ma) :: l := List.mem_cons_self
  unfold wBin at q
  split at q <;> first | contradiction | skip
  · split at q
    · rename_i hc
      obtain ⟨h1, h2⟩ := Bool.and_eq_true_iff.mp hc
      exact op_mulW pins s σ H x y v u Q I rx ry ⟨_, _, S.int mx, S.int my, small_log h1 h2, q _ _ (S.reI (l' := [_, _]) rfl m _)⟩
    · exact q.elim
/-- a comparison's bool, its contrary -/
theorem q_bl {os : Os} {ρ : En} {σ : L2.St} {H : Hp} {l : List Tm} {t1 t2 : Tm} {m k : Bool} {Q : VK} (S : StV G B os ρ σ H (t1 :: t2 :: l)) (q : (rBl (Rs.ok k)).P (fun w => ∀ z H', StV G B os ρ σ H' ((z, w, m) :: l) → Q z H') (XW G B E)) : Q (.bl k) H :=
  q _ _ (S.reB (l' := [_, _]) rfl m _)
theorem o_eq {ma mb m : Bool} (hG : G.K = X.K) (hu : X.A.units + 64 < cLine) : OpR X (compareOp .Eq) (rW G B E ma mb m fun a b => rBl (wCmp .eq a b)) := by
  intro pins s σ H x y v u Q I rx ry ⟨os, ρ, σ', l, wx, wy, S, q⟩
  have mx : (x, wx, ma) ∈ (y, wy, mb) :: (x, wx, ma) :: l := List.mem_cons_of_mem _ List.mem_cons_self
  have my : (y, wy, mb) ∈ (y, wy, mb) :: (x, wx, ma) :: l := List.mem_cons_self
  change (rBl (wEq wx wy)).P _ _ at q
  unfold wEq at q
  split at q
  · split at q
    · rename_i hc
      obtain ⟨h1, h2⟩ := Bool.and_eq_true_iff.mp hc
      exact op_eqD hu pins s σ H x y v u Q I rx ry ⟨_, _, hG ▸ S.dp mx, hG ▸ S.dp my, h1, h2, q_bl S q⟩
    · exact q.elim
  · exact q.elim
theorem o_ne {ma mb m : Bool} (hG : G.K = X.K) (hu : X.A.units + 64 < cLine) : OpR X (compareOp .NotEq) (rW G B E ma mb m fun a b => rBl (wCmp .ne a b)) := by
  intro pins s σ H x y v u Q I rx ry ⟨os, ρ, σ', l, wx, wy, S, q⟩
  have mx : (x, wx, ma) ∈ (y, wy, mb) :: (x, wx, ma) :: l := List.mem_cons_of_mem _ List.mem_cons_self
  have my : (y, wy, mb) ∈ (y, wy, mb) :: (x, wx, ma) :: l := List.mem_cons_self
  change (rBl (rNot (wEq wx wy))).P _ _ at q
  unfold wEq at q
  split at q
  · split at q
    · rename_i hc
      obtain ⟨h1, h2⟩ := Bool.and_eq_true_iff.mp hc
      exact op_neD hu pins s σ H x y v u Q I rx ry ⟨_, _, hG ▸ S.dp mx, hG ▸ S.dp my, h1, h2, q_bl S q⟩
    · exact q.elim
  · exact q.elim
theorem o_in {ma mb m : Bool} (hG : G.K = X.K) (hu : X.A.units + 65 < cLine) : OpR X (compareOp .In) (rW G B E ma mb m fun a b => rBl (wCmp .mem a b)) := by
  intro pins s σ H x y v u Q I rx ry ⟨os, ρ, σ', l, wx, wy, S, q⟩
  have mx : (x, wx, ma) ∈ (y, wy, mb) :: (x, wx, ma) :: l := List.mem_cons_of_mem _ List.mem_cons_self
  have my : (y, wy, mb) ∈ (y, wy, mb) :: (x, wx, ma) :: l := List.mem_cons_self
  change (rBl (wMem wx wy)).P _ _ at q
  unfold wMem at q
  split at q
  · split at q
    · rename_i c e
      rename_i z1 z2 z3
      refine op_in_sign pins s σ H x y v u Q I rx ry ⟨c, _, ?_, S.str my, q_bl S q⟩
      rw [S.str mx]
      have : z1 = ⟨#[c]⟩ := by
        obtain ⟨a⟩ := z1
        have e2 : a.toList = [c] := e
        congr 1
        exact Array.toList_inj.mp e2
      rw [this]
    · exact q.elim
  · split at q
    · rename_i hc
      obtain ⟨h1, h2⟩ := Bool.and_eq_true_iff.mp hc
      exact op_inD hu pins s σ H x y v u Q I rx ry ⟨_, _, hG ▸ S.dp mx, hG ▸ S.dp my, h1, h2, q_bl S q⟩
    · exact q.elim
  · split at q
    · rename_i hc
      obtain ⟨h1, h2⟩ := Bool.and_eq_true_iff.mp hc
      obtain ⟨as, r1⟩ := Dp.reads I _ x v (hG ▸ S.dp mx) rx
      obtain ⟨bs, r2⟩ := Dp.reads I _ y u (hG ▸ S.dp my) ry
      exact SeqAt.in_tuple_reads r2 r1 (SeqAt.canLay_of_shaped h2) (SeqAt.canLay_of_shaped h1) (room_in_shaped h1 hu) ⟨.bl _, H, I, rfl, q_bl S q⟩
    · exact q.elim
  · exact q.elim
  · exact q.elim
theorem o_notin {ma mb m : Bool} (hG : G.K = X.K) (hu : X.A.units + 65 < cLine) : OpR X (compareOp .NotIn) (rW G B E ma mb m fun a b => rBl (wCmp .nmem a b)) := by
  intro pins s σ H x y v u Q I rx ry ⟨os, ρ, σ', l, wx, wy, S, q⟩
  have mx : (x, wx, ma) ∈ (y, wy, mb) :: (x, wx, ma) :: l := List.mem_cons_of_mem _ List.mem_cons_self
  have my : (y, wy, mb) ∈ (y, wy, mb) :: (x, wx, ma) :: l := List.mem_cons_self
  change (rBl (rNot (wMem wx wy))).P _ _ at q
  unfold wMem at q
  split at q
  · split at q
    · rename_i c e
      rename_i z1 z2 z3
      refine op_notIn_sign pins s σ H x y v u Q I rx ry ⟨c, _, ?_, S.str my, q_bl S q⟩
      rw [S.str mx]
      have : z1 = ⟨#[c]⟩ := by
        obtain ⟨a⟩ := z1
        have e2 : a.toList = [c] := e
        congr 1
        exact Array.toList_inj.mp e2
      rw [this]
    · exact q.elim
  · split at q
    · rename_i hc
      obtain ⟨h1, h2⟩ := Bool.and_eq_true_iff.mp hc
      exact op_notInD hu pins s σ H x y v u Q I rx ry ⟨_, _, hG ▸ S.dp mx, hG ▸ S.dp my, h1, h2, q_bl S q⟩
    · exact q.elim
  · split at q
    · rename_i hc
      obtain ⟨h1, h2⟩ := Bool.and_eq_true_iff.mp hc
      obtain ⟨as, r1⟩ := Dp.reads I _ x v (hG ▸ S.dp mx) rx
      obtain ⟨bs, r2⟩ := Dp.reads I _ y u (hG ▸ S.dp my) ry
      exact SeqAt.notIn_tuple_reads r2 r1 (SeqAt.canLay_of_shaped h2) (SeqAt.canLay_of_shaped h1) (room_in_shaped h1 hu) ⟨.bl _, H, I, rfl, q_bl S q⟩
    · exact q.elim
  · exact q.elim
  · exact q.elim
theorem o_lt {ma mb m : Bool} : OpR X (compareOp .Lt) (rW G B E ma mb m fun a b => rBl (wCmp .lt a b)) := by
  intro pins s σ H x y v u Q I rx ry ⟨os, ρ, σ', l, wx, wy, S, q⟩
  have mx : (x, wx, ma) ∈ (y, wy, mb) :: (x, wx, ma) :: l := List.mem_cons_of_mem _ List.mem_cons_self
  have my : (y, wy, mb) ∈ (y, wy, mb) :: (x, wx, ma) :: l := List.mem_cons_self
  change (rBl (wLt wx wy)).P _ _ at q
  unfold wLt at q
  split at q
  · exact op_lt pins s σ H x y v u Q I rx ry ⟨_, _, S.int mx, S.int my, q_bl S q⟩
  · exact q.elim
  · exact q.elim
theorem o_gt {ma mb m : Bool} : OpR X (compareOp .Gt) (rW G B E ma mb m fun a b => rBl (wCmp .gt a b)) := by
  intro pins s σ H x y v u Q I rx ry ⟨os, ρ, σ', l, wx, wy, S, q⟩
  have mx : (x, wx, ma) ∈ (y, wy, mb) :: (x, wx, ma) :: l := List.mem_cons_of_mem _ List.mem_cons_self
  have my : (y, wy, mb) ∈ (y, wy, mb) :: (x, wx, ma) :: l := List.mem_cons_self
  dsimp only at q
  unfold wCmp at q
  split at q <;> first | contradiction | skip
  exact op_gt pins s σ H x y v u Q I rx ry ⟨_, _, S.int mx, S.int my, q_bl S q⟩
theorem o_le {ma mb m : Bool} : OpR X (compareOp .LtE) (rW G B E ma mb m fun a b => rBl (wCmp .le a b)) := by
  intro pins s σ H x y v u Q I rx ry ⟨os, ρ, σ', l, wx, wy, S, q⟩
  have mx : (x, wx, ma) ∈ (y, wy, mb) :: (x, wx, ma) :: l := List.mem_cons_of_mem _ List.mem_cons_self
  have my : (y, wy, mb) ∈ (y, wy, mb) :: (x, wx, ma) :: l := List.mem_cons_self
  dsimp only at q
  unfold wCmp at q
  split at q <;> first | contradiction | skip
  exact op_le pins s σ H x y v u Q I rx ry ⟨_, _, S.int mx, S.int my, q_bl S q⟩
theorem o_ge {ma mb m : Bool} : OpR X (compareOp .GtE) (rW G B E ma mb m fun a b => rBl (wCmp .ge a b)) := by
  intro pins s σ H x y v u Q I rx ry ⟨os, ρ, σ', l, wx, wy, S, q⟩
  have mx : (x, wx, ma) ∈ (y, wy, mb) :: (x, wx, ma) :: l := List.mem_cons_of_mem _ List.mem_cons_self
  have my : (y, wy, mb) ∈ (y, wy, mb) :: (x, wx, ma) :: l := List.mem_cons_self
  dsimp only at q
  unfold wCmp at q
  split at q <;> first | contradiction | skip
  exact op_ge pins s σ H x y v u Q I rx ry ⟨_, _, S.int mx, S.int my, q_bl S q⟩
/-- data that is not None is no None -/
theorem dp_nn {K : PySem.W.Frag} {F : Hp} {v : V} {d : PyData} (h : Dp K F v d) (n : d ≠ .none) : decide (v = V.non) = false := by
  cases h <;> first | exact absurd rfl n | exact decide_eq_false fun z => nomatch z
theorem o_is {ma mb m : Bool} : OpR X (compareOp .Is) (rW G B E ma mb m fun a b => rBl (wCmp .is a b)) := by
  intro pins s σ H x y v u Q I rx ry ⟨os, ρ, σ', l, wx, wy, S, q⟩
  have mx : (x, wx, ma) ∈ (y, wy, mb) :: (x, wx, ma) :: l := List.mem_cons_of_mem _ List.mem_cons_self
  have my : (y, wy, mb) ∈ (y, wy, mb) :: (x, wx, ma) :: l := List.mem_cons_self
  change (rBl (wIs wx wy)).P _ _ at q
  unfold wIs at q
  split at q <;> first | contradiction | skip
  · exact op_isBl pins s σ H x y v u Q I rx ry ⟨_, _, S.bl mx, S.bl my, q_bl S q⟩
  all_goals (refine op_isN pins s σ H x y v u Q I rx ry ⟨S.non my, ?_⟩)
  · rw [decide_eq_true (S.non mx)]; exact q_bl S q
  all_goals (rw [dp_nn (S.dp mx) (fun z => nomatch z)]; exact q_bl S q)
theorem o_isn {ma mb m : Bool} : OpR X (compareOp .IsNot) (rW G B E ma mb m fun a b => rBl (wCmp .isn a b)) := by
  intro pins s σ H x y v u Q I rx ry ⟨os, ρ, σ', l, wx, wy, S, q⟩
  have mx : (x, wx, ma) ∈ (y, wy, mb) :: (x, wx, ma) :: l := List.mem_cons_of_mem _ List.mem_cons_self
  have my : (y, wy, mb) ∈ (y, wy, mb) :: (x, wx, ma) :: l := List.mem_cons_self
  change (rBl (rNot (wIs wx wy))).P _ _ at q
  unfold wIs at q
  split at q <;> first | contradiction | skip
  · exact op_notBl pins s σ H x y v u Q I rx ry ⟨_, _, S.bl mx, S.bl my, q_bl S q⟩
  all_goals (refine op_notN pins s σ H x y v u Q I rx ry ⟨S.non my, ?_⟩)
  · rw [decide_eq_true (S.non mx)]; exact q_bl S q
  all_goals (rw [dp_nn (S.dp mx) (fun z => nomatch z)]; exact q_bl S q)
end
end Pz
namespace Pz
open PySem PySem.Spec PyProof.Rows L2 LamX
section
variable {X : Cx} {G : Gc} {B : Bs} {E : XK}

/-! ### truth -/
theorem isEmpty_len {α β : Type} {xs : List α} {ys : List β} (h : xs.length = ys.length) : xs.isEmpty = ys.isEmpty := by
  cases xs <;> cases ys <;> simp_all
theorem tru_data {os : Os} {ρ : En} {σ : L2.St} {H : Hp} {l : List Tm} {v : V} {w : W} {m k : Bool} (S : StV G B os ρ σ H ((v, w, m) :: l)) (h : truth w = .ok k) : TruV G.K v H k := by
  have mv : (v, w, m) ∈ (v, w, m) :: l := List.mem_cons_self
  cases w with
  | d x =>
    have h : truthD x = .ok k := h
    cases x with
    | none => rw [S.non mv]; cases h; rfl
    | bool b => rw [S.bl mv]; cases h; rfl
    | int i => rw [S.int mv]; cases h; rfl
    | str x =>
      rw [S.str mv]
      have h : (if fits x.length then Rs.ok (x.length != 0) else .stuck) = .ok k := h
      by_cases hf : fits x.length = true
      · rw [if_pos hf] at h
        cases h
        refine ⟨fits_le hf, ?_⟩
        cases x.length with
        | zero => rfl
        | succ n =>
          have h2 : ((n + 1 : Nat) : Int) ≠ 0 := by omega
          rw [bne_iff_ne.mpr h2]
          rfl
      · rw [if_neg hf] at h; cases h
    | list xs =>
      obtain ⟨a, ys, rfl, h1, h2⟩ := S.lst mv
      cases h
      exact .inl ⟨ys, h1, by rw [isEmpty_len (dpAll_len h2)]⟩
    | tuple xs =>
      obtain ⟨a, ys, rfl, h1, h2⟩ := S.tup mv
      cases h
      exact .inr (.inl ⟨ys, h1, by rw [isEmpty_len (dpAll_len h2)]⟩)
    | dict xs => cases h
  | _ => cases h
theorem truth_nexc {w : W} {x : Str} : truth w ≠ .exc x := by
  cases w with
  | d d =>
    show truthD d ≠ .exc x
    cases d with
    | str y =>
      show (if fits y.length then Rs.ok (y.length != 0) else .stuck) ≠ .exc x
      split <;> (intro h; cases h)
    | _ => intro h; cases h
  | _ => intro h; cases h
/-- the truth of a value, then what follows -/
theorem truth_P {α : Type} {w : W} {f : Bool → Rs α} {k : α → Prop} {x : Str → Prop} (h : ((truth w).bind f).P k x) : ∃ b, truth w = .ok b ∧ (f b).P k x := by
  cases e : truth w with
  | ok b => rw [e] at h; exact ⟨b, rfl, h⟩
  | exc y => exact absurd e truth_nexc
  | stuck => rw [e] at h; exact h.elim
theorem r_truth {e : Expr} {m : Bool} {ev : En → Rs W} (hG : G.K = X.K) (h : PE X e (tOf G B E m ev)) (he : ∀ whole, isTrue e X.env whole = (do let v ← whole; standAt e.pos; holding [v] (truthy v))) :
    PT X e (tOfT G B E fun ρ => (ev ρ).bind truth) :=
  pt_of (pt_truth h he) fun σ H Q ⟨os, ρ, l, S, q⟩ => ⟨os, ρ, l, S, (Rs.P_bind q).mono fun w _ q v H1 S1 => by
    cases e : truth w with
    | ok b => rw [e] at q; exact ⟨b, hG ▸ tru_data S1 e, q H1 S1.tail⟩
    | exc y => exact absurd e truth_nexc
    | stuck => rw [e] at q; exact q.elim⟩
theorem r_notT {e : Expr} {pos : Pos} {ev : En → Rs Bool} (h : PT X e (tOfT G B E ev)) : PT X (.UnaryOp .Not e pos) (tOfT G B E fun ρ => (ev ρ).bind fun b => .ok (!b)) :=
  pt_of (pt_not h) fun σ H Q ⟨os, ρ, l, S, q⟩ => ⟨os, ρ, l, S, (Rs.P_bind q).mono fun b _ q H1 S1 => q H1 S1⟩
theorem r_not {e : Expr} {pos : Pos} {m m' : Bool} {ev : En → Rs W} (hG : G.K = X.K) (h : PE X e (tOf G B E m ev)) : PE X (.UnaryOp .Not e pos) (tOf G B E m' fun ρ => (ev ρ).bind fun x => (truth x).bind fun b => .ok (.d (.bool (!b)))) :=
  pe_of (pe_notT h) fun σ H Q ⟨os, ρ, l, S, q⟩ => ⟨os, ρ, l, S, (Rs.P_bind q).mono fun w _ q v H1 S1 => by
    obtain ⟨b, e, q⟩ := truth_P q
    exact ⟨b, hG ▸ tru_data S1 e, q _ _ (S1.reB (l' := [_]) rfl m' _)⟩⟩
theorem r_and {a b : Expr} {rest : List Expr} {pos : Pos} {m : Bool} {fa fb : En → Rs W} (hG : G.K = X.K) (ha : PE X a (tOf G B E m fa)) (hb : PE X (.BoolOp .And (b :: rest) pos) (tOf G B E m fb)) :
    PE X (.BoolOp .And (a :: b :: rest) pos) (tOf G B E m fun ρ => (fa ρ).bind fun x => (truth x).bind fun k => if k then fb ρ else .ok x) :=
  pe_of (pe_andT ha hb) fun σ H Q ⟨os, ρ, l, S, q⟩ => ⟨os, ρ, l, S, (Rs.P_bind q).mono fun w _ q v H1 S1 => by
    obtain ⟨k, e, q⟩ := truth_P q
    refine ⟨k, hG ▸ tru_data S1 e, ?_⟩
    cases k with
    | true => exact ⟨os, ρ, l, S1.tail, q⟩
    | false => exact q v H1 S1⟩
theorem r_or {a b : Expr} {rest : List Expr} {pos : Pos} {m : Bool} {fa fb : En → Rs W} (hG : G.K = X.K) (ha : PE X a (tOf G B E m fa)) (hb : PE X (.BoolOp .Or (b :: rest) pos) (tOf G B E m fb)) :
    PE X (.BoolOp .Or (a :: b :: rest) pos) (tOf G B E m fun ρ => (fa ρ).bind fun x => (truth x).bind fun k => if k then .ok x else fb ρ) :=
  pe_of (pe_orT ha hb) fun σ H Q ⟨os, ρ, l, S, q⟩ => ⟨os, ρ, l, S, (Rs.P_bind q).mono fun w _ q v H1 S1 => by
    obtain ⟨k, e, q⟩ := truth_P q
    refine ⟨k, hG ▸ tru_data S1 e, ?_⟩
    cases k with
    | true => exact q v H1 S1
    | false => exact ⟨os, ρ, l, S1.tail, q⟩⟩
theorem r_andT {a b : Expr} {rest : List Expr} {pos : Pos} {fa fb : En → Rs Bool} (ha : PT X a (tOfT G B E fa)) (hb : PW X (.BoolOp .And (b :: rest) pos) (tOfT G B E fb)) :
    PW X (.BoolOp .And (a :: b :: rest) pos) (tOfT G B E fun ρ => (fa ρ).bind fun k => if k then fb ρ else .ok false) :=
  pw_of (pw_and ha hb) fun σ H Q ⟨os, ρ, l, S, q⟩ => ⟨os, ρ, l, S, (Rs.P_bind q).mono fun k _ q H1 S1 => by
    cases k with
    | true => exact ⟨os, ρ, l, S1, q⟩
    | false => exact q H1 S1⟩
theorem r_orT {a b : Expr} {rest : List Expr} {pos : Pos} {fa fb : En → Rs Bool} (ha : PT X a (tOfT G B E fa)) (hb : PW X (.BoolOp .Or (b :: rest) pos) (tOfT G B E fb)) :
    PW X (.BoolOp .Or (a :: b :: rest) pos) (tOfT G B E fun ρ => (fa ρ).bind fun k => if k then .ok true else fb ρ) :=
  pw_of (pw_or ha hb) fun σ H Q ⟨os, ρ, l, S, q⟩ => ⟨os, ρ, l, S, (Rs.P_bind q).mono fun k _ q H1 S1 => by
    cases k with
    | true => exact q H1 S1
    | false => exact ⟨os, ρ, l, S1, q⟩⟩
theorem r_ite {c a b : Expr} {pos : Pos} {m : Bool} {ft : En → Rs Bool} {fa fb : En → Rs W} (hc : PT X c (tOfT G B E ft)) (ha : PE X a (tOf G B E m fa)) (hb : PE X b (tOf G B E m fb)) :
    PE X (.IfExp c a b pos) (tOf G B E m fun ρ => (ft ρ).bind fun k => if k then fa ρ else fb ρ) :=
  pe_of (pe_ifExp hc ha hb) fun σ H Q ⟨os, ρ, l, S, q⟩ => ⟨os, ρ, l, S, (Rs.P_bind q).mono fun k _ q H1 S1 => by
    cases k with
    | true => exact ⟨os, ρ, l, S1, q⟩
    | false => exact ⟨os, ρ, l, S1, q⟩⟩
theorem tOf_congr {m : Bool} {ev ev' : En → Rs W} {e : Expr} (h : PE X e (tOf G B E m ev)) (i : ∀ ρ, ev' ρ = ev ρ) : PE X e (tOf G B E m ev') := by
  have : ev' = ev := funext i
  rw [this]; exact h
theorem tOfT_congr {ev ev' : En → Rs Bool} {e : Expr} (h : PT X e (tOfT G B E ev)) (i : ∀ ρ, ev' ρ = ev ρ) : PT X e (tOfT G B E ev') := by
  have : ev' = ev := funext i
  rw [this]; exact h

/-! ### built-ins -/
/-- what a built-in of some values does -/
def rWs (G : Gc) (B : Bs) (E : XK) (m : Bool) (g : List W → Rs W) : List V → Hp → VK → Prop := fun vs H Q => ∃ os ρ σ l ws, vs.length = ws.length ∧ StV G B os ρ σ H (tms true vs ws ++ l) ∧
  (g ws).P (fun w => ∀ z H', StV G B os ρ σ H' ((z, w, m) :: l) → Q z H') (XW G B E)
theorem r_callB {x : Str} {id : String} {e : Expr} {es : List Expr} {p pos : Pos} {m : Bool} {ew : En → Rs (List W)} {g : List W → Rs W} (hc : CallR X (.builtin id) (rWs G B E m g)) (hg : Gl X x) (hm : X.mg x = none) (hv : bootBuiltins x = some (.builtin id)) (ha : PA X (e :: es) (tOfA G B E true ew))
    (hn : x ≠ "__name__") (hdb : (x == ("__debug__" : Str)) = false) (he : starEach (e :: es) X.env = (false, eval e X.env) :: starEach es X.env) (hpl : (backTo pos (starEach es X.env)).any (·.1) = false) :
    PE X (.Call (.Name x p) (e :: es) [] pos) (tOf G B E m fun ρ => (ew ρ).bind g) :=
  pe_of (pe_callB hc hg hm hv ha hn hdb he hpl) fun σ H Q ⟨os, ρ, l, S, q⟩ => ⟨os, ρ, l, S, (Rs.P_bind q).mono fun ws _ q vs H1 hl S1 => ⟨os, ρ, σ, l, ws, hl, S1, q⟩⟩
theorem r_callTy {x : Str} {T : String} {e : Expr} {es : List Expr} {p pos : Pos} {m : Bool} {ew : En → Rs (List W)} {g : List W → Rs W} (hc : CallR X (.type T) (rWs G B E m g)) (hg : Gl X x) (hm : X.mg x = none) (hv : bootBuiltins x = some (.type T)) (ha : PA X (e :: es) (tOfA G B E true ew))
    (hn : x ≠ "__name__") (hdb : (x == ("__debug__" : Str)) = false) (he : starEach (e :: es) X.env = (false, eval e X.env) :: starEach es X.env) (hpl : (backTo pos (starEach es X.env)).any (·.1) = false) :
    PE X (.Call (.Name x p) (e :: es) [] pos) (tOf G B E m fun ρ => (ew ρ).bind g) :=
  pe_of (pe_callTy hc hg hm hv ha hn hdb he hpl) fun σ H Q ⟨os, ρ, l, S, q⟩ => ⟨os, ρ, l, S, (Rs.P_bind q).mono fun ws _ q vs H1 hl S1 => ⟨os, ρ, σ, l, ws, hl, S1, q⟩⟩
theorem one_tm {os : Os} {ρ : En} {σ : L2.St} {H : Hp} {l : List Tm} {vs : List V} {w : W} (hl : vs.length = [w].length) (S : StV G B os ρ σ H (tms true vs [w] ++ l)) : ∃ v, vs = [v] ∧ StV G B os ρ σ H ((v, w, true) :: l) := by
  match vs, hl with
  | [v], _ => exact ⟨v, rfl, S⟩
theorem two_tm {os : Os} {ρ : En} {σ : L2.St} {H : Hp} {l : List Tm} {vs : List V} {w u : W} (hl : vs.length = [w, u].length) (S : StV G B os ρ σ H (tms true vs [w, u] ++ l)) : ∃ v z, vs = [v, z] ∧ StV G B os ρ σ H ((v, w, true) :: (z, u, true) :: l) := by
  match vs, hl with
  | [v, z], _ => exact ⟨v, z, rfl, S⟩
theorem c_len {m : Bool} (hG : G.K = X.K) : CallR X (.builtin "len") (rWs G B E m (wBi .len)) := by
  intro pins s σ H vs us Q I r ⟨os, ρ, σ', l, ws, hl, S, q⟩
  unfold wBi at q
  split at q <;> first | contradiction | skip
  · obtain ⟨v, rfl, S⟩ := one_tm hl S
    obtain ⟨a, ys, rfl, h1, h2⟩ := S.lst List.mem_cons_self
    refine call_len pins s σ H _ us Q I r ⟨_, _, rfl, .inl ⟨ys, hG ▸ h1, rfl⟩, ?_⟩
    rw [dpAll_len h2]
    exact q _ _ (S.reI (l' := [_]) rfl m _)
  · obtain ⟨v, rfl, S⟩ := one_tm hl S
    obtain ⟨a, ys, rfl, h1, h2⟩ := S.tup List.mem_cons_self
    refine call_len pins s σ H _ us Q I r ⟨_, _, rfl, .inr ⟨ys, hG ▸ h1, rfl⟩, ?_⟩
    rw [dpAll_len h2]
    exact q _ _ (S.reI (l' := [_]) rfl m _)
  · obtain ⟨v, rfl, S⟩ := one_tm hl S
    split at q
    · rename_i hf
      rw [S.str List.mem_cons_self] at r
      exact call_len pins s σ H _ us Q I r ⟨_, _, rfl, ⟨fits_le hf, rfl⟩, q _ _ (S.reI (l' := [_]) rfl m _)⟩
    · exact q.elim
theorem bools_dp {K : PySem.W.Frag} {F : Hp} : ∀ {ds : List PyData} {vs : List V} {bs : List Bool}, bools ds = some bs → DpAll K F vs ds → vs = bs.map V.bl
  | [], vs, bs, h, r => by cases h; cases r; rfl
  | d :: ds, vs, bs, h, r => by
    cases d with
    | bool b =>
      unfold bools at h
      split at h
      · rename_i cs e
        cases h
        cases r with
        | cons r1 r2 =>
          cases r1
          rw [bools_dp e r2]
          rfl
      · cases h
    | _ => cases h
theorem c_all {m : Bool} (hG : G.K = X.K) (hc : X.calm = true) : CallR X (.builtin "all") (rWs G B E m (wBi .all)) := by
  intro pins s σ H vs us Q I r ⟨os, ρ, σ', l, ws, hl, S, q⟩
  unfold wBi at q
  split at q <;> first | contradiction | skip
  obtain ⟨v, rfl, S⟩ := one_tm hl S
  obtain ⟨a, ys, rfl, h1, h2⟩ := S.lst List.mem_cons_self
  split at q
  · rename_i bs e
    rw [bools_dp e h2] at h1
    exact cr_all hc pins s σ H _ us Q I r ⟨a, bs, rfl, hG ▸ h1, q _ _ (S.reB (l' := [_]) rfl m _)⟩
  · exact q.elim
theorem c_any {m : Bool} (hG : G.K = X.K) (hc : X.calm = true) : CallR X (.builtin "any") (rWs G B E m (wBi .any)) := by
  intro pins s σ H vs us Q I r ⟨os, ρ, σ', l, ws, hl, S, q⟩
  unfold wBi at q
  split at q <;> first | contradiction | skip
  obtain ⟨v, rfl, S⟩ := one_tm hl S
  obtain ⟨a, ys, rfl, h1, h2⟩ := S.lst List.mem_cons_self
  split at q
  · rename_i bs e
    rw [bools_dp e h2] at h1
    exact cr_any hc pins s σ H _ us Q I r ⟨a, bs, rfl, hG ▸ h1, q _ _ (S.reB (l' := [_]) rfl m _)⟩
  · exact q.elim
theorem c_tuple {m : Bool} (hG : G.K = X.K) : CallR X (.type "tuple") (rWs G B E m (wBi .tuple)) := by
  intro pins s σ H vs us Q I r ⟨os, ρ, σ', l, ws, hl, S, q⟩
  unfold wBi at q
  split at q <;> first | contradiction | skip
  · obtain ⟨v, rfl, S⟩ := one_tm hl S
    obtain ⟨a, ys, rfl, h1, h2⟩ := S.lst List.mem_cons_self
    exact call_tuple_of pins s σ H _ us Q I r ⟨a, ys, rfl, .inl ⟨hG ▸ h1, fun p hp => q _ _ (S.tail.newT hp h2 m)⟩⟩
  · obtain ⟨v, rfl, S⟩ := one_tm hl S
    obtain ⟨a, ys, rfl, h1, h2⟩ := S.tup List.mem_cons_self
    exact call_tuple_of pins s σ H _ us Q I r ⟨a, ys, rfl, .inr ⟨hG ▸ h1, q _ _ (S.tail.pushW m (S.tupW List.mem_cons_self))⟩⟩
theorem c_list {m : Bool} (hG : G.K = X.K) : CallR X (.type "list") (rWs G B E m fun ws => match ws with
    | [.d (.list xs)] => .ok (.d (.list xs))
    | [.d (.tuple xs)] => .ok (.d (.list xs))
    | _ => .stuck) := by
  intro pins s σ H vs us Q I r ⟨os, ρ, σ', l, ws, hl, S, q⟩
  dsimp only at q
  split at q <;> first | contradiction | skip
  · obtain ⟨v, rfl, S⟩ := one_tm hl S
    obtain ⟨a, ys, rfl, h1, h2⟩ := S.lst List.mem_cons_self
    exact call_list_of pins s σ H _ us Q I r ⟨a, ys, rfl, .inl (hG ▸ h1), fun p hp => q _ _ (S.tail.newLf hp h2 m)⟩
  · obtain ⟨v, rfl, S⟩ := one_tm hl S
    obtain ⟨a, ys, rfl, h1, h2⟩ := S.tup List.mem_cons_self
    exact call_list_of pins s σ H _ us Q I r ⟨a, ys, rfl, .inr (hG ▸ h1), fun p hp => q _ _ (S.tail.newLf hp h2 m)⟩
theorem c_max2 {m : Bool} (hc : X.calm = true) : CallR X (.builtin "max") (rWs G B E m (wBi .max2)) := by
  intro pins s σ H vs us Q I r ⟨os, ρ, σ', l, ws, hl, S, q⟩
  unfold wBi at q
  split at q <;> first | contradiction | skip
  · obtain ⟨v, z, rfl, S⟩ := two_tm hl S
    have e1 := S.int List.mem_cons_self
    have e2 := S.tail.int List.mem_cons_self
    subst e1 e2
    exact call_max2 hc pins s σ H _ us Q I r ⟨_, _, rfl, q _ _ (S.reI (l' := [_, _]) rfl m _)⟩
theorem c_min2 {m : Bool} (hc : X.calm = true) : CallR X (.builtin "min") (rWs G B E m (wBi .min2)) := by
  intro pins s σ H vs us Q I r ⟨os, ρ, σ', l, ws, hl, S, q⟩
  unfold wBi at q
  split at q <;> first | contradiction | skip
  · obtain ⟨v, z, rfl, S⟩ := two_tm hl S
    have e1 := S.int List.mem_cons_self
    have e2 := S.tail.int List.mem_cons_self
    subst e1 e2
    exact call_min2 hc pins s σ H _ us Q I r ⟨_, _, rfl, q _ _ (S.reI (l' := [_, _]) rfl m _)⟩
/-! isinstance(x, T) -/
def BT.ty : BT → String
  | .int => "int"
  | .bool => "bool"
  | .str => "str"
  | .tuple => "tuple"
  | .list => "list"
def wTy : W → Option String
  | .d .none => some "NoneType"
  | .d (.bool _) => some "bool"
  | .d (.int _) => some "int"
  | .d (.str _) => some "str"
  | .d (.tuple _) => some "tuple"
  | .d (.list _) => some "list"
  | _ => none
theorem kitB_isi : ∀ (w : W) (t : BT) (T : String) (b : Bool), wTy w = some T → wIsi w t = .ok (.d (.bool b)) → kitB T t.ty = some b := by
  intro w t T b h1 h2
  cases w with
  | d x =>
    cases x <;> first
      | (cases h1; done)
      | (cases h1; cases h2; cases t <;> decide +kernel)
  | _ => cases h1
theorem tyX_of {os : Os} {ρ : En} {σ : L2.St} {H : Hp} {l : List Tm} {v : V} {w : W} {m : Bool} {T : String} (S : StV G B os ρ σ H ((v, w, m) :: l)) (h : wTy w = some T) : TyX G.K H v (.type T) := by
  have mv : (v, w, m) ∈ (v, w, m) :: l := List.mem_cons_self
  cases w with
  | d x =>
    cases x with
    | none => cases h; rw [S.non mv]; exact .base .non
    | bool b => cases h; rw [S.bl mv]; exact .base (.bl b)
    | int i => cases h; rw [S.int mv]; exact .base (.int i)
    | str z => cases h; rw [S.str mv]; exact .base (.str z)
    | list xs =>
      cases h
      obtain ⟨a, ys, rfl, h1, _⟩ := S.lst mv
      rcases h1 with (h1 | ⟨o, h1⟩) | ⟨o, _, _, h1, h2, _⟩
      · exact .base (.lst h1)
      · exact .base (.frz h1)
      · exact .kList h1 h2
    | tuple xs =>
      cases h
      obtain ⟨a, ys, rfl, h1, _⟩ := S.tup mv
      rcases h1 with (h1 | ⟨o, h1⟩) | ⟨o, _, _, h1, h2, _⟩
      · exact .base (.tup h1)
      · exact .fTuple h1
      · exact .kTuple h1 h2
    | dict _ => cases h
  | _ => cases h
theorem wIsi_ty {w : W} {t : BT} {k : W → Prop} {x : Str → Prop} (h : (wIsi w t).P k x) : ∃ b T, wTy w = some T ∧ wIsi w t = .ok (.d (.bool b)) ∧ k (.d (.bool b)) := by
  cases w with
  | d y => cases y <;> first | exact h.elim | exact ⟨_, _, rfl, rfl, h⟩
  | _ => exact h.elim
theorem r_isi {e c : Expr} {t : BT} {x : Str} {p pos : Pos} {m m' : Bool} {ev : En → Rs W} (hG : G.K = X.K) (h : PE X e (tOf G B E m ev)) (hc : PE X c (tC (.ty t.ty))) (hg : Gl X x) (hm : X.mg x = none) (hv : bootBuiltins x = some (.builtin "isinstance"))
    (hn : x ≠ "__name__") (hdb : (x == ("__debug__" : Str)) = false) (h1 : starEach [e, c] X.env = (false, eval e X.env) :: starEach [c] X.env) (h2 : starEach [c] X.env = (false, eval c X.env) :: starEach [] X.env) (hpl : (backTo pos (starEach [c] X.env)).any (·.1) = false) :
    PE X (.Call (.Name x p) [e, c] [] pos) (tOf G B E m' fun ρ => (ev ρ).bind fun y => wIsi y t) :=
  pe_of (pe_callB call_isi hg hm hv (pa_cons h (pa_cons hc pa_nil h2) h1) hn hdb h1 hpl) fun σ H Q ⟨os, ρ, l, S, q⟩ => ⟨os, ρ, l, S, (Rs.P_bind q).mono fun w _ q v H1 S1 => by
    obtain ⟨b, T, e1, e2, q⟩ := wIsi_ty q
    exact ⟨v, .ty t.ty, .type T, .type t.ty, b, rfl, .ty _, hG ▸ tyX_of S1 e1, kit_ty (kitB_isi w t T b e1 e2), q _ _ (S1.reB (l' := [_]) rfl m' _)⟩⟩

/-! ### subscripts -/
theorem atI_dp {K : PySem.W.Frag} {F : Hp} {xs : List V} {ds : List PyData} {i : Int} {d : PyData} (r : DpAll K F xs ds) (h : atI ds i = some d) : ∃ v, atI xs i = some v ∧ Dp K F v d := by
  unfold atI at h ⊢
  rw [dpAll_len r]
  cases e : ixN ds.length i with
  | none => rw [e] at h; cases h
  | some j =>
    rw [e] at h
    obtain ⟨v, h1, h2⟩ := dpAll_get2 r (i := j) (d := d) h
    exact ⟨v, h1, h2⟩
theorem o_ix {ma mb m : Bool} (hG : G.K = X.K) : IxR X (rW G B E ma mb m wIx) := by
  intro value slice pins s σ H x y v u Q I rx ry ⟨os, ρ, σ', l, wx, wy, S, q⟩ hs
  have mx : (x, wx, ma) ∈ (y, wy, mb) :: (x, wx, ma) :: l := List.mem_cons_of_mem _ List.mem_cons_self
  have my : (y, wy, mb) ∈ (y, wy, mb) :: (x, wx, ma) :: l := List.mem_cons_self
  unfold wIx at q
  split at q <;> first | contradiction | skip
  · obtain ⟨a, ys, rfl, h1, h2⟩ := S.lst mx
    split at q
    · rename_i d e
      obtain ⟨z, e1, e2⟩ := atI_dp h2 e
      exact ix_list value slice pins s σ H _ y v u Q I rx ry ⟨a, ys, _, z, rfl, S.int my, hG ▸ h1, e1, q _ _ (S.re (l' := [_, _]) rfl m (show Dp _ _ _ _ from e2))⟩ hs
    · exact q.elim
  · obtain ⟨a, ys, rfl, h1, h2⟩ := S.tup mx
    split at q
    · rename_i d e
      obtain ⟨z, e1, e2⟩ := atI_dp h2 e
      exact ix_tup value slice pins s σ H _ y v u Q I rx ry ⟨a, ys, _, z, rfl, S.int my, hG ▸ h1, e1, q _ _ (S.re (l' := [_, _]) rfl m (show Dp _ _ _ _ from e2))⟩ hs
    · exact q.elim
  · split at q
    · rename_i hf
      split at q
      · rename_i c e
        exact ix_str value slice pins s σ H x y v u Q I rx ry ⟨_, _, c, S.str mx, S.int my, fits_le hf, e, q _ _ (S.reS (l' := [_, _]) rfl m _)⟩ hs
      · exact q.elim
    · exact q.elim
theorem r_ix {a b : Expr} {pos : Pos} {ma mb m : Bool} {fa fb : En → Rs W} {g : W → W → Rs W} (ho : IxR X (rW G B E ma mb m g)) (ha : PE X a (tOf G B E ma fa)) (hb : PE X b (tOf G B E mb fb)) (hs : PlainIx b) :
    PE X (.Subscript a b pos) (tOf G B E m fun ρ => (fa ρ).bind fun x => (fb ρ).bind fun y => g x y) :=
  pe_of (pe_ix ho ha hb hs) fun σ H Q ⟨os, ρ, l, S, q⟩ => ⟨os, ρ, l, S, (Rs.P_bind q).mono fun wx _ q x H1 S1 => ⟨os, ρ, _, S1, (Rs.P_bind q).mono fun wy _ q y H2 S2 => ⟨os, ρ, σ, l, wx, wy, S2, q⟩⟩⟩
end
end Pz
namespace Pz
open PySem PySem.Spec PyProof.Rows L2 LamX
section
variable {X : Cx} {G : Gc} {B : Bs} {E : XK}

/-! ### slices -/
def tOfO (G : Gc) (B : Bs) (E : XK) (ev : En → Rs (Option Int)) : TO := fun σ H Q => ∃ os ρ l, StV G B os ρ σ H l ∧
  (ev ρ).P (fun o => ∀ H', StV G B os ρ σ H' l → Q o H') (XW G B E)
theorem po_of {e : Option Expr} {t t' : TO} (h : PO X e t) (i : ∀ σ H Q, t' σ H Q → t σ H Q) : PO X e t' := ⟨fun pins s σ H Q I hq => h.run pins s σ H Q I (i _ _ _ hq)⟩
theorem r_po0 : PO X none (tOfO G B E fun _ => .ok none) := po_of po_none fun σ H Q ⟨os, ρ, l, S, q⟩ => q H S
theorem r_po1 {e : Expr} {m : Bool} {ev : En → Rs W} (h : PE X e (tOf G B E m ev)) : PO X (some e) (tOfO G B E fun ρ => (ev ρ).bind fun w => optInt [w]) :=
  po_of (po_some h) fun σ H Q ⟨os, ρ, l, S, q⟩ => ⟨os, ρ, l, S, (Rs.P_bind q).mono fun w _ q v H1 S1 => by
    cases w with
    | d x =>
      cases x with
      | int i => exact ⟨i, S1.int List.mem_cons_self, q H1 S1.tail⟩
      | _ => exact q.elim
    | _ => exact q.elim⟩
theorem cutV_dp {K : PySem.W.Frag} {F : Hp} {xs : List V} {ds : List PyData} {lo hi : Option Int} (r : DpAll K F xs ds) : DpAll K F (cutV xs lo hi) (cutD ds lo hi) := by
  unfold cutV cutD
  rw [dpAll_len r]
  exact dpAll_take _ (dpAll_drop _ r)
def rSlW (G : Gc) (B : Bs) (E : XK) (ma m : Bool) : V → Option Int → Option Int → Hp → VK → Prop := fun x lo hi H Q => ∃ os ρ σ l wx, StV G B os ρ σ H ((x, wx, ma) :: l) ∧
  (wSl wx lo hi).P (fun w => ∀ z H', StV G B os ρ σ H' ((z, w, m) :: l) → Q z H') (XW G B E)
theorem s_sl {ma m : Bool} (hG : G.K = X.K) : SlR X (rSlW G B E ma m) := by
  intro pins s σ H x v vl vu lo hi sl Q I rx hs pl pu ⟨os, ρ, σ', l, wx, S, q⟩
  unfold wSl at q
  split at q <;> first | contradiction | skip
  · obtain ⟨a, ys, rfl, h1, h2⟩ := S.lst List.mem_cons_self
    exact sl_list pins s σ H _ v vl vu lo hi sl Q I rx hs pl pu ⟨a, ys, rfl, hG ▸ h1, fun p hp => q _ _ (S.tail.newLf hp (cutV_dp h2) m)⟩
  · rename_i ds
    obtain ⟨a, ys, rfl, h1, h2⟩ := S.tup List.mem_cons_self
    have hc := cutV_dp (lo := lo) (hi := hi) h2
    refine sl_tupA pins s σ H _ v vl vu lo hi sl Q I rx hs pl pu ⟨a, ys, rfl, hG ▸ h1, fun ⟨e1, e2⟩ => ?_, fun _ p hp => q _ _ (S.tail.newT hp hc m)⟩
    refine q _ _ (S.tail.pushW m ?_)
    have hw := S.tupW List.mem_cons_self
    have e3 : cutD ds lo hi = ds := by
      unfold cutD
      rw [← dpAll_len h2, e1, e2, List.drop_zero, Nat.sub_zero, dpAll_len h2, List.take_length]
    rw [e3]
    exact hw
  · split at q
    · rename_i hf
      exact sl_str pins s σ H x v vl vu lo hi sl Q I rx hs pl pu ⟨_, S.str List.mem_cons_self, fits_le hf, q _ _ (S.reS (l' := [_]) rfl m _)⟩
    · exact q.elim
theorem r_sl {e : Expr} {lo hi : Option Expr} {p2 pos : Pos} {ma m : Bool} {fa : En → Rs W} {fl fh : En → Rs (Option Int)} (hG : G.K = X.K) (ha : PE X e (tOf G B E ma fa)) (hl : PO X lo (tOfO G B E fl)) (hh : PO X hi (tOfO G B E fh)) :
    PE X (.Subscript e (.Slice lo hi none p2) pos) (tOf G B E m fun ρ => (fa ρ).bind fun x => (fl ρ).bind fun i => (fh ρ).bind fun j => wSl x i j) :=
  pe_of (pe_slice (s_sl hG) ha hl hh) fun σ H Q ⟨os, ρ, l, S, q⟩ => ⟨os, ρ, l, S, (Rs.P_bind q).mono fun wx _ q x H1 S1 => ⟨os, ρ, _, S1, (Rs.P_bind q).mono fun i _ q H2 S2 =>
    ⟨os, ρ, _, S2, (Rs.P_bind q).mono fun j _ q H3 S3 => ⟨os, ρ, σ, l, wx, S3, q⟩⟩⟩⟩

/-! ### a chain of two comparisons -/
theorem r_ch {op op' : CmpOp} {a b c : Expr} {pos : Pos} {m : Bool} {fa fb fc : En → Rs W} {g g' : W → W → Rs Bool} (ho : OpR X (compareOp op) (rW G B E true true false fun x y => rBl (g x y))) (ho' : OpR X (compareOp op') (rW G B E true true m fun x y => rBl (g' x y)))
    (ha : PE X a (tOf G B E true fa)) (hb : PE X b (tOf G B E true fb)) (hc : PE X c (tOf G B E true fc)) (hm : lastMarks [op, op'] [b, c] = false) :
    PE X (.Compare a [op, op'] [b, c] pos) (tOf G B E m fun ρ => (fa ρ).bind fun x => (fb ρ).bind fun y => (g x y).bind fun k => if k then (fc ρ).bind fun z => rBl (g' y z) else .ok (.d (.bool false))) := by
  refine pe_of (pe_chain ho ho' ha hb hc hm) fun σ H Q ⟨os, ρ, l, S, q⟩ => ⟨os, ρ, l, S, (Rs.P_bind q).mono fun wx _ q x H1 S1 => ⟨os, ρ, _, S1, (Rs.P_bind q).mono fun wy _ q y H2 S2 => ?_⟩⟩
  have q := Rs.P_bind q
  refine ⟨os, ρ, σ, (y, wy, true) :: l, wx, wy, S2.sub (fun t ht => ?_), ?_⟩
  · simp only [List.mem_cons] at ht ⊢
    rcases ht with h | h | h | h
    · exact .inl h
    · exact .inr (.inl h)
    · exact .inl h
    · exact .inr (.inr h)
  · show (rBl (g wx wy)).P _ _
    cases e : g wx wy with
    | ok k =>
      rw [e] at q
      refine fun z H3 S3 => ⟨k, S3.bl List.mem_cons_self, ?_⟩
      cases k with
      | true => exact ⟨os, ρ, (y, wy, true) :: l, S3.tail, (Rs.P_bind q).mono fun wz _ q z' H4 S4 => ⟨os, ρ, σ, l, wy, wz, S4, q⟩⟩
      | false => exact q _ _ (S3.reB (l' := [_, _]) rfl m _)
    | exc y => rw [e] at q; exact q
    | stuck => rw [e] at q; exact q

/-! ### a def's call -/
/-- what a def promises: g of its arguments -/
def spF (G : Gc) (n : Nat) (g : List W → Rs W) : Sp := fun vs H Q E => vs.length = n ∧ ∃ (os : Os) (ws : List W), (∀ p t, os p = some t → OwnAt H p) ∧ Paired (RepW G (frz os H)) vs ws ∧ Tabs G.T (frz os H) ∧
  (g ws).P (fun w => ∀ v H', Gr H H' → Tabs G.T (frz os H') → RepW G (frz os H') v w → Q v H') (fun x => ∀ H' C, Gr H H' → Tabs G.T (frz os H') → G.mg x = some (.ref C) → E (.ref C) none H')
theorem tms_rep {os : Os} {ρ : En} {σ : L2.St} {H : Hp} {l : List Tm} : ∀ {vs : List V} {ws : List W}, vs.length = ws.length → StV G B os ρ σ H (tms false vs ws ++ l) → Paired (RepW G (frz os H)) vs ws
  | [], [], _, _ => .nil
  | v :: vs, w :: ws, hl, S => .cons (S.repW List.mem_cons_self) (tms_rep (by simpa using hl) (S.sub fun t ht => List.mem_cons_of_mem _ ht))
  | [], _ :: _, hl, _ => by simp at hl
  | _ :: _, [], hl, _ => by simp at hl
theorem StV.tabs0 {os : Os} {ρ : En} {σ : L2.St} {H H' : Hp} {l : List Tm} (S : StV G B os ρ σ H l) (t : Tabs G.T (frz os H')) : Tabs G.T (frz B.os0 H') :=
  t.ext (frz_fe (fun a h => by
    cases e : B.os0 a with
    | none => rfl
    | some t => rw [S.fo a t e] at h; cases h) (FE.refl H'))
theorem r_call {x : Str} {fa : Addr} {fd : FuncData} {ps : List Str} {k n : Nat} {g : List W → Rs W} {e : Expr} {es : List Expr} {p pos : Pos} {m : Bool} {ew : En → Rs (List W)} (F : FnOk X.prog X.w X.K X.mg X.base (L2.CX X.prog X.w) k fa fd ps (spF G n g)) (hr : Room k X.A) (hg : Gl X x) (hm : X.mg x = some (.ref fa))
    (hk : PySem.W.keepIn X.K (.ref fa) = true) (hb : Binds X.K fd ps []) (hx : Passes (L2.CX X.prog X.w) X E) (ha : PA X (e :: es) (tOfA G B E false ew)) (hdb : (x == ("__debug__" : Str)) = false)
    (he : starEach (e :: es) X.env = (false, eval e X.env) :: starEach es X.env) (hpl : (backTo pos (starEach es X.env)).any (·.1) = false) (hn : ∀ ρ ws, ew ρ = .ok ws → ws.length = n) :
    PE X (.Call (.Name x p) (e :: es) [] pos) (tOf G B E m fun ρ => (ew ρ).bind g) := by
  refine pe_of (pe_call F hr hg hm hk hb .nil hx ha hdb he hpl) fun σ H Q ⟨os, ρ, l, S, q⟩ => ⟨os, ρ, l, S, (Rs.P_bind q).mono fun ws ew q vs H1 hl S1 => ?_⟩
  show spF G n g (vs ++ []) H1 Q E
  rw [List.append_nil]
  have S2 := S1.sub (l' := l) fun t ht => List.mem_append_right _ ht
  refine ⟨by rw [hl]; exact hn _ _ ew, os, ws, S1.od, tms_rep hl S1, S1.tabs, ?_⟩
  cases e2 : g ws with
  | ok w =>
    rw [e2] at q
    exact fun v H' gr tb rv => q v H' ((S2.grow gr tb).pushW m rv)
  | exc y =>
    rw [e2] at q
    exact fun H' C gr tb hC => q H' C (S2.base.trans gr) (S2.tabs0 tb) hC
  | stuck => rw [e2] at q; exact q
theorem r_call0 {x : Str} {fa : Addr} {fd : FuncData} {ps : List Str} {k : Nat} {g : List W → Rs W} {p pos : Pos} {m : Bool} (F : FnOk X.prog X.w X.K X.mg X.base (L2.CX X.prog X.w) k fa fd ps (spF G 0 g)) (hr : Room k X.A) (hg : Gl X x) (hm : X.mg x = some (.ref fa))
    (hk : PySem.W.keepIn X.K (.ref fa) = true) (hb : Binds X.K fd ps []) (hx : Passes (L2.CX X.prog X.w) X E) (hdb : (x == ("__debug__" : Str)) = false) :
    PE X (.Call (.Name x p) [] [] pos) (tOf G B E m fun _ => g []) := by
  refine pe_of (pe_call0 F hr hg hm hk hb .nil hx hdb) fun σ H Q ⟨os, ρ, l, S, q⟩ => ?_
  refine ⟨rfl, os, [], S.od, .nil, S.tabs, ?_⟩
  cases e2 : g [] with
  | ok w =>
    rw [e2] at q
    exact fun v H' gr tb rv => q v H' ((S.grow gr tb).pushW m rv)
  | exc y =>
    rw [e2] at q
    exact fun H' C gr tb hC => q H' C (S.base.trans gr) (S.tabs0 tb) hC
  | stuck => rw [e2] at q; exact q
end

/-! ### what is walked -/
/-- J walks xs while the temporaries tm are kept -/
structure Walks' (G : Gc) (B : Bs) (J : It) (tm : List Tm) (xs : List PyData) : Prop where
  go : ∀ {os : Os} {ρ : En} {σ : L2.St} {H : Hp} {l : List Tm} {i : Nat}, StV G B os ρ σ H l → (∀ t ∈ tm, t ∈ l) → i < xs.length → J.go i H
  yld : ∀ {os : Os} {ρ : En} {σ : L2.St} {H : Hp} {l : List Tm} {i : Nat} {x : V} {H' : Hp}, StV G B os ρ σ H l → (∀ t ∈ tm, t ∈ l) → J.yld i H x H' → ∀ d, xs[i]? = some d → StV G B os ρ σ H' ((x, .d d, false) :: l)
  stop : ∀ {os : Os} {ρ : En} {σ : L2.St} {H : Hp} {l : List Tm} {i : Nat}, StV G B os ρ σ H l → (∀ t ∈ tm, t ∈ l) → xs.length ≤ i → J.stop i H
def tOfI (G : Gc) (B : Bs) (E : XK) (m : Bool) (ev : En → Rs W) : TI := fun σ H R => ∃ os ρ l, StV G B os ρ σ H l ∧
  ((ev ρ).bind items).P (fun xs => ∀ J H' tm, (m = false → ∀ t ∈ tm, t.2.2 = false) → StV G B os ρ σ H' (tm ++ l) → Walks' G B J tm xs → xs.length ≤ sizeLine → R J H') (XW G B E)
def SzOk (K : PySem.W.Frag) (H : Hp) : Prop := ∀ a xs, (SqL K H a xs ∨ SqT K H a xs) → xs.length ≤ sizeLine
section
variable {X : Cx} {G : Gc} {B : Bs} {E : XK} {tg : Expr}
theorem pi_sz {iter : Expr} {wi wi' : TI} (h : PI X tg iter wi) (i : ∀ σ H R, wi' σ H R → wi σ H fun J H1 => SzOk X.K H1 → R J H1) : PI X tg iter wi' :=
  ⟨fun pins s σ H R I hq => by
    refine thn (h.run pins s σ H _ I (i _ _ _ hq)) fun v s1 h1 => thn h1 fun itv s2 ⟨it, fp, tn, J, H', e1, I2, T, t0, f, r⟩ => ⟨it, fp, tn, J, H', e1, I2, T, t0, f, r ?_⟩
    rintro a xs (h | h)
    · obtain ⟨_, _, _, z⟩ := I2.list h; exact z
    · obtain ⟨_, _, _, z⟩ := I2.tuple h; exact z⟩
theorem walks_list {m : Bool} {a : Addr} {ds : List PyData} : Walks' G B (Itl G.K a) [(V.ref a, W.d (.list ds), m)] ds where
  go := fun {os ρ σ H l i} S ht hi => by
    obtain ⟨a', ys, e, h1, h2⟩ := S.lst (ht _ List.mem_cons_self)
    cases e
    obtain ⟨v, q1, q2⟩ := dpAll_get2 h2 (List.getElem?_eq_getElem hi)
    exact ⟨ys, v, h1, q1⟩
  yld := fun {os ρ σ H l i x H'} S ht hy d hd => by
    obtain ⟨e, hy⟩ := hy
    subst e
    obtain ⟨a', ys, e, h1, h2⟩ := S.lst (ht _ List.mem_cons_self)
    cases e
    obtain ⟨d', q1, q2⟩ := dpAll_get h2 (hy ys h1)
    rw [hd] at q1
    cases q1
    exact S.pushW false q2
  stop := fun {os ρ σ H l i} S ht hi => by
    obtain ⟨a', ys, e, h1, h2⟩ := S.lst (ht _ List.mem_cons_self)
    cases e
    exact ⟨ys, h1, by rw [dpAll_len h2]; exact hi⟩
theorem walks_tup {m : Bool} {a : Addr} {ds : List PyData} : Walks' G B (Itt G.K a) [(V.ref a, W.d (.tuple ds), m)] ds where
  go := fun {os ρ σ H l i} S ht hi => by
    obtain ⟨a', ys, e, h1, h2⟩ := S.tup (ht _ List.mem_cons_self)
    cases e
    obtain ⟨v, q1, q2⟩ := dpAll_get2 h2 (List.getElem?_eq_getElem hi)
    exact ⟨ys, v, h1, q1⟩
  yld := fun {os ρ σ H l i x H'} S ht hy d hd => by
    obtain ⟨e, hy⟩ := hy
    subst e
    obtain ⟨a', ys, e, h1, h2⟩ := S.tup (ht _ List.mem_cons_self)
    cases e
    obtain ⟨d', q1, q2⟩ := dpAll_get h2 (hy ys h1)
    rw [hd] at q1
    cases q1
    exact S.pushW false q2
  stop := fun {os ρ σ H l i} S ht hi => by
    obtain ⟨a', ys, e, h1, h2⟩ := S.tup (ht _ List.mem_cons_self)
    cases e
    exact ⟨ys, h1, by rw [dpAll_len h2]; exact hi⟩
/-- a list walked: only where the value is known to be one -/
def seqKind (w : W) : Bool := match w with
  | .d (.tuple _) => true
  | _ => false
theorem PI.orr {iter : Expr} {w1 w2 : TI} (h1 : PI X tg iter w1) (h2 : PI X tg iter w2) : PI X tg iter fun σ H R => w1 σ H R ∨ w2 σ H R :=
  ⟨fun pins s σ H R I hq => hq.elim (h1.run pins s σ H R I) (h2.run pins s σ H R I)⟩
theorem walks_str {x : Str} : Walks' G B (Its x) [] (x.cps.toList.map fun c => PyData.str ⟨#[c]⟩) where
  go := fun {os ρ σ H l i} S ht hi => by
    show i < x.cps.size
    simpa using hi
  yld := fun {os ρ σ H l i y H'} S ht hy d hd => by
    obtain ⟨e, c, h1, h2⟩ := hy
    subst e h2
    rw [List.getElem?_map, Array.getElem?_toList, h1] at hd
    cases hd
    exact S.reS (l' := []) rfl false _
  stop := fun {os ρ σ H l i} S ht hi => by
    show x.cps.size ≤ i
    simpa using hi
theorem walks_range {lo : Int} {n : Nat} : Walks' G B (Itr lo n) [] ((List.range n).map fun (i : Nat) => PyData.int (lo + (i : Int))) where
  go := fun {os ρ σ H l i} S ht hi => by
    show i < n
    simpa using hi
  yld := fun {os ρ σ H l i y H'} S ht hy d hd => by
    obtain ⟨e, h2⟩ := hy
    subst e h2
    rw [List.getElem?_map] at hd
    by_cases hi : i < n
    · rw [List.getElem?_range hi] at hd
      cases hd
      exact S.reI (l' := []) rfl false _
    · rw [List.getElem?_eq_none (by simpa using hi)] at hd
      cases hd
  stop := fun {os ρ σ H l i} S ht hi => by
    show n ≤ i
    simpa using hi
/-- an expression walked: a list, a tuple, a text -/
theorem r_it {e : Expr} {m : Bool} {ev : En → Rs W} (hG : G.K = X.K) (h : PE X e (tOf G B E m ev))   : PI X tg e (tOfI G B E m ev) := by
  refine pi_sz (PI.orr (pi_list h) (PI.orr (pi_tup h) (pi_str h))) fun σ H R ⟨os, ρ, l, S, q⟩ => ?_
  have q := Rs.P_bind q
  cases e1 : ev ρ with
  | stuck => rw [e1] at q; exact q.elim
  | exc y => rw [e1] at q; exact .inl ⟨os, ρ, l, S, by show (ev ρ).P _ _; rw [e1]; exact q⟩
  | ok w =>
    rw [e1] at q
    cases w with
    | d x =>
      cases x with
      | list xs =>
        refine .inl ⟨os, ρ, l, S, ?_⟩
        show (ev ρ).P _ _
        rw [e1]
        intro v H1 S1
        obtain ⟨a, ys, rfl, h1, h2⟩ := S1.lst List.mem_cons_self
        refine ⟨a, rfl, ⟨ys, hG ▸ h1⟩, fun z => ?_⟩
        rw [← hG]
        exact q _ H1 [_] (fun e t ht => by
          have e2 : t = _ := List.mem_singleton.mp ht
          rw [e2]; exact e) S1 walks_list (by rw [← dpAll_len h2]; exact z a ys (.inl (hG ▸ h1)))
      | tuple xs =>
        refine .inr (.inl ⟨os, ρ, l, S, ?_⟩)
        show (ev ρ).P _ _
        rw [e1]
        intro v H1 S1
        obtain ⟨a, ys, rfl, h1, h2⟩ := S1.tup List.mem_cons_self
        refine ⟨a, rfl, ⟨ys, hG ▸ h1⟩, fun z => ?_⟩
        rw [← hG]
        exact q _ H1 [_] (fun e t ht => by
          have e2 : t = _ := List.mem_singleton.mp ht
          rw [e2]; exact e) S1 walks_tup (by rw [← dpAll_len h2]; exact z a ys (.inr (hG ▸ h1)))
      | str x =>
        refine .inr (.inr ⟨os, ρ, l, S, ?_⟩)
        show (ev ρ).P _ _
        rw [e1]
        intro v H1 S1
        refine ⟨x, S1.str List.mem_cons_self, fun z => ?_⟩
        have q : (if fits x.length then Rs.ok (x.cps.toList.map fun c => PyData.str ⟨#[c]⟩) else .stuck).P _ _ := q
        by_cases hf : fits x.length = true
        · rw [if_pos hf] at q
          exact q _ H1 [] (fun _ t ht => absurd ht (by simp)) S1.tail walks_str (by rw [List.length_map, Array.length_toList]; exact fits_le hf)
        · rw [if_neg hf] at q; exact q.elim
      | _ => exact q.elim
    | it l =>
      refine .inl ⟨os, ρ, _, S, ?_⟩
      show (ev ρ).P _ _
      rw [e1]
      intro v H1 S1
      rcases S1.tm _ List.mem_cons_self with z | ⟨_, p', i, _, z⟩
      · exact (show False from z).elim
      · exact ((S1.cs p' i _ z).1).elim
    | _ => exact q.elim
theorem r_rng {x : Str} {e : Expr} {p pos : Pos} {m m' : Bool} {ev : En → Rs W} (ex : x = "range") (h : PE X e (tOf G B E m ev)) (hg : Gl X x) (hm : X.mg x = none) (hs : starEach [e] X.env = (false, eval e X.env) :: starEach [] X.env) :
    PI X tg (.Call (.Name x p) [e] [] pos) (tOfI G B E m' fun ρ => (ev ρ).bind fun y => (wRng y).bind fun xs => .ok (.it xs)) := by
  subst ex
  refine pi_sz (pi_range1 hg hm (pa_cons h pa_nil hs) (by rw [hs]; rfl)) fun σ H R ⟨os, ρ, l, S, q⟩ => ⟨os, ρ, l, S, (Rs.P_bind (Rs.P_bind q)).mono fun w _ q v H1 S1 => ?_⟩
  cases w with
  | d x =>
    cases x with
    | int n =>
      have q : ((if fits n.toNat && decide (-(4611686018427387904) ≤ n) then Rs.ok ((List.range n.toNat).map fun (i : Nat) => PyData.int (0 + (i : Int))) else .stuck).bind fun xs => (.ok (Pz.W.it xs) : Rs Pz.W)).P _ _ := q
      by_cases hf : (fits n.toNat && decide (-(4611686018427387904) ≤ n)) = true
      · rw [if_pos hf] at q
        obtain ⟨f1, f2⟩ := Bool.and_eq_true_iff.mp hf
        have f3 := fits_le f1
        have f2 := of_decide_eq_true f2
        rw [sizeLine_eq] at f3
        refine ⟨n, by rw [S1.int List.mem_cons_self], by omega, by omega, fun z => ?_⟩
        exact q _ H1 [] (fun _ t ht => absurd ht (by simp)) S1.tail walks_range (by rw [List.length_map, List.length_range]; exact fits_le f1)
      · rw [if_neg hf] at q; exact q.elim
    | _ => exact q.elim
  | _ => exact q.elim
end
end Pz
namespace Pz
open PySem PySem.Spec PyProof.Rows L2 LamX

/-! ### targets -/
def gAll : List Nat → TGs
  | [] => gNil
  | i :: is => gCons (gName i) (gAll is)
def tgR (K : PySem.W.Frag) : Tg → TG
  | .n i => gName i
  | .t is => gTup K is.length (gAll is)
theorem wipe_set_comm {σ : L2.St} {i : Nat} {x : Option V} : ∀ vs : List Nat, i ∉ vs → L2.wipe (σ.set i x) vs = (L2.wipe σ vs).set i x
  | [], _ => rfl
  | v :: vs, h => by
    simp only [List.mem_cons, not_or] at h
    show (L2.wipe (σ.set i x) vs).set v none = ((L2.wipe σ vs).set v none).set i x
    rw [wipe_set_comm vs h.2, List.set_comm _ _ h.1]
theorem wipe_set {σ : L2.St} {i : Nat} {x : Option V} : ∀ vs : List Nat, i ∈ vs → L2.wipe (σ.set i x) vs = L2.wipe σ vs
  | [], h => by simp at h
  | v :: vs, h => by
    show (L2.wipe (σ.set i x) vs).set v none = (L2.wipe σ vs).set v none
    by_cases hi : i ∈ vs
    · rw [wipe_set vs hi]
    · have e : i = v := by
        rcases List.mem_cons.mp h with e | h
        · exact e
        · exact absurd h hi
      subst e
      rw [wipe_set_comm vs hi, List.set_set]
theorem put_put {os : Os} {p : Addr} {t t' : OT} : (os.put p t).put p t' = os.put p t' := by
  funext a
  unfold Os.put
  split <;> rfl
theorem bindAll_len : ∀ {is : List Nat} {ds : List PyData} {ρ ρ' : En}, bindAll ρ is ds = .ok ρ' → is.length = ds.length
  | [], [], _, _, _ => rfl
  | i :: is, d :: ds, ρ, ρ', h => by simp [bindAll_len (is := is) (ds := ds) h]
  | [], _ :: _, _, _, h => by cases h
  | _ :: _, [], _, _, h => by cases h
section
variable {G : Gc} {B : Bs} {E : XK} {os : Os} {H : Hp} {l : List Tm}
theorem gAll_bind {vs0 : List Nat} {Q : L2.St → Hp → Prop} : ∀ {is : List Nat} {ds : List PyData} {vs : List V} {ρ ρ' : En} {σ : L2.St}, StV G B os ρ σ H l → DpAll G.K (frz os H) vs ds → bindAll ρ is ds = .ok ρ' → (∀ i ∈ is, i < σ.length) → (∀ i ∈ is, i ∈ vs0) →
    (∀ σ', StV G B os ρ' σ' H l → L2.wipe σ' vs0 = L2.wipe σ vs0 → Q σ' H) → gAll is vs σ H Q
  | [], [], vs, ρ, ρ', σ, S, r, h, _, _, q => by
    cases r
    cases h
    exact ⟨rfl, q σ S rfl⟩
  | i :: is, d :: ds, vs, ρ, ρ', σ, S, r, h, hi, hv, q => by
    cases r with
    | cons r1 r2 =>
      rename_i v vs
      refine ⟨v, vs, rfl, ?_⟩
      show gAll is vs (σ.set i (some v)) H Q
      refine gAll_bind (S.bind (m := false) (show RepW G _ _ (.d d) from r1) (hi i List.mem_cons_self)) r2 h (fun j hj => by rw [List.length_set]; exact hi j (List.mem_cons_of_mem _ hj)) (fun j hj => hv j (List.mem_cons_of_mem _ hj)) fun σ' S' e => q σ' S' ?_
      rw [e, wipe_set vs0 (hv i List.mem_cons_self)]
  | [], _ :: _, _, _, _, _, _, _, h, _, _, _ => by cases h
  | _ :: _, [], _, _, _, _, _, _, h, _, _, _ => by cases h
theorem tg_bind {vs0 : List Nat} {Q : L2.St → Hp → Prop} {tg : Tg} {d : PyData} {v : V} {ρ ρ' : En} {σ : L2.St} (S : StV G B os ρ σ H ((v, .d d, false) :: l)) (h : bindT ρ tg d = .ok ρ') (hi : ∀ i ∈ tg.is, i < σ.length) (hv : ∀ i ∈ tg.is, i ∈ vs0)
    (q : ∀ σ', StV G B os ρ' σ' H l → L2.wipe σ' vs0 = L2.wipe σ vs0 → Q σ' H) : tgR G.K tg v σ H Q := by
  cases tg with
  | n i =>
    cases h
    exact q _ (S.tail.bind (m := false) (S.repW List.mem_cons_self) (hi i List.mem_cons_self)) (wipe_set vs0 (hv i List.mem_cons_self))
  | t is =>
    cases d with
    | tuple ds =>
      have h : bindAll ρ is ds = .ok ρ' := h
      obtain ⟨a, xs, rfl, h1, h2⟩ := S.tup List.mem_cons_self
      have hl : xs.length = is.length := by rw [dpAll_len h2]; exact (bindAll_len h).symm
      exact ⟨a, xs, rfl, h1, hl, gAll_bind S.tail h2 h hi hv q⟩
    | _ => cases h
theorem gAll_store {Q : L2.St → Hp → Prop} (hl : ∀ t ∈ l, t.2.2 = false) : ∀ {is : List Nat} {ds : List PyData} {vs : List V} {os : Os} {ρ ρ' : En} {σ : L2.St}, StV G B os ρ σ H l → DpAll G.K (frz os H) vs ds → bindAll ρ is ds = .ok ρ' → (∀ i ∈ is, i < σ.length) →
    (∀ os' σ', StV G B os' ρ' σ' H l → Q σ' H) → gAll is vs σ H Q
  | [], [], vs, os, ρ, ρ', σ, S, r, h, _, q => by
    cases r
    cases h
    exact ⟨rfl, q os σ S⟩
  | i :: is, d :: ds, vs, os, ρ, ρ', σ, S, r, h, hi, q => by
    cases r with
    | cons r1 r2 =>
      rename_i v vs
      refine ⟨v, vs, rfl, ?_⟩
      show gAll is vs (σ.set i (some v)) H Q
      exact gAll_store hl (S.store (m := false) (show RepW G _ _ (.d d) from r1) (hi i List.mem_cons_self) hl) (dpAll_ext frz_drop_ext _ _ r2) h (fun j hj => by rw [List.length_set]; exact hi j (List.mem_cons_of_mem _ hj)) q
  | [], _ :: _, _, _, _, _, _, _, _, h, _, _ => by cases h
  | _ :: _, [], _, _, _, _, _, _, _, h, _, _ => by cases h
theorem tg_store {Q : L2.St → Hp → Prop} {tg : Tg} {d : PyData} {v : V} {ρ ρ' : En} {σ : L2.St} (hl : ∀ t ∈ l, t.2.2 = false) (S : StV G B os ρ σ H ((v, .d d, false) :: l)) (h : bindT ρ tg d = .ok ρ') (hi : ∀ i ∈ tg.is, i < σ.length)
    (q : ∀ os' σ', StV G B os' ρ' σ' H l → Q σ' H) : tgR G.K tg v σ H Q := by
  cases tg with
  | n i =>
    cases h
    exact q _ _ (S.tail.store (m := false) (S.repW List.mem_cons_self) (hi i List.mem_cons_self) hl)
  | t is =>
    cases d with
    | tuple ds =>
      have h : bindAll ρ is ds = .ok ρ' := h
      obtain ⟨a, xs, rfl, h1, h2⟩ := S.tup List.mem_cons_self
      exact ⟨a, xs, rfl, h1, by rw [dpAll_len h2]; exact (bindAll_len h).symm, gAll_store hl S.tail h2 h hi q⟩
    | _ => cases h
end

/-! ### list comprehensions -/
section
variable {G : Gc} {B : Bs} {E : XK} {os os' : Os} {ρ : En} {σ : L2.St} {H H' : Hp} {l : List Tm}
theorem StV.back' {ρ' : En} {σ' : L2.St} (S : StV G B os ρ σ H l) (S' : StV G B os' ρ' σ' H' (slotTms ρ σ ++ l)) (hm : ∀ p i w, os p = some (OT.slot i w) → os' p = some (OT.slot i w)) : StV G B os' ρ σ H' l := by
  refine ⟨S.len, fun i w h => ?_, fun i w h => ?_, S'.cs, S'.ct, S'.od, S'.base, S'.fo, S'.tabs, fun t ht => S'.tm t (List.mem_append_right _ ht)⟩
  · obtain ⟨v, h1, _⟩ := S.va i w h
    refine ⟨v, h1, ?_⟩
    have hmem : ((v, w, false) : Tm) ∈ slotTms ρ σ := List.mem_filterMap.mpr ⟨(.va w, some v), List.mem_of_getElem? (i := i) (List.getElem?_zip_eq_some.mpr ⟨h, h1⟩), rfl⟩
    exact S'.repW (List.mem_append_left _ hmem)
  · obtain ⟨p, h1, h2⟩ := S.mu i w h
    exact ⟨p, h1, hm p i w h2⟩
end
/-- no error leaves -/
abbrev noE : XK := fun _ _ _ => False
theorem wipe_idem {σ : L2.St} : ∀ vs : List Nat, L2.wipe (L2.wipe σ vs) vs = L2.wipe σ vs
  | [] => rfl
  | v :: vs => by
    show (L2.wipe ((L2.wipe σ vs).set v none) vs).set v none = (L2.wipe σ vs).set v none
    by_cases h : v ∈ vs
    · rw [wipe_set vs h, wipe_idem vs]
    · rw [wipe_set_comm vs h, List.set_set, wipe_idem vs]
theorem Rs.P_bind' {α β : Type} {r : Rs α} {f : α → Rs β} {k : β → Prop} {x : Str → Prop} (h : r.P (fun a => (f a).P k x) x) : (r.bind f).P k x := by
  cases r <;> exact h
theorem pe_len {X : Cx} {e : Expr} {t t' : TE} (h : PE X e t) (i : ∀ σ H Q, σ.length = X.N.length → t' σ H Q → t σ H Q) : PE X e t' := ⟨fun pins s σ H Q I hq => h.run pins s σ H Q I (i _ _ _ I.len hq)⟩
theorem lcF_nexc {f : PyData → Rs (Option W)} {x : Str} : ∀ xs, lcF f xs ≠ .exc x
  | [] => fun h => by cases h
  | y :: ys => fun h => by
    unfold lcF at h
    split at h
    · exact lcF_nexc ys h
    · split at h <;> cases h
    · cases h
theorem lcF_cons {f : PyData → Rs (Option W)} {x : PyData} {xs ds : List PyData} (h : lcF f (x :: xs) = .ok ds) : (f x = .ok none ∧ lcF f xs = .ok ds) ∨ ∃ d r, f x = .ok (some (.d d)) ∧ lcF f xs = .ok r ∧ ds = d :: r := by
  unfold lcF at h
  split at h
  · rename_i e; exact .inl ⟨e, h⟩
  · rename_i d e
    split at h
    · rename_i r e2
      cases h
      exact .inr ⟨d, r, e, e2, rfl⟩
    · cases h
  · cases h
def lcTurn (fT : En → Rs Bool) (fE : En → Rs W) (tg : Tg) (ρ : En) (x : PyData) : Rs (Option W) :=
  (bindT (wipeE ρ tg.is) tg x).bind fun ρ' => (fT ρ').bind fun b => if b then (fE ρ').bind fun y => .ok (some y) else .ok none
theorem Rs.bind_ok_of {α β : Type} {r : Rs α} {f : α → Rs β} {b : β} (h : r.bind f = .ok b) : ∃ a, r = .ok a ∧ f a = .ok b := by
  cases r with
  | ok a => exact ⟨a, rfl, h⟩
  | exc c => cases h
  | stuck => cases h
theorem P_of_ok {α : Type} {r : Rs α} {a : α} {k : α → Prop} {x : Str → Prop} (h : r = .ok a) (q : k a) : r.P k x := by rw [h]; exact q
section
variable {G : Gc} {B : Bs} {E : XK}
/-- the reading of a list comprehension -/
theorem lc_read {m : Bool} {tg : Tg} {fI : En → Rs W} {fT : En → Rs Bool} {fE : En → Rs W} {σ : L2.St} {H : Hp} {Q : VK} (hlen : ∀ i ∈ tg.is, i < σ.length)
    (h : tOfN G B E (fun ρ => (fI ρ).bind fun wi => (items wi).bind fun xs => (lcF (lcTurn fT fE tg ρ) xs).bind fun ds => .ok (.d (.list ds))) σ H Q) :
    tLc (tOfI G B E m fI) (tgR G.K tg) (tOfT G B noE fT) (tOf G B noE false fE) tg.is σ H Q := by
  obtain ⟨os, ρ, l, S, q⟩ := h
  refine ⟨os, ρ, l, S, Rs.P_bind' ((Rs.P_bind q).mono fun wi _ q => (Rs.P_bind q).mono fun xs _ q J H1 tm _ S1 Wk hz D hD => ?_)⟩
  have hos := S1.fresh hD
  have q := Rs.P_bind q
  cases e : lcF (lcTurn fT fE tg ρ) xs with
  | stuck => rw [e] at q; exact q.elim
  | exc y => exact absurd e (lcF_nexc xs)
  | ok ds =>
    rw [e] at q
    have S2 := S1.own hD (o := .lst []) (w := .d (.list [])) ⟨[], upd_same, .nil⟩
    refine ⟨fun i m H => m = xs.length - i ∧ i ≤ xs.length ∧ ∃ acc rest, StV G B (os.put D (.tmp (.d (.list acc)))) ρ σ H (tm ++ l) ∧ lcF (lcTurn fT fE tg ρ) (xs.drop i) = .ok rest ∧ acc ++ rest = ds ∧ acc.length ≤ i,
      ⟨xs.length, by simp, Nat.zero_le _, [], ds, S2, by simpa using e, rfl, Nat.zero_le _⟩, ?_⟩
    rintro i m H2 ⟨rfl, hi, acc, rest, S3, hr, hd, hl⟩
    have mem : ∀ t ∈ tm, t ∈ tm ++ l := fun t h => List.mem_append_left _ h
    by_cases hlt : i < xs.length
    · refine .inr ⟨Wk.go S3 mem hlt, fun H' => ∃ acc rest, StV G B (os.put D (.tmp (.d (.list acc)))) ρ σ H' (tm ++ l) ∧ lcF (lcTurn fT fE tg ρ) (xs.drop (i + 1)) = .ok rest ∧ acc ++ rest = ds ∧ acc.length ≤ i + 1, fun H' ⟨acc, rest, h1, h2, h3, h4⟩ => ⟨xs.length - (i + 1), by omega, rfl, hlt, acc, rest, h1, h2, h3, h4⟩, fun x H' hy => ?_⟩
      have hxd : xs[i]? = some xs[i] := List.getElem?_eq_getElem hlt
      have S4 := Wk.yld S3 mem hy xs[i] hxd
      rw [List.drop_eq_getElem_cons hlt] at hr
      have hc := lcF_cons hr
      -- the turn's own facts
      obtain ⟨r, hf⟩ : ∃ r, lcTurn fT fE tg ρ xs[i] = .ok r := by
        rcases hc with ⟨h, _⟩ | ⟨d, r, h, _⟩
        · exact ⟨_, h⟩
        · exact ⟨_, h⟩
      obtain ⟨ρ', hb, h2⟩ := Rs.bind_ok_of hf
      obtain ⟨b, hT, h3⟩ := Rs.bind_ok_of h2
      have S5 := (S4.keepSlots.wipe tg.is).sub (l' := (x, .d xs[i], false) :: (slotTms ρ σ ++ (tm ++ l))) fun t ht => by
        rcases List.mem_cons.mp ht with h | h
        · rw [h]; exact List.mem_append_right _ List.mem_cons_self
        · rcases List.mem_append.mp h with h | h
          · exact List.mem_append_left _ h
          · exact List.mem_append_right _ (List.mem_cons_of_mem _ h)
      refine tg_bind (vs0 := tg.is) S5 hb (fun j hj => by rw [wipe_length]; exact hlen j hj) (fun _ h => h) fun σ2 S6 ew => ⟨by rw [ew, wipe_idem], ?_⟩
      refine ⟨_, ρ', _, S6, P_of_ok hT fun H3 S7 => ?_⟩
      have back : ∀ {os2 : Os} {H4 : Hp} {acc2 : List PyData}, StV G B (os.put D (.tmp (.d (.list acc2)))) ρ' σ2 H4 (slotTms ρ σ ++ (tm ++ l)) → StV G B (os.put D (.tmp (.d (.list acc2)))) ρ σ H4 (tm ++ l) := fun {os2 H4 acc2} S' =>
        S3.back' S' fun p j w h => by
          have hp : p ≠ D := fun z => by rw [z, put_same] at h; cases h
          rw [put_ne hp] at h ⊢
          exact h
      cases b with
      | false =>
        dsimp only at h3 ⊢
        rw [if_neg Bool.false_ne_true] at h3 ⊢
        cases h3
        rcases hc with ⟨_, h4⟩ | ⟨d, r, h4, _⟩
        · exact ⟨acc, rest, back (os2 := os) S7, h4, hd, Nat.le_succ_of_le hl⟩
        · rw [hf] at h4; cases h4
      | true =>
        dsimp only at h3 ⊢
        rw [if_pos rfl] at h3 ⊢
        obtain ⟨w, hE, h4⟩ := Rs.bind_ok_of h3
        cases h4
        rcases hc with ⟨h5, _⟩ | ⟨d, r, h5, h6, h7⟩
        · rw [hf] at h5; cases h5
        · rw [hf] at h5
          cases h5
          subst h7
          refine ⟨_, ρ', _, S7, P_of_ok hE fun y H4 S8 => ?_⟩
          obtain ⟨⟨vs, hv1, hv2⟩, _⟩ := S8.ct D _ put_same
          refine ⟨vs, hv1, by rw [dpAll_len hv2]; omega, acc ++ [d], r, ?_, h6, by simpa using hd, by simp; omega⟩
          have S9 := S8.mutTmp (o := .lst (vs ++ [y])) (w' := .d (.list (acc ++ [d]))) put_same ⟨vs ++ [y], upd_same, dpAll_append hv2 (.cons (S8.repW List.mem_cons_self) .nil)⟩
          rw [put_put] at S9
          exact back (os2 := os) S9.tail
    · have e2 : i = xs.length := by omega
      subst e2
      rw [List.drop_length] at hr
      cases hr
      rw [List.append_nil] at hd
      subst hd
      exact .inl ⟨Wk.stop S3 mem (Nat.le_refl _), q D H2 hos (S3.sub fun t h => List.mem_append_right _ h)⟩
end
section
variable {X : Cx} {G : Gc} {B : Bs} {E : XK}
theorem r_lcN {elt tge iter : Expr} {ifs : List Expr} {scope : Scope} {own : List (Str × Nat)} {pos : Pos} {tg : Tg} {m : Bool} {fI : En → Rs W} {fT : En → Rs Bool} {fE : En → Rs W} (hc : X.calm = true) (hN : X.N.Nodup) (hi : PI X tge iter (tOfI G B E m fI)) (ok : BlkOk X.N X.env.scope scope own) (hown : own.map (·.2) = tg.is)
    (hg : ∀ (s : Shared) (H : Hp) (C : Addr) (cl : List (Str × Addr)) (fp : List Addr), PG (X.blk s H scope (compEnvC scope cl C X.env) fp) tge (tgR G.K tg))
    (ht : ∀ (s : Shared) (H : Hp) (C : Addr) (cl : List (Str × Addr)) (fp : List Addr), PTs (X.blk s H scope (compEnvC scope cl C X.env) fp) ifs (tOfT G B noE fT))
    (he : ∀ (s : Shared) (H : Hp) (C : Addr) (cl : List (Str × Addr)) (fp : List Addr), PE (X.blk s H scope (compEnvC scope cl C X.env) fp) elt (tOf G B noE false fE)) (hs : ∀ x, foldedSetIterable iter X.env x = pure x) (hlen : ∀ i ∈ tg.is, i < X.N.length) :
    PE X (.ListComp elt [⟨tge, iter, ifs, 0⟩] scope pos) (tOfN G B E fun ρ => (fI ρ).bind fun wi => (items wi).bind fun xs => (lcF (lcTurn fT fE tg ρ) xs).bind fun ds => .ok (.d (.list ds))) :=
  pe_len (pe_lc hc hN hi ok hg ht he hs) fun σ H Q hσ h => by
    rw [hown]
    exact lc_read (fun i hi => by rw [hσ]; exact hlen i hi) h
end
end Pz
namespace Pz
open PySem PySem.Spec PyProof.Rows L2 LamX

/-! ### statements -/
def noM (l : List Tm) : Prop := ∀ t ∈ l, t.2.2 = false
def sOf (G : Gc) (B : Bs) (E : XK) (ev : En → Rs (En × Fl)) : TS := fun D σ H => ∃ os ρ l, noM l ∧ StV G B os ρ σ H l ∧ (ev ρ).P (fun p => match p.2 with
  | .nx => ∀ os' σ' H', StV G B os' p.1 σ' H' l → D.nx σ' H'
  | .rt w => ∀ v H', Gr B.H0 H' → Tabs G.T (frz B.os0 H') → RepW G (frz B.os0 H') v w → D.rt v H') (XW G B E)
section
variable {X : Cx} {st : Stmt} {sts : List Stmt}
theorem ps_of {t t' : TS} (h : PS X st t) (i : ∀ D σ H, σ.length = X.N.length → t' D σ H → t D σ H) : PS X st t' := ⟨fun pins s σ H D I hq => h.run pins s σ H D I (i _ _ _ I.len hq)⟩
theorem pss_of {t t' : TS} (h : PSs X sts t) (i : ∀ D σ H, σ.length = X.N.length → t' D σ H → t D σ H) : PSs X sts t' := ⟨fun pins s σ H D I hq => h.run pins s σ H D I (i _ _ _ I.len hq)⟩
theorem SP.len {pins : List (Addr × Obj)} {D : Ends} {f : Flow} {s' : Shared} (h : SP X pins { D with nx := fun σ' H' => σ'.length = X.N.length → D.nx σ' H' } f s') : SP X pins D f s' := by
  cases f with
  | next => obtain ⟨σ', H', I, q⟩ := h; exact ⟨σ', H', I, q I.len⟩
  | brk => exact h
  | cont => exact h
  | ret u => exact h
theorem pss_len {t : TS} (h : PSs X sts t) : PSs X sts (fun D σ H => t { D with nx := fun σ' H' => σ'.length = X.N.length → D.nx σ' H' } σ H) :=
  ⟨fun pins s σ H D I hq => thn (h.run pins s σ H _ I hq) fun f s1 q => SP.len q⟩
end
section
variable {X : Cx} {G : Gc} {B : Bs} {E : XK}
theorem s_nil : PSs X [] (sOf G B E fun ρ => .ok (ρ, .nx)) := pss_of pss_nil fun D σ H _ ⟨os, ρ, l, n, S, q⟩ => q os σ H S
theorem s_cons {st : Stmt} {rest : List Stmt} {f g : En → Rs (En × Fl)} (h1 : PS X st (sOf G B E f)) (h2 : PSs X rest (sOf G B E g)) :
    PSs X (st :: rest) (sOf G B E fun ρ => (f ρ).bind fun p => match p.2 with
      | .nx => g p.1
      | .rt w => .ok (p.1, .rt w)) :=
  pss_of (pss_cons h1 h2) fun D σ H _ ⟨os, ρ, l, n, S, q⟩ => ⟨os, ρ, l, n, S, (Rs.P_bind q).mono fun p _ q => by
    obtain ⟨ρ', fl⟩ := p
    cases fl with
    | nx => exact fun os' σ' H' S' => ⟨os', ρ', l, n, S', q⟩
    | rt w => exact q⟩
theorem s_asg {i : Nat} {y : Str} {e : Expr} {py pos : Pos} {fa : En → Rs W} (hN : X.N.Nodup) (hi : X.N[i]? = some y) (hx : Loc X.env.scope y) (he : PE X e (tOf G B E false fa)) (hs : swapsWith e (some (.Name y py)) pos.line X.env = pure false)
    (hf : X.fn y = true ∨ X.env.scope.names.lookup y = some .local) : PS X (.Assign [.Name y py] e pos) (sOf G B E fun ρ => (fa ρ).bind fun w => .ok (ρ.set i (.va w), .nx)) :=
  ps_of (ps_set hN hi hx he hs hf) fun D σ H hl ⟨os, ρ, l, n, S, q⟩ => ⟨os, ρ, l, S, (Rs.P_bind q).mono fun w _ q v H1 S1 =>
    q _ _ _ (S1.tail.store (m := false) (S1.repW List.mem_cons_self) (by rw [hl]; exact (List.getElem?_eq_some_iff.mp hi).1) n)⟩
theorem s_asgN {i : Nat} {y : Str} {e : Expr} {py pos : Pos} {fa : En → Rs W} (hN : X.N.Nodup) (hi : X.N[i]? = some y) (hx : Loc X.env.scope y) (he : PE X e (tOfN G B E fa)) (hs : swapsWith e (some (.Name y py)) pos.line X.env = pure false)
    (hf : X.fn y = true ∨ X.env.scope.names.lookup y = some .local) : PS X (.Assign [.Name y py] e pos) (sOf G B E fun ρ => (fa ρ).bind fun w => .ok (ρ.set i (.mu w), .nx)) :=
  ps_of (ps_set hN hi hx he hs hf) fun D σ H hl ⟨os, ρ, l, n, S, q⟩ => ⟨os, ρ, l, S, (Rs.P_bind q).mono fun w _ q p H1 hos S1 =>
    q _ _ _ (S1.storeMu hos (by rw [hl]; exact (List.getElem?_eq_some_iff.mp hi).1) n)⟩
/-- what a def gives back -/
theorem ret_out {os : Os} {ρ : En} {σ : L2.St} {H : Hp} {l : List Tm} {v : V} {w : W} (S : StV G B os ρ σ H ((v, w, false) :: l)) : Gr B.H0 H ∧ Tabs G.T (frz B.os0 H) ∧ RepW G (frz B.os0 H) v w := by
  have e : FE (frz os H) (frz B.os0 H) := frz_fe (fun a h => by
    cases e : B.os0 a with
    | none => rfl
    | some t => rw [S.fo a t e] at h; cases h) (FE.refl H)
  exact ⟨S.base, S.tabs.ext e, (S.repW List.mem_cons_self).ext e.n⟩
theorem s_ret {e : Expr} {pos : Pos} {fa : En → Rs W} (he : PE X e (tOf G B E false fa)) : PS X (.Return (some e) pos) (sOf G B E fun ρ => (fa ρ).bind fun w => .ok (ρ, .rt w)) :=
  ps_of (ps_ret he) fun D σ H _ ⟨os, ρ, l, n, S, q⟩ => ⟨os, ρ, l, S, (Rs.P_bind q).mono fun w _ q v H1 S1 => by
    obtain ⟨h1, h2, h3⟩ := ret_out S1
    exact q v H1 h1 h2 h3⟩
theorem s_ret0 {pos : Pos} : PS X (.Return none pos) (sOf G B E fun ρ => .ok (ρ, .rt (.d .none))) :=
  ps_of ps_retN fun D σ H _ ⟨os, ρ, l, n, S, q⟩ => by
    obtain ⟨h1, h2, h3⟩ := ret_out (S.reN (l' := []) rfl false)
    exact q _ H h1 h2 h3
theorem s_exp {e : Expr} {pos : Pos} {fa : En → Rs W} (he : PE X e (tOf G B E false fa)) (hs : swapsWith e none pos.line X.env = pure false) : PS X (.Expr e pos) (sOf G B E fun ρ => (fa ρ).bind fun _ => .ok (ρ, .nx)) :=
  ps_of (ps_expr he hs) fun D σ H _ ⟨os, ρ, l, n, S, q⟩ => ⟨os, ρ, l, S, (Rs.P_bind q).mono fun w _ q v H1 S1 => q os σ H1 S1.tail⟩
theorem s_doc {x : Str} {j : Nat} {pos pos' : Pos} : PS X (.Expr (.Constant (.str x) j pos) pos') (sOf G B E fun ρ => .ok (ρ, .nx)) :=
  ps_of ps_doc fun D σ H _ ⟨os, ρ, l, n, S, q⟩ => q os σ H S
theorem s_iff {c : Expr} {a b : List Stmt} {pos : Pos} {ft : En → Rs Bool} {fa fb : En → Rs (En × Fl)} (hc : PT X c (tOfT G B E ft)) (ha : PSs X a (sOf G B E fa)) (hb : PSs X b (sOf G B E fb)) :
    PS X (.If c a b pos) (sOf G B E fun ρ => (ft ρ).bind fun k => if k then fa ρ else fb ρ) :=
  ps_of (ps_if hc ha hb) fun D σ H _ ⟨os, ρ, l, n, S, q⟩ => ⟨os, ρ, l, S, (Rs.P_bind q).mono fun k _ q H1 S1 => by
    cases k with
    | true => exact ⟨os, ρ, l, n, S1, q⟩
    | false => exact ⟨os, ρ, l, n, S1, q⟩⟩
theorem sOf_congr {f f' : En → Rs (En × Fl)} {st : Stmt} (h : PS X st (sOf G B E f)) (i : ∀ ρ, f' ρ = f ρ) : PS X st (sOf G B E f') := by
  have : f' = f := funext i
  rw [this]; exact h
theorem sOfs_congr {f f' : En → Rs (En × Fl)} {st : List Stmt} (h : PSs X st (sOf G B E f)) (i : ∀ ρ, f' ρ = f ρ) : PSs X st (sOf G B E f') := by
  have : f' = f := funext i
  rw [this]; exact h
theorem s_whl {c : Expr} {body : List Stmt} {pos : Pos} {ft : En → Rs Bool} {fb : En → Rs (En × Fl)} (n : Nat) (hp : PassesOwn (model X.prog X.w) X.A X.env X.xe) (hc : PT X c (tOfT G B E ft)) (hb : PSs X body (sOf G B E fb)) :
    PS X (.While c body [] pos) (sOf G B E (whlF ft fb n)) :=
  ps_of (ps_while hp hc hb) fun D σ H _ ⟨os, ρ, l, nm, S, q⟩ => by
    refine ⟨fun m σ H => ∃ os ρ, StV G B os ρ σ H l ∧ (whlF ft fb m ρ).P (fun p => match p.2 with
      | .nx => ∀ os' σ' H', StV G B os' p.1 σ' H' l → D.nx σ' H'
      | .rt w => ∀ v H', Gr B.H0 H' → Tabs G.T (frz B.os0 H') → RepW G (frz B.os0 H') v w → D.rt v H') (XW G B E), ⟨n, os, ρ, S, q⟩, ?_⟩
    rintro m σ H ⟨os, ρ, S, q⟩
    cases m with
    | zero => exact q.elim
    | succ m =>
      refine ⟨os, ρ, l, S, (Rs.P_bind q).mono fun k _ q H1 S1 => ?_⟩
      cases k with
      | false => exact q os σ H1 S1
      | true =>
        dsimp only at q ⊢
        rw [if_pos rfl] at q ⊢
        refine ⟨fun σ' H' => ∃ os ρ, StV G B os ρ σ' H' l ∧ (whlF ft fb m ρ).P (fun p => match p.2 with
          | .nx => ∀ os' σ' H', StV G B os' p.1 σ' H' l → D.nx σ' H'
          | .rt w => ∀ v H', Gr B.H0 H' → Tabs G.T (frz B.os0 H') → RepW G (frz B.os0 H') v w → D.rt v H') (XW G B E), fun σ' H' h => ⟨m, Nat.lt_succ_self m, h⟩, ?_⟩
        refine ⟨os, ρ, l, nm, S1, (Rs.P_bind q).mono fun p _ q => ?_⟩
        obtain ⟨ρ', fl⟩ := p
        cases fl with
        | nx => exact fun os' σ' H' S' => ⟨os', ρ', S', q⟩
        | rt w => exact q
theorem s_fo {iter tge : Expr} {body : List Stmt} {pos : Pos} {tg : Tg} {fi : En → Rs W} {fb : En → Rs (En × Fl)} (hp : PassesOwn (model X.prog X.w) X.A X.env X.xe) (hc : X.calm = true) (hi : PI X tge iter (tOfI G B E false fi)) (hg : PG X tge (tgR G.K tg)) (hb : PSs X body (sOf G B E fb))
    (hs : ∀ x, foldedSetIterable iter X.env x = pure x) (hlen : ∀ i ∈ tg.is, i < X.N.length) :
    PS X (.For tge iter body [] pos) (sOf G B E fun ρ => (fi ρ).bind fun wi => (items wi).bind fun xs => forF (fun ρ x => bindT ρ tg x) fb xs ρ) :=
  ps_of (ps_for hp hc hi hg (pss_len hb) hs) fun D σ H _ ⟨os, ρ, l, nm, S, q⟩ => by
    refine ⟨os, ρ, l, S, Rs.P_bind' ((Rs.P_bind q).mono fun wi _ q => (Rs.P_bind q).mono fun xs _ q J H1 tm tmf S1 Wk hz => ?_)⟩
    have nm2 : noM (tm ++ l) := fun t ht => (List.mem_append.mp ht).elim (tmf rfl t) (nm t)
    refine ⟨fun i m σ H => m = xs.length - i ∧ i ≤ xs.length ∧ σ.length = X.N.length ∧ ∃ os ρ, StV G B os ρ σ H (tm ++ l) ∧ (forF (fun ρ x => bindT ρ tg x) fb (xs.drop i) ρ).P (fun p => match p.2 with
      | .nx => ∀ os' σ' H', StV G B os' p.1 σ' H' l → D.nx σ' H'
      | .rt w => ∀ v H', Gr B.H0 H' → Tabs G.T (frz B.os0 H') → RepW G (frz B.os0 H') v w → D.rt v H') (XW G B E), ⟨xs.length, by simp, Nat.zero_le _, by assumption, os, ρ, S1, by simpa using q⟩, ?_⟩
    rintro i m σ H2 ⟨rfl, hi, hσ, os, ρ, S3, q⟩
    have mem : ∀ t ∈ tm, t ∈ tm ++ l := fun t h => List.mem_append_left _ h
    by_cases hlt : i < xs.length
    · refine .inr ⟨Wk.go S3 mem hlt, fun σ' H' => σ'.length = X.N.length ∧ ∃ os ρ, StV G B os ρ σ' H' (tm ++ l) ∧ (forF (fun ρ x => bindT ρ tg x) fb (xs.drop (i + 1)) ρ).P (fun p => match p.2 with
        | .nx => ∀ os' σ' H', StV G B os' p.1 σ' H' l → D.nx σ' H'
        | .rt w => ∀ v H', Gr B.H0 H' → Tabs G.T (frz B.os0 H') → RepW G (frz B.os0 H') v w → D.rt v H') (XW G B E), fun σ' H' ⟨h0, os, ρ, h1, h2⟩ => ⟨xs.length - (i + 1), by omega, rfl, hlt, h0, os, ρ, h1, h2⟩, fun x H' hy => ?_⟩
      have hxd : xs[i]? = some xs[i] := List.getElem?_eq_getElem hlt
      have S4 := Wk.yld S3 mem hy xs[i] hxd
      rw [List.drop_eq_getElem_cons hlt] at q
      have q : (bindT ρ tg xs[i]).P _ _ := Rs.P_bind q
      cases hb : bindT ρ tg xs[i] with
      | stuck => rw [hb] at q; exact q.elim
      | exc c =>
        exfalso
        cases tg with
        | n i => cases hb
        | t is =>
          have key : ∀ (is : List Nat) (ds : List PyData) (ρ : En), bindAll ρ is ds ≠ .exc c := by
            intro is
            induction is with
            | nil => intro ds ρ h; cases ds <;> cases h
            | cons j js ih => intro ds ρ h; cases ds with
              | nil => cases h
              | cons d ds => exact ih _ _ h
          cases hx : xs[i] with
          | tuple ds => rw [hx] at hb; exact key _ _ _ hb
          | _ => rw [hx] at hb; cases hb
      | ok ρ' =>
        rw [hb] at q
        refine tg_store nm2 S4 hb (fun j hj => by rw [hσ]; exact hlen j hj) fun os' σ' S5 => ⟨os', ρ', tm ++ l, nm2, S5, (Rs.P_bind q).mono fun p _ q => ?_⟩
        obtain ⟨ρ2, fl⟩ := p
        cases fl with
        | nx =>
          intro os2 σ2 H3 S6 hl2
          exact ⟨hl2, os2, ρ2, S6, q⟩
        | rt w => exact q
    · have e2 : i = xs.length := by omega
      subst e2
      rw [List.drop_length] at q
      exact .inl ⟨Wk.stop S3 mem (Nat.le_refl _), q os σ H2 (S3.sub fun t h => List.mem_append_right _ h)⟩
end
end Pz
namespace Pz
open PySem PySem.Spec PyProof.Rows L2 LamX
section
variable {X : Cx} {G : Gc} {B : Bs} {E : XK}
theorem freeze_st {os : Os} {σ : L2.St} {H : Hp} {l : List Tm} (n : noM l) : ∀ (is : List Nat) {os : Os} {ρ : En}, StV G B os ρ σ H l → ∃ os', StV G B os' (is.foldl freezeE ρ) σ H l
  | [], os, ρ, S => ⟨os, S⟩
  | i :: is, os, ρ, S => by
    show ∃ os', StV G B os' (is.foldl freezeE (freezeE ρ i)) σ H l
    unfold freezeE
    split
    · rename_i w e
      exact freeze_st (os := os) n is (S.freeze e n)
    · exact freeze_st (os := os) n is S
theorem s_fz {is : List Nat} {sts : List Stmt} {g : En → Rs (En × Fl)} (h : PSs X sts (sOf G B E g)) :
    PSs X sts (sOf G B E fun ρ => (Rs.ok (is.foldl freezeE ρ, Fl.nx)).bind fun p => match p.2 with
      | .nx => g p.1
      | .rt w => .ok (p.1, .rt w)) :=
  pss_of h fun D σ H _ ⟨os, ρ, l, n, S, q⟩ => by
    obtain ⟨os', S'⟩ := freeze_st (os := os) n is S
    exact ⟨os', _, l, n, S', q⟩
/-- (a, ..) = e -/
theorem unp_tg {os : Os} {ρ ρ' : En} {σ : L2.St} {H : Hp} {l : List Tm} {v : V} {w : W} {is : List Nat} {Q : L2.St → Hp → Prop} (n : noM l) (S : StV G B os ρ σ H ((v, w, false) :: l)) (h : unpF ρ is w = .ok ρ') (hi : ∀ i ∈ is, i < σ.length)
    (q : ∀ os' σ', StV G B os' ρ' σ' H l → Q σ' H) : tgR G.K (.t is) v σ H Q := by
  cases w with
  | d x => cases x with
    | tuple ds => exact tg_store (tg := .t is) n S h hi q
    | _ => cases h
  | _ => cases h
theorem bindAll_nexc {c : Str} : ∀ (is : List Nat) (ds : List PyData) (ρ : En), bindAll ρ is ds ≠ .exc c
  | [], [], _, h => by cases h
  | [], _ :: _, _, h => by cases h
  | _ :: _, [], _, h => by cases h
  | _ :: is, _ :: ds, _, h => bindAll_nexc is ds _ h
theorem unpF_nexc {c : Str} {is : List Nat} {ρ : En} {w : W} : unpF ρ is w ≠ .exc c := by
  intro h
  cases w with
  | d x => cases x with
    | tuple ds => exact bindAll_nexc _ _ _ h
    | _ => cases h
  | _ => cases h
theorem s_unp {tge e : Expr} {is : List Nat} {pos : Pos} {fa : En → Rs W} (he : PE X e (tOf G B E false fa)) (hg : PG X tge (tgR G.K (.t is))) (hs : swapsWithSole [tge] e pos.line X.env = pure false) (hw : swappedStores [tge] e X.env = pure none)
    (h1 : (assignEach [tge] X.env).map (·.2) = [assign tge X.env]) (hlen : ∀ i ∈ is, i < X.N.length) : PS X (.Assign [tge] e pos) (sOf G B E fun ρ => (fa ρ).bind fun w => (unpF ρ is w).bind fun ρ' => .ok (ρ', .nx)) :=
  ps_of (ps_asg he hg hs hw h1) fun D σ H hl ⟨os, ρ, l, n, S, q⟩ => ⟨os, ρ, l, S, (Rs.P_bind q).mono fun w _ q v H1 S1 => by
    cases e1 : unpF ρ is w with
    | stuck => rw [e1] at q; exact q.elim
    | exc c => exact absurd e1 unpF_nexc
    | ok ρ' =>
      rw [e1] at q
      exact unp_tg n S1 e1 (fun i hi => by rw [hl]; exact hlen i hi) fun os' σ' S' => q os' σ' _ S'⟩

/-! ### a, b = x, y -/
def isTmp : OT → Prop
  | .tmp _ => True
  | _ => False
inductive PR : Os → Os → List (Nat × Bool) → List V → List W → List Tm → Prop where
  | nil (os : Os) : PR os os [] [] [] []
  | no {os os' : Os} {r : List (Nat × Bool)} {vs : List V} {ws : List W} {t : List Tm} (i : Nat) (v : V) (w : W) (h : PR os os' r vs ws t) : PR os os' ((i, false) :: r) (v :: vs) (w :: ws) ((v, w, false) :: t)
  | yes {os os' : Os} {r : List (Nat × Bool)} {vs : List V} {ws : List W} {t : List Tm} (i : Nat) (p : Addr) (w : W) (hp : os p = none) (h : PR (os.put p (.tmp w)) os' r vs ws t) : PR os os' ((i, true) :: r) (.ref p :: vs) (w :: ws) t
theorem PR.keep {os os' : Os} {r : List (Nat × Bool)} {vs : List V} {ws : List W} {t : List Tm} (h : PR os os' r vs ws t) : ∀ {a : Addr} {u : OT}, os a = some u → os' a = some u := by
  induction h with
  | nil os => exact fun e => e
  | no i v w h ih => exact fun e => ih e
  | yes i p w hp h ih =>
    intro a u e
    refine ih ?_
    rw [put_ne (fun z => by rw [z, hp] at e; cases e)]
    exact e
theorem PR.new {os os' : Os} {r : List (Nat × Bool)} {vs : List V} {ws : List W} {t : List Tm} (h : PR os os' r vs ws t) : ∀ {a : Addr} {u : OT}, os a = none → os' a = some u → isTmp u := by
  induction h with
  | nil os => exact fun e e' => by rw [e] at e'; cases e'
  | no i v w h ih => exact fun e e' => ih e e'
  | yes i p w hp h ih =>
    intro a u e e'
    by_cases ha : a = p
    · subst ha
      rw [h.keep put_same] at e'
      cases e'
      trivial
    · exact ih (by rw [put_ne ha]; exact e) e'
def Os.clr (os : Os) (p : Addr) : Os := fun a => if a = p then none else os a
theorem clr_self {os : Os} {p : Addr} : os.clr p p = none := by unfold Os.clr; rw [if_pos rfl]
theorem clear_put {os : Os} {p : Addr} {t : OT} (h : os p = some t) : (os.clr p).put p t = os := by
  funext a
  by_cases ha : a = p
  · rw [ha, put_same, h]
  · rw [put_ne ha]
    show (if a = p then none else os a) = os a
    rw [if_neg ha]
theorem drop_clear {os : Os} {p : Addr} {i : Nat} {t : OT} : ((os.clr p).drop i).put p t = (os.drop i).put p t := by
  funext a
  by_cases ha : a = p
  · rw [ha, put_same, put_same]
  · rw [put_ne ha, put_ne ha]
    show Option.bind (if a = p then none else os a) (dropT i) = _
    rw [if_neg ha]
    rfl
theorem StV.storeMu' {os : Os} {ρ : En} {σ : L2.St} {H : Hp} {l : List Tm} {i : Nat} {p : Addr} {w : W} (S : StV G B os ρ σ H l) (hos : os p = some (.tmp w)) (hi : i < σ.length) (hl : noM l) :
    StV G B ((os.drop i).put p (.slot i w)) (ρ.set i (.mu w)) (σ.set i (some (.ref p))) H l := by
  rw [← clear_put hos] at S
  have := S.storeMu clr_self hi hl
  rw [drop_clear] at this
  exact this
def storeAll (σ : L2.St) : List (Nat × Bool) → List V → L2.St
  | (i, _) :: r, v :: vs => storeAll (σ.set i (some v)) r vs
  | _, _ => σ
theorem par_store {H : Hp} {l : List Tm} (n : noM l) {os os' : Os} {r : List (Nat × Bool)} {vs : List V} {ws : List W} {t : List Tm} (h : PR os os' r vs ws t) : ∀ {os2 : Os} {ρ ρ' : En} {σ : L2.St}, (∀ a u, os a = none → os' a = some u → os2 a = some u) → StV G B os2 ρ σ H (t ++ l) →
    noM t → parF r ws ρ = .ok ρ' → (∀ x ∈ r, x.1 < σ.length) → ∃ os3, StV G B os3 ρ' (storeAll σ r vs) H l := by
  induction h with
  | nil os => exact fun _ S _ e _ => by cases e; exact ⟨_, S⟩
  | @no os os' r vs ws t i v w h ih =>
    intro os2 ρ ρ' σ ag S nt e hi
    refine ih (os2 := os2.drop i) (fun a u e1 e2 => drop_keep (ag a u e1 e2) fun w' z => ?_) (S.tail.store (m := false) (S.repW List.mem_cons_self) (hi (i, false) List.mem_cons_self) (fun t ht => (List.mem_append.mp ht).elim (fun z => nt t (List.mem_cons_of_mem _ z)) (n t))) (fun t ht => nt t (List.mem_cons_of_mem _ ht)) e fun x hx => by rw [List.length_set]; exact hi x (List.mem_cons_of_mem _ hx)
    have := h.new e1 e2
    rw [z] at this
    exact this
  | @yes os os' r vs ws t i p w hp h ih =>
    intro os2 ρ ρ' σ ag S nt e hi
    have hp2 : os' p = some (.tmp w) := h.keep put_same
    refine ih (os2 := (os2.drop i).put p (.slot i w)) (fun a u e1 e2 => ?_) (S.storeMu' (ag p _ hp hp2) (hi (i, true) List.mem_cons_self) (fun t ht => (List.mem_append.mp ht).elim (nt t) (n t))) nt e fun x hx => by rw [List.length_set]; exact hi x (List.mem_cons_of_mem _ hx)
    have ha : a ≠ p := fun z => by rw [z, put_same] at e1; cases e1
    have e1' : os a = none := by rw [put_ne ha] at e1; exact e1
    rw [put_ne ha]
    refine drop_keep (ag a u e1' e2) fun w' z => ?_
    have := h.new e1 e2
    rw [z] at this
    exact this
theorem PR.noM {os os' : Os} {r : List (Nat × Bool)} {vs : List V} {ws : List W} {t : List Tm} (h : PR os os' r vs ws t) : noM t := by
  induction h with
  | nil os => exact fun t ht => by cases ht
  | no i v w h ih => exact fun t ht => (List.mem_cons.mp ht).elim (fun e => by rw [e]) (ih t)
  | yes i p w hp h ih => exact ih
/-- arguments, some of them new objects that are ours -/
def tOfP (G : Gc) (B : Bs) (E : XK) (r : List (Nat × Bool)) (ev : En → Rs (List W)) : TA := fun σ H Q => ∃ os ρ l, StV G B os ρ σ H l ∧
  (ev ρ).P (fun ws => ∀ vs H' os' t, PR os os' r vs ws t → StV G B os' ρ σ H' (t ++ l) → Q vs H') (XW G B E)
theorem p_nil : PA X [] (tOfP G B E [] fun _ => .ok []) := pa_of pa_nil fun σ H Q ⟨os, ρ, l, S, q⟩ => q [] H os [] (.nil os) S
theorem p_no {e : Expr} {es : List Expr} {i : Nat} {r : List (Nat × Bool)} {ev : En → Rs W} {ew : En → Rs (List W)} (h : PE X e (tOf G B E false ev)) (hr : PA X es (tOfP G B E r ew)) (hs : starEach (e :: es) X.env = (false, eval e X.env) :: starEach es X.env) :
    PA X (e :: es) (tOfP G B E ((i, false) :: r) fun ρ => (ev ρ).bind fun x => (ew ρ).bind fun xs => .ok (x :: xs)) :=
  pa_of (pa_cons h hr hs) fun σ H Q ⟨os, ρ, l, S, q⟩ => ⟨os, ρ, l, S, (Rs.P_bind q).mono fun w _ q v H1 S1 => ⟨os, ρ, _, S1, (Rs.P_bind q).mono fun ws _ q vs H2 os' t pr S2 =>
    q (v :: vs) H2 os' ((v, w, false) :: t) (.no i v w pr) (S2.sub fun u hu => by
      rcases List.mem_cons.mp hu with e | hu
      · rw [e]; exact List.mem_append_right _ List.mem_cons_self
      · rcases List.mem_append.mp hu with h | h
        · exact List.mem_append_left _ h
        · exact List.mem_append_right _ (List.mem_cons_of_mem _ h))⟩⟩
theorem p_yes {e : Expr} {es : List Expr} {i : Nat} {r : List (Nat × Bool)} {ev : En → Rs W} {ew : En → Rs (List W)} (h : PE X e (tOfN G B E ev)) (hr : PA X es (tOfP G B E r ew)) (hs : starEach (e :: es) X.env = (false, eval e X.env) :: starEach es X.env) :
    PA X (e :: es) (tOfP G B E ((i, true) :: r) fun ρ => (ev ρ).bind fun x => (ew ρ).bind fun xs => .ok (x :: xs)) :=
  pa_of (pa_cons h hr hs) fun σ H Q ⟨os, ρ, l, S, q⟩ => ⟨os, ρ, l, S, (Rs.P_bind q).mono fun w _ q p H1 hos S1 => ⟨_, ρ, l, S1, (Rs.P_bind q).mono fun ws _ q vs H2 os' t pr S2 =>
    q (.ref p :: vs) H2 os' t (.yes i p w hos pr) S2⟩⟩
theorem par_D {D : Ends} {σ : L2.St} {H1 : Hp} {os os' : Os} {ρ : En} {l t : List Tm} {r : List (Nat × Bool)} {vs : List V} {ws : List W} (n : noM l) (hi : ∀ x ∈ r, x.1 < σ.length)
    (q : ((parF r ws ρ).bind fun ρ' => Rs.ok (ρ', Fl.nx)).P (fun p => match p.2 with
  | .nx => ∀ os' σ' H', StV G B os' p.1 σ' H' l → D.nx σ' H'
  | .rt w => ∀ v H', Gr B.H0 H' → Tabs G.T (frz B.os0 H') → RepW G (frz B.os0 H') v w → D.rt v H') (XW G B E)) (pr : PR os os' r vs ws t) (S : StV G B os' ρ σ H1 (t ++ l)) : D.nx (storeAll σ r vs) H1 := by
  cases e : parF r ws ρ with
  | stuck => rw [e] at q; exact q.elim
  | exc c =>
    exfalso
    have key : ∀ (r : List (Nat × Bool)) (ws : List W) (ρ : En), parF r ws ρ ≠ .exc c := by
      intro r
      induction r with
      | nil => intro ws ρ h; cases ws <;> cases h
      | cons x r ih => intro ws ρ h; cases ws with
        | nil => cases h
        | cons w ws => exact ih _ _ h
    exact key _ _ _ e
  | ok ρ' =>
    rw [e] at q
    obtain ⟨os3, S3⟩ := par_store n pr (fun a u _ e => e) S pr.noM e hi
    exact q os3 _ _ S3
theorem PR.lens {os os' : Os} {r : List (Nat × Bool)} {vs : List V} {ws : List W} {t : List Tm} (h : PR os os' r vs ws t) : vs.length = r.length := by
  induction h with
  | nil os => rfl
  | no i v w h ih => simp [ih]
  | yes i p w hp h ih => simp [ih]
theorem s_par2 {i j : Nat} {bi bj : Bool} {x y : Str} {a b : Expr} {px py pt pos : Pos} {kt k2 : Nat} {pt2 : Pos} {ew : En → Rs (List W)} (hc : X.calm = true) (hN : X.N.Nodup) (hi : X.N[i]? = some x) (hj : X.N[j]? = some y) (hij : i ≠ j)
    (hx : X.env.scope.names.lookup x = some .local) (hy : X.env.scope.names.lookup y = some .local) (ha : PA X [a, b] (tOfP G B E [(i, bi), (j, bj)] ew))
    (hw : swappedStores [.Tuple [.Name x px, .Name y py] kt pt] (.Tuple [a, b] k2 pt2) X.env = pure (some [x, y]))
    (hs : swapsWithSole [.Tuple [.Name x px, .Name y py] kt pt] (.Tuple [a, b] k2 pt2) pos.line X.env = pure false) :
    PS X (.Assign [.Tuple [.Name x px, .Name y py] kt pt] (.Tuple [a, b] k2 pt2) pos) (sOf G B E fun ρ => (ew ρ).bind fun ws => (parF [(i, bi), (j, bj)] ws ρ).bind fun ρ' => .ok (ρ', .nx)) :=
  ps_of (ps_par hc hN hi hj hij hx hy ha hw hs) fun D σ H hl ⟨os, ρ, l, n, S, q⟩ => ⟨os, ρ, l, S, (Rs.P_bind q).mono fun ws _ q vs H1 os' t pr S1 => by
    have r := par_D n (fun z hz => by
      rw [hl]
      simp only [List.mem_cons, List.not_mem_nil, or_false] at hz
      rcases hz with rfl | rfl
      · exact (List.getElem?_eq_some_iff.mp hi).1
      · exact (List.getElem?_eq_some_iff.mp hj).1) q pr S1
    have hv := pr.lens
    match vs, hv with
    | [v, w], _ => exact ⟨v, w, rfl, r⟩⟩
theorem s_par3 {i j k : Nat} {bi bj bk : Bool} {x y z : Str} {a b c : Expr} {px py pz pt pos : Pos} {kt k2 : Nat} {pt2 : Pos} {ew : En → Rs (List W)} (hc : X.calm = true) (hN : X.N.Nodup) (hi : X.N[i]? = some x) (hj : X.N[j]? = some y) (hk : X.N[k]? = some z) (hij : i ≠ j) (hik : i ≠ k) (hjk : j ≠ k)
    (hx : X.env.scope.names.lookup x = some .local) (hy : X.env.scope.names.lookup y = some .local) (hz : X.env.scope.names.lookup z = some .local) (ha : PA X [a, b, c] (tOfP G B E [(i, bi), (j, bj), (k, bk)] ew))
    (hw : swappedStores [.Tuple [.Name x px, .Name y py, .Name z pz] kt pt] (.Tuple [a, b, c] k2 pt2) X.env = pure (some [x, y, z]))
    (hs : swapsWithSole [.Tuple [.Name x px, .Name y py, .Name z pz] kt pt] (.Tuple [a, b, c] k2 pt2) pos.line X.env = pure false) :
    PS X (.Assign [.Tuple [.Name x px, .Name y py, .Name z pz] kt pt] (.Tuple [a, b, c] k2 pt2) pos) (sOf G B E fun ρ => (ew ρ).bind fun ws => (parF [(i, bi), (j, bj), (k, bk)] ws ρ).bind fun ρ' => .ok (ρ', .nx)) :=
  ps_of (ps_par3 hc hN hi hj hk hij hik hjk hx hy hz ha hw hs) fun D σ H hl ⟨os, ρ, l, n, S, q⟩ => ⟨os, ρ, l, S, (Rs.P_bind q).mono fun ws _ q vs H1 os' t pr S1 => by
    have r := par_D n (fun z hz => by
      rw [hl]
      simp only [List.mem_cons, List.not_mem_nil, or_false] at hz
      rcases hz with rfl | rfl | rfl
      · exact (List.getElem?_eq_some_iff.mp hi).1
      · exact (List.getElem?_eq_some_iff.mp hj).1
      · exact (List.getElem?_eq_some_iff.mp hk).1) q pr S1
    have hv := pr.lens
    match vs, hv with
    | [v, w, u], _ => exact ⟨v, w, u, rfl, r⟩⟩

/-! ### name = [.. for ..] -/
theorem s_asgLc {i : Nat} {y : Str} {py : Pos} {mu : Bool} {elt tge iter : Expr} {ifs : List Expr} {scope : Scope} {own : List (Str × Nat)} {pos spos : Pos} {tg : Tg} {m : Bool} {fI : En → Rs W} {fT : En → Rs Bool} {fE : En → Rs W} (hc : X.calm = true) (hN : X.N.Nodup) (hy : X.N[i]? = some y) (hyl : X.env.scope.names.lookup y = some .local)
    (hsw : swapsWith (.ListComp elt [⟨tge, iter, ifs, 0⟩] scope pos) (some (.Name y py)) spos.line X.env = pure true) (hi : PI X tge iter (tOfI G B E m fI)) (ok : BlkOk X.N X.env.scope scope own) (hown : own.map (·.2) = tg.is)
    (hg : ∀ (s : Shared) (H : Hp) (C : Addr) (cl : List (Str × Addr)) (fp : List Addr), PG (X.blk s H scope (compEnvC scope cl C X.env) fp) tge (tgR G.K tg))
    (ht : ∀ (s : Shared) (H : Hp) (C : Addr) (cl : List (Str × Addr)) (fp : List Addr), PTs (X.blk s H scope (compEnvC scope cl C X.env) fp) ifs (tOfT G B noE fT))
    (he : ∀ (s : Shared) (H : Hp) (C : Addr) (cl : List (Str × Addr)) (fp : List Addr), PE (X.blk s H scope (compEnvC scope cl C X.env) fp) elt (tOf G B noE false fE)) (hs : ∀ x, foldedSetIterable iter X.env x = pure x) (hlen : ∀ i ∈ tg.is, i < X.N.length) :
    PS X (.Assign [.Name y py] (.ListComp elt [⟨tge, iter, ifs, 0⟩] scope pos) spos) (sOf G B E fun ρ => ((fI ρ).bind fun wi => (items wi).bind fun xs => (lcF (lcTurn fT fE tg ρ) xs).bind fun ds => .ok (.d (.list ds))).bind fun w => .ok (ρ.set i (if mu then .mu w else .va w), .nx)) :=
  ps_of (ps_setLc hc hN hy hyl hsw hi ok hg ht he hs) fun D σ H hl ⟨os, ρ, l, n, S, q⟩ => by
    show tLc _ _ _ _ (own.map (·.2)) σ H _
    rw [hown]
    refine lc_read (fun i hi => by rw [hl]; exact hlen i hi) ⟨os, ρ, l, S, (Rs.P_bind q).mono fun w _ q p H1 hos S1 => ?_⟩
    have hi : i < σ.length := by rw [hl]; exact (List.getElem?_eq_some_iff.mp hy).1
    cases mu with
    | true => exact q _ _ _ (S1.storeMu hos hi n)
    | false =>
      have S2 := S1.give hos false
      exact q _ _ _ (S2.tail.store (m := false) (S2.repW List.mem_cons_self) hi n)
end
end Pz
namespace Pz
open PySem PySem.Spec PyProof.Rows L2 LamX
section
variable {X : Cx} {G : Gc} {B : Bs} {E : XK}

/-! ### lists that are ours are written -/
theorem getML_P {α : Type} {ρ : En} {i : Nat} {f : List PyData → Rs α} {k : α → Prop} {x : Str → Prop} (h : ((getML ρ i).bind f).P k x) : ∃ xs, ρ[i]? = some (.mu (.d (.list xs))) ∧ (f xs).P k x := by
  unfold getML at h
  split at h
  · rename_i xs e
    exact ⟨xs, e, h⟩
  · exact h.elim
/-- its list is where it was -/
theorem StV.muL {os : Os} {ρ : En} {σ : L2.St} {H : Hp} {l : List Tm} {i : Nat} {xs : List PyData} (S : StV G B os ρ σ H l) (e : ρ[i]? = some (.mu (.d (.list xs)))) :
    ∃ p vs, σ[i]? = some (some (V.ref p)) ∧ os p = some (.slot i (.d (.list xs))) ∧ H p = some (.lst vs) ∧ DpAll G.K (frz os H) vs xs := by
  obtain ⟨p, h1, h2⟩ := S.mu i _ e
  obtain ⟨vs, h3, h4⟩ := (S.cs p i _ h2).1
  exact ⟨p, vs, h1, h2, h3, h4⟩
theorem s_app {i : Nat} {x : Str} {e : Expr} {px ap cp pos : Pos} {fa : En → Rs W} (hN : X.N[i]? = some x) (hv : Vis X.env.scope x) (hd : (x == ("__debug__" : Str)) = false) (hcd : (x == ("__classdict__" : Str)) = false) (he : PE X e (tOf G B E false fa))
    (hbase : attributeBase (.Name x px) "append" X.env (eval (.Name x px) X.env) = eval (.Name x px) X.env)
    (hfew : ((backTo cp (starEach (e :: []) X.env)).all (fun x => !x.1) && (backToKw cp (keywordEach [] X.env)).all (fun x => x.1.isSome)
      && decide ((e :: []).length + ([] : List Keyword).length + (if ([] : List Keyword).isEmpty then 0 else 1) < 30)) = true)
    (hline : (ap.endLine == cp.line) = true) (hs : starEach (e :: []) X.env = (false, eval e X.env) :: starEach [] X.env) (hpl : (backTo cp (starEach [] X.env)).any (·.1) = false) :
    PS X (.Expr (.Call (.Attribute (.Name x px) "append" ap) [e] [] cp) pos) (sOf G B E fun ρ => (getML ρ i).bind fun xs => (fa ρ).bind fun y => (appD xs y).bind fun z => .ok (ρ.set i (.mu z), .nx)) :=
  ps_of (ps_expr (pe_bm F.plainAttrs_list F.slot_list_append F.type_list_append mt_append (pe_var hN hv hd hcd) (pa_cons he pa_nil hs) hbase hfew hline hs hpl)) fun D σ H hl ⟨os, ρ, l, n, S, q⟩ => by
    obtain ⟨xs, e1, q⟩ := getML_P q
    obtain ⟨p, vs, h1, h2, h3, h4⟩ := S.muL e1
    refine ⟨.ref p, h1, .inl ⟨rfl, vs, .of h3⟩, os, ρ, l, S, (Rs.P_bind q).mono fun w _ q y H1 S1 => ?_⟩
    obtain ⟨p', vs', h1', h2', h3', h4'⟩ := S1.muL e1
    rw [h1] at h1'
    cases h1'
    cases w with
    | d d =>
      have q : ((if fits (xs.length + 1) then Rs.ok (W.d (.list (xs ++ [d]))) else .stuck).bind fun z => (Rs.ok (ρ.set i (.mu z), Fl.nx) : Rs (En × Fl))).P _ _ := q
      by_cases hf : fits (xs.length + 1) = true
      · rw [if_pos hf] at q
        have hf := fits_le hf
        refine ⟨p, vs', y, rfl, rfl, h3', by rw [dpAll_len h4']; omega, ?_⟩
        exact q _ _ _ (S1.tail.mutate e1 h1 h2' n ⟨_, upd_same, dpAll_append h4' (.cons (S1.repW List.mem_cons_self) .nil)⟩)
      · rw [if_neg hf] at q; exact q.elim
    | _ => exact q.elim
def rExtendK (K : PySem.W.Frag) : V → List V → Hp → VK → Prop := fun x vs H Q => ∃ l b xs zs, x = .ref l ∧ vs = [.ref b] ∧ H l = some (.lst xs) ∧ SqL K H b zs ∧ xs.length + zs.length ≤ sizeLine ∧ Q .non (upd H l (.lst (xs ++ zs)))
theorem mt_extendK (KL : KLs X.K) : MtM X "list.extend" (rExtendK X.K) := by
  intro pins s σ H x vs v us Q I rx rv ⟨l, b, xs, zs, e1, e2, hH, hB, hz, q⟩
  subst e1 e2
  cases rx
  obtain ⟨u, rfl, ru⟩ := rv.one
  cases ru
  obtain ⟨z, its, n, r, hl, e⟩ := I.lstM hH
  obtain ⟨its2, n2, r2, hl2, z2, e2⟩ := lstE KL I hB
  have hsum : its.toArray.size + its2.toArray.size ≤ sizeLine := by simp only [List.size_toArray]; omega
  have nl : ¬ (!its.toArray.isEmpty && Builtin.List.listTooLong (its.toArray.size + its2.toArray.size)) = true := by
    rw [notLongL hsum, Bool.and_false]
    decide
  refine call_meets F.slot_list_extend ⟨_, e, rfl⟩ F.entry_list_extend (F.args_list_extend_2 _ _) (AutoSeq1.list_extend_list_list_0 l its.toArray n b its2.toArray n2 nl (by simp only [List.size_toArray]; omega) (by omega)) ⟨e, e2, ?_⟩
  exact ⟨.non, _, I.lset (its' := its ++ its2) hH e (by simp) (r.append r2) (by rw [List.length_append]; omega), rfl, q⟩
theorem s_ext {i : Nat} {x : Str} {e : Expr} {px ap cp pos : Pos} {m : Bool} {fa : En → Rs W} (KL : KLs X.K) (hG : G.K = X.K) (hN : X.N[i]? = some x) (hv : Vis X.env.scope x) (hd : (x == ("__debug__" : Str)) = false) (hcd : (x == ("__classdict__" : Str)) = false) (he : PE X e (tOf G B E m fa))
    (hbase : attributeBase (.Name x px) "extend" X.env (eval (.Name x px) X.env) = eval (.Name x px) X.env)
    (hfew : ((backTo cp (starEach (e :: []) X.env)).all (fun x => !x.1) && (backToKw cp (keywordEach [] X.env)).all (fun x => x.1.isSome)
      && decide ((e :: []).length + ([] : List Keyword).length + (if ([] : List Keyword).isEmpty then 0 else 1) < 30)) = true)
    (hline : (ap.endLine == cp.line) = true) (hs : starEach (e :: []) X.env = (false, eval e X.env) :: starEach [] X.env) (hpl : (backTo cp (starEach [] X.env)).any (·.1) = false) :
    PS X (.Expr (.Call (.Attribute (.Name x px) "extend" ap) [e] [] cp) pos) (sOf G B E fun ρ => (getML ρ i).bind fun xs => (fa ρ).bind fun y => (extD xs y).bind fun z => .ok (ρ.set i (.mu z), .nx)) :=
  ps_of (ps_expr (pe_bm F.plainAttrs_list F.slot_list_extend F.type_list_extend (mt_extendK KL) (pe_var hN hv hd hcd) (pa_cons he pa_nil hs) hbase hfew hline hs hpl)) fun D σ H hl ⟨os, ρ, l, n, S, q⟩ => by
    obtain ⟨xs, e1, q⟩ := getML_P q
    obtain ⟨p, vs, h1, h2, h3, h4⟩ := S.muL e1
    refine ⟨.ref p, h1, .inl ⟨rfl, vs, .of h3⟩, os, ρ, l, S, (Rs.P_bind q).mono fun w _ q y H1 S1 => ?_⟩
    obtain ⟨p', vs', h1', h2', h3', h4'⟩ := S1.muL e1
    rw [h1] at h1'
    cases h1'
    cases w with
    | d d =>
      cases d with
      | list ys =>
        have q : ((if fits (xs.length + ys.length) then Rs.ok (W.d (.list (xs ++ ys))) else .stuck).bind fun z => (Rs.ok (ρ.set i (.mu z), Fl.nx) : Rs (En × Fl))).P _ _ := q
        by_cases hf : fits (xs.length + ys.length) = true
        · rw [if_pos hf] at q
          have hf := fits_le hf
          obtain ⟨b, zs, rfl, k1, k2⟩ := S1.lst List.mem_cons_self
          refine ⟨p, b, vs', zs, rfl, rfl, h3', hG ▸ k1, by rw [dpAll_len h4', dpAll_len k2]; exact hf, ?_⟩
          exact q _ _ _ (S1.tail.mutate e1 h1 h2' n ⟨_, upd_same, dpAll_append h4' k2⟩)
        · rw [if_neg hf] at q; exact q.elim
      | _ => exact q.elim
    | _ => exact q.elim

/-! ### raise -/
theorem s_rse {C : Addr} {bmB : List Value} {Bn newId initId : String} {x m : Str} {j : Nat} {p p2 cp pos : Pos} (Fx : ExcBaseFacts Bn newId initId bmB) (q : PySem.W.excIn X.K C bmB newId = true) (gC : X.mg x = some (.ref C)) (kC : PySem.W.keepIn X.K (.ref C) = true) (r : Raises X (.ref C)) (hg : Gl X x)
    (hdb : (x == ("__debug__" : Str)) = false) (hc : X.calm = true) (tk : Takes X fun cls d _ H => E cls d H) (hmg : G.mg = X.mg) :
    PS X (.Raise (some (.Call (.Name x p) [.Constant (.str m) j p2] [] cp)) none pos) (sOf G B E fun _ => .exc x) :=
  ps_of (ps_raise hc tk (pmk_own Fx q gC kC r hg hdb)) fun D σ H hl ⟨os, ρ, l, n, S, q⟩ => q H C S.base (S.tabs0 S.tabs) (by rw [hmg]; exact gC)
end
end Pz
namespace Pz
open PySem PySem.Spec PyProof.Rows L2 LamX
section
variable {X : Cx} {G : Gc} {B : Bs} {E : XK}
theorem r_neg {e : Expr} {pos : Pos} {m m' : Bool} {ev : En → Rs W} (h : PE X e (tOf G B E m ev)) : PE X (.UnaryOp .USub e pos) (tOf G B E m' fun ρ => (ev ρ).bind wNeg) :=
  pe_of (pe_un un_neg h) fun σ H Q ⟨os, ρ, l, S, q⟩ => ⟨os, ρ, l, S, (Rs.P_bind q).mono fun w _ q v H1 S1 => by
    cases w with
    | d x =>
      cases x with
      | int i => exact ⟨i, S1.int List.mem_cons_self, q _ _ (S1.reI (l' := [_]) rfl m' _)⟩
      | _ => exact q.elim
    | _ => exact q.elim⟩
/-- a bool, then its truth -/
theorem rBl_truth {r : Rs Bool} : (rBl r).bind truth = r := by cases r <;> rfl
theorem r_cmpT {a b : Expr} {op : CmpOp} {pos : Pos} {ma mb : Bool} {fa fb : En → Rs W} {g : W → W → Rs Bool} (ho : OpR X (compareOp op) (rW G B E ma mb false fun x y => rBl (g x y))) (ha : PE X a (tOf G B E ma fa)) (hb : PE X b (tOf G B E mb fb)) (hm : behindInMarks op b = false) :
    PT X (.Compare a [op] [b] pos) (tOfT G B E fun ρ => (fa ρ).bind fun x => (fb ρ).bind fun y => g x y) :=
  pt_of (pt_cmpR ho ha hb hm) fun σ H Q ⟨os, ρ, l, S, q⟩ => ⟨os, ρ, l, S, (Rs.P_bind q).mono fun wx _ q x H1 S1 => ⟨os, ρ, _, S1, (Rs.P_bind q).mono fun wy _ q y H2 S2 => ⟨os, ρ, σ, l, wx, wy, S2, by
    dsimp only at q ⊢
    cases e : g wx wy with
    | ok k => rw [e] at q; exact fun z H3 S3 => ⟨k, S3.bl List.mem_cons_self, q H3 S3.tail⟩
    | exc c => rw [e] at q; exact q
    | stuck => rw [e] at q; exact q⟩⟩⟩
theorem r_chT {op op' : CmpOp} {a b c : Expr} {pos : Pos} {fa fb fc : En → Rs W} {g g' : W → W → Rs Bool} (ho : OpR X (compareOp op) (rW G B E true true false fun x y => rBl (g x y))) (ho' : OpR X (compareOp op') (rW G B E true true false fun x y => rBl (g' x y)))
    (ha : PE X a (tOf G B E true fa)) (hb : PE X b (tOf G B E true fb)) (hc : PE X c (tOf G B E true fc)) (hm : lastMarks [op, op'] [b, c] = false) :
    PT X (.Compare a [op, op'] [b, c] pos) (tOfT G B E fun ρ => (fa ρ).bind fun x => (fb ρ).bind fun y => (g x y).bind fun k => if k then (fc ρ).bind fun z => g' y z else .ok false) := by
  refine pt_of (pt_chain ho ho' ha hb hc hm) fun σ H Q ⟨os, ρ, l, S, q⟩ => ⟨os, ρ, l, S, (Rs.P_bind q).mono fun wx _ q x H1 S1 => ⟨os, ρ, _, S1, (Rs.P_bind q).mono fun wy _ q y H2 S2 => ?_⟩⟩
  have q := Rs.P_bind q
  refine ⟨os, ρ, σ, (y, wy, true) :: l, wx, wy, S2.sub (fun t ht => ?_), ?_⟩
  · simp only [List.mem_cons] at ht ⊢
    rcases ht with h | h | h | h
    · exact .inl h
    · exact .inr (.inl h)
    · exact .inl h
    · exact .inr (.inr h)
  · show (rBl (g wx wy)).P _ _
    cases e : g wx wy with
    | ok k =>
      rw [e] at q
      refine fun z H3 S3 => ⟨k, S3.bl List.mem_cons_self, ?_⟩
      cases k with
      | true => exact ⟨os, ρ, (y, wy, true) :: l, S3.tail, (Rs.P_bind q).mono fun wz _ q z' H4 S4 => ⟨os, ρ, σ, l, wy, wz, S4, by
          dsimp only at q ⊢
          cases e : g' wy wz with
          | ok k => rw [e] at q; exact fun z H3 S3 => ⟨k, S3.bl List.mem_cons_self, q H3 S3.tail⟩
          | exc c => rw [e] at q; exact q
          | stuck => rw [e] at q; exact q⟩⟩
      | false => exact ⟨false, rfl, q _ S3.tail.tail⟩
    | exc y => rw [e] at q; exact q
    | stuck => rw [e] at q; exact q
theorem c_listN (hG : G.K = X.K) : CallR X (.type "list") (fun vs H Q => ∃ os ρ σ l ws, vs.length = ws.length ∧ StV G B os ρ σ H (tms true vs ws ++ l) ∧
    (wBi .list ws).P (fun w => ∀ p H', os p = none → StV G B (os.put p (.tmp w)) ρ σ H' l → Q (.ref p) H') (XW G B E)) := by
  intro pins s σ H vs us Q I r ⟨os, ρ, σ', l, ws, hl, S, q⟩
  unfold wBi at q
  split at q <;> first | contradiction | skip
  · obtain ⟨v, rfl, S⟩ := one_tm hl S
    obtain ⟨a, ys, rfl, h1, h2⟩ := S.lst List.mem_cons_self
    exact call_list_of pins s σ H _ us Q I r ⟨a, ys, rfl, .inl (hG ▸ h1), fun p hp => q p _ (S.fresh hp) (S.tail.own hp ⟨ys, upd_same, h2⟩)⟩
  · obtain ⟨v, rfl, S⟩ := one_tm hl S
    obtain ⟨a, ys, rfl, h1, h2⟩ := S.tup List.mem_cons_self
    exact call_list_of pins s σ H _ us Q I r ⟨a, ys, rfl, .inr (hG ▸ h1), fun p hp => q p _ (S.fresh hp) (S.tail.own hp ⟨ys, upd_same, h2⟩)⟩
theorem r_listN {x : Str} {e : Expr} {p pos : Pos} {ew : En → Rs (List W)} (hG : G.K = X.K) (hg : Gl X x) (hm : X.mg x = none) (hv : bootBuiltins x = some (.type "list")) (ha : PA X [e] (tOfA G B E true ew))
    (hn : x ≠ "__name__") (hdb : (x == ("__debug__" : Str)) = false) (he : starEach [e] X.env = (false, eval e X.env) :: starEach [] X.env) (hpl : (backTo pos (starEach [] X.env)).any (·.1) = false) :
    PE X (.Call (.Name x p) [e] [] pos) (tOfN G B E fun ρ => (ew ρ).bind (wBi .list)) :=
  pe_of (pe_callTy (c_listN (G := G) (B := B) (E := E) hG) hg hm hv ha hn hdb he hpl) fun σ H Q ⟨os, ρ, l, S, q⟩ => ⟨os, ρ, l, S, (Rs.P_bind q).mono fun ws _ q vs H1 hl S1 => ⟨os, ρ, σ, l, ws, hl, S1, q⟩⟩

/-! ### side conditions by shape -/
def noStar : Expr → Bool
  | .Starred _ _ => false
  | _ => true
theorem star_cons {e : Expr} {es : List Expr} {env : Env} (h : noStar e = true) : starEach (e :: es) env = (false, eval e env) :: starEach es env := by
  cases e <;> first | rfl | cases h
theorem star_any {pos : Pos} {env : Env} : ∀ {es : List Expr}, es.all noStar = true → (backTo pos (starEach es env)).any (·.1) = false
  | [], _ => rfl
  | e :: es, h => by
    rw [List.all_cons, Bool.and_eq_true] at h
    rw [star_cons h.1]
    exact star_any (es := es) h.2
theorem star_few {cp : Pos} {e : Expr} {env : Env} (h : noStar e = true) : ((backTo cp (starEach (e :: []) env)).all (fun x => !x.1) && (backToKw cp (keywordEach [] env)).all (fun x => x.1.isSome)
      && decide ((e :: []).length + ([] : List Keyword).length + (if ([] : List Keyword).isEmpty then 0 else 1) < 30)) = true := by
  rw [star_cons h]
  rfl
def plainT : Expr → Bool
  | .UnaryOp op _ _ => match op with
    | .Not => false
    | _ => true
  | .BoolOp _ _ _ => false
  | .IfExp _ _ _ _ => false
  | .Compare _ _ _ _ => false
  | _ => true
theorem plainT_eq {e : Expr} {env : Env} (h : plainT e = true) : ∀ whole, isTrue e env whole = (do let v ← whole; standAt e.pos; holding [v] (truthy v)) := by
  intro whole
  cases e with
  | UnaryOp op a p => cases op <;> first | rfl | cases h
  | _ => first | rfl | cases h
def plainI : Expr → Bool
  | .Slice _ _ _ _ => false
  | _ => true
theorem plainI_ix {b : Expr} (h : plainI b = true) : PlainIx b := by
  intro o i
  cases b <;> first | rfl | cases h
def noSet : Expr → Bool
  | .Set _ _ _ => false
  | _ => true
theorem noSet_fold {e : Expr} {env : Env} (h : noSet e = true) : ∀ x, foldedSetIterable e env x = pure x := by
  intro x
  cases e <;> first | rfl | cases h
def noComp : Expr → Bool
  | .ListComp _ _ _ _ => false
  | .SetComp _ _ _ _ => false
  | .DictComp _ _ _ _ _ => false
  | _ => true
theorem noComp_sw {e : Expr} {t : Option Expr} {n : Nat} {env : Env} (h : noComp e = true) : swapsWith e t n env = pure false := by
  cases e <;> first | rfl | cases h
end
end Pz
namespace Pz
open PySem PySem.Spec PyProof.Rows L2 LamX

/-! ### more side conditions -/
def isLcl (sc : Scope) (x : Str) : Bool := match sc.names.lookup x with
  | some .local => true
  | _ => false
theorem isLcl_eq {sc : Scope} {x : Str} (h : isLcl sc x = true) : sc.names.lookup x = some .local := by
  unfold isLcl at h
  split at h
  · assumption
  · cases h
def swB (sc : Scope) (y : Str) (py : Pos) (scope : Scope) (pos : Pos) : Bool := (isLcl sc y && (py.line == pos.line)) && !(scope.names.any fun (n, k) => n == y && (k == .local || k == .cell))
theorem lcl_beq {sc : Scope} {y : Str} : (sc.names.lookup y == some NameKind.local) = isLcl sc y := by
  unfold isLcl
  split
  · rename_i e; rw [e]; rfl
  · rename_i e
    cases h : sc.names.lookup y with
    | none => rfl
    | some k => cases k <;> first | rfl | exact absurd h e
theorem sw_lc {elt : Expr} {gs : List Comprehension} {scope : Scope} {pos py : Pos} {y : Str} {n : Nat} {env : Env} (hk : env.scope.kind = .function) :
    swapsWith (.ListComp elt gs scope pos) (some (.Name y py)) n env = pure (swB env.scope y py scope pos) := by
  have e1 : env.blockKind = .function := by unfold Env.blockKind; rw [hk]; rfl
  have e2 : (env.kindOf y == some NameKind.local) = isLcl env.scope y := lcl_beq
  unfold swapsWith swB
  simp only [e1, e2, Expr.pos]
  rfl
theorem sw_dc {ke elt : Expr} {gs : List Comprehension} {scope : Scope} {pos py : Pos} {y : Str} {n : Nat} {env : Env} (hk : env.scope.kind = .function) :
    swapsWith (.DictComp ke elt gs scope pos) (some (.Name y py)) n env = pure (swB env.scope y py scope pos) := by
  have e1 : env.blockKind = .function := by unfold Env.blockKind; rw [hk]; rfl
  have e2 : (env.kindOf y == some NameKind.local) = isLcl env.scope y := lcl_beq
  unfold swapsWith swB
  simp only [e1, e2, Expr.pos]
  rfl
def par2B (sc : Scope) (x y : Str) (px py : Pos) (a b : Expr) : Bool := (isLcl sc x && isLcl sc y) && (((py.line == px.line) && decide (x ≠ y)) && ((noStar a && noStar b) && (!([a, b].all (foldedForSure 8)) && !([a, b].all (constantsAlone 8)))))
theorem noStar_any : ∀ {es : List Expr}, es.all noStar = true → (es.any fun | .Starred .. => true | _ => false) = false
  | [], _ => rfl
  | e :: es, h => by
    rw [List.all_cons, Bool.and_eq_true] at h
    rw [List.any_cons, noStar_any h.2]
    cases e <;> first | rfl | cases h.1
theorem par2_sw {sc : Scope} {x y : Str} {px py pt : Pos} {a b : Expr} {kt k2 : Nat} {pt2 : Pos} {env : Env} (hk : env.scope.kind = .function) (hsc : env.scope = sc) (h : par2B sc x y px py a b = true) :
    swappedStores [.Tuple [.Name x px, .Name y py] kt pt] (.Tuple [a, b] k2 pt2) env = pure (some [x, y]) := by
  subst hsc
  unfold par2B at h
  simp only [Bool.and_eq_true, decide_eq_true_eq, Bool.not_eq_true'] at h
  obtain ⟨⟨h1, h2⟩, ⟨h3, h4⟩, ⟨h5, h6⟩, h7, h8⟩ := h
  have e1 : env.blockKind = .function := by unfold Env.blockKind; rw [hk]; rfl
  have e2 : (env.kindOf x == some NameKind.local) = true := lcl_beq.trans h1
  have e3 : (env.kindOf y == some NameKind.local) = true := lcl_beq.trans h2
  have e4 : ([a, b].any fun | .Starred .. => true | _ => false) = false := noStar_any (by simp [h5, h6])
  have hA : (if (env.kindOf x == some NameKind.local && px.line == px.line) = true then some x else none) = some x := by rw [if_pos]; rw [e2, beq_self_eq_true]; rfl
  have hB : (if (env.kindOf y == some NameKind.local && py.line == px.line) = true then some y else none) = some y := by rw [if_pos]; rw [e3, h3]; rfl
  have e7 : [x, y].eraseDups.length = 2 := by
    have e6 : (y == x) = false := beq_eq_false_iff_ne.mpr (Ne.symm h4)
    simp [List.eraseDups_cons, e6, h4, Ne.symm h4]
  unfold swappedStores
  dsimp only [List.filterMap, List.head?, Option.map, Expr.pos, List.length, Option.getD]
  simp only [hA, hB, e1]
  rw [if_neg (by decide)]
  refine Eq.trans (if_neg fun z => Bool.false_ne_true (e4.symm.trans z)) ?_
  simp only [e7]
  refine Eq.trans (if_neg (show ¬ (((2 : Nat) != 2 || (2 : Nat) != 2) = true) by decide)) ?_
  rw [if_neg (by rw [h7]; decide), if_neg (by rw [h8]; decide)]
def par3B (sc : Scope) (x y z : Str) (px py pz : Pos) (a b c : Expr) : Bool := (isLcl sc x && (isLcl sc y && isLcl sc z)) && (((py.line == px.line) && ((pz.line == px.line) && (decide (x ≠ y) && (decide (x ≠ z) && decide (y ≠ z))))) && ((noStar a && (noStar b && noStar c)) && (!([a, b, c].all (foldedForSure 8)) && !([a, b, c].all (constantsAlone 8)))))
theorem par3_sw {sc : Scope} {x y z : Str} {px py pz pt : Pos} {a b c : Expr} {kt k2 : Nat} {pt2 : Pos} {env : Env} (hk : env.scope.kind = .function) (hsc : env.scope = sc) (h : par3B sc x y z px py pz a b c = true) :
    swappedStores [.Tuple [.Name x px, .Name y py, .Name z pz] kt pt] (.Tuple [a, b, c] k2 pt2) env = pure (some [x, y, z]) := by
  subst hsc
  unfold par3B at h
  simp only [Bool.and_eq_true, decide_eq_true_eq, Bool.not_eq_true'] at h
  obtain ⟨⟨h1, h2, h0⟩, ⟨h3, h9, h4, h10, h11⟩, ⟨h5, h6, h12⟩, h7, h8⟩ := h
  have e1 : env.blockKind = .function := by unfold Env.blockKind; rw [hk]; rfl
  have e2 : (env.kindOf x == some NameKind.local) = true := lcl_beq.trans h1
  have e3 : (env.kindOf y == some NameKind.local) = true := lcl_beq.trans h2
  have e0 : (env.kindOf z == some NameKind.local) = true := lcl_beq.trans h0
  have e4 : ([a, b, c].any fun | .Starred .. => true | _ => false) = false := noStar_any (by simp [h5, h6, h12])
  have hA : (if (env.kindOf x == some NameKind.local && px.line == px.line) = true then some x else none) = some x := by rw [if_pos]; rw [e2, beq_self_eq_true]; rfl
  have hB : (if (env.kindOf y == some NameKind.local && py.line == px.line) = true then some y else none) = some y := by rw [if_pos]; rw [e3, h3]; rfl
  have hC : (if (env.kindOf z == some NameKind.local && pz.line == px.line) = true then some z else none) = some z := by rw [if_pos]; rw [e0, h9]; rfl
  have e7 : [x, y, z].eraseDups.length = 3 := by
    have q1 : (y == x) = false := beq_eq_false_iff_ne.mpr (Ne.symm h4)
    have q2 : (z == x) = false := beq_eq_false_iff_ne.mpr (Ne.symm h10)
    have q3 : (z == y) = false := beq_eq_false_iff_ne.mpr (Ne.symm h11)
    simp [List.eraseDups_cons, q1, q2, q3, h4, Ne.symm h4, h10, Ne.symm h10, h11, Ne.symm h11]
  unfold swappedStores
  dsimp only [List.filterMap, List.head?, Option.map, Expr.pos, List.length, Option.getD]
  simp only [hA, hB, hC, e1]
  rw [if_neg (by decide)]
  refine Eq.trans (if_neg fun z => Bool.false_ne_true (e4.symm.trans z)) ?_
  simp only [e7]
  refine Eq.trans (if_neg (show ¬ (((3 : Nat) != 3 || (3 : Nat) != 3) = true) by decide)) ?_
  rw [if_neg (by rw [h7]; decide), if_neg (by rw [h8]; decide)]
theorem const_sw {ts vs : List Expr} {kt k2 : Nat} {pt pt2 : Pos} {env : Env} (h : vs.all (foldedForSure 8) = true) : swappedStores [.Tuple ts kt pt] (.Tuple vs k2 pt2) env = pure none := by
  unfold swappedStores
  dsimp only
  simp only [h, if_true]
  repeat' split
  all_goals rfl
def noTupV : Expr → Bool
  | .Tuple _ _ _ => false
  | _ => true
theorem noTup_sw {ts : List Expr} {kt : Nat} {pt : Pos} {e : Expr} {env : Env} (h : noTupV e = true) : swappedStores [.Tuple ts kt pt] e env = pure none := by
  cases e <;> first | rfl | cases h
def someOut (sc : Scope) (ts : List Expr) : Bool := !(ts.length == 2 || ts.length == 3) || ts.any fun
  | .Name x _ => !isLcl sc x
  | _ => true
theorem fm_lt {α β : Type} {f : α → Option β} : ∀ {l : List α}, (∃ a ∈ l, f a = none) → (l.filterMap f).length < l.length
  | [], ⟨a, h, _⟩ => by cases h
  | b :: l, ⟨a, h, e⟩ => by
    rcases List.mem_cons.mp h with e2 | h2
    · subst e2
      rw [List.filterMap_cons_none e]
      exact Nat.lt_succ_of_le (List.length_filterMap_le ..)
    · have := fm_lt (l := l) ⟨a, h2, e⟩
      cases q : f b with
      | none => rw [List.filterMap_cons_none q]; exact Nat.lt_succ_of_lt this
      | some c => rw [List.filterMap_cons_some q]; exact Nat.succ_lt_succ this
theorem cell_sw {sc : Scope} {ts vs : List Expr} {kt k2 : Nat} {pt pt2 : Pos} {env : Env} (hsc : env.scope = sc) (h : someOut sc ts = true) : swappedStores [.Tuple ts kt pt] (.Tuple vs k2 pt2) env = pure none := by
  subst hsc
  unfold someOut at h
  rw [Bool.or_eq_true] at h
  unfold swappedStores
  dsimp only
  split
  · rfl
  · rename_i h1
    split
    · rfl
    · rcases h with h | h
      · rw [h] at h1; simp at h1
      · obtain ⟨a, ha, hb⟩ := List.any_eq_true.mp h
        rw [if_pos]
        rw [Bool.or_eq_true]
        refine .inl (bne_iff_ne.mpr (Nat.ne_of_lt (fm_lt ⟨a, ha, ?_⟩)))
        cases a with
        | Name x p =>
          have e2 : (env.kindOf x == some NameKind.local) = isLcl env.scope x := lcl_beq
          have e3 : isLcl env.scope x = false := by simpa using hb
          simp only [e2, e3, Bool.false_and]
          rfl
        | _ => rfl
theorem noComp_sole {t e : Expr} {n : Nat} {env : Env} (h : noComp e = true) : swapsWithSole [t] e n env = pure false := noComp_sw h
theorem assign_tup {ts : List Expr} {k : Nat} {p : Pos} {env : Env} : (assignEach [.Tuple ts k p] env).map (·.2) = [assign (.Tuple ts k p) env] := rfl
end Pz
namespace Pz
open PySem PySem.Spec PyProof.Rows L2 LamX

/-! ### sorted(xs): lists and tuples of data -/
mutual
theorem reads_live {h : Heap} : ∀ (d : PyData) (v : Value) (as : List Addr), Reads h v d as → ∀ a ∈ as, h.get? a ≠ none
  | .none, _, _, r => by cases r; exact fun a ha => by cases ha
  | .bool _, _, _, r => by cases r; exact fun a ha => by cases ha
  | .int _, _, _, r => by cases r; exact fun a ha => by cases ha
  | .str _, _, _, r => by cases r; exact fun a ha => by cases ha
  | .list xs, _, _, r => by
    cases r with
    | list h1 h2 h3 h4 =>
      intro a ha
      rcases List.mem_cons.mp ha with e | ha
      · rw [e, h1]; exact fun z => by cases z
      · exact reads_lives xs _ _ h4 a ha
  | .tuple xs, _, _, r => by
    cases r with
    | tuple h1 h2 h3 h4 => exact reads_lives xs _ _ h4
  | .dict kvs, _, _, r => by
    cases r with
    | dict h1 h2 h3 h4 h5 =>
      intro a ha
      simp only [List.mem_append, List.mem_cons] at ha
      rcases ha with (e | q) | q
      · rw [e, h1]; exact fun z => by cases z
      · exact reads_keys kvs _ _ h4 a q
      · exact reads_vals kvs _ _ h5 a q
theorem reads_keys {h : Heap} : ∀ (ds : List (PyData × PyData)) (vs : List Value) (as : List Addr), ReadsAll h vs (ds.map fun x => x.1) as → ∀ a ∈ as, h.get? a ≠ none
  | [], _, _, r => by cases r; exact fun a ha => by cases ha
  | (d, _) :: ds, _, _, r => by
    cases r with
    | cons h1 h2 =>
      intro a ha
      rcases List.mem_append.mp ha with q | q
      · exact reads_live d _ _ h1 a q
      · exact reads_keys ds _ _ h2 a q
theorem reads_vals {h : Heap} : ∀ (ds : List (PyData × PyData)) (vs : List Value) (as : List Addr), ReadsAll h vs (ds.map fun x => x.2) as → ∀ a ∈ as, h.get? a ≠ none
  | [], _, _, r => by cases r; exact fun a ha => by cases ha
  | (_, d) :: ds, _, _, r => by
    cases r with
    | cons h1 h2 =>
      intro a ha
      rcases List.mem_append.mp ha with q | q
      · exact reads_live d _ _ h1 a q
      · exact reads_vals ds _ _ h2 a q
theorem reads_lives {h : Heap} : ∀ (ds : List PyData) (vs : List Value) (as : List Addr), ReadsAll h vs ds as → ∀ a ∈ as, h.get? a ≠ none
  | [], _, _, r => by cases r; exact fun a ha => by cases ha
  | d :: ds, _, _, r => by
    cases r with
    | cons h1 h2 =>
      intro a ha
      rcases List.mem_append.mp ha with q | q
      · exact reads_live d _ _ h1 a q
      · exact reads_lives ds _ _ h2 a q
end
section
variable {prog : Program} {w : World} {A : Around} {E : Value → Shared → Prop} {s : Shared}
/-- the items of a list or a tuple, gathered in a list of their own -/
theorem gather_seq {l : Addr} {T : String} {o : Obj} {xs : Array Value} {n : Nat} {Q : List Value → Shared → Prop} (hT : T = "list" ∨ T = "tuple") (ho : s.heap.get? l = some o) (hc : o.cls = .type T) (hd : o.data = .seq xs n) (hz : xs.size ≤ sizeLine)
    (hq : ∀ h' : Heap, (∀ b u, s.heap.get? b = some u → h'.get? b = some u) → s.heap.objs.size ≤ h'.objs.size → Q xs.toList { s with heap := h' }) : wpAny (model prog w) A (collect (.ref l)) Q E s := by
  have new : ∀ f : Obj → Obj, (s.heap.push (seqObj "list" #[] 0)).get? s.heap.objs.size = some (seqObj "list" #[] 0) := fun _ => Heap.get?_push_size _ rfl
  have last : wpAny (model prog w) A (do
      match (← load s.heap.objs.size).data with
      | .seq ys _ => pure ys.toList
      | _ => unsupported "internal:collect") Q E { s with heap := (s.heap.push (seqObj "list" #[] 0)).update s.heap.objs.size (Obj.mapSeq (· ++ xs)) } := by
    refine wpAny_bind (wpAny_load (get?_update_seq (new id) (· ++ xs)) ?_)
    show wpAny _ _ (pure ((#[] : Array Value) ++ xs).toList) Q E _
    rw [show ((#[] : Array Value) ++ xs).toList = xs.toList by simp]
    refine wpAny_pure (hq _ (fun b u e => ?_) ?_)
    · rw [Heap.get?_update_ne _ _ _ _ (Nat.ne_of_lt (Heap.lt_size e))]
      exact Heap.get?_push_of_some _ e
    · rw [Heap.size_update, Heap.size_push]; exact Nat.le_succ _
  unfold collect
  refine wpAny_bind (wpAny_runValue (codeAny_builtin F.entry_proto_collect ?_))
  rw [Around.under_plainId F.plain_proto_collect _]
  show wpAny _ A.in1 (newList [] >>= fun y => again (.builtin "list.__iadd__" ⟨[y, .ref l], []⟩)) _ _ s
  refine wpAny_bind (wpAny_newList (wpAny_pure ⟨plainId_quiet F.plain_list_iadd _, codeAny_builtin F.entry_list_iadd ?_⟩))
  rw [Around.under_plainId F.plain_list_iadd _]
  refine wpAny_mono (wpAny_extend_seq (hsz := hz) (A := A) (R := fun r t => r = .ok (.ret (.ref s.heap.objs.size)) ∧ t = { s with heap := (s.heap.push (seqObj "list" #[] 0)).update s.heap.objs.size (Obj.mapSeq (· ++ xs)) }) (s := { s with heap := s.heap.push (seqObj "list" #[] 0) }) _ l _ 0 hT (new id)
    (Heap.get?_push_of_some _ ho) hc hd ⟨rfl, rfl⟩) (fun fin t q => ?_) (fun e t q => absurd q.1 (by simp))
  cases fin with
  | done f =>
    obtain ⟨e, rfl⟩ := q
    cases e
    exact last
  | again c => exact ⟨q.1, codeAny_mono q.2 fun r t' hr => by obtain ⟨rfl, rfl⟩ := hr; exact last⟩
/-- sorted(xs, ..): a new list of the items, then its sort -/
theorem sorted_start {l : Addr} {T : String} {o : Obj} {vs : List Value} {n : Nat} {kw : List (Str × Value)} {Q : Value → Shared → Prop} (hT : T = "list" ∨ T = "tuple") (ho : s.heap.get? l = some o) (hc : o.cls = .type T) (hd : o.data = .seq vs.toArray n) (hL : vs.length ≤ sizeLine) (ha : argsOk "sorted" ⟨[.ref l], kw⟩)
    (body : ∀ (E' : Value → Shared → Prop) (h' : Heap), (∀ b u, s.heap.get? b = some u → h'.get? b = some u) → s.heap.objs.size ≤ h'.objs.size →
      wpAny (model prog w) A.in1 (call (.builtin "list.sort") [.ref h'.objs.size] kw) (fun _ s' => Q (.ref h'.objs.size) s') E' { s with heap := h'.push (seqObj "list" vs.toArray 0) }) :
    wpAny (model prog w) A (call (.builtin "sorted") [.ref l] kw) Q E s := by
  refine call_function_entry_kw kind_sorted plain_sorted entry_sorted ha ?_
  unfold Builtin.«sorted»
  refine wpAny_bind (m := checkCount "sorted" 1 1 _) (wpAny_pure ?_)
  refine wpAny_bind (gather_seq hT ho hc hd (by simpa using hL) fun h' k hz => ?_)
  refine wpAny_bind (wpAny_newList ?_ (by simpa using hL))
  exact wpAny_bind (wpAny_holding (wpAny_mono (body _ h' k hz) (fun r s' q => wpAny_pure ⟨_, rfl, q⟩) fun _ _ z => z))
end
theorem sortable_ok {ds : List PyData} (h : sortable ds = true) : (∀ d ∈ ds, okd d = true) ∧ PySem.W.AllAlike ds ∧ PySem.W.Sortable ds := by
  unfold sortable at h
  simp only [Bool.and_eq_true, Bool.or_eq_true, List.all_eq_true] at h
  obtain ⟨h1, h2⟩ := h
  refine ⟨fun d hd => (h1 d hd).1, fun d hd d' hd' => (h1 d hd).2 d' hd', ?_⟩
  rcases h2 with h2 | h2
  · refine .inl fun d hd => ?_
    have q := h2 d hd
    split at q
    · exact ⟨_, _, rfl⟩
    · cases q
  · refine .inr fun d hd => ?_
    have q := h2 d hd
    split at q
    · cases q
    · cases q
    · rename_i n1 n2
      exact ⟨n1, fun xs e => n2 xs e⟩
/-- values that stand for data -/
theorem each_of {I : Type} {K : PySem.W.Frag} {F : Hp} : ∀ {vs : List V} {us : List Value} {ds : List PyData}, Vals vs us → DpAll K F vs ds → PySem.W.EachIs (fun u d => ∃ v, RelV v u ∧ Dp K F v d) us ds
  | _, _, [], .nil, h => by cases h; exact .nil
  | _, _, d :: ds, .nil, h => by cases h
  | _, _, [], .cons _ _, h => by cases h
  | _, _, d :: ds, .cons r t, h => by
    cases h with
    | cons h1 h2 => exact .cons ⟨_, r, h1⟩ (each_of (I := I) t h2)
theorem of_each {K : PySem.W.Frag} {F : Hp} : ∀ {us : List Value} {ds : List PyData}, PySem.W.EachIs (fun u d => ∃ v, RelV v u ∧ Dp K F v d) us ds → ∃ vs, Vals vs us ∧ DpAll K F vs ds
  | _, _, .nil => ⟨[], .nil, .nil⟩
  | _, _, .cons ⟨v, r, h⟩ t => by
    obtain ⟨vs, h1, h2⟩ := of_each t
    exact ⟨v :: vs, .cons r h1, .cons h h2⟩
theorem each_reads {X : Cx} {pins : List (Addr × Obj)} {σ : L2.St} {H : Hp} {s : Shared} (I : Inv X pins σ H s) : ∀ {vs : List V} {us : List Value} {ds : List PyData}, Vals vs us → DpAll X.K H vs ds → PySem.W.EachIs (fun u d => ∃ as, Reads s.heap u d as) us ds
  | _, _, [], .nil, h => by cases h; exact .nil
  | _, _, d :: ds, .nil, h => by cases h
  | _, _, [], .cons _ _, h => by cases h
  | _, _, d :: ds, .cons r t, h => by
    cases h with
    | cons h1 h2 => exact .cons (Dp.reads I _ _ _ h1 r) (each_reads I t h2)
section
variable {X : Cx} {G : Gc} {B : Bs} {E : XK}
/-- a new list's object, from an older heap -/
theorem inv_new {pins : List (Addr × Obj)} {σ : L2.St} {H : Hp} {s : Shared} {a : Addr} {vs : List V} {us : List Value} {n tk : Nat} {h' : Heap} (I : Inv X pins σ H s) (k : ∀ b u, s.heap.get? b = some u → h'.get? b = some u) (ha : s.heap.objs.size ≤ a) (hz : vs.length ≤ sizeLine)
    (r : Vals vs us) (e : h'.get? a = some (seqObj "list" us.toArray n)) : Inv X pins σ (upd H a (.lst vs)) { s with heap := h', toks := tk } :=
  I.laid k ha (show ObjOk X.prog X.w _ h' _ (.lst vs) from ⟨hz, us, n, r, e⟩)
theorem c_sorted {m : Bool} (hG : G.K = X.K) (hu : X.A.units + 150 < cLine) : CallR X (.builtin "sorted") (rWs G B E m fun ws => match ws with
    | [.d (.list xs)] => (sortD xs).bind fun ys => .ok (.d (.list ys))
    | [.d (.tuple xs)] => (sortD xs).bind fun ys => .ok (.d (.list ys))
    | _ => .stuck) := by
  have core : ∀ (T : String) (pins : List (Addr × Obj)) (s : Shared) (σ : L2.St) (H : Hp) (l : Addr) (us : List Value) (xs : List PyData) (vs : List V) (n : Nat) (o : Obj) (os : Os) (ρ : En) (σ' : L2.St) (tm : List Tm) (Q : VK), T = "list" ∨ T = "tuple" → Inv X pins σ H s → s.heap.get? l = some o → o.cls = .type T → o.data = .seq us.toArray n →
      us.length ≤ sizeLine → Vals vs us → StV G B os ρ σ' H tm → DpAll G.K (frz os H) vs xs → ((sortD xs).bind fun ys => Rs.ok (W.d (.list ys))).P (fun w => ∀ z H', StV G B os ρ σ' H' ((z, w, m) :: tm) → Q z H') (XW G B E) →
      wpAny (model X.prog X.w) X.A (call (.builtin "sorted") [.ref l]) (EP X pins σ Q) X.xe s := fun T pins s σ H l us xs vs n o os ρ σ' tm Q hT I ho hc hd hz rv S hv q => by
    unfold sortD at q
    by_cases hs : sortable xs = true
    · rw [if_pos hs] at q
      obtain ⟨s1, s2, s3⟩ := sortable_ok hs
      have hlen : us.length = xs.length := by rw [← rv.length]; exact dpAll_len hv
      have e1 := each_of (I := Unit) rv hv
      have e2 := each_reads I rv (hG ▸ dpAll_ext (frz_le os H) _ _ hv)
      refine sorted_start hT ho hc hd hz (args_sorted1 _) fun E' h' k hsz => ?_
      have e3 : PySem.W.EachIs (fun u d => ∃ as, Reads (h'.push (seqObj "list" us.toArray 0)) u (id d) as ∧ h'.objs.size ∉ as) us xs := e2.mono fun u d ⟨as, r⟩ => ⟨as, PyProof.Rows.Reads.keeps (fun b u e => Heap.get?_push_of_some _ (k b u e)) r, fun hm => by
        have q1 := reads_live _ _ _ r _ hm
        cases q2 : s.heap.get? h'.objs.size with
        | none => exact q1 q2
        | some u => exact absurd (Heap.lt_size (k _ _ q2)) (Nat.lt_irrefl _)⟩
      have e4 : ∀ d, d ∈ xs → X.A.in1.units + 1 + (id d : PyData).depth < cLine := fun d hd' => by
        have q1 := SeqAt.depth_of_shaped (s1 d hd')
        show X.A.units + 1 + 1 + d.depth < cLine
        omega
      refine PySem.W.list_sort_data (n := 0) (enc := id) (bs := xs) (R := fun u d => ∃ v, RelV v u ∧ Dp G.K (frz os H) v d) (Heap.get?_push_size _ rfl) e1 e3 (by rw [List.map_id]; exact s2) (by rw [List.map_id]; exact s3) (by rw [← hlen]; exact hz) e4 ?_
      intro out hol he
      obtain ⟨zs, z1, z2⟩ := of_each he
      ·
        obtain ⟨c, hc'⟩ := sortedHeap_at (out := List.toArray out) (show (h'.push (seqObj "list" us.toArray 0)).get? h'.objs.size = some (seqObj "list" us.toArray 0) from Heap.get?_push_size _ rfl)
        have hp : H h'.objs.size = none := I.hok.fresh hsz
        refine ⟨.ref h'.objs.size, _, inv_new (s := s) (tk := s.toks) I (fun b u e => ?_) hsz ?_ z1 hc', rfl, q _ _ (S.newLf hp z2 m)⟩
        · have lt := Heap.lt_size (k b u e)
          rw [sortedHeap_old (Nat.ne_of_lt lt) (by rw [Heap.size_push]; exact Nat.lt_succ_of_lt lt)]
          exact Heap.get?_push_of_some _ (k b u e)
        · rw [z1.length, hol, ← hlen]; exact hz
    · rw [if_neg hs] at q; exact q.elim
  intro pins s σ H vs us Q I r ⟨os, ρ, σ', l, ws, hl, S, q⟩
  dsimp only at q
  split at q <;> first | contradiction | skip
  · obtain ⟨v, rfl, S⟩ := one_tm hl S
    obtain ⟨a, ys, rfl, h1, h2⟩ := S.lst List.mem_cons_self
    obtain ⟨u, rfl, ru⟩ := r.one
    cases ru
    obtain ⟨its, rv, pl, hz⟩ := I.list (hG ▸ h1)
    obtain ⟨o, ho, hc, n, hd⟩ := pl.isList
    exact core "list" pins s σ H a its _ ys n o os ρ σ' l Q (.inl rfl) I ho hc hd (by rw [← rv.length]; exact hz) rv S.tail h2 q
  · obtain ⟨v, rfl, S⟩ := one_tm hl S
    obtain ⟨a, ys, rfl, h1, h2⟩ := S.tup List.mem_cons_self
    obtain ⟨u, rfl, ru⟩ := r.one
    cases ru
    obtain ⟨its, rv, pl, hz⟩ := I.tuple (hG ▸ h1)
    obtain ⟨o, ho, hc, n, hd⟩ := pl
    exact core "tuple" pins s σ H a its _ ys n o os ρ σ' l Q (.inr rfl) I ho hc hd (by rw [← rv.length]; exact hz) rv S.tail h2 q
end
end Pz
namespace Pz
open PySem PySem.Spec PyProof.Rows L2 LamX

/-! ### sets of nested tuples -/
/-- the tuple at a is the key k -/
abbrev NK (h : Heap) (k : NestedKey) (a : Addr) : Prop := NestedIs h k (.ref a) ∧ k.depth ≤ 8
section
variable {P : Program} {w : World} {A : Around} {E : Value → Shared → Prop} {s : Shared}
theorem nk_typeIs {k : NestedKey} {a : Addr} (x : NK s.heap k a) : s.TypeIs (.ref a) "tuple" := by
  obtain ⟨x, _⟩ := x
  cases x with
  | tup h1 h2 _ _ => exact ⟨_, h1, h2⟩
def ClassNo (P : Program) (w : World) (n : Nat) (s : Shared) (v : Value) : Prop := ∀ (A : Around) (E : Value → Shared → Prop) (Q : Bool → Shared → Prop), Q false s → wpAny (model P w) A (ofAClassStatement n v) Q E s
theorem classNo_tup {n : Nat} {a : Addr} {o : Obj} {vs : Array Value} {m : Nat} (ho : s.heap.get? a = some o) (hc : o.cls = .type "tuple") (hd : o.data = .seq vs m) (all : ∀ v ∈ vs.toList, ClassNo P w n s v) : ClassNo P w (n + 1) s (.ref a) := fun A E Q q => by
  unfold ofAClassStatement
  refine wpAny_bind (wpAny_typeOf (T := "tuple") ⟨o, ho, hc⟩ ?_)
  have e : (("tuple" : String) == "tuple") = true := by decide
  dsimp only
  simp only [e, if_true, Bool.not_true, Bool.false_eq_true, if_false]
  try refine wpAny_bind (wpAny_pure ?_)
  try simp only [Bool.not_true, Bool.false_eq_true, if_false]
  show wpAny _ _ (seqItems? (.ref a) >>= _) _ _ s
  refine wpAny_bind (wpAny_seqItems ho hd (wpAny_bind ?_))
  show wpAny _ _ (forIn vs _ _) _ _ s
  rw [← Array.forIn_toList]
  refine wpAny_forIn_list _ (fun rest r t => r.1 = none ∧ t = s ∧ ∀ v ∈ rest, ClassNo P w n s v) _ (fun v rest r t ⟨e1, e2, al⟩ => ?_) (fun r t ⟨e1, e2, _⟩ => ?_) _ _ ⟨rfl, rfl, all⟩
  · subst e2
    refine wpAny_bind (al v List.mem_cons_self _ _ _ ?_)
    simp only [Bool.false_eq_true, if_false]
    exact wpAny_pure ⟨rfl, rfl, fun u hu => al u (List.mem_cons_of_mem _ hu)⟩
  · subst e2
    obtain ⟨r1, r2⟩ := r
    dsimp only at e1
    subst e1
    exact wpAny_pure q
mutual
theorem classNo_key : ∀ (k : NestedKey) (v : Value) (n : Nat) (s : Shared), NestedIs s.heap k v → k.depth ≤ n → ClassNo P w n s v
  | .none, _, n, s, x, _ => by cases x; exact fun A E Q q => by cases n <;> exact wpAny_pure q
  | .num i, _, n, s, x, _ => by cases x <;> exact fun A E Q q => by cases n <;> exact wpAny_pure q
  | .text y, _, n, s, x, _ => by cases x; exact fun A E Q q => by cases n <;> exact wpAny_pure q
  | .tup ks, _, 0, s, x, hn => by simp [NestedKey.depth] at hn
  | .tup ks, _, n + 1, s, x, hn => by
    cases x with
    | tup h1 h2 h3 h4 => exact classNo_tup h1 h2 h3 (classNo_keys ks _ n s h4 (by simp only [NestedKey.depth] at hn; omega))
theorem classNo_keys : ∀ (ks : List NestedKey) (vs : List Value) (n : Nat) (s : Shared), NestedAll s.heap ks vs → NestedKey.depthAll ks ≤ n → ∀ v ∈ vs, ClassNo P w n s v
  | [], _, n, s, x, _, v, hv => by cases x; cases hv
  | k :: ks, _, n, s, x, hn, v, hv => by
    cases x with
    | cons x1 x2 =>
      simp only [NestedKey.depthAll] at hn
      rcases List.mem_cons.mp hv with e | hv
      · rw [e]; exact classNo_key k _ n s x1 (by omega)
      · exact classNo_keys ks _ n s x2 (by omega) v hv
end
mutual
/-- is its hash known by value? -/
def byV : NestedKey → Bool
  | .none => true
  | .num _ => true
  | .text _ => false
  | .tup ks => byVs ks
def byVs : List NestedKey → Bool
  | [] => true
  | k :: ks => byV k && byVs ks
end
mutual
theorem hashBy_key : ∀ (k : NestedKey) (v : Value) (n : Nat) (s : Shared), NestedIs s.heap k v → k.depth ≤ n → ∀ (A : Around) (E : Value → Shared → Prop) (Q : Bool → Shared → Prop), Q (byV k) s → wpAny (model P w) A (hashByValue n v) Q E s
  | .none, _, n, s, x, _ => by cases x; exact fun A E Q q => by cases n <;> exact wpAny_pure q
  | .num i, _, n, s, x, _ => by cases x <;> exact fun A E Q q => by cases n <;> exact wpAny_pure q
  | .text y, _, n, s, x, _ => by cases x; exact fun A E Q q => by cases n <;> exact wpAny_pure q
  | .tup ks, _, 0, s, x, hn => by simp [NestedKey.depth] at hn
  | .tup ks, _, n + 1, s, x, hn => fun A E Q q => by
    cases x with
    | tup h1 h2 h3 h4 =>
      rename_i a o vs m
      unfold hashByValue
      refine wpAny_bind (wpAny_specialOf (T := "tuple") ⟨o, h1, h2⟩ F.slot_tuple_hash.lookup ?_)
      show wpAny _ _ (seqItems? (.ref a) >>= _) _ _ s
      refine wpAny_bind (wpAny_seqItems h1 h3 (wpAny_bind ?_))
      show wpAny _ _ (forIn vs _ _) _ _ s
      rw [← Array.forIn_toList]
      refine wpAny_forIn_list _ (fun rest r t => t = s ∧ r.1 = none ∧ ∃ js, NestedAll s.heap js rest ∧ byVs js = byVs ks ∧ NestedKey.depthAll js ≤ n ∧ ∀ j ∈ js, j ∈ ks) _ (fun v rest r t ⟨e1, e2, js, a1, a2, a3, a4⟩ => ?_) (fun r t ⟨e1, e2, js, a1, a2, _, _⟩ => ?_) _ _ ⟨rfl, rfl, ks, h4, rfl, by simp only [NestedKey.depth] at hn; omega, fun j hj => hj⟩
      · subst e1
        cases a1 with
        | cons b1 b2 =>
          rename_i j js
          simp only [NestedKey.depthAll] at a3
          refine wpAny_bind (hashBy_key j v n t b1 (by omega) A _ _ ?_)
          cases hb : byV j with
          | true =>
            simp only [Bool.not_true, Bool.false_eq_true, if_false]
            exact wpAny_pure ⟨rfl, rfl, js, b2, by rw [← a2]; simp [byVs, hb], by omega, fun i hi => a4 i (List.mem_cons_of_mem _ hi)⟩
          | false =>
            simp only [Bool.not_false, if_true]
            have hq : byVs ks = false := by rw [← a2]; simp [byVs, hb]
            rw [byV, hq] at q
            exact wpAny_pure (wpAny_pure q)
      · subst e1
        obtain ⟨r1, r2⟩ := r
        dsimp only at e2
        subst e2
        cases a1
        rw [byV, ← a2] at q
        exact wpAny_pure q
end
end
end Pz
namespace Pz
open PySem PySem.Spec PyProof.Rows L2 LamX
section
variable {P : Program} {w : World} {A : Around} {E : Value → Shared → Prop} {s : Shared}
/-- where the probe stands after c steps -/
abbrev stp (m : Nat) (h : Int) (c : Nat) : SetTable.Probe := nth m (runAt m (SetTable.bits h % (m + 1)) (SetTable.bits h)) c
abbrev Row := Addr × NestedKey
def rws (w : World) (L : List Row) : List (Int × Value) := L.map fun p => (p.2.hash w, Value.ref p.1)
/-- at a stands the set of the rows L -/
structure NSet (w : World) (h : Heap) (a : Addr) (L : List Row) (es : Array (Int × Value)) (ep : Nat) (t : SetTable) : Prop where
  obj : ∃ o, h.get? a = some o ∧ o.ExactSet ∧ o.data = .set es ep t
  rows : es.toList = rws w L
  tab : TabOk t (L.map fun p => p.2.hash w)
  uniq : (L.map fun p => p.2).Nodup
  keys : ∀ p ∈ L, NK h p.2 p.1
  led : w.params.followText "set-order" = true ∨ t.led = true
  room : L.length * 5 < t.mask * 3
  few : L.length < 64
variable {a : Addr} {L : List Row} {es : Array (Int × Value)} {ep : Nat} {t : SetTable}
theorem rws_len {es : Array (Int × Value)} (h : es.toList = rws w L) : es.size = L.length := by
  rw [← Array.length_toList, h, rws, List.length_map]
theorem NSet.fits (R : NSet w s.heap a L es ep t) : t.fits es.size = true := by
  have z1 := R.tab.sz
  have z2 := rws_len R.rows
  have z3 := R.room
  rw [List.length_map] at z1
  unfold SetTable.fits SetTable.fill
  rw [R.tab.dm, Bool.and_eq_true, beq_iff_eq, decide_eq_true_eq]
  exact ⟨by omega, by show t.place.size + 0 ≤ t.mask; omega⟩
theorem NSet.row (R : NSet w s.heap a L es ep t) {i : Nat} {p : Row} (h : L[i]? = some p) : es[i]? = some (p.2.hash w, Value.ref p.1) := by
  rw [← Array.getElem?_toList, R.rows, rws, List.getElem?_map, h]; rfl
theorem NSet.odd (R : NSet w s.heap a L es ep t) : ¬ t.gaveWay = true := by
  unfold SetTable.gaveWay
  rw [mask_odd R.tab.mok]
  decide
/-- among tuples a search shows nothing -/
theorem unseen {k : NestedKey} {b : Addr} (hk : NK s.heap k b) : ∀ (ys : List Value), (∀ y ∈ ys, ∃ j c, y = Value.ref c ∧ NK s.heap j c) → ∀ {Q : Bool → Shared → Prop}, Q false s → wpAny (model P w) A (searchCouldBeSeen (.ref b) ys) Q E s := by
  intro ys hy Q q
  unfold searchCouldBeSeen
  refine wpAny_bind (wpAny_forIn_list _ (fun rest r t => r.1 = none ∧ t = s ∧ ∀ y ∈ rest, ∃ j c, y = Value.ref c ∧ NK s.heap j c) _ (fun v rest r t ⟨e1, e2, al⟩ => ?_) (fun r t ⟨e1, e2, _⟩ => ?_) _ _ ⟨rfl, rfl, hy⟩)
  · subst e2
    obtain ⟨j, c, rfl, hc⟩ := al v List.mem_cons_self
    have al' : ∀ y ∈ rest, ∃ j c, y = Value.ref c ∧ NK t.heap j c := fun u hu => al u (List.mem_cons_of_mem _ hu)
    dsimp only
    rcases Classical.em ((b == c || (carriedByValue (.ref b) && carriedByValue (.ref c))) = true) with z | z
    · exact wp_if_pos z (wpAny_pure ⟨rfl, rfl, al'⟩)
    · refine wp_if_neg z (wpAny_bind (quiet_key _ _ 8 _ hk.1 hk.2 A _ _ ?_))
      simp only [Bool.not_true, Bool.false_eq_true, if_false]
      refine wpAny_bind (quiet_key _ _ 8 _ hc.1 hc.2 A _ _ ?_)
      simp only [Bool.not_true, Bool.false_eq_true, if_false]
      refine wpAny_bind (classNo_key _ _ 8 _ hk.1 hk.2 A _ _ ?_)
      simp only [Bool.false_eq_true, if_false]
      refine wpAny_bind (classNo_key _ _ 8 _ hc.1 hc.2 A _ _ ?_)
      simp only [Bool.false_eq_true, if_false]
      exact wpAny_pure ⟨rfl, rfl, al'⟩
  · subst e2
    obtain ⟨r1, r2⟩ := r
    dsimp only at e1
    subst e1
    exact wpAny_pure q
theorem stp_clean (m : Nat) : ∀ (n : Nat) (p : SetTable.Probe), p.dummy = none → (nth m p n).dummy = none
  | 0, p, h => h
  | n + 1, p, h => stp_clean m n (adv m p) (by unfold adv; split <;> exact h)
theorem stp_add (m : Nat) (h : Int) (c q : Nat) : nth m (stp m h c) q = stp m h (c + q) := (nth_add m c _ q).symm
/-- the search for x from step c on, K the first free place on its way -/
theorem look_from (R : NSet w s.heap a L es ep t) {x : Addr} {k : NestedKey} (hx : NK s.heap k x) (hu : A.units + 8 < cLine) {K : Nat} (kf : K < 10 * SetTable.turns t.mask) (k1 : way t.mask (k.hash w) K ∉ t.place.toList) (k2 : ∀ c, c < K → way t.mask (k.hash w) c ∈ t.place.toList)
    {Q : SetFound → Shared → Prop} (yes : k ∈ L.map (fun p => p.2) → Q (.there none) s) (no : k ∉ L.map (fun p => p.2) → Q (.free (way t.mask (k.hash w) K) false) s) :
    ∀ (f c : Nat) (at_ : Option SetTable.Probe), at_.getD (t.probeStart (k.hash w)) = stp t.mask (k.hash w) c → c ≤ K → K - c < f → (∀ (i : Nat) p, L[i]? = some p → p.2 = k → ∃ c', c ≤ c' ∧ c' < K ∧ t.place.toList[i]? = some (way t.mask (k.hash w) c')) →
      wpAny (model P w) A (setSearchFrom a (.ref x) (k.hash w) true f at_) Q E s
  | 0, c, at_, _, _, hf, _ => absurd hf (Nat.not_lt_zero _)
  | f + 1, c, at_, hat, hc, hf, rest => by
    obtain ⟨o, ho, hex, hd⟩ := R.obj
    have jj : ∀ q, (nth t.mask (stp t.mask (k.hash w) c) q).j = way t.mask (k.hash w) (c + q) := fun q => congrArg SetTable.Probe.j (stp_add t.mask (k.hash w) c q)
    have hs : ∀ (i : Nat) p, L[i]? = some p → (fun i => (es[i]?.map fun y => y.1).getD 0) i = p.2.hash w := fun i p hp => by
      show (es[i]?.map fun y => y.1).getD 0 = _
      rw [R.row hp]; rfl
    have word := go_spec t R.tab.ris R.tab.dm (fun i => (es[i]?.map fun y => y.1).getD 0) (k.hash w) (10 * SetTable.turns t.mask) (K - c) (stp t.mask (k.hash w) c) (stp_clean _ _ _ rfl) (by omega)
      (fun q hq => by rw [jj]; exact k2 (c + q) (by omega)) (by rw [jj, show c + (K - c) = K by omega]; exact k1)
    rw [setSearchFrom_succ]
    refine wpAny_bind (wpAny_setState_of ho hd R.fits ?_)
    dsimp only
    refine wp_if_neg R.odd ?_
    try refine wpAny_bind (wpAny_pure ?_)
    rcases word with ⟨q, i, hq, hi, hh, fst, hp⟩ | ⟨fst, hp⟩
    · rw [jj] at hi
      have hpr : t.probe (fun i => (es[i]?.map fun y => y.1).getD 0) (k.hash w) (at_.getD (t.probeStart (k.hash w))) = some (.candidate (way t.mask (k.hash w) (c + q)) i (stp t.mask (k.hash w) (c + (q + 1)))) := by
        rw [hat, ← jj, ← stp_add]; exact hp
      rw [hpr]
      dsimp only
      have il : i < L.length := by
        have y1 := (List.getElem?_eq_some_iff.mp hi).1
        have y2 := R.tab.sz
        rw [List.length_map] at y2
        rw [Array.length_toList] at y1
        omega
      obtain ⟨p, hpi⟩ : ∃ p, L[i]? = some p := ⟨_, List.getElem?_eq_getElem il⟩
      have pm : p ∈ L := List.mem_of_getElem? hpi
      have go : wpAny (model P w) A (searchRest a (.ref x) (k.hash w) true f es t (way t.mask (k.hash w) (c + q)) i (stp t.mask (k.hash w) (c + (q + 1)))) Q E s := by
        unfold searchRest
        rw [R.row hpi]
        dsimp only
        refine wpAny_bind (wpAny_holding ((nestedKind P w).eqBool (x := p.2) (y := k) hu (R.keys p pm) hx ?_))
        refine wpAny_bind (wpAny_setState_of ho hd R.fits ?_)
        dsimp only
        rcases Classical.em (p.2 = k) with e | e
        · exact wp_if_pos (by simp [e]) (wpAny_pure (yes (List.mem_map.mpr ⟨p, pm, e⟩)))
        · refine wp_if_neg (by simp [e]) ?_
          try refine wpAny_bind (wpAny_pure ?_)
          have sl : t.slot (way t.mask (k.hash w) (c + q)) = .live i := slot_live R.tab.ris hi
          rw [sameMem]
          dsimp only
          simp only [if_true, sl, R.row hpi]
          refine wpAny_bind (wpAny_isSame_ref_self (wpAny_bind (wpAny_pure ?_)))
          simp only [if_true]
          refine wp_if_neg (by simp [e]) (look_from R hx hu kf k1 k2 yes no f (c + (q + 1)) _ rfl (by omega) (by omega) fun i0 p0 h0 e0 => ?_)
          obtain ⟨c', b1, b2, b3⟩ := rest i0 p0 h0 e0
          refine ⟨c', ?_, b2, b3⟩
          rcases Nat.lt_trichotomy c' (c + q) with z | z | z
          · exact absurd ((hs i0 p0 h0).trans (congrArg (NestedKey.hash w) e0)) (fst (c' - c) i0 (by omega) (by rw [jj, show c + (c' - c) = c' by omega]; exact b3))
          · exfalso
            rw [z] at b3
            have s0 := slot_live R.tab.ris b3
            rw [sl] at s0
            injection s0 with s0
            rw [← s0, hpi] at h0
            cases h0
            exact e e0
          · omega
      rcases Classical.em (t.led = true) with ld | ld
      · refine wp_if_neg (by simp [ld]) ?_
        try refine wpAny_bind (wpAny_pure ?_)
        exact go
      · refine wp_if_pos (by simp [ld]) (wpAny_bind (unseen hx _ (fun y hy => ?_) ?_))
        · obtain ⟨e, he, rfl⟩ := List.mem_map.mp hy
          have he : e ∈ es.toList := by
            have : e ∈ es ∧ e.1 = k.hash w := by simpa using he
            simpa using this.1
          rw [R.rows] at he
          obtain ⟨p2, m2, rfl⟩ := List.mem_map.mp he
          exact ⟨p2.2, p2.1, rfl, R.keys p2 m2⟩
        · refine wp_if_neg (by decide) ?_
          try refine wpAny_bind (wpAny_pure ?_)
          exact go
    · have hpr : t.probe (fun i => (es[i]?.map fun y => y.1).getD 0) (k.hash w) (at_.getD (t.probeStart (k.hash w))) = some (.empty (way t.mask (k.hash w) K) none) := by
        rw [hat, show way t.mask (k.hash w) K = (nth t.mask (stp t.mask (k.hash w) c) (K - c)).j by rw [jj, show c + (K - c) = K by omega]]
        exact hp
      rw [hpr]
      dsimp only
      refine wpAny_pure (no fun hm => ?_)
      obtain ⟨p0, m0, e0⟩ := List.mem_map.mp hm
      obtain ⟨i0, h0⟩ := List.mem_iff_getElem?.mp m0
      obtain ⟨c', b1, b2, b3⟩ := rest i0 p0 h0 e0
      exact fst (c' - c) i0 (by omega) (by rw [jj, show c + (c' - c) = c' by omega]; exact b3) ((hs i0 p0 h0).trans (congrArg (NestedKey.hash w) e0))
/-- the search that adding asks for -/
theorem look_at (R : NSet w s.heap a L es ep t) {x : Addr} {k : NestedKey} (hx : NK s.heap k x) (hu : A.units + 8 < cLine) {Q : SetFound → Shared → Prop} (yes : k ∈ L.map (fun p => p.2) → Q (.there none) s)
    (no : ∀ K, k ∉ L.map (fun p => p.2) → way t.mask (k.hash w) K ∉ t.place.toList → (∀ c, c < K → way t.mask (k.hash w) c ∈ t.place.toList) → Q (.free (way t.mask (k.hash w) K) false) s) : wpAny (model P w) A (setSearch a (.ref x) (k.hash w) true) Q E s := by
  have z3 := R.room
  obtain ⟨K, kf, k1, k2⟩ := R.tab.first (by rw [List.length_map]; omega) (k.hash w)
  have big : 10 * SetTable.turns t.mask ≤ 1420 := by
    unfold SetTable.turns
    rcases R.tab.mok with e | e | e <;> omega
  refine look_from R hx hu kf k1 k2 yes (fun n => no K n k1 k2) 100000 0 none rfl (Nat.zero_le _) (by omega) fun i p hp e => ?_
  have hi : (L.map fun p => p.2.hash w)[i]? = some (k.hash w) := by rw [List.getElem?_map, hp, ← e]; rfl
  have il : i < t.place.toList.length := by
    have y1 := (List.getElem?_eq_some_iff.mp hp).1
    have y2 := R.tab.sz
    rw [List.length_map] at y2
    rw [Array.length_toList]
    omega
  obtain ⟨c, hc, e2⟩ := R.tab.before k1 hi (List.getElem?_eq_getElem il)
  exact ⟨c, Nat.zero_le _, hc, by rw [List.getElem?_eq_getElem il, e2]⟩
end
end Pz
namespace Pz
open PySem PySem.Spec PyProof.Rows L2 LamX
section
variable {P : Program} {w : World} {A : Around} {E : Value → Shared → Prop} {s : Shared}
theorem nk_same {h h' : Heap} {k : NestedKey} {a b : Addr} {o : Obj} {es : Array (Int × Value)} {ep : Nat} {t : SetTable} (hb : NK h k b) (ho : h.get? a = some o) (hd : o.data = .set es ep t) (sb : Heap.SameBut a h h') : NK h' k b :=
  ⟨NestedIs.at (fun c u vs n e1 e2 => (sb.2 c fun z => by
    rw [z, ho] at e1
    cases e1
    rw [hd] at e2
    cases e2).trans e1) k _ hb.1, hb.2⟩
/-- the rows in the order of a table laid anew -/
theorem rows_in (L : List Row) (es : Array (Int × Value)) (hr : es.toList = rws w L) : ∀ l : List Nat, (∀ i ∈ l, i < L.length) → ∃ M : List Row, l.filterMap (fun i => es[i]?) = rws w M ∧ M = l.filterMap (fun i => L[i]?) ∧ (M.map fun p => p.2.hash w) = l.map fun i => (es.map fun y => y.1).getD i 0
  | [], _ => ⟨[], rfl, rfl, rfl⟩
  | i :: l, hl => by
    have hi := hl i List.mem_cons_self
    obtain ⟨M, e1, e2, e3⟩ := rows_in L es hr l fun j hj => hl j (List.mem_cons_of_mem _ hj)
    have ent : es[i]? = some ((L[i]).2.hash w, Value.ref (L[i]).1) := by
      rw [← Array.getElem?_toList, hr, rws, List.getElem?_map, List.getElem?_eq_getElem hi]; rfl
    refine ⟨L[i] :: M, ?_, ?_, ?_⟩
    · rw [List.filterMap_cons_some ent, e1]; rfl
    · rw [List.filterMap_cons_some (List.getElem?_eq_getElem hi), e2]
    · have e5 : (es.map fun y => y.1)[i]? = some ((L[i]).2.hash w) := by rw [Array.getElem?_map, ent]; rfl
      rw [List.map_cons, List.map_cons, e3]
      congr 1
      simp [Array.getD_eq_getD_getElem?, e5]
theorem range_all (L : List Row) : ∀ n, n ≤ L.length → (List.range n).filterMap (fun i => L[i]?) = L.take n
  | 0, _ => by simp
  | n + 1, h => by
    have lt : n < L.length := h
    rw [List.range_succ, List.filterMap_append, range_all L n (Nat.le_of_lt lt), List.take_succ, List.getElem?_eq_getElem lt, List.filterMap_cons_some (List.getElem?_eq_getElem lt)]
    rfl
variable {a : Addr} {L : List Row} {es : Array (Int × Value)} {ep : Nat} {t : SetTable}
/-- the table laid anew, larger -/
theorem relay_n {o : Obj} (ho : s.heap.get? a = some o) (hex : o.ExactSet) (hd : o.data = .set es ep t) (hr : es.toList = rws w L) (hz : t.place.size = es.size) (hdm : t.dummies = #[]) (hfl : es.size ≤ t.mask) (un : (L.map fun p => p.2).Nodup) (ks : ∀ p ∈ L, NK s.heap p.2 p.1)
    (ld : w.params.followText "set-order" = true ∨ t.led = true) (few : L.length < 64) {wanted M : Nat} (hw : SetTable.sizeAbove wanted - 1 = M) (hM : MaskOk M) (hw2 : SetTable.sizeAbove wanted ≤ 128) (hn : L.length * 5 < M * 3) {Q : Unit → Shared → Prop}
    (q : ∀ h' L' es' ep' t', Heap.SameBut a s.heap h' → NSet w h' a L' es' ep' t' → L'.Perm L → Q () { s with heap := h' }) : wpAny (model P w) A (setRelay a wanted) Q E s := by
  have zl := rws_len hr
  have ft : t.fits es.size = true := by
    unfold SetTable.fits SetTable.fill
    rw [hdm, Bool.and_eq_true, beq_iff_eq, decide_eq_true_eq]
    exact ⟨hz, by show t.place.size + 0 ≤ t.mask; omega⟩
  obtain ⟨t', order, e, pm, T, em, el, epl, ed⟩ := relaid_ok t (hs := es.map fun y => y.1) (wanted := wanted) hw hM (by rw [Array.size_map, zl]; omega)
  rw [Array.size_map, zl] at pm
  obtain ⟨L2, r1, r2, r3⟩ := rows_in L es hr order.toList fun i hi => List.mem_range.mp (pm.mem_iff.mp hi)
  rw [← r3] at T
  have pL : L2.Perm L := by
    have y := pm.filterMap fun i => L[i]?
    rw [range_all L L.length (Nat.le_refl _), List.take_length] at y
    rw [r2]
    exact y
  have r1' : (order.filterMap (es[·]?)).toList = rws w L2 := by first | (rw [Array.toList_filterMap]; exact r1) | simpa using r1
  have z2 : (order.filterMap (es[·]?)).size = es.size := by rw [rws_len r1', pL.length_eq, zl]
  rw [setRelay_eq]
  refine wpAny_bind (wpAny_setState_of ho hd ft ?_)
  dsimp only
  refine wp_if_neg (by rw [sizeLine_eq]; omega) ?_
  try refine wpAny_bind (wpAny_pure ?_)
  rw [e]
  dsimp only
  refine wpAny_bind (wp_if_neg (by rw [z2]; simp) ?_)
  try refine wpAny_bind (wpAny_pure ?_)
  refine wpAny_pure ?_
  dsimp only
  refine wpAny_storeSet_of ho hd ?_ (by rw [z2, zl, sizeLine_eq]; omega)
  have sb : Heap.SameBut a s.heap (s.heap.update a (Obj.putSet (order.filterMap (es[·]?)) t')) := Heap.SameBut.update ..
  exact q _ L2 _ (ep + 1) t' sb ⟨⟨_, store_at ho hd, ⟨hex.1, hex.2.1, hex.2.2⟩, rfl⟩, r1', T, (pL.map fun p => p.2).nodup_iff.mpr un, fun p hp => nk_same (ks p (pL.mem_iff.mp hp)) ho hd sb, by rw [el]; exact ld, by rw [pL.length_eq, em]; exact hn, by rw [pL.length_eq]; exact few⟩ pL
/-- adding a tuple -/
theorem add_n (R : NSet w s.heap a L es ep t) {x : Addr} {k : NestedKey} (hx : NK s.heap k x) (hu : A.units + 8 < cLine) (hfew : L.length + 1 < 64) {Q : Bool → Shared → Prop}
    (q : ∀ b h' L' es' ep' t', Heap.SameBut a s.heap h' → NSet w h' a L' es' ep' t' → (k ∈ L.map (fun p => p.2) → L' = L) → (k ∉ L.map (fun p => p.2) → L'.Perm ((x, k) :: L)) → Q b { s with heap := h' }) : wpAny (model P w) A (setAddHashed a (.ref x) (k.hash w)) Q E s := by
  obtain ⟨o, ho, hex, hd⟩ := R.obj
  have zl := rws_len R.rows
  have room := R.room
  unfold setAddHashed
  refine wpAny_holding ?_
  rw [show (100000 : Nat) = 99999 + 1 from rfl, setAddHashedIn_succ]
  refine wpAny_bind (wpAny_setState_of ho hd R.fits ?_)
  dsimp only
  refine wp_if_neg (by simp [byScan, Value.scannable]) ?_
  try refine wpAny_bind (wpAny_pure ?_)
  refine wpAny_bind (look_at R hx hu (fun hm => ?_) fun K hm k1 k2 => ?_)
  · exact wpAny_pure (q false s.heap L es ep t (Heap.SameBut.refl a s.heap) R (fun _ => rfl) fun z => absurd hm z)
  dsimp only
  refine wpAny_bind (wpAny_setState_of ho hd R.fits ?_)
  dsimp only
  obtain ⟨q1, q2, q3, q4, q5, q6, q7, q8, q9⟩ := R.tab.put k1 k2
  generalize hpt : t.put (way t.mask (k.hash w) K) = pt at q1 q3 q4 q5 q6 q7 q8 q9 ⊢
  obtain ⟨t1, p⟩ := pt
  dsimp only at q1 q3 q4 q5 q6 q7 q8 q9 ⊢
  subst q1
  generalize SetTable.below t.place (way t.mask (k.hash w) K) = p at q2 q3 ⊢
  -- by value or not, the table is the same but for its word 'plain'
  have step : ∀ t2 : SetTable, TabOk t2 ((L.map fun p => p.2.hash w).take p ++ k.hash w :: (L.map fun p => p.2.hash w).drop p) → t2.mask = t.mask → t2.led = t.led → t2.fill = (L.map fun p => p.2.hash w).length + 1 →
      wpAny (model P w) A (do
        storeSet a (SetTable.insertAt es p (k.hash w, Value.ref x)) t2
        if !false && t2.tooFull then setRelay a (SetTable.grown (es.size + 1))
        return true) Q E s := fun t2 T2 m2 l2 f2 => by
    have pm := put_perm L p (x, k)
    have len : (L.take p ++ (x, k) :: L.drop p).length = L.length + 1 := pm.length_eq
    have hin : (SetTable.insertAt es p (k.hash w, Value.ref x)).toList = rws w (L.take p ++ (x, k) :: L.drop p) := by
      rw [SetTable.toList_insertAt, R.rows]
      unfold rws
      rw [List.map_append, List.map_cons, List.map_take, List.map_drop]
    have T3 : TabOk t2 ((L.take p ++ (x, k) :: L.drop p).map fun p => p.2.hash w) := by
      rw [List.map_append, List.map_cons, List.map_take, List.map_drop]
      exact T2
    have un : ((L.take p ++ (x, k) :: L.drop p).map fun p => p.2).Nodup := by
      refine (pm.map fun p => p.2).nodup_iff.mpr ?_
      rw [List.map_cons]
      exact List.nodup_cons.mpr ⟨hm, R.uniq⟩
    generalize L.take p ++ (x, k) :: L.drop p = L1 at pm len hin T3 un
    have zi := rws_len hin
    generalize SetTable.insertAt es p (k.hash w, Value.ref x) = es1 at hin zi ⊢
    refine wpAny_bind (wpAny_storeSet_of ho hd ?_ (by rw [zi, len, sizeLine_eq]; omega))
    have sb : Heap.SameBut a s.heap (s.heap.update a (Obj.putSet es1 t2)) := Heap.SameBut.update ..
    have ho1 := store_at (es' := es1) (t' := t2) ho hd
    generalize s.heap.update a (Obj.putSet es1 t2) = h1 at sb ho1 ⊢
    have ks : ∀ p ∈ L1, NK h1 p.2 p.1 := fun p hp => by
      rcases List.mem_cons.mp (pm.mem_iff.mp hp) with e | hp
      · rw [e]; exact nk_same hx ho hd sb
      · exact nk_same (R.keys p hp) ho hd sb
    have ld1 : w.params.followText "set-order" = true ∨ t2.led = true := by rw [l2]; exact R.led
    rw [List.length_map] at f2
    rcases Classical.em (t2.tooFull = true) with hf | hf
    · have full : (L.length + 1) * 5 ≥ t2.mask * 3 := by
        have y := hf
        unfold SetTable.tooFull at y
        rw [decide_eq_true_eq, f2] at y
        exact y
      have two : (t.mask = 7 ∧ L.length = 4) ∨ (t.mask = 31 ∧ L.length = 18) := by
        rw [m2] at full
        rcases R.tab.mok with e | e | e <;> rw [e] at full room
        · exact .inl ⟨e, by omega⟩
        · exact .inr ⟨e, by omega⟩
        · exfalso; omega
      have sz1 : t2.place.size = es1.size := by
        have y := T3.sz
        rw [List.length_map] at y
        rw [y, zi]
      have go : ∀ M, SetTable.sizeAbove (SetTable.grown (L.length + 1)) - 1 = M → MaskOk M → SetTable.sizeAbove (SetTable.grown (L.length + 1)) ≤ 128 → (L.length + 1) * 5 < M * 3 →
          wpAny (model P w) A (setRelay a (SetTable.grown (L.length + 1))) (fun _ s' => wpAny (model P w) A (pure true) Q E s') E { s with heap := h1 } := fun M g1 g2 g3 g4 =>
        relay_n (s := { s with heap := h1 }) ho1 ⟨hex.1, hex.2.1, hex.2.2⟩ rfl hin sz1 T3.dm (by rw [zi, len, m2]; rcases two with ⟨e, e2⟩ | ⟨e, e2⟩ <;> omega) un ks ld1 (by rw [len]; exact hfew) g1 g2 g3 (by rw [len]; exact g4)
          fun h2 L2 es2 ep2 t3 sb2 R2 pm2 => wpAny_pure (q true h2 L2 es2 ep2 t3 (sb.trans sb2) R2 (fun z => absurd z hm) fun _ => pm2.trans pm)
      have go2 : wpAny (model P w) A (setRelay a (SetTable.grown (L.length + 1))) (fun _ s' => wpAny (model P w) A (pure true) Q E s') E { s with heap := h1 } := by
        rcases two with ⟨_, e2⟩ | ⟨_, e2⟩
        · exact go 31 (by rw [e2, size_20]) (.inr (.inl rfl)) (by rw [e2, size_20]; decide) (by omega)
        · exact go 127 (by rw [e2, size_76]) (.inr (.inr rfl)) (by rw [e2, size_76]; decide) (by omega)
      rw [zl]
      first
        | exact wpAny_bind (wp_if_pos (by simp [hf]) go2)
        | exact wp_if_pos (by simp [hf]) (wpAny_bind go2)
    · have fin : wpAny (model P w) A (pure true) Q E { s with heap := h1 } := by
        refine wpAny_pure (q true h1 L1 es1 (ep + 1) t2 sb ⟨⟨_, ho1, ⟨hex.1, hex.2.1, hex.2.2⟩, rfl⟩, hin, T3, un, ks, ld1, ?_, by rw [len]; exact hfew⟩ (fun z => absurd z hm) fun _ => pm)
        have y := hf
        unfold SetTable.tooFull at y
        rw [decide_eq_true_eq, f2] at y
        rw [len]
        omega
      first
        | exact wp_if_neg (by simp [hf]) fin
        | exact wpAny_bind (wp_if_neg (by simp [hf]) (wpAny_pure fin))
  have plain : ∀ t2 : SetTable, TabOk t2 ((L.map fun p => p.2.hash w).take p ++ k.hash w :: (L.map fun p => p.2.hash w).drop p) → t2.mask = t.mask → t2.led = t.led → t2.fill = (L.map fun p => p.2.hash w).length + 1 →
      TabOk { t2 with plain := false } ((L.map fun p => p.2.hash w).take p ++ k.hash w :: (L.map fun p => p.2.hash w).drop p) := fun t2 T2 _ _ _ => ⟨T2.ris, T2.dm, T2.sz, T2.mok, T2.bd, T2.reach⟩
  rcases Classical.em (t1.plain = true) with hp | hp
  · first
      | (refine wpAny_bind (wp_if_pos hp (hashBy_key _ _ 8 _ hx.1 hx.2 A _ _ ?_)))
      | refine wp_if_pos hp (wpAny_bind (hashBy_key _ _ 8 _ hx.1 hx.2 A _ _ ?_))
    cases byV k with
    | true =>
      simp only [if_true]
      exact step t1 q3 q4 q5 q9
    | false =>
      simp only [Bool.false_eq_true, if_false]
      exact step { t1 with plain := false } (plain t1 q3 q4 q5 q9) q4 q5 q9
  · first
      | (refine wpAny_bind (wp_if_neg hp (wpAny_pure ?_)))
      | refine wp_if_neg hp (wpAny_bind (wpAny_pure ?_))
    simp only [if_true]
    exact step t1 q3 q4 q5 q9
end
end Pz
namespace Pz
open PySem PySem.Spec PyProof.Rows L2 LamX

/-! ### set(xs), by an invariant J of the set's growth -/
structure Grows (P : Program) (w : World) (A : Around) (h0 : Heap) (S : Addr) (items : Array Value) (J : Nat → Heap → Prop) : Prop where
  stay : ∀ (i : Nat) (h h' : Heap), J i h → (∀ o, h.get? S = some o → h'.get? S = some o) → (∀ b o, h0.get? b = some o → h'.get? b = some o) → J i h'
  add : ∀ (i : Nat) (v : Value) (s : Shared) (E : Value → Shared → Prop) (Q : Bool → Shared → Prop), items[i]? = some v → J i s.heap → (∀ b o, h0.get? b = some o → s.heap.get? b = some o) →
    (∀ b h' tk, s.toks ≤ tk → Heap.SameBut S s.heap h' → J (i + 1) h' → Q b { s with heap := h', toks := tk }) → wpAny (model P w) A (setAdd S v) Q E s
section
variable {P : Program} {w : World} {A : Around} {E : Value → Shared → Prop} {s : Shared}
theorem grow_loop {It : Addr} {fp wr : List Addr} {Gt : Array GenState → Array GenState → Prop} {n : Nat} {Pv : Nat → Value → Prop} {St : Nat → Shared → Prop} {R : Result → Shared → Prop} (W : WalksS P w A.in1 It fp wr Gt n Pv St) {S : Addr} (hS : S ∉ fp) {items : Array Value} (hval : ∀ i v, Pv i v → items[i]? = some v)
    {h0 : Heap} (hS0 : h0.get? S = none) (hw0 : ∀ b ∈ wr, h0.get? b = none) {J : Nat → Heap → Prop} (Gw : Grows P w A.in1 h0 S items J) :
    ∀ (k i : Nat) (s : Shared), n - i = k → i ≤ n → St i s → (∀ b o, h0.get? b = some o → s.heap.get? b = some o) → J i s.heap → (∀ s', Moved (S :: wr) Gt s s' → J n s'.heap → (∀ b o, h0.get? b = some o → s'.heap.get? b = some o) → R (.ok (.ret .none)) s') →
      codeAny (model P w) A (.builtin "set.update.loop" ⟨[.ref S, .ref It], []⟩) R s := by
  have nw : S ∉ wr := fun z => hS (W.sub _ z)
  have up : ∀ b ∈ wr, b ∈ S :: wr := fun b hb => List.mem_cons_of_mem _ hb
  have kp : ∀ {s s' : Shared}, Moved wr Gt s s' → (∀ b o, h0.get? b = some o → s.heap.get? b = some o) → ∀ b o, h0.get? b = some o → s'.heap.get? b = some o := fun hm k b o e => hm.heap b o (fun hb => by rw [hw0 b hb] at e; cases e) (k b o e)
  intro k
  induction k with
  | zero =>
    intro i s hk hi hst k0 j0 fin
    obtain rfl : i = n := by omega
    refine codeAny_builtin F.entry_set_update_loop ?_
    rw [Around.under_plainId F.plain_set_update_loop _]
    show wpAny _ A.in1 (pyNext (.ref It) >>= _) _ _ s
    refine wpAny_bind (W.done s _ _ hst fun s' hm => ?_)
    exact wpAny_pure (fin s' (hm.mono up) (Gw.stay _ _ _ j0 (fun o e => hm.heap S o nw e) (kp hm k0)) (kp hm k0))
  | succ k ih =>
    intro i s hk hi hst k0 j0 fin
    have lt : i < n := by omega
    refine codeAny_builtin F.entry_set_update_loop ?_
    rw [Around.under_plainId F.plain_set_update_loop _]
    show wpAny _ A.in1 (pyNext (.ref It) >>= _) _ _ s
    refine wpAny_bind (W.item i s _ _ lt hst fun v s' hP hst' hm => ?_)
    have k1 := kp hm k0
    show wpAny _ A.in1 (holding [v] (setAdd S v) >>= _) _ _ s'
    refine wpAny_bind (wpAny_holding (Gw.add i v s' _ _ (hval i v hP) (Gw.stay _ _ _ j0 (fun o e => hm.heap S o nw e) k1) k1 fun b h' tk htk sb j1 => ?_))
    have k2 : ∀ b o, h0.get? b = some o → h'.get? b = some o := fun b o e => (sb.2 b fun z => by rw [z, hS0] at e; cases e).trans (k1 b o e)
    refine wpAny_pure ⟨plainId_quiet F.plain_set_update_loop _, ih (i + 1) _ (by omega) lt (W.frame _ s' _ _ hst' htk fun b hb o e => ?_) k2 j1 fun s2 hm2 j2 k3 => ?_⟩
    · rw [sb.2 b fun z => hS (z ▸ hb)]; exact e
    · refine fin s2 (Moved.trans W.gtrans ((hm.mono up).then_heap htk fun b o hb e => ?_) hm2) j2 k3
      rw [sb.2 b fun z => hb (by rw [z]; exact List.mem_cons_self)]; exact e
abbrev newSet (w : World) : Obj := { cls := .type "set", dict := none, data := .set #[] 0 (.fresh 0 0 (!w.params.followText "set-order")) }

theorem set_call_list {l : Addr} {items : Array Value} {J : Nat → Heap → Prop} {Q : Value → Shared → Prop} (hh : A.handled = none) (hl : s.heap.IsList l items) (Gw : ∀ A2 : Around, A2.units ≤ A.units + 8 → Grows P w A2 s.heap s.heap.objs.size items J) (new : ∀ h', h'.get? s.heap.objs.size = some (newSet w) → (∀ b o, s.heap.get? b = some o → h'.get? b = some o) → J 0 h')
    (fin : ∀ (h' : Heap) (tk : Nat), J items.size h' → (∀ b o, s.heap.get? b = some o → h'.get? b = some o) → Q (.ref s.heap.objs.size) { s with heap := h', toks := tk }) : wpAny (model P w) A (call (.type "set") [.ref l]) Q E s := by
  obtain ⟨c, tl, hmro⟩ := F.called_set.mro
  have hmade := F.called_set.made
  have hsub := F.called_set.sub
  refine wpAny_call (codeAny_of_tree ?_)
  show wpAny _ _ (callAny (.type "set") _) _ _ _
  refine wpAny_pure ⟨Code.quiet_builtin _ (by decide +kernel), codeAny_builtin F.entry_type_call ?_⟩
  rw [Around.under_plain (weight_type_call_type "set" [.ref l] []) rfl]
  have h1 := F.called_set.notType
  have h2 := F.called_set.canCreate
  have hct := F.typeCall_set_1 (.ref l)
  repeat (any_goals (first | assumption | wp_step))
  refine codeAny_mono (code_set_led1 (.ref l) (E := E) (Q₁ := fun obj s₁ => obj = .ref s.heap.objs.size ∧ s₁ = { s with heap := s.heap.push (newSet w) }) ⟨rfl, rfl⟩) fun r s₁ hr => ?_
  cases r with
  | error e => exact hr
  | ok fl =>
    cases fl with
    | ret obj =>
      obtain ⟨rfl, rfl⟩ := hr
      have hS : (s.heap.push (newSet w)).get? s.heap.objs.size = some (newSet w) := Heap.get?_push_size _ rfl
      have hT : Shared.TypeIs { s with heap := s.heap.push (newSet w) } (.ref s.heap.objs.size) "set" := ⟨_, hS, rfl⟩
      have hli := F.called_set.init.lookup
      have hbi := F.called_set.init.bind (.ref s.heap.objs.size)
      repeat (any_goals (first | assumption | wp_step))
      refine codeAny_mono (codeAny_call_builtin (R := wants (fun r s₂ => r = .none ∧ ∃ h' tk, s₂ = { s with heap := h', toks := tk } ∧ J items.size h' ∧ (∀ b o, s.heap.get? b = some o → h'.get? b = some o)) E) F.called_set.init.plain F.entry_set_init (check_set_init_1 hT ?_)) fun r₂ s₂ hr₂ => ?_
      · obtain ⟨ol, hol, hcl, nl, hdl⟩ := hl
        obtain ⟨ocls, odict, odata, oslots⟩ := ol
        simp only at hcl hdl
        subst hcl; subst hdl
        have hol' : (s.heap.push (newSet w)).get? l = some { cls := .type "list", dict := odict, data := .seq items nl, slots := oslots } := Heap.get?_push_of_some _ hol
        have hsls := F.sub_list_set
        have hslf := F.sub_list_frozenset
        have hne : (Value.type "list" == Value.type "dict") = false := by decide
        have hl1 : (s.heap.push (newSet w)).IsList l items := ⟨_, hol', rfl, nl, rfl⟩
        unfold Builtin.«set.__init__» noKeywords Builtin.Frozenset.updateFrom
        generalize hPI : pyIter = PI
        wp_walk
        subst hPI
        refine wpAny_pyIter_list hl1 ?_
        refine wpAny_bind (wpAny_runValue ?_)
        have hlS : l < s.heap.objs.size := Heap.lt_size hol
        have hh3 : A.in1.in1.in1.handled = none := by simp [hh]
        have hz1 : (s.heap.push (newSet w)).objs.size = s.heap.objs.size + 1 := Heap.size_push ..
        have hneI : l ≠ (s.heap.push (newSet w)).objs.size := by rw [hz1]; exact Nat.ne_of_lt (Nat.lt_succ_of_lt hlS)
        have hSf : s.heap.objs.size ∉ [(s.heap.push (newSet w)).objs.size, l] := by
          rw [hz1]
          simp only [List.mem_cons, List.mem_singleton, List.not_mem_nil, or_false, not_or]
          exact ⟨Nat.ne_of_lt (Nat.lt_succ_self _), Nat.ne_of_gt hlS⟩
        have none_of : ∀ b, s.heap.objs.size ≤ b → s.heap.get? b = none := fun b hb => by
          cases q : s.heap.get? b with
          | none => rfl
          | some o => exact absurd (Nat.lt_of_lt_of_le (Heap.lt_size q) hb) (Nat.lt_irrefl _)
        refine grow_loop ((Walks.list hh3 _ l hneI items).toS) hSf (fun i v z => z) (none_of _ (Nat.le_refl _)) (fun b hb => none_of b (by
            rw [List.mem_singleton.mp hb, hz1]
            exact Nat.le_succ _)) (Gw _ (by show A.units + 1 + 1 + 1 ≤ _; omega)) (items.size - 0) 0 _ (by omega) (Nat.zero_le _)
          ⟨⟨_, Heap.get?_push_size _ rfl, rfl, rfl⟩, (hl1.push _)⟩ (fun b o e => Heap.get?_push_of_some _ (Heap.get?_push_of_some _ e)) (new _ (Heap.get?_push_of_some _ hS) fun b o e => Heap.get?_push_of_some _ (Heap.get?_push_of_some _ e)) ?hR
        case hR =>
          intro s' hm j' hkp
          obtain ⟨h', g2, d', tk', os'⟩ := s'
          have eg : g2 = s.gens := hm.gens
          have ed : d' = s.drawn := hm.drawn
          have eo : os' = s.os := hm.os
          subst eg; subst ed; subst eo
          show wpAny _ _ _ _ _ _
          refine wpAny_pure ?_
          show wpAny _ _ (ret Value.none) _ _ _
          exact wpAny_pure ⟨rfl, h', tk', rfl, j', hkp⟩
      · cases r₂ with
        | error e => exact hr₂
        | ok fl₂ =>
          cases fl₂ with
          | ret r =>
            obtain ⟨rfl, h', tk, rfl, j', hk'⟩ := hr₂
            repeat (any_goals (first | assumption | wp_step))
            exact fin _ _ j' hk'
          | _ => exact hr₂.elim
    | _ => exact hr.elim

theorem set_call_tuple {l : Addr} {items : Array Value} {J : Nat → Heap → Prop} {Q : Value → Shared → Prop} (hh : A.handled = none) (hl : s.heap.IsTuple l items) (Gw : ∀ A2 : Around, A2.units ≤ A.units + 8 → Grows P w A2 s.heap s.heap.objs.size items J) (new : ∀ h', h'.get? s.heap.objs.size = some (newSet w) → (∀ b o, s.heap.get? b = some o → h'.get? b = some o) → J 0 h')
    (fin : ∀ (h' : Heap) (tk : Nat), J items.size h' → (∀ b o, s.heap.get? b = some o → h'.get? b = some o) → Q (.ref s.heap.objs.size) { s with heap := h', toks := tk }) : wpAny (model P w) A (call (.type "set") [.ref l]) Q E s := by
  obtain ⟨c, tl, hmro⟩ := F.called_set.mro
  have hmade := F.called_set.made
  have hsub := F.called_set.sub
  refine wpAny_call (codeAny_of_tree ?_)
  show wpAny _ _ (callAny (.type "set") _) _ _ _
  refine wpAny_pure ⟨Code.quiet_builtin _ (by decide +kernel), codeAny_builtin F.entry_type_call ?_⟩
  rw [Around.under_plain (weight_type_call_type "set" [.ref l] []) rfl]
  have h1 := F.called_set.notType
  have h2 := F.called_set.canCreate
  have hct := F.typeCall_set_1 (.ref l)
  repeat (any_goals (first | assumption | wp_step))
  refine codeAny_mono (code_set_led1 (.ref l) (E := E) (Q₁ := fun obj s₁ => obj = .ref s.heap.objs.size ∧ s₁ = { s with heap := s.heap.push (newSet w) }) ⟨rfl, rfl⟩) fun r s₁ hr => ?_
  cases r with
  | error e => exact hr
  | ok fl =>
    cases fl with
    | ret obj =>
      obtain ⟨rfl, rfl⟩ := hr
      have hS : (s.heap.push (newSet w)).get? s.heap.objs.size = some (newSet w) := Heap.get?_push_size _ rfl
      have hT : Shared.TypeIs { s with heap := s.heap.push (newSet w) } (.ref s.heap.objs.size) "set" := ⟨_, hS, rfl⟩
      have hli := F.called_set.init.lookup
      have hbi := F.called_set.init.bind (.ref s.heap.objs.size)
      repeat (any_goals (first | assumption | wp_step))
      refine codeAny_mono (codeAny_call_builtin (R := wants (fun r s₂ => r = .none ∧ ∃ h' tk, s₂ = { s with heap := h', toks := tk } ∧ J items.size h' ∧ (∀ b o, s.heap.get? b = some o → h'.get? b = some o)) E) F.called_set.init.plain F.entry_set_init (check_set_init_1 hT ?_)) fun r₂ s₂ hr₂ => ?_
      · obtain ⟨ol, hol, hcl, nl, hdl⟩ := hl
        obtain ⟨ocls, odict, odata, oslots⟩ := ol
        simp only at hcl hdl
        subst hcl; subst hdl
        have hol' : (s.heap.push (newSet w)).get? l = some { cls := .type "tuple", dict := odict, data := .seq items nl, slots := oslots } := Heap.get?_push_of_some _ hol
        have hsls := F.sub_tuple_set
        have hslf := F.sub_tuple_frozenset
        have hne : (Value.type "tuple" == Value.type "dict") = false := by decide
        have hl1 : (s.heap.push (newSet w)).IsTuple l items := ⟨_, hol', rfl, nl, rfl⟩
        unfold Builtin.«set.__init__» noKeywords Builtin.Frozenset.updateFrom
        generalize hPI : pyIter = PI
        wp_walk
        subst hPI
        refine wpAny_pyIter_tuple hl1 ?_
        refine wpAny_bind (wpAny_runValue ?_)
        have hlS : l < s.heap.objs.size := Heap.lt_size hol
        have hh3 : A.in1.in1.in1.handled = none := by simp [hh]
        have hz1 : (s.heap.push (newSet w)).objs.size = s.heap.objs.size + 1 := Heap.size_push ..
        have hneI : l ≠ (s.heap.push (newSet w)).objs.size := by rw [hz1]; exact Nat.ne_of_lt (Nat.lt_succ_of_lt hlS)
        have hSf : s.heap.objs.size ∉ [(s.heap.push (newSet w)).objs.size, l] := by
          rw [hz1]
          simp only [List.mem_cons, List.mem_singleton, List.not_mem_nil, or_false, not_or]
          exact ⟨Nat.ne_of_lt (Nat.lt_succ_self _), Nat.ne_of_gt hlS⟩
        have none_of : ∀ b, s.heap.objs.size ≤ b → s.heap.get? b = none := fun b hb => by
          cases q : s.heap.get? b with
          | none => rfl
          | some o => exact absurd (Nat.lt_of_lt_of_le (Heap.lt_size q) hb) (Nat.lt_irrefl _)
        refine grow_loop ((Walks.tuple hh3 _ l hneI items).toS) hSf (fun i v z => z) (none_of _ (Nat.le_refl _)) (fun b hb => none_of b (by
            rw [List.mem_singleton.mp hb, hz1]
            exact Nat.le_succ _)) (Gw _ (by show A.units + 1 + 1 + 1 ≤ _; omega)) (items.size - 0) 0 _ (by omega) (Nat.zero_le _)
          ⟨⟨_, Heap.get?_push_size _ rfl, rfl, rfl⟩, (hl1.push _)⟩ (fun b o e => Heap.get?_push_of_some _ (Heap.get?_push_of_some _ e)) (new _ (Heap.get?_push_of_some _ hS) fun b o e => Heap.get?_push_of_some _ (Heap.get?_push_of_some _ e)) ?hR
        case hR =>
          intro s' hm j' hkp
          obtain ⟨h', g2, d', tk', os'⟩ := s'
          have eg : g2 = s.gens := hm.gens
          have ed : d' = s.drawn := hm.drawn
          have eo : os' = s.os := hm.os
          subst eg; subst ed; subst eo
          show wpAny _ _ _ _ _ _
          refine wpAny_pure ?_
          show wpAny _ _ (ret Value.none) _ _ _
          exact wpAny_pure ⟨rfl, h', tk', rfl, j', hkp⟩
      · cases r₂ with
        | error e => exact hr₂
        | ok fl₂ =>
          cases fl₂ with
          | ret r =>
            obtain ⟨rfl, h', tk, rfl, j', hk'⟩ := hr₂
            repeat (any_goals (first | assumption | wp_step))
            exact fin _ _ j' hk'
          | _ => exact hr₂.elim
    | _ => exact hr.elim

/-! ### the rows that the items leave -/
/-- the set's rows behind the first i of the items ks -/
structure Has (ks : List Row) (i : Nat) (L : List Row) : Prop where
  sub : ∀ p ∈ L, p ∈ ks.take i
  all : ∀ p ∈ ks.take i, p.2 ∈ L.map fun p => p.2
  len : L.length ≤ i
theorem Has.next {ks L L' : List Row} {i : Nat} {x : Row} (g : Has ks i L) (h : ks[i]? = some x) (c1 : x.2 ∈ L.map (fun p => p.2) → L' = L) (c2 : x.2 ∉ L.map (fun p => p.2) → L'.Perm (x :: L)) : Has ks (i + 1) L' := by
  rcases Classical.em (x.2 ∈ L.map fun p => p.2) with c | c
  · rw [c1 c]
    refine ⟨fun p hp => ?_, fun p hp => ?_, Nat.le_succ_of_le g.len⟩
    · rw [take_next h]; exact List.mem_append_left _ (g.sub p hp)
    · rw [take_next h] at hp
      rcases List.mem_append.mp hp with z | z
      · exact g.all p z
      · rw [List.mem_singleton.mp z]; exact c
  · have pm := c2 c
    refine ⟨fun p hp => ?_, fun p hp => ?_, by rw [pm.length_eq, List.length_cons]; exact Nat.succ_le_succ g.len⟩
    · rw [take_next h]
      rcases List.mem_cons.mp (pm.mem_iff.mp hp) with e | z
      · rw [e]; exact List.mem_append_right _ (List.mem_singleton.mpr rfl)
      · exact List.mem_append_left _ (g.sub p z)
    · rw [(pm.map fun p => p.2).mem_iff, List.map_cons]
      rw [take_next h] at hp
      rcases List.mem_append.mp hp with z | z
      · exact List.mem_cons_of_mem _ (g.all p z)
      · rw [List.mem_singleton.mp z]; exact List.mem_cons_self
theorem nk_keep {h h' : Heap} {k : NestedKey} {b : Addr} (x : NK h k b) (hk : ∀ c o, h.get? c = some o → h'.get? c = some o) : NK h' k b := ⟨NestedIs.at (fun c o vs n e _ => hk c o e) k _ x.1, x.2⟩
def NGrow (w : World) (S : Addr) (ks : List Row) (h0 : Heap) (i : Nat) (h : Heap) : Prop := ∃ L es ep t, NSet w h S L es ep t ∧ Has ks i L
theorem grows_n {h0 : Heap} {S : Addr} {items : Array Value} {ks : List Row} (hit : items.toList = ks.map fun p => Value.ref p.1) (hk : ∀ p ∈ ks, NK h0 p.2 p.1) (few : ks.length < 64) {A2 : Around} (hu : A2.units + 8 < cLine) : Grows P w A2 h0 S items (NGrow w S ks h0) where
  stay := fun i h h' ⟨L, es, ep, t, R, g⟩ e1 e2 => by
    obtain ⟨o, ho, r⟩ := R.obj
    exact ⟨L, es, ep, t, ⟨⟨o, e1 o ho, r⟩, R.rows, R.tab, R.uniq, fun p hp => nk_keep (hk p (List.mem_of_mem_take (g.sub p hp))) e2, R.led, R.room, R.few⟩, g⟩
  add := fun i v s E Q hv ⟨L, es, ep, t, R, g⟩ k0 q => by
    have hv2 : (ks.map fun p => Value.ref p.1)[i]? = some v := by rw [← hit, Array.getElem?_toList]; exact hv
    rw [List.getElem?_map] at hv2
    cases hp : ks[i]? with
    | none => rw [hp] at hv2; cases hv2
    | some p =>
      rw [hp] at hv2
      cases hv2
      have hx := nk_keep (hk p (List.mem_of_getElem? hp)) k0
      have il : i < ks.length := (List.getElem?_eq_some_iff.mp hp).1
      unfold setAdd
      refine wpAny_holding (wpAny_bind ((nestedKind P w).pyHash (k := p.2) hu hx ?_))
      exact add_n (s := { s with toks := s.toks + p.2.draws }) R hx hu (by have := g.len; omega) fun b h' L' es' ep' t' sb R' c1 c2 => q b h' _ (Nat.le_add_right _ _) sb ⟨L', es', ep', t', R', g.next hp c1 c2⟩
theorem ngrow_new {S : Addr} {ks : List Row} {h0 h : Heap} (ho : h.get? S = some (newSet w)) : NGrow w S ks h0 0 h :=
  ⟨[], #[], 0, _, ⟨⟨_, ho, ⟨rfl, rfl, rfl⟩, rfl⟩, rfl, ⟨List.Pairwise.nil, rfl, rfl, .inl rfl, fun x hx => (by cases hx), fun i h j hi => (by simp at hi)⟩, List.nodup_nil, fun p hp => (by cases hp), by
    show _ ∨ (!w.params.followText "set-order") = true
    cases w.params.followText "set-order"
    · exact .inr rfl
    · exact .inl rfl, by show 0 * 5 < 7 * 3; decide, by show 0 < 64; decide⟩, ⟨fun p hp => (by cases hp), fun p hp => (by simp at hp), Nat.le_refl _⟩⟩
end
end Pz
namespace Pz
open PySem PySem.Spec PyProof.Rows L2 LamX

/-! ### data as keys -/
section
variable {X : Cx} {pins : List (Addr × Obj)} {σ : L2.St} {H : Hp} {s : Shared}
mutual
theorem nested_of (I : Inv X pins σ H s) : ∀ (d : PyData) (k : NestedKey) (v : V) (u : Value), nk d = some k → Dp X.K H v d → RelV v u → NestedIs s.heap k u
  | .none, k, v, u, e, h, r => by cases e; cases h; cases r; exact .none
  | .bool b, k, v, u, e, h, r => by cases e; cases h; cases r; exact .bool rfl
  | .int i, k, v, u, e, h, r => by cases e; cases h; obtain ⟨t, rfl⟩ := r; exact .int _ _
  | .str x, k, v, u, e, h, r => by cases e; cases h; obtain ⟨t, rfl⟩ := r; exact .text _ _
  | .tuple xs, k, v, u, e, h, r => by
    unfold nk at e
    split at e
    · rename_i ks e2
      cases e
      cases h with
      | tup h1 h2 =>
        cases r
        obtain ⟨its, rv, ⟨o, ho, hc, n, hd⟩, _⟩ := I.tuple h1
        exact .tup ho hc hd (nesteds_of I xs ks _ _ e2 h2 rv)
    · cases e
  | .list _, k, v, u, e, h, r => by cases e
  | .dict _, k, v, u, e, h, r => by cases e
theorem nesteds_of (I : Inv X pins σ H s) : ∀ (ds : List PyData) (ks : List NestedKey) (vs : List V) (us : List Value), nks ds = some ks → DpAll X.K H vs ds → Vals vs us → NestedAll s.heap ks us
  | [], ks, vs, us, e, h, r => by cases e; cases h; cases r; exact .nil
  | d :: ds, ks, vs, us, e, h, r => by
    unfold nks at e
    split at e
    · rename_i k ks' e1 e2
      cases e
      cases h with
      | cons h1 h2 =>
        cases r with
        | cons r1 r2 => exact .cons (nested_of I d k _ _ e1 h1 r1) (nesteds_of I ds ks' _ _ e2 h2 r2)
    · cases e
end
end
theorem keyOf_nk {d : PyData} {k : NestedKey} (h : keyOf d = some k) : nk d = some k ∧ k.depth ≤ 7 := by
  unfold keyOf at h
  split at h
  · rename_i k' e
    split at h
    · rename_i hd
      cases h
      exact ⟨e, hd⟩
    · cases h
  · cases h
section
variable {X : Cx} {pins : List (Addr × Obj)} {σ : L2.St} {H : Hp} {s : Shared}
/-- the rows of a list of tuples -/
theorem rows_of (I : Inv X pins σ H s) : ∀ {ds : List PyData} {vs : List V} {us : List Value}, tupKeys ds = true → DpAll X.K H vs ds → Vals vs us → ∃ ks : List Row, us = ks.map (fun p => Value.ref p.1) ∧ (∀ p ∈ ks, NK s.heap p.2 p.1) ∧ ks.map (fun p => some p.2) = ds.map keyOf
  | [], _, _, _, h, r => by cases h; cases r; exact ⟨[], rfl, (fun p hp => by cases hp), rfl⟩
  | d :: ds, _, _, t, h, r => by
    unfold tupKeys at t
    rw [List.all_cons, Bool.and_eq_true] at t
    cases h with
    | cons h1 h2 =>
      cases r with
      | cons r1 r2 =>
        obtain ⟨ks, e1, e2, e3⟩ := rows_of I t.2 h2 r2
        have t1 := t.1
        split at t1
        · rename_i xs
          obtain ⟨k, hk⟩ := Option.isSome_iff_exists.mp t1
          obtain ⟨n1, n2⟩ := keyOf_nk hk
          have q := nested_of I _ k _ _ n1 h1 r1
          cases h1 with
          | tup g1 g2 =>
            cases r1
            rename_i a _
            refine ⟨(a, k) :: ks, by rw [e1]; rfl, fun p hp => ?_, by simp only [List.map_cons]; rw [e3, hk]⟩
            rcases List.mem_cons.mp hp with e | hp
            · rw [e]; exact ⟨q, Nat.le_succ_of_le n2⟩
            · exact e2 p hp
        · cases t1
end

/-! ### how many different ones -/
theorem dedup_mem {k : Option NestedKey} : ∀ ds : List PyData, k ∈ (dedup ds).map keyOf ↔ k ∈ ds.map keyOf
  | [] => Iff.rfl
  | d :: ds => by
    unfold dedup
    rw [List.map_cons, List.map_cons, List.mem_cons, List.mem_cons]
    constructor
    · rintro (h | h)
      · exact .inl h
      · obtain ⟨e, he, rfl⟩ := List.mem_map.mp h
        exact .inr ((dedup_mem ds).mp (List.mem_map.mpr ⟨e, (List.mem_filter.mp he).1, rfl⟩))
    · rintro (h | h)
      · exact .inl h
      · rcases Classical.em (k = keyOf d) with e | e
        · exact .inl e
        · obtain ⟨x, hx, rfl⟩ := List.mem_map.mp ((dedup_mem ds).mpr h)
          exact .inr (List.mem_map.mpr ⟨x, List.mem_filter.mpr ⟨hx, by simp [e]⟩, rfl⟩)
theorem dedup_nodup : ∀ ds : List PyData, ((dedup ds).map keyOf).Nodup
  | [] => List.nodup_nil
  | d :: ds => by
    unfold dedup
    rw [List.map_cons, List.nodup_cons]
    refine ⟨fun h => ?_, List.Nodup.sublist (List.Sublist.map _ List.filter_sublist) (dedup_nodup ds)⟩
    obtain ⟨x, hx, e⟩ := List.mem_map.mp h
    have := (List.mem_filter.mp hx).2
    simp [e] at this
theorem has_len {ks L : List Row} {ds : List PyData} (g : Has ks ks.length L) (un : (L.map fun p => p.2).Nodup) (e : ks.map (fun p => some p.2) = ds.map keyOf) : L.length = (dedup ds).length := by
  have n1 : (L.map fun p => some p.2).Nodup := by
    have : (L.map fun p => some p.2) = (L.map fun p => p.2).map some := by rw [List.map_map]; rfl
    rw [this]
    exact List.pairwise_map.mpr (un.imp fun hne z => hne (Option.some.inj z))
  have pm : (L.map fun p => some p.2).Perm ((dedup ds).map keyOf) := by
    refine (List.perm_ext_iff_of_nodup n1 (dedup_nodup ds)).mpr fun k => ?_
    rw [dedup_mem, ← e]
    constructor
    · intro h
      obtain ⟨p, hp, rfl⟩ := List.mem_map.mp h
      exact List.mem_map.mpr ⟨p, List.mem_of_mem_take (g.sub p hp), rfl⟩
    · intro h
      obtain ⟨p, hp, rfl⟩ := List.mem_map.mp h
      obtain ⟨q, hq, e2⟩ := List.mem_map.mp (g.all p (by rw [List.take_length]; exact hp))
      exact List.mem_map.mpr ⟨q, hq, by rw [e2]⟩
  have := pm.length_eq
  rw [List.length_map, List.length_map] at this
  exact this
/-- len(set(..)) of tuples -/
def wLenset : W → Rs W
  | .d (.list xs) => if tupKeys xs && decide (xs.length ≤ 60) then .ok (.d (.int (dedup xs).length)) else .stuck
  | .d (.tuple xs) => if tupKeys xs && decide (xs.length ≤ 60) then .ok (.d (.int (dedup xs).length)) else .stuck
  | _ => .stuck
section
variable {X : Cx} {G : Gc} {B : Bs} {E : XK}
theorem r_lenset {a : Expr} {p p2 q pos : Pos} {ma m : Bool} {fa : En → Rs W} (hG : G.K = X.K) (hc : X.calm = true) (hu : X.A.units + 150 < cLine) (hg : Gl X "len") (hm : X.mg "len" = none) (hg2 : Gl X "set") (hm2 : X.mg "set" = none) (ha : PE X a (tOf G B E ma fa)) (hs : noStar a = true) :
    PE X (.Call (.Name "len" p) [.Call (.Name "set" p2) [a] [] q] [] pos) (tOf G B E m fun ρ => (fa ρ).bind wLenset) := by
  refine ⟨fun pins s σ H Q I ⟨os, ρ, l, S, hq⟩ => ?_⟩
  refine Call_ (ld_blt I hg hm PySem.boot_len ?_)
  refine PyProof.Rows.callWith_builtin1 (PyProof.Rows.args_cons ?_ rfl) rfl rfl
  refine Call_ (ld_blt I hg2 hm2 PyProof.Rows.boot_set ?_)
  refine PyProof.Rows.callWith_type1 (PyProof.Rows.args_cons (thn (ha.run pins s σ H (fun v H1 => ∃ w, fa ρ = .ok w ∧ StV G B os ρ σ H1 ((v, w, ma) :: l) ∧ (wLenset w).P (fun w => ∀ z H', StV G B os ρ σ H' ((z, w, m) :: l) → Q z H') (XW G B E)) I ?_) fun v s1 ⟨x, H1, I1, r1, q1⟩ => PyProof.Rows.args_nil ?_) (star_cons hs)) (star_cons hs) rfl
  · exact ⟨os, ρ, l, S, (Rs.P_bind hq).mono fun w e k v H1 S1 => ⟨w, e, S1, k⟩⟩
  obtain ⟨w, _, S1, k⟩ := q1
  have fin : ∀ (xs : List PyData) (vs : List V) (us : List Value) (b : Addr), DpAll G.K (frz os H1) vs xs → Vals vs us → v = .ref b → (s1.heap.IsList b us.toArray ∨ s1.heap.IsTuple b us.toArray) →
      (if tupKeys xs && decide (xs.length ≤ 60) then Rs.ok (W.d (.int (dedup xs).length)) else .stuck).P (fun w => ∀ z H', StV G B os ρ σ H' ((z, w, m) :: l) → Q z H') (XW G B E) →
      wpAny (model X.prog X.w) X.A (call (.type "set") [v]) (fun u s2 => wpAny (model X.prog X.w) X.A (spliced (backTo pos (starEach [] X.env))) (fun vs s3 => wpAny (model X.prog X.w) X.A (call (.builtin "len") (u :: vs)) (EP X pins σ Q) X.xe s3) X.xe s2) X.xe s1 := fun xs vs us b hv rv eb hb k => by
    subst eb
    by_cases hf : (tupKeys xs && decide (xs.length ≤ 60)) = true
    · rw [if_pos hf] at k
      obtain ⟨f1, f2⟩ := Bool.and_eq_true_iff.mp hf
      have f2 := of_decide_eq_true f2
      obtain ⟨ks, e1, e2, e3⟩ := rows_of I1 f1 (hG ▸ dpAll_ext (frz_le os H1) _ _ hv) rv
      have lk : ks.length = xs.length := by
        have := congrArg List.length e3
        rw [List.length_map, List.length_map] at this
        exact this
      have usz : us.toArray.size = ks.length := by rw [e1]; simp
      have gw : ∀ A2 : Around, A2.units ≤ X.A.units + 8 → Grows X.prog X.w A2 s1.heap s1.heap.objs.size us.toArray (NGrow X.w s1.heap.objs.size ks s1.heap) := fun A2 h2 => grows_n (by rw [← e1]) e2 (by omega) (by omega)
      have last : ∀ (h' : Heap) (tk : Nat), NGrow X.w s1.heap.objs.size ks s1.heap us.toArray.size h' → (∀ b o, s1.heap.get? b = some o → h'.get? b = some o) →
          wpAny (model X.prog X.w) X.A (spliced (backTo pos (starEach [] X.env))) (fun vs s3 => wpAny (model X.prog X.w) X.A (call (.builtin "len") (Value.ref s1.heap.objs.size :: vs)) (EP X pins σ Q) X.xe s3) X.xe { s1 with heap := h', toks := tk } := fun h' tk ⟨L, es, ep, t, R, g⟩ kp => by
        obtain ⟨o, ho, hex, hd⟩ := R.obj
        rw [usz] at g
        have zl := rws_len R.rows
        have I2 : Inv X pins σ H1 { s1 with heap := h', toks := tk } := I1.kept kp
        refine PyProof.Rows.args_nil ?_
        refine call_len_set ho hex hd (R.fits (s := { s1 with heap := h', toks := tk })) (by have := R.few; omega) ⟨.int es.size, H1, I2.tok _, ⟨_, rfl⟩, ?_⟩
        rw [zl, has_len g R.uniq e3]
        exact k _ _ (S1.reI (l' := [_]) rfl m _)
      rcases hb with hb | hb
      · exact set_call_list (I1.ok.hd hc) hb gw (fun h' ho _ => ngrow_new ho) last
      · exact set_call_tuple (I1.ok.hd hc) hb gw (fun h' ho _ => ngrow_new ho) last
    · rw [if_neg hf] at k; exact k.elim
  cases w with
  | d x =>
    cases x with
    | list xs =>
      obtain ⟨b, ys, rfl, h1, h2⟩ := S1.lst List.mem_cons_self
      cases r1
      obtain ⟨its, rv, pl, _⟩ := I1.list (hG ▸ h1)
      exact fin xs ys its b h2 rv rfl (.inl pl.isList) k
    | tuple xs =>
      obtain ⟨b, ys, rfl, h1, h2⟩ := S1.tup List.mem_cons_self
      cases r1
      obtain ⟨its, rv, pl, _⟩ := I1.tuple (hG ▸ h1)
      exact fin xs ys its b h2 rv rfl (.inr pl) k
    | _ => exact k.elim
  | _ => exact k.elim
end
end Pz
namespace Pz
open PySem PySem.Spec PyProof.Rows L2 LamX

/-! ### a lambda of one parameter -/
structure LamS1 (sc scope : Scope) (p : Str) : Prop where
  kind : scope.kind = .function
  co : scope.isCoroutine = false
  gen : scope.isGenerator = false
  cell : ∀ y ∈ scope.names, y.2 ≠ .cell
  own : ∀ y ∈ scope.names, y.2 = .local → y.1 = p
  par : scope.names.lookup p = some .local
  free : ∀ y ∈ scope.names, y.2 = .free → sc.names.lookup y.1 = some .cell ∨ sc.names.lookup y.1 = some .free
def lamSB1 (sc scope : Scope) (p : Str) : Bool :=
  decide (scope.kind = .function) && (!scope.isCoroutine && (!scope.isGenerator && (decide (scope.names.lookup p = some .local) && scope.names.all fun y => match y.2 with
    | .cell => false
    | .local => decide (y.1 = p)
    | .free => decide (sc.names.lookup y.1 = some .cell) || decide (sc.names.lookup y.1 = some .free)
    | _ => true)))
theorem lamS1_by {sc scope : Scope} {p : Str} (h : lamSB1 sc scope p = true) : LamS1 sc scope p := by
  unfold lamSB1 at h
  simp only [Bool.and_eq_true, Bool.not_eq_true', decide_eq_true_eq, List.all_eq_true] at h
  obtain ⟨h1, h2, h3, h4, h5⟩ := h
  refine ⟨h1, h2, h3, fun y hy e => ?_, fun y hy e => ?_, h4, fun y hy e => ?_⟩
  · have q := h5 y hy; rw [e] at q; cases q
  · have q := h5 y hy; rw [e] at q; exact of_decide_eq_true q
  · have q := h5 y hy
    rw [e] at q
    simp only [Bool.or_eq_true, decide_eq_true_eq] at q
    exact q
section
variable {X : Cx} {pins : List (Addr × Obj)} {σ : L2.St} {H : Hp} {s : Shared}
theorem LamS1.has {scope : Scope} {p : Str} (L : LamS1 X.env.scope scope p) (ok : X.Ok) : ∀ y ∈ scope.names, y.2 = .free → ∃ c, X.env.cells.lookup y.1 = some c := fun y hy e =>
  (L.free y hy e).elim (fun k => ok.has _ (.inl k)) fun k => ok.has _ (.inr k)
/-- the lambda's context, its parameter bound -/
theorem lam_start1 {A : Around} {E : XK} {scope : Scope} {p : Str} {i : Nat} {f c' : Addr} {h₁ : Heap} {tk : Nat} {v : V} {u : Value} (I : Inv X pins σ H s) (L : LamS1 X.env.scope scope p) (e0 : Env0 X.prog X.w X.K X.mg X.base A X.stack s H) (hd : A.handled = none) (hN : X.N.Nodup) (hi : X.N[i]? = some p) (r : RelV v u)
    (hns : h₁.Ns s.heap.objs.size fun y => ([(p, u)] : List (Str × Value)).reverse.lookup y) (kp : ∀ b o, s.heap.get? b = some o → h₁.get? b = some o) :
    Inv (lamCx X A X.stack s H E scope f c') [] (σ.set i (some v)) H { s with heap := h₁, toks := tk } := by
  have hfree := L.has I.ok
  have cm : ∀ {y c}, (cloFrom X.env.cells scope.names []).lookup y = some c → X.env.cells.lookup y = some c := fun {y c} e => by
    rcases cloFrom_mem (PySem.mem_of_lookup e) with hm | ⟨g1, g2⟩
    · cases hm
    · obtain ⟨d, hc⟩ := hfree _ g1 rfl
      have hc : X.env.cells.lookup y = some d := hc
      rw [g2, hc]; rfl
  have look : ∀ {y}, scope.names.lookup y = some .free → ∃ c, (cloFrom X.env.cells scope.names []).lookup y = some c := fun {y} hl => mem_lookup (cloFrom_has (cells := X.env.cells) (acc := []) (PySem.mem_of_lookup hl))
  have ck : ∀ {c : Addr} {z : Option Value}, s.heap.IsCell c z → h₁.IsCell c z := fun {c z} ⟨o, ho, hd⟩ => ⟨o, kp _ _ ho, hd⟩
  have noA : ∀ b : Addr, b ∉ (lamCx X A X.stack s H E scope f c').ex := fun b z => absurd (show b ∈ ([] : List Addr) from z) (by simp)
  refine ⟨⟨e0.mod, L.kind, rfl, rfl, Nat.le_refl _, fun y z c e1 e2 => I.ok.inj y z c (cm e1) (cm e2), fun y hy => ?_, fun y c z _ => ?_, fun _ => hd, Around.frames_deeper e0.frames, .inr ⟨rfl, rfl⟩, fun b z => absurd z (noA b), e0.bs, e0.bsz, fun b _ _ => noA b, fun b z => absurd z (noA b), e0.funs, e0.frf⟩,
    rfl, e0.bare, Un.kept kp, ⟨_, hns, fun j y z e1 e2 e3 => ?_⟩, fun y c e => ?_, e0.hok.fresh (Nat.le_refl _), fun y c e => ?_, fun q hq => absurd (show q ∈ ([] : List (Addr × Obj)) ++ [] from hq) (by simp), e0.hok.kept kp, by rw [List.length_set]; exact I.len⟩
  · have hy : scope.names.lookup y = some .cell ∨ scope.names.lookup y = some .free := hy
    rcases hy with hy | hy
    · exact absurd rfl (L.cell _ (PySem.mem_of_lookup hy))
    · exact look hy
  · have z : false = true := z
    cases z
  · have e3 : Vis scope y := e3
    rcases e3 with k | k | k
    · have ep : y = p := L.own _ (PySem.mem_of_lookup k) rfl
      subst ep
      have ej : j = i := nodup_ix hN e1 hi
      subst ej
      rcases getElem?_set_cases e2 with ⟨_, ez⟩ | ⟨n, _⟩
      · cases ez
        exact ⟨u, r, .inl ⟨k, by simp⟩⟩
      · exact absurd rfl n
    · exact absurd rfl (L.cell _ (PySem.mem_of_lookup k))
    · rcases getElem?_set_cases e2 with ⟨ej, _⟩ | ⟨n, e2⟩
      · exfalso
        rw [ej] at e1
        have e1 : X.N[i]? = some y := e1
        rw [hi] at e1
        cases e1
        rw [L.par] at k
        cases k
      · obtain ⟨m, hn, hl⟩ := I.loc
        have vis : Vis X.env.scope y := (L.free _ (PySem.mem_of_lookup k) rfl).elim (fun k => .inr (.inl k)) (fun k => .inr (.inr k))
        obtain ⟨w', rw', q⟩ := hl j y z e1 e2 vis
        obtain ⟨c2, h2⟩ := look k
        refine ⟨w', rw', .inr ⟨.inr k, c2, h2, ?_⟩⟩
        have c1 := cm h2
        rcases q with ⟨k', _⟩ | ⟨_, c3, e', q⟩
        · have k' : X.env.scope.names.lookup y = some .local := k'
          rcases L.free _ (PySem.mem_of_lookup k) rfl with k2 | k2 <;> rw [show X.env.scope.names.lookup y = _ from k2] at k' <;> cases k'
        · rw [c1] at e'
          cases e'
          exact ck q
  · obtain ⟨w', z⟩ := I.cell y c (cm e)
    exact ⟨w', ck z⟩
  · exact I.freeC y c (cm e)
end
/-- f(x) of such a lambda -/
theorem lam_run1 {X : Cx} {pins : List (Addr × Obj)} {σ : L2.St} {H : Hp} {s : Shared} {A : Around} {k : Nat} {scope : Scope} {p : Str} {i : Nat} {f c' : Addr} {pm ctv : Value} {params : Arguments} {body : Expr} {v : V} {u : Value} {tb : TE} {Q : VK} {E' : Value → Shared → Prop} (I : Inv X pins σ H s) (L : LamS1 X.env.scope scope p) (hA : Room (k + 1) A) (e0 : Env0 X.prog X.w X.K X.mg X.base A X.stack s H)
    (hN : X.N.Nodup) (hi : X.N[i]? = some p) (r : RelV v u) (hf : s.heap.get? f = some (PySem.W.kla_obj "<lambda>" (X.env.qual ++ "<lambda>") params body scope (cloFrom X.env.cells scope.names []) pm c' ctv)) (hc : H c' = some (CodeO c' (X.env.qual ++ "<lambda>")))
    (hbind : bindArgs (PySem.W.kla_fn "<lambda>" (X.env.qual ++ "<lambda>") params body scope (cloFrom X.env.cells scope.names []) pm (.ref c') ctv) ⟨[u], []⟩ = pure [(p, u)])
    (hbody : Room k (A.deeper (lamEnv X scope s.heap.objs.size f c')) → PE (lamCx X A X.stack s H noE scope f c') body tb) (h : tb (σ.set i (some v)) H Q) :
    wpAny (model X.prog X.w) A (call (.ref f) [u]) (EP X pins σ Q) E' s := by
  obtain ⟨⟨oc, vs, t, hoc, hdc, hvc⟩, _, _⟩ := I.hok c' _ hc
  have rc : codeAny (model X.prog X.w) A (.call (.ref f) ⟨[u], []⟩) (CR (L2.CX X.prog X.w) X.stack X.prog X.w H s Q noE) s := by
    refine PySem.W.kla_callFunE hA.depth hf rfl L.co L.gen rfl ⟨c', oc, vs, t, rfl, hoc, hdc, hvc⟩ ?_
    rw [hbind]
    refine wpAny_pure (wpAny_newFunctionEnv (fun y hy => L.cell y hy) (fun y hy => by rw [List.mem_singleton.mp hy]; exact L.par) (fun h₁ hns hsb => ⟨I.nolimit.fresh _ hsb, ?_⟩) L.kind)
    show codeAny _ _ (.expr body (lamEnv X scope s.heap.objs.size f c')) _ _
    have kp : ∀ b o, s.heap.get? b = some o → h₁.get? b = some o := fun b o e => hsb.extBut b o (Nat.ne_of_lt (Heap.lt_size e)) (Heap.get?_push_of_some _ e)
    have J := lam_start1 (A := A) (E := noE) (f := f) (c' := c') (tk := s.toks + ([(p, u)] : List (Str × Value)).length) I L e0 hA.hd hN hi r hns kp
    refine PySem.W.kla_codeExpr (wpAny_mono ((hbody (hA.deeper _)).run [] _ _ H Q J h) (fun v s' hq => ?_) fun e s' hq => hq)
    obtain ⟨w', H', J', rv, q⟩ := hq
    exact ⟨w', H', J'.os, J'.bare, J'.base, J'.hok, rv, q⟩
  refine wpAny_call (codeAny_mono rc fun r s' hq => ?_)
  cases r with
  | error e =>
    obtain ⟨_, _, _, _, _, _, _, _, _, _, _, _, z⟩ := (show L2.CX X.prog X.w X.stack H s noE e s' from hq)
    exact (show False from z).elim
  | ok fl =>
    cases fl with
    | ret u => exact I.after hq
    | next => exact False.elim hq
    | brk => exact False.elim hq
    | cont => exact False.elim hq
end Pz
namespace Pz
open PySem PySem.Spec PyProof.Rows L2 LamX

/-! ### sorted(xs, key=f), f a def of this layer -/
section
variable {X : Cx} {pins : List (Addr × Obj)} {σ : L2.St} {H : Hp} {s : Shared}
/-- an address that the layer does not track and that may change -/
structure Loose (X : Cx) (pins : List (Addr × Obj)) (H : Hp) (b : Addr) : Prop where
  no : H b = none
  loc : b ≠ X.env.locals
  fs : b ∉ X.fs
  young : b ∈ X.ex ∨ X.s_0.heap.objs.size ≤ b
  cell : ∀ x c, X.env.cells.lookup x = some c → c ≠ b
  pin : ∀ p ∈ X.pn ++ pins, p.1 ≠ b
theorem loose_of (h : FpOk X pins H b) : Loose X pins H b := let ⟨h1, h2, h3, h4, h5, h6⟩ := h; ⟨h1, h2, h3, h4, h5, h6⟩
theorem Loose.heap {H' : Hp} {b : Addr} (h : Loose X pins H b) (n : H' b = none) : Loose X pins H' b := ⟨n, h.loc, h.fs, h.young, h.cell, h.pin⟩
/-- two loose objects changed, one of them is a list that is tracked from now on -/
theorem inv_adopt {a kS : Addr} {vs : List V} {us : List Value} {n tk : Nat} {h' : Heap} (I : Inv X pins σ H s) (la : Loose X pins H a) (lk : Loose X pins H kS) (k : ∀ b o, b ≠ a → b ≠ kS → s.heap.get? b = some o → h'.get? b = some o) (hz : vs.length ≤ sizeLine) (r : Vals vs us) (e : h'.get? a = some (seqObj "list" us.toArray n)) :
    Inv X pins σ (upd H a (.lst vs)) { s with heap := h', toks := tk } := by
  have at_ : ∀ {b}, b ≠ a → upd H a (.lst vs) b = H b := fun h => upd_ne h
  have na : ∀ b u, H b = some u → b ≠ a := fun b u e z => by rw [z, la.no] at e; cases e
  have nk : ∀ b u, H b = some u → b ≠ kS := fun b u e z => by rw [z, lk.no] at e; cases e
  have nc : ∀ {b : Addr}, b ∉ [a, kS] → b ≠ a ∧ b ≠ kS := fun h => by simpa using h
  refine I.step (g' := s.gens) (d' := s.drawn) (ch := [a, kS]) (fun b hb => ?_) (fun b o _ _ hc e _ => k b o (nc hc).1 (nc hc).2 e) (fun b o _ _ hc e _ => ⟨o.slots, k b o (nc hc).1 (nc hc).2 e⟩) (fun b o hc _ n => (at_ (nc hc).1).trans n)
    (fun b o hc e => ⟨o, k b o (nc hc).1 (nc hc).2 e⟩) (fun b xs e => (at_ (na b _ e)).trans e) (fun b o u e => (at_ (na b _ e)).trans e) (fun b ps e => ⟨#[], by rw [at_ (na b _ e), e]; simp⟩) (fun m hm => ?_) (fun b u e' => ?_) I.bare
  · have hb : b = a ∨ b = kS := by simpa using hb
    rcases hb with e | e
    · rw [e]; exact ⟨la.young, la.loc, la.cell, la.pin⟩
    · rw [e]; exact ⟨lk.young, lk.loc, lk.cell, lk.pin⟩
  · obtain ⟨o, es, ep, ho, r⟩ := hm
    exact ⟨o, es, ep, k _ o (Ne.symm la.loc) (Ne.symm lk.loc) ho, r⟩
  · by_cases hb : b = a
    · rw [hb, upd_same] at e'
      cases e'
      rw [hb]
      exact (show ObjOk X.prog X.w _ h' a (.lst vs) from ⟨hz, us, n, r, e⟩)
    · rw [at_ hb] at e'
      refine (I.hok b u e').stay (fun c v hc q => k c v ?_ ?_ q) (fun c q => (at_ (na c _ q)).trans q) fun c xs q => (at_ (na c _ q)).trans q
      · rcases hc with z | z
        · rw [z]; exact hb
        · exact na c _ z
      · rcases hc with z | z
        · rw [z]; exact nk b u e'
        · exact nk c _ z
/-- one loose object changed -/
theorem inv_loose {b : Addr} {tk : Nat} {h' : Heap} (I : Inv X pins σ H s) (l : Loose X pins H b) (k : ∀ c o, c ≠ b → s.heap.get? c = some o → h'.get? c = some o) : Inv X pins σ H { s with heap := h', toks := tk } :=
  I.turned k l.no l.loc l.young l.cell l.pin
/-- a loose object is held as it stands -/
theorem inv_pin {b : Addr} {o : Obj} (I : Inv X pins σ H s) (l : Loose X pins H b) (e : s.heap.get? b = some o) (d : ∀ v, o.data ≠ .cell v) : Inv X ((b, o) :: pins) σ H s :=
  I.pins_of fun p hp => (List.mem_cons.mp hp).elim (fun z => by rw [z]; exact ⟨e, l.no, l.loc, l.fs, d⟩) fun z => I.pin p (List.mem_append_right _ z)
theorem inv_unpin {q : Addr × Obj} (I : Inv X (q :: pins) σ H s) : Inv X pins σ H s := I.pins_of fun p hp => I.pin p (List.mem_append_right _ (List.mem_cons_of_mem _ hp))
end
end Pz
namespace Pz
open PySem PySem.Spec PyProof.Rows L2 LamX
section
variable {X : Cx} {pins : List (Addr × Obj)} {σ : L2.St} {H : Hp} {s : Shared} {A : Around} {E : Value → Shared → Prop} {P : PySem.Fin → Shared → Prop} {a kS f : Addr} {fo : Obj} {vs : List Value} {e1 : Nat}
/-- the pins while the keys are made -/
abbrev kPins (pins : List (Addr × Obj)) (f a kS : Addr) (fo : Obj) (e1 : Nat) (kA : Array Value) (e : Nat) : List (Addr × Obj) := (kS, seqObj "list" kA e) :: (a, seqObj "list" #[] e1) :: (f, fo) :: pins
theorem key_loop (J : Nat → Hp → List V → Prop) (hZ : vs.length ≤ sizeLine) (I : Inv X (kPins pins f a kS fo e1 #[] 0) σ H s) (lk : ∀ H', H' kS = none → Loose X ((a, seqObj "list" #[] e1) :: (f, fo) :: pins) H' kS) (j0 : J 0 H [])
    (turn : ∀ (i : Nat) (v : Value) (s' : Shared) (H' : Hp) (ks : List V) (kA : Array Value) (e : Nat), vs[i]? = some v → Inv X (kPins pins f a kS fo e1 kA e) σ H' s' → J i H' ks → ks.length = i →
      wpAny (model X.prog X.w) A (call (.ref f) [v]) (fun u s2 => ∃ z H2, Inv X (kPins pins f a kS fo e1 kA e) σ H2 s2 ∧ RelV z u ∧ J (i + 1) H2 (ks ++ [z])) (fun _ _ => False) s')
    (fin : ∀ (s' : Shared) (H' : Hp) (ks : List V) (kA : Array Value) (e : Nat), Inv X (kPins pins f a kS fo e1 kA e) σ H' s' → Vals ks kA.toList → ks.length = vs.length → J vs.length H' ks → wpAny (model X.prog X.w) A (ksk_end a false vs.toArray e1 (.ref kS) kA) P E s') :
    wpAny (model X.prog X.w) A (ksk_rest a (.ref f) false vs.toArray e1 (.ref kS)) P E s := by
  unfold ksk_rest
  refine wpAny_bind (wpAny_rule ?_)
  first
    | rw [List.forIn_toArray]
    | (rw [← Array.forIn_toList]; simp only [List.toList_toArray])
    | rw [← Array.forIn_toList]
  refine wpAny_bind (ksk_fold (fun i s' => ∃ H' ks kA e, Inv X (kPins pins f a kS fo e1 kA e) σ H' s' ∧ Vals ks kA.toList ∧ ks.length = i ∧ J i H' ks) vs 0 s ⟨H, [], #[], 0, I, .nil, rfl, j0⟩ (fun j x s' hx ⟨H', ks, kA, e, I', rv, hl, hj⟩ => ?_) fun s' ⟨H', ks, kA, e, I', rv, hl, hj⟩ => ?_)
  · simp only [Nat.zero_add] at hl hj ⊢
    have jl : j < vs.length := (List.getElem?_eq_some_iff.mp hx).1
    refine wpAny_bind (wpAny_attempt (wpAny_mono (turn j x s' H' ks kA e hx I' hj hl) (fun u s2 ⟨z, H2, I2, rz, hj2⟩ => ?_) fun _ _ z => z.elim))
    try dsimp only
    have pk : s2.heap.get? kS = some (seqObj "list" kA e) ∧ H2 kS = none := by
      obtain ⟨q1, q2, _⟩ := I2.pin (kS, seqObj "list" kA e) (List.mem_append_right _ List.mem_cons_self)
      exact ⟨q1, q2⟩
    have sz : kA.size = j := by rw [← Array.length_toList, ← rv.length, hl]
    obtain ⟨c2, hc2⟩ : ∃ c2, (s2.heap.update kS (Obj.mapSeq (·.push u))).get? kS = some (seqObj "list" (kA.push u) c2) := ⟨_, get?_update_seq pk.1 (·.push u)⟩
    refine wpAny_bind (listUpdate_at pk.1 rfl ?_ (by omega) (by rw [Array.size_push]; omega))
    have sb := Heap.SameBut.update s2.heap kS (Obj.mapSeq (·.push u))
    have I3 := inv_loose (tk := s2.toks) (inv_unpin I2) (lk H2 pk.2) (h' := s2.heap.update kS (Obj.mapSeq (·.push u))) fun c o hc e => (sb.2 c hc).trans e
    exact wpAny_pure ⟨rfl, H2, ks ++ [z], kA.push u, c2, inv_pin I3 (lk H2 pk.2) hc2 (fun v z => by cases z), by rw [Array.toList_push]; exact rv.append (.cons rz .nil), by rw [List.length_append, hl]; rfl, hj2⟩
  · rw [Nat.zero_add] at hl hj
    try dsimp only
    obtain ⟨q1, _⟩ := I'.pin (kS, seqObj "list" kA e) (List.mem_append_right _ List.mem_cons_self)
    exact wpAny_bind (listItems_at q1 rfl (fin s' H' ks kA e I' rv hl hj))
/-- the end: the list gets the items, sorted by their keys -/
theorem key_end {kA : Array Value} {e : Nat} {ks : List V} {kz : List PyData} (hka : kS ≠ a) (hZ : vs.length ≤ sizeLine) (I : Inv X (kPins pins f a kS fo e1 kA e) σ H s) (lk : Loose X pins H kS) (la : Loose X pins H a) (rv : Vals ks kA.toList) (hl : ks.length = vs.length) (hkz : DpAll X.K H ks kz)
    (hal : PySem.W.AllAlike kz) (hsk : PySem.W.Sortable kz) (hu : ∀ d, d ∈ kz → A.units + d.depth < cLine)
    (q : ∀ (h' : Heap) (tk : Nat) (out : List Value) (c : Nat), (∀ b o, b ≠ a → b ≠ kS → s.heap.get? b = some o → h'.get? b = some o) → h'.get? a = some (seqObj "list" (List.toArray out) c) → PySem.W.KeyedOut false kz vs out → P (.done (.ret .none)) { s with heap := h', toks := tk }) :
    wpAny (model X.prog X.w) A (ksk_end a false vs.toArray e1 (.ref kS) kA) P E s := by
  obtain ⟨Gh, g1, g2⟩ := restrict s.heap fun b => decide (b ≠ kS)
  obtain ⟨nk, _⟩ := I.pin (kS, seqObj "list" kA e) (List.mem_append_right _ List.mem_cons_self)
  obtain ⟨na, _⟩ := I.pin (a, seqObj "list" #[] e1) (List.mem_append_right _ (List.mem_cons_of_mem _ List.mem_cons_self))
  have J := inv_unpin (inv_unpin (inv_unpin I))
  have er := each_reads J rv hkz
  refine PySem.W.keyH_end (κ := PySem.W.dataKind s.heap kz) (h₁ := Gh) (fun b o hb ho => ?_) (g2 kS (by simp)) nk na hka (PySem.W.SortsAt.data er hal hsk hu) (by rw [← Array.length_toList, ← rv.length, hl]) hZ fun h' tk c k n => ?_
  · rcases Classical.em (b = kS) with z | z
    · rw [z, g2 kS (by simp)] at ho; cases ho
    · rw [g1 b (by simp [z])] at ho; exact ho
  · exact q h' tk _ c (fun b o h1 h2 ho => k b o h1 (by rw [g1 b (by simp [h2])]; exact ho)) n ⟨s.heap, kA.toList, hal, rfl, er⟩
end
end Pz
namespace Pz
open PySem PySem.Spec PyProof.Rows L2 LamX

/-! ### a lambda is made -/
/-- where a def's lambdas' code objects are told -/
structure LamAt (X : Cx) (T : List (Addr × Str)) : Prop where
  ex : ∃ c P : Addr, X.env.code = .ref c ∧ LamX.TabB X.base X.mg c P ∧ (P, X.env.qual ++ "<lambda>") ∈ T ∧ ∀ p ∈ T, p.1 = P → p.2 = X.env.qual ++ "<lambda>"
theorem lam_make3 {X : Cx} {pins : List (Addr × Obj)} {σ : L2.St} {H : Hp} {s : Shared} {T : List (Addr × Str)} {os : Os} {params : Arguments} {body : Expr} {scope : Scope} {pos : Pos} {E : Value → Shared → Prop} {Q : Value → Shared → Prop} (I : Inv X pins σ H s) (LA : LamAt X T) (od : ∀ p t, os p = some t → OwnAt H p) (hT : Tabs T (frz os H))
    (hdef : defaultsOf params X.env = ([], [])) (hfree : ∀ y ∈ scope.names, y.2 = .free → ∃ c, X.env.cells.lookup y.1 = some c)
    (h : ∀ (f c' : Addr) (pm ctv : Value) (H1 : Hp) (s' : Shared), Inv X pins σ H1 s' → Gr H H1 → Tabs T (frz os H1) → s'.heap.get? f = some (PySem.W.kla_obj "<lambda>" (X.env.qual ++ "<lambda>") params body scope (cloFrom X.env.cells scope.names []) pm c' ctv) →
      Loose X pins H1 f → H1 c' = some (CodeO c' (X.env.qual ++ "<lambda>")) → os c' = none → Q (.ref f) s') : wpAny (model X.prog X.w) X.A (eval (.Lambda params body scope pos) X.env) Q E s := by
  obtain ⟨c, P, hcode, TB, hm, hu⟩ := LA.ex
  obtain ⟨ps, hPf, ht, ha⟩ := hT _ hm
  obtain ⟨oP, hP⟩ := frz_of hPf
  have bP : s.heap.BuiltinsAt X.mg P := TB.bm.keeps I.bk
  have hP' : s.heap.get? P = some { cls := .none, data := .fields ps } := I.hok P _ hP
  refine PySem.W.kla_eval hdef ?_
  cases hc : codeAmong pos ps.toList with
  | none =>
    refine PySem.W.kla_makeFunction (mg := X.mg) (c := c) (P := P) (ps := ps) (closure_ok hfree) I.ok.glob (I.mod.glob.keeps I.bk) hcode (TB.code.keeps I.bk) hP' ht hc TB.gP bP fun c' ctv h' tk hx hge hlt hrec htb => ?_
    obtain ⟨c2, oc, vs, t, e2, hoc, hd, hv⟩ := hrec
    cases e2
    have sz : s.heap.objs.size ≤ h'.objs.size := Nat.le_trans hge (Nat.le_of_lt hlt)
    have nC : H c' = none := I.hok.fresh hge
    have oC : os c' = none := by
      cases q : os c' with
      | none => rfl
      | some t => exact absurd nC (od _ _ q).ne
    have nPc : P ≠ c' := ne_of_none hP nC
    have I1 := inv_table (t' := tk) (more := #[rawInt pos.line, rawInt pos.col, .ref c']) (h' := h'.push (PySem.W.kla_obj "<lambda>" (X.env.qual ++ "<lambda>") params body scope (cloFrom X.env.cells scope.names []) ((X.mg "__name__").getD .none) c' ctv)) I hP
      (fun b o hb e => Heap.get?_push_of_some _ (hx b o hb e)) (Heap.get?_push_of_some _ htb) hge ⟨oc, vs, t, Heap.get?_push_of_some _ hoc, hd, hv⟩
    have other : ∀ b, b ≠ P → b ≠ c' → upd (upd H P (.tbl (ps ++ #[rawInt pos.line, rawInt pos.col, .ref c']))) c' (CodeO c' (X.env.qual ++ "<lambda>")) b = H b := fun b h1 h2 => by rw [upd_ne h2, upd_ne h1]
    have gr : Gr H (upd (upd H P (.tbl (ps ++ #[rawInt pos.line, rawInt pos.col, .ref c']))) c' (CodeO c' (X.env.qual ++ "<lambda>"))) := ⟨fun b o e n => by
        rw [other b (fun z => n ps (Option.some.inj (e.symm.trans (by rw [z]; exact hP)))) (ne_of_none e nC)]; exact e, fun b hb => by
        by_cases h1 : b = P
        · rw [h1, upd_ne nPc, upd_same]; exact fun z => by cases z
        · by_cases h2 : b = c'
          · rw [h2, upd_same]; exact fun z => by cases z
          · rw [other b h1 h2]; exact hb⟩
    have eF : ∀ {b o}, frz os H b = some o → (∀ ps, o ≠ .tbl ps) → frz os (upd (upd H P (.tbl (ps ++ #[rawInt pos.line, rawInt pos.col, .ref c']))) c' (CodeO c' (X.env.qual ++ "<lambda>"))) b = some o := fun {b o} e n => by
      obtain ⟨q1, q2⟩ := frz_of e
      rw [frz_none q1]
      exact gr.ext b o q2 n
    have eL : (ps ++ #[rawInt pos.line, rawInt pos.col, .ref c']).toList = ps.toList ++ [rawInt pos.line, rawInt pos.col, .ref c'] := by simp
    refine h h'.objs.size c' ((X.mg "__name__").getD .none) ctv _ _ I1 gr (fun p hp => ?_) (Heap.get?_push_size _ rfl) (loose_of (I.fpOk sz ?_)) upd_same oC
    · by_cases hb : p.1 = P
      · rw [hu p hp hb, hb]
        refine ⟨ps ++ #[rawInt pos.line, rawInt pos.col, .ref c'], by rw [frz_none oP, upd_ne nPc, upd_same], by rw [eL]; exact PySem.TriplesOk_snoc _ _ _ _ ht, fun p' cv hcv => ?_⟩
        rw [eL] at hcv
        rcases among_app _ ht hcv with z | z
        · obtain ⟨c0, e1, e2⟩ := ha p' cv z
          exact ⟨c0, e1, eF e2 codeO_ne⟩
        · exact ⟨c', z, by rw [frz_none oC, upd_same]⟩
      · obtain ⟨ps', a1, a2, a3⟩ := hT p hp
        obtain ⟨b1, b2⟩ := frz_of a1
        refine ⟨ps', by rw [frz_none b1, other _ hb (ne_of_none b2 nC)]; exact b2, a2, fun p' cv hcv => ?_⟩
        obtain ⟨c0, e1, e2⟩ := a3 p' cv hcv
        exact ⟨c0, e1, eF e2 codeO_ne⟩
    · rw [other _ (Nat.ne_of_gt (Nat.lt_of_lt_of_le (Heap.lt_size hP') sz)) (Nat.ne_of_gt hlt)]
      exact I.hok.fresh sz
  | some cv =>
    obtain ⟨c', e, hco⟩ := ha pos cv hc
    subst e
    refine PySem.W.kla_makeFunctionHit (mg := X.mg) (c := c) (P := P) (ps := ps) (closure_ok hfree) I.ok.glob (I.mod.glob.keeps I.bk) hcode (TB.code.keeps I.bk) hP' ht hc bP fun ctv h' tk hx hsz => ?_
    have I1 : Inv X pins σ H { s with heap := h'.push (PySem.W.kla_obj "<lambda>" (X.env.qual ++ "<lambda>") params body scope (cloFrom X.env.cells scope.names []) ((X.mg "__name__").getD .none) c' ctv), toks := tk } := I.kept fun b o e => Heap.get?_push_of_some _ (hx b o e)
    exact h h'.objs.size c' ((X.mg "__name__").getD .none) ctv H _ I1 (Gr.refl H) hT (Heap.get?_push_size _ rfl) (loose_of (I.fpOk hsz (I.hok.fresh hsz))) (frz_of hco).2 (frz_of hco).1

/-! ### the keys, one after another -/
theorem keysOfF_ok {f : PyData → Rs W} : ∀ {xs : List PyData} {kl : List (PyData × PyData)}, keysOfF f xs = .ok kl → kl.map (fun p => p.2) = xs ∧ ∀ p ∈ kl, f p.2 = .ok (.d p.1)
  | [], kl, h => by cases h; exact ⟨rfl, fun p hp => by cases hp⟩
  | x :: xs, kl, h => by
    unfold keysOfF at h
    split at h
    · rename_i k e
      split at h
      · rename_i r e2
        cases h
        obtain ⟨h1, h2⟩ := keysOfF_ok e2
        refine ⟨by rw [List.map_cons, h1], fun p hp => ?_⟩
        rcases List.mem_cons.mp hp with z | z
        · rw [z]; exact e
        · exact h2 p z
      · cases h
    · cases h
theorem keysOfF_nexc {f : PyData → Rs W} {c : Str} : ∀ xs, keysOfF f xs ≠ .exc c
  | [] => fun h => by cases h
  | x :: xs => fun h => by
    unfold keysOfF at h
    split at h
    · split at h <;> cases h
    · cases h
theorem each_pair {K : PySem.W.Frag} {F : Hp} : ∀ {vs : List V} {us : List Value} {kl : List (PyData × PyData)}, Vals vs us → DpAll K F vs (kl.map fun p => p.2) → PySem.W.EachIs (fun u (p : PyData × PyData) => ∃ v, RelV v u ∧ Dp K F v p.2) us kl
  | _, _, [], .nil, h => by cases h; exact .nil
  | _, _, d :: ds, .nil, h => by cases h
  | _, _, [], .cons _ _, h => by cases h
  | _, _, d :: ds, .cons r t, h => by
    cases h with
    | cons h1 h2 => exact .cons ⟨_, r, h1⟩ (each_pair t h2)
theorem of_pair {K : PySem.W.Frag} {F : Hp} : ∀ {us : List Value} {kl : List (PyData × PyData)}, PySem.W.EachIs (fun u (p : PyData × PyData) => ∃ v, RelV v u ∧ Dp K F v p.2) us kl → ∃ vs, Vals vs us ∧ DpAll K F vs (kl.map fun p => p.2)
  | _, _, .nil => ⟨[], .nil, .nil⟩
  | _, _, .cons ⟨v, r, h⟩ t => by
    obtain ⟨vs, h1, h2⟩ := of_pair t
    exact ⟨v :: vs, .cons r h1, .cons h h2⟩
end Pz
namespace Pz
open PySem PySem.Spec PyProof.Rows L2 LamX
theorem zip_lookup {ps : List Str} {us : List Value} (hl : us.length = ps.length) {n : Str} (h : n ∈ ps) : ((ps.zip us).lookup n).isSome = true := by
  induction ps generalizing us with
  | nil => cases h
  | cons p ps ih =>
    cases us with
    | nil => simp at hl
    | cons u us =>
      rw [List.zip_cons_cons, List.lookup_cons]
      cases e : n == p with
      | true => rfl
      | false =>
        rcases List.mem_cons.mp h with z | z
        · rw [z] at e; simp at e
        · exact ih (by simpa using hl) z
theorem zip_back {ps : List Str} {us : List Value} (hl : us.length = ps.length) (hn : ps.Nodup) : ps.filterMap (fun n => ((ps.zip us).lookup n).map fun v => (n, v)) = ps.zip us := by
  have key : ∀ (qs : List Str) (all : List (Str × Value)) (ws : List Value), ws.length = qs.length → (∀ p ∈ qs.zip ws, all.lookup p.1 = some p.2) → qs.filterMap (fun n => (all.lookup n).map fun v => (n, v)) = qs.zip ws := by
    intro qs
    induction qs with
    | nil => intro all ws h _; rfl
    | cons q qs ih =>
      intro all ws h g
      cases ws with
      | nil => simp at h
      | cons w ws =>
        have e := g (q, w) (by simp)
        dsimp only at e
        rw [List.filterMap_cons, e, List.zip_cons_cons]
        show (q, w) :: _ = _
        rw [ih all ws (by simpa using h) fun p hp => g p (by rw [List.zip_cons_cons]; exact List.mem_cons_of_mem _ hp)]
  have look : ∀ (qs : List Str) (ws : List Value), qs.Nodup → ∀ p ∈ qs.zip ws, (qs.zip ws).lookup p.1 = some p.2 := by
    intro qs
    induction qs with
    | nil => intro ws _ p hp; simp at hp
    | cons q qs ih =>
      intro ws h p hp
      cases ws with
      | nil => simp at hp
      | cons w ws =>
        rw [List.zip_cons_cons] at hp ⊢
        rw [List.lookup_cons]
        rcases List.mem_cons.mp hp with e | hp
        · rw [e]; simp
        · have ne : (p.1 == q) = false := by
            refine beq_eq_false_iff_ne.mpr fun e => ?_
            rw [List.nodup_cons] at h
            exact h.1 (e ▸ (List.of_mem_zip hp).1)
          rw [ne]
          exact ih ws (List.nodup_cons.mp h).2 p hp
  exact key ps _ us hl (look ps us hn)
theorem bind_plain {fd : FuncData} {as : List Arg} {us : List Value} (hn : (as.map fun a => a.arg).Nodup) (hp : fd.params = ⟨[], as, none, [], [], none, []⟩) (hd : fd.defaults = .none) (hl : us.length = as.length) : bindArgs fd ⟨us, []⟩ = pure ((as.map (fun a => a.arg)).zip us) := by
  have hl2 : us.length = (as.map fun a => a.arg).length := by rw [List.length_map]; exact hl
  unfold bindArgs
  rw [hp, hd]
  have e1 : ((as.map fun a => a.arg).filter fun n => (((as.map fun a => a.arg).zip us).lookup n).isNone) = [] := by
    rw [List.filter_eq_nil_iff]
    intro n hn
    have := zip_lookup hl2 hn
    cases q : ((as.map fun a => a.arg).zip us).lookup n with
    | none => rw [q] at this; cases this
    | some v => simp
  have e2 := zip_back hl2 hn
  have e0 : seqItems? Value.none = pure none := by rfl
  have e3 : ¬ (us.length > as.length) := by omega
  simp only [List.map_nil, List.nil_append, e0, List.append_nil, List.forIn_nil, pure_bind, Option.getD_none, List.length_map, List.length_nil, Nat.sub_zero, List.drop_nil, Array.toList_empty, e3, decide_false, Bool.false_and, Bool.false_eq_true, if_false]
  rw [show (List.map (fun a => a.arg) as).take as.length = List.map (fun a => a.arg) as from List.take_of_length_le (by simp)]
  rw [e1]
  simp only [List.isEmpty_nil, Bool.not_true, Bool.false_eq_true, if_false, List.zip_nil_right, List.forIn_nil, pure_bind]
  rw [e2]
end Pz
namespace Pz
open PySem PySem.Spec PyProof.Rows L2 LamX
/-- what is owned at a call is foreign in the callee -/
def osF (os : Os) : Os := fun a => match os a with
  | some _ => some .foreign
  | none => none
theorem osF_none {os : Os} {a : Addr} : osF os a = none ↔ os a = none := by
  unfold osF
  cases os a <;> simp
theorem osF_some {os : Os} {a : Addr} {t : OT} (h : osF os a = some t) : t = .foreign ∧ ∃ u, os a = some u := by
  unfold osF at h
  cases e : os a with
  | none => rw [e] at h; cases h
  | some u => rw [e] at h; cases h; exact ⟨rfl, u, rfl⟩
theorem frz_osF {os : Os} {H : Hp} : frz (osF os) H = frz os H := by
  funext a
  cases e : os a with
  | none => rw [frz_none e, frz_none (osF_none.mpr e)]
  | some t =>
    have : osF os a = some .foreign := by unfold osF; rw [e]
    rw [frz_some e, frz_some this]
section
variable {G : Gc} {B : Bs} {os : Os} {ρ : En} {σ : L2.St} {H : Hp} {l : List Tm}
/-- a callee's own state -/
theorem StV.enter (S : StV G B os ρ σ H l) {ρ' : En} {σ' : L2.St} {l' : List Tm} (hlen : σ'.length = ρ'.length) (va : ∀ (i : Nat) (w : W), ρ'[i]? = some (Sl.va w) → ∃ v : V, σ'[i]? = some (some v) ∧ RepW G (frz os H) v w) (mu : ∀ (i : Nat) (w : W), ρ'[i]? ≠ some (Sl.mu w)) (h : ∀ t ∈ l', RepW G (frz os H) t.1 t.2.1) :
    StV G ⟨H, os⟩ (osF os) ρ' σ' H l' := by
  refine ⟨hlen, fun i w e => ?_, fun i w e => absurd e (mu i w), fun p i w e => ?_, fun p w e => ?_, fun p t e => ?_, Gr.refl H, fun a t e => ?_, ?_, fun t ht => .inl ?_⟩
  · rw [frz_osF]; exact va i w e
  · have := (osF_some e).1; cases this
  · have := (osF_some e).1; cases this
  · obtain ⟨_, u, e2⟩ := osF_some e
    exact S.od p u e2
  · have e : os a = some t := e
    unfold osF; rw [e]
  · rw [frz_osF]; exact S.tabs
  · rw [frz_osF]; exact h t ht
theorem noMu_get {i : Nat} {w : W} (h : (noMu ρ)[i]? = some (Sl.va w)) : ρ[i]? = some (Sl.va w) := by
  unfold noMu at h
  rw [List.getElem?_map] at h
  cases e : ρ[i]? with
  | none => rw [e] at h; cases h
  | some s =>
    rw [e] at h
    cases s with
    | un => cases h
    | mu w => cases h
    | va w => exact h
theorem noMu_mu (i : Nat) (w : W) : (noMu ρ)[i]? ≠ some (Sl.mu w) := by
  unfold noMu
  rw [List.getElem?_map]
  intro h
  cases e : ρ[i]? with
  | none => rw [e] at h; cases h
  | some s => rw [e] at h; cases s <;> cases h
end
theorem tms_dp {G : Gc} {B : Bs} {os : Os} {ρ : En} {σ : L2.St} {H : Hp} {l : List Tm} : ∀ {vs : List V} {ds : List PyData}, vs.length = ds.length → StV G B os ρ σ H (tms false vs (ds.map W.d) ++ l) → DpAll G.K (frz os H) vs ds
  | [], [], _, _ => .nil
  | v :: vs, d :: ds, hl, S => .cons (S.repW List.mem_cons_self) (tms_dp (by simpa using hl) (S.sub fun t ht => List.mem_cons_of_mem _ ht))
  | [], _ :: _, hl, _ => by simp at hl
  | _ :: _, [], hl, _ => by simp at hl
theorem tms_get {m : Bool} : ∀ {vs : List V} {ws : List W} {i : Nat} {v : V} {w : W}, vs[i]? = some v → ws[i]? = some w → (v, w, m) ∈ tms m vs ws
  | [], _, i, v, w, h, _ => by simp at h
  | _ :: _, [], i, v, w, _, h => by simp at h
  | x :: vs, y :: ws, 0, v, w, h1, h2 => by simp at h1 h2; subst h1 h2; exact List.mem_cons_self
  | x :: vs, y :: ws, i + 1, v, w, h1, h2 => List.mem_cons_of_mem _ (tms_get (by simpa using h1) (by simpa using h2))
theorem dp_tms {G : Gc} {F : Hp} : ∀ {vs : List V} {ds : List PyData}, DpAll G.K F vs ds → ∀ t ∈ tms false vs (ds.map W.d), RepW G F t.1 t.2.1
  | _, [], h, t, ht => by cases h; cases ht
  | _, d :: ds, h, t, ht => by
    cases h with
    | cons h1 h2 =>
      rcases List.mem_cons.mp ht with e | ht
      · rw [e]; exact h1
      · exact dp_tms h2 t ht
theorem tms_snoc {m : Bool} : ∀ {vs : List V} {ws : List W} {v : V} {w : W}, vs.length = ws.length → tms m (vs ++ [v]) (ws ++ [w]) = tms m vs ws ++ [(v, w, m)]
  | [], [], v, w, _ => rfl
  | x :: vs, y :: ws, v, w, h => by
    show (x, y, m) :: tms m (vs ++ [v]) (ws ++ [w]) = _
    rw [tms_snoc (by simpa using h)]; rfl
  | [], _ :: _, _, _, h => by simp at h
  | _ :: _, [], _, _, h => by simp at h
section
variable {X : Cx} {G : Gc} {B : Bs} {E : XK}
/-- sorted(xs, key=lambda x: ..) -/
theorem r_srtk {x : Str} {e body : Expr} {y : Str} {yp : Arg} {scope : Scope} {i k : Nat} {p lp kp pos : Pos} {ma m : Bool} {fa : En → Rs W} {fb : En → Rs W} (hx : x = "sorted") (hG : G.K = X.K) (hr : Room (k + 3) X.A) (hN : X.N.Nodup) (hi : X.N[i]? = some y) (hy : yp.arg = y) (hg : Gl X x) (hm : X.mg x = none) (ha : PE X e (tOf G B E ma fa)) (hs : noStar e = true)
    (LA : LamAt X G.T) (L : LamS1 X.env.scope scope y)
    (hbody : ∀ (B2 : Bs) (A : Around) (s : Shared) (H : Hp) (f c' : Addr), Room k (A.deeper (lamEnv X scope s.heap.objs.size f c')) → PE (lamCx X A X.stack s H noE scope f c') body (tOf G B2 noE false fb)) :
    PE X (.Call (.Name x p) [e] [⟨some "key", .Lambda ⟨[], [yp], none, [], [], none, []⟩ body scope lp, kp⟩] pos) (tOf G B E m fun ρ => (fa ρ).bind fun wi => (itemsLT wi).bind fun xs => (keysOfF (fun y => fb ((noMu ρ).set i (.va (.d y)))) xs).bind fun kl => (sortK kl).bind fun ds => .ok (.d (.list ds))) := by
  subst hx hy
  refine ⟨fun pins s σ H Q I ⟨os, ρ, l, S, hq⟩ => ?_⟩
  refine wpAny_Call_Name_kw (ld_blt I hg hm boot_sorted ?_)
  refine PyProof.Rows.callWith_kw ?_ (by rw [star_cons hs]; rfl) (star_any (by simp [hs])) (by rfl) (by rfl)
  have hA := (pa_cons ha pa_nil (star_cons hs)).run pos pins s σ H (fun vs H1 => ∃ v w, vs = [v] ∧ StV G B os ρ σ H1 ((v, w, ma) :: l) ∧ ((itemsLT w).bind fun xs => (keysOfF (fun y => fb ((noMu ρ).set i (.va (.d y)))) xs).bind fun kl => (sortK kl).bind fun ds => Rs.ok (W.d (.list ds))).P (fun w => ∀ z H', StV G B os ρ σ H' ((z, w, m) :: l) → Q z H') (XW G B E)) I
    ⟨os, ρ, l, S, (Rs.P_bind hq).mono fun w _ q v H1 S1 => ⟨v, w, rfl, S1, q⟩⟩
  refine thn hA fun us s1 ⟨vs0, H1, I1, r1, v, w, ev, S1, q⟩ => ?_
  subst ev
  obtain ⟨u, rfl, ru⟩ := r1.one
  refine wpAny_evalAll_cons (wpAny_bind (lam_make3 I1 LA S1.od S1.tabs rfl (L.has I1.ok) fun f c' pm ctv H2 s2 I2 gr tb hf lf hc oc => ?_))
  refine wpAny_bind (wpAny_standAt (wpAny_pure (wpAny_evalAll_nil ?_)))
  have S2 := S1.grow gr tb
  -- the items
  have core : ∀ (T : String) (o : Obj) (n : Nat) (b : Addr) (its : List Value) (ys : List V) (xs : List PyData), u = .ref b → (T = "list" ∨ T = "tuple") → s2.heap.get? b = some o → o.cls = .type T → o.data = .seq its.toArray n → its.length ≤ sizeLine → Vals ys its → DpAll G.K (frz os H2) ys xs →
      ((keysOfF (fun y => fb ((noMu ρ).set i (.va (.d y)))) xs).bind fun kl => (sortK kl).bind fun ds => Rs.ok (W.d (.list ds))).P (fun w => ∀ z H', StV G B os ρ σ H' ((z, w, m) :: l) → Q z H') (XW G B E) →
      wpAny (model X.prog X.w) X.A (call (.builtin "sorted") [u] [(Str.ofString "key", .ref f)]) (EP X pins σ Q) X.xe s2 := fun T o n b its ys xs eb hT ho hc0 hd hz rv hdp q => by
    subst eb
    cases ek : keysOfF (fun y => fb ((noMu ρ).set i (.va (.d y)))) xs with
    | stuck => rw [ek] at q; exact q.elim
    | exc c => exact absurd ek (keysOfF_nexc xs)
    | ok kl =>
      rw [ek] at q
      have q : ((sortK kl).bind fun ds => Rs.ok (W.d (.list ds))).P (fun w => ∀ z H', StV G B os ρ σ H' ((z, w, m) :: l) → Q z H') (XW G B E) := q
      unfold sortK at q
      by_cases hso : sortable (kl.map fun p => p.1) = true
      · rw [if_pos hso] at q
        obtain ⟨t1, t2, t3⟩ := sortable_ok hso
        obtain ⟨k1, k2⟩ := keysOfF_ok ek
        have lk : its.length = kl.length := by rw [← rv.length, dpAll_len hdp, ← k1, List.length_map]
        refine sorted_start hT ho hc0 hd hz (ksk_s1 _ _) fun E' h' kp hsz => ?_
        have hD : (h'.push (seqObj "list" its.toArray 0)).get? h'.objs.size = some (seqObj "list" its.toArray 0) := Heap.get?_push_size _ rfl
        refine wpAny_call_entry_kw slot_list_sort ⟨_, hD, rfl⟩ entry_list_sort ?_ (ksk_l1 _ _)
        rw [ksk_t1]
        obtain ⟨e1, he1⟩ : ∃ e1, ((h'.push (seqObj "list" its.toArray 0)).update h'.objs.size (Obj.mapSeq fun _ => (#[] : Array Value))).get? h'.objs.size = some (seqObj "list" #[] e1) := ⟨_, get?_update_seq hD fun _ => #[]⟩
        unfold ksk_tree
        refine wpAny_bind (listItems_at hD rfl ?_)
        refine wpAny_bind (listUpdate_at hD rfl ?_ (by rw [List.size_toArray]; exact hz) (Nat.zero_le _))
        refine wpAny_bind (seqEpoch_at he1 rfl ?_)
        refine wpAny_bind (wpAny_newTuple ?_ (by show its.length ≤ _; exact hz))
        refine wpAny_bind (wpAny_newList ?_ (Nat.zero_le _))
        refine wpAny_holding ?_
        -- the heap of the turns
        generalize hh2 : ((h'.push (seqObj "list" its.toArray 0)).update h'.objs.size (Obj.mapSeq fun _ => (#[] : Array Value))).push (seqObj "tuple" its.toArray 0) = h2
        have z2 : h2.objs.size = h'.objs.size + 2 := by rw [← hh2, Heap.size_push, Heap.size_update, Heap.size_push]
        have a2 : h2.get? h'.objs.size = some (seqObj "list" #[] e1) := by rw [← hh2]; exact Heap.get?_push_of_some _ he1
        have kp2 : ∀ b o, s2.heap.get? b = some o → (h2.push (seqObj "list" #[] 0)).get? b = some o := fun b o e => by
          have q1 := kp b o e
          rw [← hh2]
          refine Heap.get?_push_of_some _ (Heap.get?_push_of_some _ ?_)
          rw [Heap.get?_update_ne _ _ _ _ (Nat.ne_of_lt (Heap.lt_size q1))]
          exact Heap.get?_push_of_some _ q1
        have I3 : Inv X pins σ H2 { s2 with heap := h2.push (seqObj "list" #[] 0), toks := s2.toks } := I2.kept kp2
        have nA : H2 h'.objs.size = none := I2.hok.fresh hsz
        have nK : H2 h2.objs.size = none := I2.hok.fresh (by omega)
        have la : Loose X pins H2 h'.objs.size := loose_of (I2.fpOk hsz nA)
        have lK : Loose X pins H2 h2.objs.size := loose_of (I2.fpOk (by omega) nK)
        have fA : f < s2.heap.objs.size := Heap.lt_size hf
        have I4 : Inv X ((f, PySem.W.kla_obj "<lambda>" (X.env.qual ++ "<lambda>") ⟨[], [yp], none, [], [], none, []⟩ body scope (cloFrom X.env.cells scope.names []) pm c' ctv) :: pins) σ H2 { s2 with heap := h2.push (seqObj "list" #[] 0), toks := s2.toks } := inv_pin I3 lf (kp2 _ _ hf) (fun v z => by cases z)
        have pinNe : ∀ {b : Addr} {ps : List (Addr × Obj)} {q : Addr × Obj} {H' : Hp}, Loose X ps H' b → q.1 ≠ b → Loose X (q :: ps) H' b := fun l h => ⟨l.no, l.loc, l.fs, l.young, l.cell, fun p hp => (List.mem_append.mp hp).elim (fun z => l.pin p (List.mem_append_left _ z)) fun z => (List.mem_cons.mp z).elim (fun e => by rw [e]; exact h) fun z => l.pin p (List.mem_append_right _ z)⟩
        have I5 := inv_pin I4 (pinNe la (Nat.ne_of_lt (Nat.lt_of_lt_of_le fA hsz))) (Heap.get?_push_of_some _ a2) (fun v z => by cases z)
        have lK2 : ∀ {H' : Hp}, H' h2.objs.size = none → Loose X ((h'.objs.size, seqObj "list" #[] e1) :: (f, PySem.W.kla_obj "<lambda>" (X.env.qual ++ "<lambda>") ⟨[], [yp], none, [], [], none, []⟩ body scope (cloFrom X.env.cells scope.names []) pm c' ctv) :: pins) H' h2.objs.size := fun n => pinNe (pinNe (lK.heap n) (Nat.ne_of_lt (Nat.lt_of_lt_of_le fA (Nat.le_trans hsz (by rw [z2]; exact Nat.le_add_right _ _))))) (Nat.ne_of_lt (by rw [z2]; exact Nat.lt_add_of_pos_right (by decide)))
        have I6 := inv_pin I5 (lK2 nK) (o := seqObj "list" #[] 0) (Heap.get?_push_size _ rfl) (fun v z => by cases z)
        -- the state of the turns
        have Se : StV G ⟨H2, os⟩ (osF os) (noMu ρ) σ H2 (tms false ys (xs.map W.d)) := S2.enter (by rw [S2.len]; unfold noMu; rw [List.length_map]) (fun i w e => S2.va i w (noMu_get e)) noMu_mu (dp_tms hdp)
        have hcode : ∀ {H' : Hp}, Gr H2 H' → H' c' = some (CodeO c' (X.env.qual ++ "<lambda>")) := fun g => g.ext _ _ hc codeO_ne
        have hRoom : Room (k + 1) X.A.in1.in1 := (hr.in1).in1
        refine key_loop (fo := PySem.W.kla_obj "<lambda>" (X.env.qual ++ "<lambda>") ⟨[], [yp], none, [], [], none, []⟩ body scope (cloFrom X.env.cells scope.names []) pm c' ctv) (fun j H' ks => StV G ⟨H2, os⟩ (osF os) (noMu ρ) σ H' (tms false ks ((kl.take j).map fun p => W.d p.1) ++ tms false ys (xs.map W.d))) hz I6 (fun H' n => lK2 n) (by simpa [tms] using Se) (fun j v' s' H' ks kA e hv J hj hkj => ?_) (fun s' H' ks kA e J rk hlk hj => ?_)
        · -- a turn
          have jl : j < its.length := (List.getElem?_eq_some_iff.mp hv).1
          obtain ⟨z, hz', rz⟩ : ∃ z, ys[j]? = some z ∧ RelV z v' := by
            have : ∀ {ys : List V} {its : List Value} {j : Nat} {v' : Value}, Vals ys its → its[j]? = some v' → ∃ z, ys[j]? = some z ∧ RelV z v' := by
              intro ys its j v' r
              induction r generalizing j with
              | nil => intro h; simp at h
              | cons r1 r2 ih =>
                intro h
                cases j with
                | zero => simp at h; subst h; exact ⟨_, rfl, r1⟩
                | succ j => obtain ⟨z, a, b⟩ := ih (j := j) (by simpa using h); exact ⟨z, by simpa using a, b⟩
            exact this rv hv
          have jk : j < kl.length := by omega
          have hxj : xs[j]? = some kl[j].2 := by rw [← k1, List.getElem?_map, List.getElem?_eq_getElem jk]; rfl
          obtain ⟨pf, _⟩ := J.pin (f, _) (List.mem_append_right _ (List.mem_cons_of_mem _ (List.mem_cons_of_mem _ List.mem_cons_self)))
          have hfb := k2 kl[j] (List.getElem_mem jk)
          have Sk := hj.keepSlots
          have mz : (z, W.d kl[j].2, false) ∈ tms false ys (xs.map W.d) := tms_get hz' (by rw [List.getElem?_map, hxj]; rfl)
          have hil : i < σ.length := by rw [I2.len]; exact (List.getElem?_eq_some_iff.mp hi).1
          have Sb := Sk.bind (m := false) (i := i) (Sk.repW (List.mem_append_right _ (List.mem_append_right _ mz))) hil
          refine wpAny_mono (lam_run1 (k := k) (Q := fun z' H3 => StV G ⟨H2, os⟩ (osF os) (noMu ρ) σ H3 ((z', W.d kl[j].1, false) :: (tms false ks ((kl.take j).map fun p => W.d p.1) ++ tms false ys (xs.map W.d)))) J L hRoom J.env0.in1.in1 hN hi rz pf (hcode hj.base) (bind_plain (as := [yp]) (List.nodup_cons.mpr ⟨by simp, List.nodup_nil⟩) rfl rfl rfl) (fun hr' => hbody ⟨H2, os⟩ X.A.in1.in1 s' H' f c' hr') ?_) (fun u' s3 ⟨z', H3, I7, r7, S7⟩ => ⟨z', H3, I7, r7, ?_⟩) fun _ _ z => z
          · refine ⟨_, _, _, Sb, P_of_ok hfb fun z' H3 S3 => ?_⟩
            exact (hj.back S3.tail).pushW false (S3.repW List.mem_cons_self)
          · have et : (kl.take (j + 1)).map (fun p => W.d p.1) = (kl.take j).map (fun p => W.d p.1) ++ [W.d kl[j].1] := by
              rw [List.take_add_one, List.getElem?_eq_getElem jk, List.map_append]; rfl
            have hlk : ks.length = ((kl.take j).map fun p => W.d p.1).length := by rw [List.length_map, List.length_take, hkj]; omega
            rw [et, tms_snoc hlk]
            refine S7.sub fun t ht => ?_
            simp only [List.mem_append, List.mem_cons, List.not_mem_nil, or_false] at ht ⊢
            rcases ht with (h | h) | h
            · exact .inr (.inl h)
            · exact .inl h
            · exact .inr (.inr h)
        · -- the end
          have hkz : DpAll G.K (frz (osF os) H') ks (kl.map fun p => p.1) := by
            have hj2 : StV G ⟨H2, os⟩ (osF os) (noMu ρ) σ H' (tms false ks ((kl.map fun p => p.1).map W.d) ++ tms false ys (xs.map W.d)) := by
              have et : (kl.take its.length).map (fun p => W.d p.1) = (kl.map fun p => p.1).map W.d := by rw [lk, List.take_length, List.map_map]; rfl
              rw [et] at hj
              exact hj
            exact tms_dp (by rw [List.length_map, hlk, lk]) hj2
          have hys : DpAll G.K (frz os H') ys (kl.map fun p => p.2) := by
            have := tms_dp (l := []) (by rw [dpAll_len hdp]) ((hj.sub (l' := tms false ys (xs.map W.d) ++ []) fun t ht => List.mem_append_right _ (by simpa using ht)))
            rw [frz_osF] at this
            rw [k1]
            exact this
          obtain ⟨_, pn1, _⟩ := J.pin (h2.objs.size, _) (List.mem_append_right _ List.mem_cons_self)
          obtain ⟨_, pn2, _⟩ := J.pin (h'.objs.size, _) (List.mem_append_right _ (List.mem_cons_of_mem _ List.mem_cons_self))
          refine key_end (Nat.ne_of_gt (by rw [z2]; exact Nat.lt_add_of_pos_right (by decide))) hz J (lK.heap pn1) (la.heap pn2) rk (by rw [hlk]) (hG ▸ dpAll_ext (frz_le _ _) _ _ hkz) t2 t3 (fun d hd' => ?_) fun h3 tk out cc kp3 hat ko => ?_
          · have q1 := SeqAt.depth_of_shaped (t1 d hd')
            have := hr.un
            show X.A.units + 1 + 1 + d.depth < cLine
            omega
          · have eo := PySem.W.keyedOut_each (fun p : PyData × PyData => p.1) ko (each_pair rv hys)
            obtain ⟨zs, z1, z2⟩ := of_pair eo
            have zl : zs.length ≤ sizeLine := by
              have q1 := dpAll_len z2
              rw [List.length_map, List.length_mergeSort] at q1
              omega
            have Jp := inv_unpin (inv_unpin (inv_unpin J))
            refine ⟨_, rfl, .ref h'.objs.size, _, inv_adopt (tk := tk) Jp (la.heap pn2) (lK.heap pn1) kp3 zl z1 hat, rfl, ?_⟩
            have S9 := (S2.grow hj.base (by have := hj.tabs; rw [frz_osF] at this; exact this)).tail
            exact q _ _ (S9.newLf pn2 z2 m)
      · rw [if_neg hso] at q; exact q.elim
  cases w with
  | d xw =>
    cases xw with
    | list xs =>
      obtain ⟨b, ys, rfl, h1, h2⟩ := S2.lst List.mem_cons_self
      cases ru
      obtain ⟨its, rv, pl, hz⟩ := I2.list (hG ▸ h1)
      obtain ⟨o, ho, hc0, n, hd⟩ := pl.isList
      exact core "list" o n b its ys xs rfl (.inl rfl) ho hc0 hd (by rw [← rv.length]; exact hz) rv h2 q
    | tuple xs =>
      obtain ⟨b, ys, rfl, h1, h2⟩ := S2.tup List.mem_cons_self
      cases ru
      obtain ⟨its, rv, pl, hz⟩ := I2.tuple (hG ▸ h1)
      obtain ⟨o, ho, hc0, n, hd⟩ := pl
      exact core "tuple" o n b its ys xs rfl (.inr rfl) ho hc0 hd (by rw [← rv.length]; exact hz) rv h2 q
    | _ => exact q.elim
  | _ => exact q.elim
end
end Pz
namespace Pz
open PySem PySem.Spec PyProof.Rows L2 LamX
theorem rev_adjust (n : Nat) : Builtin.Slice.sliceAdjust none none (-1) (n : Int) = ((n : Int) - 1, -1) := by
  unfold Builtin.Slice.sliceAdjust
  simp
theorem rev_places (n : Nat) : Builtin.Slice.slicePlaces ((n : Int) - 1) (-1) (-1) = n := by
  unfold Builtin.Slice.slicePlaces
  by_cases h : n = 0
  · subst h; simp
  · have h1 : ((n : Int) - 1) > -1 := by omega
    simp [h1]
theorem rev_items (xs : Array Value) : ((List.range xs.size).filterMap fun (k : Nat) => xs[(((xs.size : Int) - 1) + (k : Int) * (-1)).toNat]?) = xs.toList.reverse := by
  have e : ∀ k ∈ List.range xs.size, xs[(((xs.size : Int) - 1) + (k : Int) * (-1)).toNat]? = xs.toList.reverse[k]? := fun k hk => by
    have lt := List.mem_range.mp hk
    rw [List.getElem?_reverse (by rw [Array.length_toList]; exact lt), Array.length_toList, Array.getElem?_toList]
    congr 1
    omega
  have cg : ∀ l : List Nat, (∀ k ∈ l, xs[(((xs.size : Int) - 1) + (k : Int) * (-1)).toNat]? = xs.toList.reverse[k]?) → (l.filterMap fun (k : Nat) => xs[(((xs.size : Int) - 1) + (k : Int) * (-1)).toNat]?) = l.filterMap fun k => xs.toList.reverse[k]? := by
    intro l
    induction l with
    | nil => intro _; rfl
    | cons a l ih =>
      intro h
      rw [List.filterMap_cons, List.filterMap_cons, h a List.mem_cons_self, ih fun k hk => h k (List.mem_cons_of_mem _ hk)]
  rw [cg _ e]
  have key : ∀ (ys : List Value) (n : Nat), n ≤ ys.length → (List.range n).filterMap (fun k => ys[k]?) = ys.take n := by
    intro ys n
    induction n with
    | zero => intro _; simp
    | succ n ih =>
      intro h
      have lt : n < ys.length := h
      rw [List.range_succ, List.filterMap_append, ih (Nat.le_of_lt lt), List.take_succ, List.getElem?_eq_getElem lt, List.filterMap_cons_some (List.getElem?_eq_getElem lt)]
      rfl
  have q := key xs.toList.reverse xs.size (by simp)
  rw [q, List.take_of_length_le (by simp)]
section
variable {prog : Program} {w : World} {A : Around} {E : Value → Shared → Prop} {s : Shared}
theorem getItem_tuple_rev {t sl : Addr} {items : Array Value} {vl vu vs : Value} {Q : Value → Shared → Prop} (ht : IsTup s.heap t items) (hs : s.heap.IsSliceOf sl vl vu vs) (pl : IsPart vl none) (pu : IsPart vu none) (ps : IsPart vs (some (-1)))
    (h : Q (.ref s.heap.objs.size) { s with heap := s.heap.push { cls := .type "tuple", data := .seq items.toList.reverse.toArray } }) (hsz : items.size ≤ sizeLine) : wpAny (model prog w) A (getItem (.ref t) (.ref sl)) Q E s := by
  obtain ⟨os, hos, hcs, hds⟩ := id hs
  have hTs : s.TypeIs (.ref sl) "slice" := ⟨os, hos, hcs⟩
  have app : ∀ {R : Int × Int × Nat → Shared → Prop}, R ((items.size : Int) - 1, -1, items.size) s → wpAny (model prog w) A.in1 (Builtin.Slice.sliceApplied (.ref sl) (pure (items.size : Int))) R E s := fun {R} r => by
    unfold Builtin.Slice.sliceApplied Builtin.Slice.sliceFields
    refine wpAny_bind (wpAny_bind (wpAny_field hos hds (x := vl) rfl (wpAny_bind (wpAny_field hos hds (x := vu) rfl (wpAny_bind (wpAny_field hos hds (x := vs) rfl (wpAny_pure ?_)))))))
    refine wpAny_bind (HT.slicePart_ ps ?_)
    show wpAny _ _ (if ((-1 : Int) == 0) = true then _ else _) _ _ s
    rw [if_neg (by decide)]
    refine wpAny_bind (HT.slicePart_ pl (wpAny_bind (HT.slicePart_ pu (wpAny_bind (wpAny_pure ?_)))))
    show wpAny _ _ (match Builtin.Slice.sliceAdjust none none (-1) (items.size : Int) with | (lo, hi) => pure (lo, (-1 : Int), Builtin.Slice.slicePlaces lo hi (-1))) _ _ s
    rw [rev_adjust]
    show wpAny _ _ (pure ((items.size : Int) - 1, (-1 : Int), Builtin.Slice.slicePlaces ((items.size : Int) - 1) (-1) (-1))) _ _ s
    rw [rev_places]
    exact wpAny_pure r
  unfold getItem
  try with_reducible refine wpAny_holding ?_
  first | refine wpAny_bind (wpAny_pure ?_) | skip
  refine wpAny_bind (wpAny_sequenceKey ht.typeIs (by decide) ?_)
  refine wpAny_bind (wpAny_callSpecial?_slot (name := Str.ofString "__getitem__") ht.typeIs PyProof.Rows.slot_tuple_getitem
    (wpAny_call_entry PyProof.Rows.slot_tuple_getitem ht.typeIs entry_tuple_getitem ?_ (args_tuple_getitem _ _)))
  show wpAny _ _ (Builtin.Tuple.tupleItemsOf (.ref t) >>= _) _ _ s
  refine wpAny_bind (tupleItemsOf_ ht ?_)
  refine wpAny_bind (wpAny_typeOf hTs ?_)
  rw [if_pos (by decide)]
  refine wpAny_bind (app ?_)
  have hno : ¬ ((((items.size : Int) - 1) == 0 && (-1 : Int) == 1 && items.size == items.size) = true) := by simp
  show wpAny _ _ (if (((items.size : Int) - 1) == 0 && (-1 : Int) == 1 && items.size == items.size) = true then _ else _) _ _ s
  rw [if_neg hno, rev_items]
  have hz : sizeOk (.seq items.toList.reverse.toArray) := by
    show items.toList.reverse.toArray.size ≤ sizeLine
    simpa using hsz
  first
    | exact wpAny_bind (m := Builtin.Tuple.tupleExact _) (wpAny_newObj_type (wpAny_pure ⟨_, rfl, wpAny_pure h⟩) hz)
    | exact wpAny_bind (m := Builtin.Tuple.tupleExact _) (wpAny_newObj_type (wpAny_bind (wpAny_pure (wpAny_pure ⟨_, rfl, wpAny_pure h⟩))) hz)
end
section
variable {X : Cx} {G : Gc} {B : Bs} {E : XK}
theorem pe_revT {e : Expr} {te : TE} {k : Nat} {p1 p2 p3 pos : Pos} (he : PE X e te) : PE X (.Subscript e (.Slice none none (some (.UnaryOp .USub (.Constant (.int 1) k p1) p2)) p3) pos) (fun σ H Q => te σ H fun x H1 => ∃ a xs, x = .ref a ∧ SqT X.K H1 a xs ∧ ∀ p, H1 p = none → Q (.ref p) (upd H1 p (.tup xs.reverse))) := by
  refine ⟨fun pins s σ H Q I h => ?_⟩
  refine Subscript_ (thn (he.run pins s σ H _ I h) fun v s1 ⟨x, H1, I1, r1, a, xs, ex, hx, q⟩ => ?_)
  subst ex
  cases r1
  have hst : PO X (some (.UnaryOp .USub (.Constant (.int 1) k p1) p2)) (tPart (tUn (rU fun i => .int (-i)) (tC (.int 1)))) := po_some (pe_un un_neg pe_int)
  refine wpAny_Slice (thn (po_none.run pins s1 σ H1 (fun o H2 => o = none ∧ H2 = H1) I1 ⟨rfl, rfl⟩) fun vl s2 ⟨l, H2, I2, pl, el, e2⟩ => ?_)
  subst el e2
  refine thn (po_none.run pins s2 σ H2 (fun o H3 => o = none ∧ H3 = H2) I2 ⟨rfl, rfl⟩) fun vu s3 ⟨u, H3, I3, pu, eu, e3⟩ => ?_
  subst eu e3
  refine thn (hst.run pins s3 σ H3 (fun o H4 => o = some (-1) ∧ H4 = H3) I3 ⟨1, rfl, -1, rfl, rfl, rfl⟩) fun vs s4 ⟨o, H4, I4, ps, eo, e4⟩ => ?_
  subst eo e4
  have I5 : Inv X pins σ H4 { s4 with heap := s4.heap.push { cls := .type "slice", data := .fields #[vl, vu, vs] } } := I4.kept (t' := s4.toks) fun b ob q => Heap.get?_push_of_some _ q
  obtain ⟨its, r, ht, hz⟩ := I5.tuple hx
  have hlen := r.length
  show wpAny (model X.prog X.w) X.A (subscriptTail e (.Slice none none (some (.UnaryOp .USub (.Constant (.int 1) k p1) p2)) p3) (.ref a) (.ref s4.heap.objs.size)) (EP X pins σ Q) X.xe { s4 with heap := s4.heap.push { cls := .type "slice", data := .fields #[vl, vu, vs] } }
  refine tail_any (ops := [.ref a, .ref s4.heap.objs.size]) ht.typeIs (PyProof.Rows.slot_tuple_getitem.lookup) ?_ (by with_unfolding_all rfl)
  refine getItem_tuple_rev ht (Heap.IsSliceOf.new _ vl vu vs) pl pu ps ?_ (by rw [List.size_toArray]; omega)
  refine ⟨.ref _, _, I5.laid (t' := s4.toks) (o := .tup xs.reverse) (fun b ob q => Heap.get?_push_of_some _ q) (Nat.le_refl _) ?_, rfl, q _ (I5.hok.fresh (Nat.le_refl _))⟩
  exact ⟨by rw [List.length_reverse]; exact hz, _, by simpa using r.reverse, IsTup.new _ _⟩
theorem r_rev {e : Expr} {k : Nat} {p1 p2 p3 pos : Pos} {ma m : Bool} {fa : En → Rs W} (hG : G.K = X.K) (he : PE X e (tOf G B E ma fa)) :
    PE X (.Subscript e (.Slice none none (some (.UnaryOp .USub (.Constant (.int 1) k p1) p2)) p3) pos) (tOf G B E m fun ρ => (fa ρ).bind wRev) := by
  have both : PE X (.Subscript e (.Slice none none (some (.UnaryOp .USub (.Constant (.int 1) k p1) p2)) p3) pos) (fun σ H Q => tRevL X.K (tOf G B E ma fa) σ H Q ∨ (tOf G B E ma fa) σ H fun x H1 => ∃ a xs, x = .ref a ∧ SqT X.K H1 a xs ∧ ∀ p, H1 p = none → Q (.ref p) (upd H1 p (.tup xs.reverse))) :=
    ⟨fun pins s σ H Q I h => h.elim ((pe_revL he).run pins s σ H Q I) ((pe_revT he).run pins s σ H Q I)⟩
  refine pe_of both fun σ H Q ⟨os, ρ, l, S, q⟩ => ?_
  have q := Rs.P_bind q
  cases e1 : fa ρ with
  | stuck => rw [e1] at q; exact q.elim
  | exc c => rw [e1] at q; exact .inl ⟨os, ρ, l, S, by rw [e1]; exact q⟩
  | ok w =>
    rw [e1] at q
    cases w with
    | d x =>
      cases x with
      | list ds =>
        refine .inl ⟨os, ρ, l, S, P_of_ok e1 fun v H1 S1 => ?_⟩
        obtain ⟨a, ys, rfl, h1, h2⟩ := S1.lst List.mem_cons_self
        exact ⟨a, ys, rfl, hG ▸ h1, fun p hp => q _ _ (S1.tail.newLf hp (dpAll_reverse h2) m)⟩
      | tuple ds =>
        refine .inr ⟨os, ρ, l, S, P_of_ok e1 fun v H1 S1 => ?_⟩
        obtain ⟨a, ys, rfl, h1, h2⟩ := S1.tup List.mem_cons_self
        exact ⟨a, ys, rfl, hG ▸ h1, fun p hp => q _ _ (S1.tail.newT hp (dpAll_reverse h2) m)⟩
      | _ => exact q.elim
    | _ => exact q.elim
end
end Pz
namespace Pz
open PySem PySem.Spec PyProof.Rows L2 LamX

/-! ### the checker: does the core stand for the text? -/
structure Inf where
  N : List Str
  sc : Scope
  raw : Scope
  fns : List (Str × Nat × Nat)
  cs : List (Str × PyData)
  bl : List Str
  xs : List Str
  lam : Bool
  kx : Nat
def visB (sc : Scope) (x : Str) : Bool := match sc.names.lookup x with
  | some .local => true
  | some .cell => true
  | some .free => true
  | _ => false
def locB (sc raw : Scope) (x : Str) : Bool := match sc.names.lookup x with
  | some .local => true
  | some .cell => (match raw.names.lookup x with
    | some .cell => true
    | _ => false)
  | _ => false
def lclB (sc : Scope) (x : Str) : Bool := match sc.names.lookup x with
  | some .local => true
  | _ => false
def glB (sc : Scope) (x : Str) : Bool := match sc.names.lookup x with
  | some .globalImplicit => true
  | _ => false
def nmB (x : Str) : Bool := !(x == ("__debug__" : Str)) && !(x == ("__classdict__" : Str))
def slB (I : Inf) (i : Nat) (x : Str) : Bool := match I.N[i]? with
  | some y => decide (y = x)
  | none => false
def varB (I : Inf) (i : Nat) (x : Str) : Bool := slB I i x && (visB I.sc x && nmB x)
def tgtB (I : Inf) (i : Nat) (x : Str) : Bool := slB I i x && locB I.sc I.raw x
def constB : PyData → Const → Bool
  | .none, .none => true
  | .bool a, .bool b => a == b
  | .int a, .int b => decide (a = b)
  | .str a, .str b => decide (a = b)
  | _, _ => false
def dataB : PyData → PyData → Bool
  | .none, .none => true
  | .bool a, .bool b => a == b
  | .int a, .int b => decide (a = b)
  | .str a, .str b => decide (a = b)
  | _, _ => false
def opB : BOp → Operator
  | .add => .Add
  | .sub => .Sub
  | .mul => .Mult
  | .div => .FloorDiv
  | .mod => .Mod
  | .pow => .Pow
def opC : COp → CmpOp
  | .eq => .Eq
  | .ne => .NotEq
  | .lt => .Lt
  | .le => .LtE
  | .gt => .Gt
  | .ge => .GtE
  | .mem => .In
  | .nmem => .NotIn
  | .is => .Is
  | .isn => .IsNot
def btN : BT → Str
  | .int => "int"
  | .bool => "bool"
  | .str => "str"
  | .tuple => "tuple"
  | .list => "list"
/-- built-ins that are served, by name -/
def bfN : BF → Option Str
  | .len => some "len"
  | .all => some "all"
  | .any => some "any"
  | .tuple => some "tuple"
  | .list => some "list"
  | .max2 => some "max"
  | .sorted => some "sorted"
  | .min2 => some "min"
  | _ => none
def sameN : List Nat → List Expr → Inf → Bool
  | [], [], _ => true
  | i :: is, .Name x _ :: es, I => tgtB I i x && sameN is es I
  | _, _, _ => false
def tgB (I : Inf) : Tg → Expr → Bool
  | .n i, .Name x _ => tgtB I i x
  | .t is, .Tuple es _ _ => sameN is es I
  | _, _ => false
def ownOf (I : Inf) (is : List Nat) : List (Str × Nat) := is.filterMap fun i => (I.N[i]?).map fun x => (x, i)
def Inf.blk (I : Inf) (scope : Scope) : Inf := { I with sc := relS scope I.sc, raw := scope, lam := false }
def Inf.lmb (I : Inf) (scope : Scope) : Inf := { I with sc := scope, raw := scope, lam := false }
def blB (I : Inf) (x : Str) : Bool := glB I.sc x && (decide (x ∈ I.bl) && (!(x == ("__debug__" : Str)) && decide (x ≠ ("__name__" : Str))))
/-- a target in a def -/
def fnB (I : Inf) (f : Nat) (x : Str) (n : Nat) : Bool := glB I.sc x && (decide ((x, f, n) ∈ I.fns) && !(x == ("__debug__" : Str)))
def csB (I : Inf) (x : Str) (d : PyData) : Bool := glB I.sc x && ((I.cs.any fun c => decide (c.1 = x) && dataB c.2 d) && !(x == ("__debug__" : Str)))
inductive Qy where
  | e (m : Bool) (c : CE) (e : Expr)
  | n (c : CE) (e : Expr)
  | t (c : CE) (e : Expr)
  | w (c : CE) (e : Expr)
  | as (m : Bool) (cs : List CE) (es : List Expr)
  | pr (r : List (Nat × Bool)) (cs : List CE) (es : List Expr)
  | it (m : Bool) (c : CE) (e : Expr)
  | ts (cs : List CE) (es : List Expr)
  | o (cs : List CE) (e : Option Expr)
  | s (c : CS) (st : Stmt)
  | ss (cs : List CS) (sts : List Stmt)
def lcB (k kb : Qy → Bool) (I : Inf) (el : CE) (tg : Tg) (it : CE) (ifs : List CE) (x te ti : Expr) (ts : List Expr) (scope : Scope) : Bool :=
  blkC I.N I.sc scope (ownOf I tg.is) && (decide ((ownOf I tg.is).map (·.2) = tg.is) && (noSet ti && (k (.it true it ti) && (tgB (I.blk scope) tg te && (kb (.ts ifs ts) && kb (.e false el x))))))
def kk : Nat → Inf → Qy → Bool
  | 0, _, _ => false
  | n + 1, I, q => match q with
    | .e m c e => match c, e with
      | .v i, .Name x _ => varB I i x
      | .vr i, .Name x _ => m && varB I i x
      | .k d, .Constant k _ _ => constB d k
      | .g x d, .Name y _ => decide (x = y) && csB I x d
      | .tup l, .Tuple es _ _ => kk n I (.as false l es)
      | .lst _, .List _ _ => kk n I (.n c e)
      | .lc _ _ _ _, .ListComp _ _ _ _ => kk n I (.n c e)
      | .bin op a b, .BinOp x o y _ => decide (o = opB op) && (kk n I (.e true a x) && kk n I (.e true b y))
      | .neg a, .UnaryOp o x _ => decide (o = .USub) && kk n I (.e true a x)
      | .not a, .UnaryOp o x _ => decide (o = .Not) && kk n I (.e true a x)
      | .and (a :: r), .BoolOp o (x :: y) p => decide (o = .And) && (match r, y with
        | [], [] => kk n I (.e m a x)
        | b :: r, z :: y => kk n I (.e m a x) && kk n I (.e m (.and (b :: r)) (.BoolOp .And (z :: y) p))
        | _, _ => false)
      | .or (a :: r), .BoolOp o (x :: y) p => decide (o = .Or) && (match r, y with
        | [], [] => kk n I (.e m a x)
        | b :: r, z :: y => kk n I (.e m a x) && kk n I (.e m (.or (b :: r)) (.BoolOp .Or (z :: y) p))
        | _, _ => false)
      | .cmp op a b, .Compare x [o] [y] _ => decide (o = opC op) && (!behindInMarks o y && (kk n I (.e true a x) && kk n I (.e true b y)))
      | .ch op op' a b c, .Compare x [o, o'] [y, z] _ => decide (o = opC op) && (decide (o' = opC op') && (!lastMarks [o, o'] [y, z] && (kk n I (.e true a x) && (kk n I (.e true b y) && kk n I (.e true c z)))))
      | .ite t a b, .IfExp x y z _ => kk n I (.t t x) && (kk n I (.e m a y) && kk n I (.e m b z))
      | .call f l, .Call (.Name x _) es [] _ => fnB I f x l.length && (es.all noStar && kk n I (.as false l es))
      | .bi .lenset [a], .Call (.Name x _) [.Call (.Name z _) [y] [] _] [] _ => blB I x && (decide (x = ("len" : Str)) && (blB I z && (decide (z = ("set" : Str)) && (noStar y && kk n I (.e true a y)))))
      | .srtk a i b, .Call (.Name x _) [e] [⟨kn, .Lambda ⟨[], [yp], none, [], [], none, []⟩ body scope _, _⟩] _ => blB I x && (decide (x = ("sorted" : Str)) && (decide (kn = some ("key" : Str)) && (noStar e && (slB I i yp.arg && (lamSB1 I.sc scope yp.arg && (I.lam && (kk n I (.e true a e) && kk n (I.lmb scope) (.e false b body))))))))
      | .bi f l, .Call (.Name x _) es [] _ => blB I x && (decide (bfN f = some x) && (es.all noStar && (!es.isEmpty && kk n I (.as true l es))))
      | .isi a t, .Call (.Name x _) [y, .Name z _] [] _ => blB I x && (decide (x = ("isinstance" : Str)) && (blB I z && (decide (z = btN t) && (noStar y && kk n I (.e true a y)))))
      | .rev a, .Subscript x (.Slice none none (some (.UnaryOp o (.Constant k _ _) _)) _) _ => decide (o = .USub) && (decide (k = .int 1) && kk n I (.e true a x))
      | .ix a b, .Subscript x y _ => plainI y && (kk n I (.e true a x) && kk n I (.e true b y))
      | .sl a lo hi, .Subscript x (.Slice u v none _) _ => kk n I (.e true a x) && (kk n I (.o lo u) && kk n I (.o hi v))
      | _, _ => false
    | .n c e => match c, e with
      | .lst l, .List es _ => kk n I (.as false l es)
      | .bi .list l, .Call (.Name x _) [y] [] _ => blB I x && (decide (x = ("list" : Str)) && (noStar y && kk n I (.as true l [y])))
      | .lc el tg it ifs, .ListComp x [⟨te, ti, ts, 0⟩] scope _ => lcB (fun q => kk n I q) (fun q => kk n (I.blk scope) q) I el tg it ifs x te ti ts scope
      | _, _ => false
    | .t c e => match c, e with
      | .not a, .UnaryOp o x _ => decide (o = .Not) && kk n I (.t a x)
      | .and _, .BoolOp _ _ _ => kk n I (.w c e)
      | .or _, .BoolOp _ _ _ => kk n I (.w c e)
      | .cmp op a b, .Compare x [o] [y] _ => decide (o = opC op) && (!behindInMarks o y && (kk n I (.e true a x) && kk n I (.e true b y)))
      | .ch op op' a b c, .Compare x [o, o'] [y, z] _ => decide (o = opC op) && (decide (o' = opC op') && (!lastMarks [o, o'] [y, z] && (kk n I (.e true a x) && (kk n I (.e true b y) && kk n I (.e true c z)))))
      | _, _ => plainT e && kk n I (.e true c e)
    | .w c e => match c, e with
      | .and (a :: r), .BoolOp o (x :: y) p => decide (o = .And) && (match r, y with
        | [], [] => kk n I (.t a x)
        | b :: r, z :: y => kk n I (.t a x) && kk n I (.w (.and (b :: r)) (.BoolOp .And (z :: y) p))
        | _, _ => false)
      | .or (a :: r), .BoolOp o (x :: y) p => decide (o = .Or) && (match r, y with
        | [], [] => kk n I (.t a x)
        | b :: r, z :: y => kk n I (.t a x) && kk n I (.w (.or (b :: r)) (.BoolOp .Or (z :: y) p))
        | _, _ => false)
      | _, _ => false
    | .as m cs es => match cs, es with
      | [], [] => true
      | c :: cs, e :: es => noStar e && (kk n I (.e m c e) && kk n I (.as m cs es))
      | _, _ => false
    | .pr r cs es => match r, cs, es with
      | [], [], [] => true
      | (_, b) :: r, c :: cs, e :: es => noStar e && ((if b then kk n I (.n c e) else kk n I (.e false c e)) && kk n I (.pr r cs es))
      | _, _, _ => false
    | .it m c e => match c, e with
      | .rng a, .Call (.Name x _) [y] [] _ => blB I x && (decide (x = ("range" : Str)) && (noStar y && kk n I (.e true a y)))
      | _, _ => kk n I (.e m c e)
    | .ts cs es => match cs, es with
      | [], [] => true
      | [c], [e] => kk n I (.t c e)
      | _, _ => false
    | .o cs e => match cs, e with
      | [], none => true
      | [c], some e => kk n I (.e true c e)
      | _, _ => false
    | .s c st => match c, st with
      | .asg i c, .Assign [.Name y py] e _ => tgtB I i y && (match c, e with
        | .lc el tg it ifs, .ListComp x [⟨te, ti, ts, 0⟩] scope pos => if swB I.sc y py scope pos then lcB (fun q => kk n I q) (fun q => kk n (I.blk scope) q) I el tg it ifs x te ti ts scope else kk n I (.e false c e)
        | c, e => noComp e && kk n I (.e false c e))
      | .asgN i c, .Assign [.Name y py] e _ => tgtB I i y && (match c, e with
        | .lc el tg it ifs, .ListComp x [⟨te, ti, ts, 0⟩] scope pos => if swB I.sc y py scope pos then lcB (fun q => kk n I q) (fun q => kk n (I.blk scope) q) I el tg it ifs x te ti ts scope else kk n I (.n c e)
        | c, e => noComp e && kk n I (.n c e))
      | .par l cs, .Assign [.Tuple ts _ _] (.Tuple es _ _) _ => (match l, ts, es with
        | [(i, bi), (j, bj)], [.Name x px, .Name y py], [a, b] => slB I i x && (slB I j y && (decide (i ≠ j) && (par2B I.sc x y px py a b && kk n I (.pr [(i, bi), (j, bj)] cs [a, b]))))
        | [(i, bi), (j, bj), (k, bk)], [.Name x px, .Name y py, .Name z pz], [a, b, c] => slB I i x && (slB I j y && (slB I k z && (decide (i ≠ j) && (decide (i ≠ k) && (decide (j ≠ k) && (par3B I.sc x y z px py pz a b c && kk n I (.pr [(i, bi), (j, bj), (k, bk)] cs [a, b, c])))))))
        | _, _, _ => false)
      | .unp is c, .Assign [.Tuple ts k p] e _ => sameN is ts I && (noComp e && ((match e with
        | .Tuple vs _ _ => vs.all (foldedForSure 8) || someOut I.sc ts
        | e => noTupV e) && kk n I (.e false c e)))
      | .iff t a b, .If x y z _ => kk n I (.t t x) && (kk n I (.ss a y) && kk n I (.ss b z))
      | .whl t b, .While x y [] _ => kk n I (.t t x) && kk n I (.ss b y)
      | .fo tg it b, .For te ti y [] _ => tgB I tg te && (noSet ti && (kk n I (.it false it ti) && kk n I (.ss b y)))
      | .ret c, .Return (some e) _ => kk n I (.e false c e)
      | .ret0, .Return none _ => true
      | .exp c, .Expr e _ => noComp e && kk n I (.e false c e)
      | .app i c, .Expr (.Call (.Attribute (.Name x _) f ap) [e] [] cp) _ => varB I i x && (decide (f = ("append" : Str)) && ((ap.endLine == cp.line) && (noStar e && kk n I (.e false c e))))
      | .ext i c, .Expr (.Call (.Attribute (.Name x _) f ap) [e] [] cp) _ => varB I i x && (decide (f = ("extend" : Str)) && ((ap.endLine == cp.line) && (noStar e && kk n I (.e true c e))))
      | .rse x, .Raise (some (.Call (.Name y _) [.Constant (.str _) _ _] [] _)) none _ => decide (x = y) && (decide (y ∈ I.xs) && (glB I.sc y && !(y == ("__debug__" : Str))))
      | _, _ => false
    | .ss cs sts => match cs, sts with
      | .fz _ :: cs, sts => kk n I (.ss cs sts)
      | cs, .Expr (.Constant (.str _) _ _) _ :: sts => kk n I (.ss cs sts)
      | [], [] => true
      | c :: cs, st :: sts => kk n I (.s c st) && kk n I (.ss cs sts)
      | _, _ => false

/-! ### what it promises -/
structure FnP (X : Cx) (G : Gc) (x : Str) (n : Nat) (g : List W → Rs W) (kx : Nat) : Prop where
  ex : ∃ (k : Nat) (fa : Addr) (fd : FuncData) (ps : List Str), FnOk X.prog X.w X.K X.mg X.base (L2.CX X.prog X.w) k fa fd ps (spF G n g) ∧ k ≤ kx ∧ X.mg x = some (.ref fa) ∧ PySem.W.keepIn X.K (.ref fa) = true ∧ L2.Binds X.K fd ps []
structure XcP (K : PySem.W.Frag) (mg : Str → Option Value) (X : Cx) (x : Str) : Prop where
  ex : ∃ (C : Addr) (bmB : List Value) (Bn newId initId : String), ExcBaseFacts Bn newId initId bmB ∧ PySem.W.excIn X.K C bmB newId = true ∧ X.mg x = some (.ref C) ∧ PySem.W.keepIn X.K (.ref C) = true ∧ Raises X (.ref C)
structure XOk (X : Cx) (G : Gc) (Γ : Fns) (I : Inf) : Prop where
  N : X.N = I.N
  sc : X.env.scope = I.sc
  raw : ∀ x, I.raw.names.lookup x = some .cell → X.fn x = true
  kind : X.env.scope.kind = .function
  nd : X.N.Nodup
  calm : X.calm = true
  hK : G.K = X.K
  hmg : G.mg = X.mg
  kls : KLs X.K
  room : Room (I.kx + (if I.lam then 3 else 0)) X.A
  lmb : I.lam = true → LamAt X G.T
  fns : ∀ x f n, (x, f, n) ∈ I.fns → FnP X G x n (Γ f) I.kx
  cs : ∀ c ∈ I.cs, ∃ u v, X.mg c.1 = some u ∧ RelV v u ∧ constV c.2 = some v
  bl : ∀ x ∈ I.bl, X.mg x = none
  xs : ∀ x ∈ I.xs, XcP X.K X.mg X x
structure EOk (X : Cx) (E : XK) : Prop where
  pass : Passes (L2.CX X.prog X.w) X E
  takes : Takes X fun cls d _ H => E cls d H
def Sd (X : Cx) (G : Gc) (B : Bs) (E : XK) (Γ : Fns) (Δ : Dyn) (N : Nat) : Qy → Prop
  | .e m c e => PE X e (tOf G B E m (evE Γ Δ c))
  | .n c e => PE X e (tOfN G B E (evE Γ Δ c))
  | .t c e => PT X e (tOfT G B E fun ρ => (evE Γ Δ c ρ).bind truth)
  | .w c e => PW X e (tOfT G B E fun ρ => (evE Γ Δ c ρ).bind truth)
  | .as m cs es => PA X es (tOfA G B E m (evWs Γ Δ cs))
  | .pr r cs es => PA X es (tOfP G B E r (evWs Γ Δ cs))
  | .it m c e => ∀ tg, PI X tg e (tOfI G B E m (evE Γ Δ c))
  | .ts cs es => PTs X es (tOfT G B E (evTs Γ Δ cs))
  | .o cs e => PO X e (tOfO G B E fun ρ => (evWs Γ Δ cs ρ).bind optInt)
  | .s c st => PassesOwn (model X.prog X.w) X.A X.env X.xe → (∀ x, X.fn x = true) → PS X st (sOf G B E (evS Γ Δ N c))
  | .ss cs sts => PassesOwn (model X.prog X.w) X.A X.env X.xe → (∀ x, X.fn x = true) → PSs X sts (sOf G B E (evSs Γ Δ N cs))
end Pz
namespace Pz
open PySem PySem.Spec PyProof.Rows L2 LamX

theorem andE {a b : Bool} (h : (a && b) = true) : a = true ∧ b = true := by simpa using h
theorem decE {p : Prop} [Decidable p] (h : decide p = true) : p := of_decide_eq_true h
theorem notE {a : Bool} (h : (!a) = true) : a = false := by simpa using h
theorem visE {sc : Scope} {x : Str} (h : visB sc x = true) : Vis sc x := by
  unfold visB at h
  split at h
  · rename_i e; exact .inl e
  · rename_i e; exact .inr (.inl e)
  · rename_i e; exact .inr (.inr e)
  · cases h
theorem locE {sc raw : Scope} {x : Str} (h : locB sc raw x = true) : Loc sc x ∧ (raw.names.lookup x = some .cell ∨ sc.names.lookup x = some .local) := by
  unfold locB at h
  split at h
  · rename_i e; exact ⟨.inl e, .inr e⟩
  · rename_i e
    refine ⟨.inr e, .inl ?_⟩
    split at h
    · assumption
    · cases h
  · cases h
theorem glE {sc : Scope} {x : Str} (h : glB sc x = true) : sc.names.lookup x = some .globalImplicit := by
  unfold glB at h
  split at h
  · assumption
  · cases h
section
variable {X : Cx} {G : Gc} {B : Bs} {E : XK} {Γ : Fns} {Δ : Dyn} {N : Nat} {I : Inf}
theorem XOk.rm (ok : XOk X G Γ I) : Room I.kx X.A := ok.room.mono (Nat.le_add_right _ _)
theorem XOk.un (ok : XOk X G Γ I) : X.A.units + 150 < cLine := by have := ok.rm.un; omega
theorem slE {i : Nat} {x : Str} (ok : XOk X G Γ I) (h : slB I i x = true) : X.N[i]? = some x := by
  unfold slB at h
  split at h
  · rename_i y e
    rw [ok.N, e, decE h]
  · cases h
theorem varE {i : Nat} {x : Str} (ok : XOk X G Γ I) (h : varB I i x = true) : X.N[i]? = some x ∧ Vis X.env.scope x ∧ (x == ("__debug__" : Str)) = false ∧ (x == ("__classdict__" : Str)) = false := by
  obtain ⟨h1, h⟩ := andE h
  obtain ⟨h2, h3⟩ := andE h
  obtain ⟨h3, h4⟩ := andE h3
  exact ⟨slE ok h1, by rw [ok.sc]; exact visE h2, notE h3, notE h4⟩
theorem tgtE {i : Nat} {x : Str} (ok : XOk X G Γ I) (h : tgtB I i x = true) : X.N[i]? = some x ∧ Loc X.env.scope x ∧ (X.fn x = true ∨ X.env.scope.names.lookup x = some .local) := by
  obtain ⟨h1, h2⟩ := andE h
  obtain ⟨h2, h3⟩ := locE h2
  rw [ok.sc]
  exact ⟨slE ok h1, h2, h3.imp (ok.raw x) id⟩
theorem glX {x : Str} (ok : XOk X G Γ I) (h : glB I.sc x = true) : Gl X x := by
  show X.env.scope.names.lookup x = _
  rw [ok.sc]
  exact glE h
theorem blE {x : Str} (ok : XOk X G Γ I) (h : blB I x = true) : Gl X x ∧ X.mg x = none ∧ (x == ("__debug__" : Str)) = false ∧ x ≠ ("__name__" : Str) := by
  obtain ⟨h1, h⟩ := andE h
  obtain ⟨h2, h3⟩ := andE h
  obtain ⟨h3, h4⟩ := andE h3
  exact ⟨glX ok h1, ok.bl x (decE h2), notE h3, decE h4⟩
theorem constE {d : PyData} {k : Const} {j : Nat} {pos : Pos} {m : Bool} (h : constB d k = true) : PE X (.Constant k j pos) (tOf G B E m fun _ => .ok (.d d)) := by
  unfold constB at h
  split at h
  · exact r_tC m pe_non rfl
  · have e := eq_of_beq h; subst e; exact r_tC m pe_bl rfl
  · have e := decE h; subst e; exact r_tC m pe_int rfl
  · have e := decE h; subst e; exact r_tC m pe_str rfl
  · cases h
theorem dataE {d d' : PyData} {v : V} (h : dataB d d' = true) (hv : constV d = some v) : constV d' = some v := by
  unfold dataB at h
  split at h
  · exact hv
  · have e := eq_of_beq h; subst e; exact hv
  · have e := decE h; subst e; exact hv
  · have e := decE h; subst e; exact hv
  · cases h
theorem csE {x : Str} {d : PyData} {pos : Pos} {m : Bool} (ok : XOk X G Γ I) (h : csB I x d = true) : PE X (.Name x pos) (tOf G B E m fun _ => .ok (.d d)) := by
  obtain ⟨h1, h⟩ := andE h
  obtain ⟨h2, h3⟩ := andE h
  obtain ⟨c, hc, h4⟩ := List.any_eq_true.mp h2
  obtain ⟨h4, h5⟩ := andE h4
  obtain ⟨u, v, q1, q2, q3⟩ := ok.cs c hc
  rw [decE h4] at q1
  exact r_tC m (pe_glob (glX ok h1) q1 q2 (notE h3)) (dataE h5 q3)
theorem opBE (ok : XOk X G Γ I) {m : Bool} : ∀ op, OpR X (binaryOp (opB op)) (rW G B E true true m (wBin op))
  | .add => o_add ok.kls ok.hK
  | .sub => o_sub
  | .mul => o_mul ok.hK ok.kls
  | .div => o_div
  | .mod => o_mod
  | .pow => o_pow
theorem opCE (ok : XOk X G Γ I) {m : Bool} : ∀ op, OpR X (compareOp (opC op)) (rW G B E true true m fun a b => rBl (wCmp op a b))
  | .eq => o_eq ok.hK (by have := ok.un; omega)
  | .ne => o_ne ok.hK (by have := ok.un; omega)
  | .lt => o_lt
  | .le => o_le
  | .gt => o_gt
  | .ge => o_ge
  | .mem => o_in ok.hK (by have := ok.un; omega)
  | .nmem => o_notin ok.hK (by have := ok.un; omega)
  | .is => o_is
  | .isn => o_isn
theorem evWs_len {l : List CE} : ∀ {ρ : En} {ws : List W}, evWs Γ Δ l ρ = .ok ws → ws.length = l.length := by
  induction l with
  | nil => intro ρ ws h; cases h; rfl
  | cons c r ih =>
    intro ρ ws h
    have h : (evE Γ Δ c ρ).bind (fun x => (evWs Γ Δ r ρ).bind fun xs => .ok (x :: xs)) = .ok ws := h
    obtain ⟨x, _, h⟩ := Rs.bind_ok_of h
    obtain ⟨xs, e, h⟩ := Rs.bind_ok_of h
    cases h
    simp [ih e]
theorem btE {t : BT} {x : Str} {pos : Pos} (ok : XOk X G Γ I) (h : blB I x = true) (e : x = btN t) : PE X (.Name x pos) (tC (.ty t.ty)) := by
  obtain ⟨h1, h2, h3, h4⟩ := blE ok h
  subst e
  cases t <;> exact pe_bltn h1 h2 (by with_unfolding_all rfl) rfl h4 h3
end
theorem assignEach_len {env : Env} : ∀ es : List Expr, (assignEach es env).length = es.length
  | [] => rfl
  | e :: es => by cases e <;> simp [assignEach, assignEach_len es]
end Pz
namespace Pz
open PySem PySem.Spec PyProof.Rows L2 LamX
section
variable {X : Cx} {G : Gc} {B : Bs} {E : XK} {Γ : Fns} {Δ : Dyn} {N : Nat} {I : Inf}
theorem sameE : ∀ {is : List Nat} {es : List Expr}, XOk X G Γ I → sameN is es I = true → PGs X es (gAll is) ∧ es.length = is.length ∧ (assignEach es X.env).findIdx? (·.1) = none ∧ ∀ i ∈ is, i < X.N.length
  | [], [], ok, h => ⟨pgs_nil, rfl, rfl, fun i hi => by cases hi⟩
  | i :: is, .Name x p :: es, ok, h => by
    obtain ⟨h1, h2⟩ := andE h
    obtain ⟨q1, q2, q3⟩ := tgtE ok h1
    obtain ⟨r1, r2, r3, r4⟩ := sameE ok h2
    refine ⟨pgs_cons (pg_name ok.nd q1 q2 q3) r1 rfl, by simp [r2], ?_, fun j hj => ?_⟩
    · show ((false, assign (.Name x p) X.env) :: assignEach es X.env).findIdx? _ = none
      rw [List.findIdx?_cons]
      simp [r3]
    · rcases List.mem_cons.mp hj with e | hj
      · rw [e]; exact (List.getElem?_eq_some_iff.mp q1).1
      · exact r4 j hj
  | [], _ :: _, _, h => by cases h
  | _ :: _, [], _, h => by cases h
  | i :: is, e :: es, ok, h => by cases e <;> first | (cases h; done) | (unfold sameN at h; obtain ⟨h1, h2⟩ := andE h; obtain ⟨q1, q2, q3⟩ := tgtE ok h1; obtain ⟨r1, r2, r3, r4⟩ := sameE ok h2; exact ⟨pgs_cons (pg_name ok.nd q1 q2 q3) r1 rfl, by simp [r2], by rw [show assignEach (_ :: es) X.env = (false, _) :: assignEach es X.env from rfl, List.findIdx?_cons]; simp [r3], fun j hj => (List.mem_cons.mp hj).elim (fun e => by rw [e]; exact (List.getElem?_eq_some_iff.mp q1).1) (r4 j)⟩)
theorem tgE {tg : Tg} {te : Expr} (ok : XOk X G Γ I) (h : tgB I tg te = true) : PG X te (tgR G.K tg) ∧ ∀ i ∈ tg.is, i < X.N.length := by
  unfold tgB at h
  split at h
  · obtain ⟨q1, q2, q3⟩ := tgtE ok h
    refine ⟨pg_name ok.nd q1 q2 q3, fun j hj => ?_⟩
    rw [List.mem_singleton.mp hj]
    exact (List.getElem?_eq_some_iff.mp q1).1
  · obtain ⟨r1, r2, r3, r4⟩ := sameE ok h
    refine ⟨?_, r4⟩
    show PG X _ (gTup G.K _ _)
    rw [ok.hK]
    exact pg_tup ok.calm r1 (by rw [assignEach_len, r2]) r3
  · cases h
theorem XOk.blk (ok : XOk X G Γ I) {scope : Scope} (hk : scope.kind = .function) (s : Shared) (H : Hp) (C : Addr) (cl : List (Str × Addr)) (fp : List Addr) : XOk (X.blk s H scope (compEnvC scope cl C X.env) fp) G Γ (I.blk scope) where
  N := ok.N
  sc := by
    show relS scope X.env.scope = relS scope I.sc
    rw [ok.sc]
  raw := fun x h => by
    show (scope.names.lookup x == some NameKind.cell) = true
    have h : scope.names.lookup x = some .cell := h
    rw [h]; rfl
  kind := hk
  nd := ok.nd
  calm := ok.calm
  hK := ok.hK
  hmg := ok.hmg
  kls := ok.kls
  room := ok.rm
  lmb := fun z => by cases z
  fns := fun x f n h => ⟨(ok.fns x f n h).ex⟩
  cs := ok.cs
  bl := ok.bl
  xs := fun x h => ⟨(ok.xs x h).ex⟩
theorem XOk.lm (ok : XOk X G Γ I) {scope : Scope} {p : Str} (L : LamS1 I.sc scope p) {A : Around} {s : Shared} {H : Hp} {f c' : Addr} (hr : Room I.kx (A.deeper (lamEnv X scope s.heap.objs.size f c'))) : XOk (lamCx X A X.stack s H noE scope f c') G Γ (I.lmb scope) where
  N := ok.N
  sc := rfl
  raw := fun x h => absurd rfl (L.cell _ (PySem.mem_of_lookup (show scope.names.lookup x = some .cell from h)))
  kind := L.kind
  nd := ok.nd
  calm := rfl
  hK := ok.hK
  hmg := ok.hmg
  kls := ok.kls
  room := hr
  lmb := fun z => by cases z
  fns := fun x f n h => ⟨(ok.fns x f n h).ex⟩
  cs := ok.cs
  bl := ok.bl
  xs := fun x h => ⟨(ok.xs x h).ex⟩
theorem EOk.no (X : Cx) : EOk X noE := ⟨L2.passL, L2.takes0⟩
end
end Pz
namespace Pz
open PySem PySem.Spec PyProof.Rows L2 LamX
abbrev IHy (Γ : Fns) (Δ : Dyn) (N n : Nat) : Prop := ∀ (I : Inf) (q : Qy) (X : Cx) (G : Gc) (B : Bs) (E : XK), XOk X G Γ I → EOk X E → kk n I q = true → Sd X G B E Γ Δ N q
theorem blE_const {t : BT} {x : Str} (h : x = btN t) : x ≠ "__name__" ∧ (x == ("__debug__" : Str)) = false := by
  subst h; cases t <;> decide
section
variable {X : Cx} {G : Gc} {B : Bs} {E : XK} {Γ : Fns} {Δ : Dyn} {N n : Nat} {I : Inf}
theorem truth_b {r : Rs W} {f : Rs W} : (r.bind fun x => (truth x).bind fun k => if k then f else .ok x).bind truth = (r.bind truth).bind fun k => if k then f.bind truth else .ok false := by
  cases r with
  | ok x =>
    show ((truth x).bind fun k => if k then f else .ok x).bind truth = (truth x).bind fun k => if k then f.bind truth else .ok false
    cases e : truth x with
    | ok k => cases k <;> simp [e]
    | exc c => rfl
    | stuck => rfl
  | exc c => rfl
  | stuck => rfl
theorem truth_o {r : Rs W} {f : Rs W} : (r.bind fun x => (truth x).bind fun k => if k then .ok x else f).bind truth = (r.bind truth).bind fun k => if k then .ok true else f.bind truth := by
  cases r with
  | ok x =>
    show ((truth x).bind fun k => if k then .ok x else f).bind truth = (truth x).bind fun k => if k then .ok true else f.bind truth
    cases e : truth x with
    | ok k => cases k <;> simp [e]
    | exc c => rfl
    | stuck => rfl
  | exc c => rfl
  | stuck => rfl
theorem Rs.bind_assoc {α β γ : Type} (r : Rs α) (f : α → Rs β) (g : β → Rs γ) : (r.bind f).bind g = r.bind fun a => (f a).bind g := by cases r <;> rfl
theorem r_callE {f : Nat} {x : Str} {l : List CE} {es : List Expr} {p pos : Pos} {m : Bool} (ok : XOk X G Γ I) (eo : EOk X E) (hf : fnB I f x l.length = true) (hs : es.all noStar = true) (ha : PA X es (tOfA G B E false (evWs Γ Δ l))) (hl : es.length = l.length) :
    PE X (.Call (.Name x p) es [] pos) (tOf G B E m fun ρ => (evWs Γ Δ l ρ).bind fun ws => Γ f ws) := by
  obtain ⟨h1, h⟩ := andE hf
  obtain ⟨h2, h3⟩ := andE h
  obtain ⟨k, fa, fd, ps, q1, q2, q3, q4, q5⟩ := (ok.fns _ _ _ (decE h2)).ex
  cases es with
  | nil =>
    have : l = [] := List.length_eq_zero_iff.mp hl.symm
    subst this
    exact r_call0 q1 (ok.rm.mono q2) (glX ok h1) q3 q4 q5 eo.pass (notE h3)
  | cons e es =>
    obtain ⟨h4, h5⟩ := andE hs
    exact r_call q1 (ok.rm.mono q2) (glX ok h1) q3 q4 q5 eo.pass ha (notE h3) (star_cons h4) (star_any h5) fun ρ ws => evWs_len
theorem r_biE {f : BF} {x : Str} {l : List CE} {es : List Expr} {p pos : Pos} {m : Bool} (ok : XOk X G Γ I) (hb : blB I x = true) (hf : bfN f = some x) (hs : es.all noStar = true) (hn : es.isEmpty = false) (ha : PA X es (tOfA G B E true (evWs Γ Δ l))) :
    PE X (.Call (.Name x p) es [] pos) (tOf G B E m fun ρ => (evWs Γ Δ l ρ).bind fun ws => wBi f ws) := by
  obtain ⟨h1, h2, h3, h4⟩ := blE ok hb
  cases es with
  | nil => cases hn
  | cons e es =>
    obtain ⟨h5, h6⟩ := andE hs
    have s1 := star_cons (env := X.env) (es := es) h5
    have s2 := star_any (pos := pos) (env := X.env) h6
    cases f with
    | len => cases hf; exact r_callB (c_len ok.hK) h1 h2 (by with_unfolding_all rfl) ha h4 h3 s1 s2
    | all => cases hf; exact r_callB (c_all ok.hK ok.calm) h1 h2 (by with_unfolding_all rfl) ha h4 h3 s1 s2
    | any => cases hf; exact r_callB (c_any ok.hK ok.calm) h1 h2 (by with_unfolding_all rfl) ha h4 h3 s1 s2
    | tuple => cases hf; exact r_callTy (c_tuple ok.hK) h1 h2 (by with_unfolding_all rfl) ha h4 h3 s1 s2
    | max2 => cases hf; exact r_callB (c_max2 ok.calm) h1 h2 (by with_unfolding_all rfl) ha h4 h3 s1 s2
    | min2 => cases hf; exact r_callB (c_min2 ok.calm) h1 h2 (by with_unfolding_all rfl) ha h4 h3 s1 s2
    | sorted =>
      cases hf
      refine tOf_congr (r_callB (c_sorted ok.hK ok.un) h1 h2 (by with_unfolding_all rfl) ha h4 h3 s1 s2) fun ρ => ?_
      congr 1
      funext ws
      unfold wBi
      split <;> first | rfl | skip
      all_goals (split <;> first | rfl | skip)
      all_goals simp_all
    | list =>
      cases hf
      refine tOf_congr (r_callTy (c_list ok.hK) h1 h2 (by with_unfolding_all rfl) ha h4 h3 s1 s2) fun ρ => ?_
      congr 1
      funext ws
      unfold wBi
      split <;> first | rfl | skip
      all_goals (split <;> first | rfl | skip)
      all_goals simp_all
    | _ => cases hf
theorem slL {J : Inf} {i : Nat} {x : Str} (h : slB J i x = true) : i < J.N.length := by
  unfold slB at h
  split at h
  · rename_i y e; exact (List.getElem?_eq_some_iff.mp e).1
  · cases h
theorem sameL {J : Inf} : ∀ {is : List Nat} {es : List Expr}, sameN is es J = true → ∀ i ∈ is, i < J.N.length
  | [], _, _, i, hi => by cases hi
  | j :: is, [], h, _, _ => by cases h
  | j :: is, e :: es, h, i, hi => by
    cases e <;> first | (cases h; done) | (unfold sameN at h; obtain ⟨h1, h2⟩ := andE h; obtain ⟨h1, _⟩ := andE h1; exact (List.mem_cons.mp hi).elim (fun e => by rw [e]; exact slL h1) (sameL h2 i))
theorem tgL {J : Inf} {tg : Tg} {te : Expr} (h : tgB J tg te = true) : ∀ i ∈ tg.is, i < J.N.length := by
  unfold tgB at h
  split at h
  · intro j hj
    rw [List.mem_singleton.mp hj]
    exact slL (andE h).1
  · exact sameL h
  · cases h
theorem lcE {el : CE} {tg : Tg} {it : CE} {ifs : List CE} {x te ti : Expr} {ts : List Expr} {scope : Scope} (ih : IHy Γ Δ N n) (ok : XOk X G Γ I) (eo : EOk X E) (h : lcB (fun q => kk n I q) (fun q => kk n (I.blk scope) q) I el tg it ifs x te ti ts scope = true) :
    ∃ own : List (Str × Nat), BlkOk X.N X.env.scope scope own ∧ own.map (·.2) = tg.is ∧ (∀ y, foldedSetIterable ti X.env y = pure y) ∧ PI X te ti (tOfI G B E true (evE Γ Δ it)) ∧ (∀ i ∈ tg.is, i < X.N.length) ∧
      (∀ (s : Shared) (H : Hp) (C : Addr) (cl : List (Str × Addr)) (fp : List Addr), PG (X.blk s H scope (compEnvC scope cl C X.env) fp) te (tgR G.K tg)) ∧
      (∀ (s : Shared) (H : Hp) (C : Addr) (cl : List (Str × Addr)) (fp : List Addr), PTs (X.blk s H scope (compEnvC scope cl C X.env) fp) ts (tOfT G B noE (evTs Γ Δ ifs))) ∧
      (∀ (s : Shared) (H : Hp) (C : Addr) (cl : List (Str × Addr)) (fp : List Addr), PE (X.blk s H scope (compEnvC scope cl C X.env) fp) x (tOf G B noE false (evE Γ Δ el))) := by
  obtain ⟨h1, h⟩ := andE h
  obtain ⟨h2, h⟩ := andE h
  obtain ⟨h3, h⟩ := andE h
  obtain ⟨h4, h⟩ := andE h
  obtain ⟨h5, h⟩ := andE h
  obtain ⟨h6, h7⟩ := andE h
  have bk : BlkOk X.N X.env.scope scope (ownOf I tg.is) := by rw [ok.N, ok.sc]; exact blkOk_by h1
  have okb := fun s H C cl fp => ok.blk bk.kind s H C cl fp
  have eob := fun s H C cl fp => EOk.no (X.blk s H scope (compEnvC scope cl C X.env) fp)
  refine ⟨ownOf I tg.is, bk, decE h2, noSet_fold h3, ih I _ X G B E ok eo h4 te, by rw [ok.N]; exact tgL (J := I.blk scope) h5, fun s H C cl fp => (tgE (okb s H C cl fp) h5).1, fun s H C cl fp => ih _ _ _ G B _ (okb s H C cl fp) (eob s H C cl fp) h6, fun s H C cl fp => ih _ _ _ G B _ (okb s H C cl fp) (eob s H C cl fp) h7⟩
end
end Pz
namespace Pz
open PySem PySem.Spec PyProof.Rows L2 LamX
section
variable {X : Cx} {G : Gc} {B : Bs} {E : XK} {Γ : Fns} {Δ : Dyn} {N n : Nat} {I : Inf}
theorem asLen : ∀ {n : Nat} {m : Bool} {cs : List CE} {es : List Expr}, kk n I (.as m cs es) = true → es.length = cs.length
  | 0, _, _, _, h => by cases h
  | n + 1, m, cs, es, h => by
    unfold kk at h
    dsimp only at h
    split at h
    · rfl
    · obtain ⟨_, h⟩ := andE h
      obtain ⟨_, h⟩ := andE h
      simp [asLen h]
    · cases h
theorem snd_e (ih : IHy Γ Δ N n) (ok : XOk X G Γ I) (eo : EOk X E) {m : Bool} {c : CE} {e : Expr} (h : kk (n + 1) I (.e m c e) = true) : PE X e (tOf G B E m (evE Γ Δ c)) := by
  unfold kk at h
  dsimp only at h
  split at h
  · obtain ⟨q1, q2, q3, q4⟩ := varE ok h
    exact r_v m q1 q2 q3 q4
  · obtain ⟨h1, h2⟩ := andE h
    obtain ⟨q1, q2, q3, q4⟩ := varE ok h2
    subst h1
    exact r_vr q1 q2 q3 q4
  · exact constE h
  · obtain ⟨h1, h2⟩ := andE h
    have h1 := decE h1
    subst h1
    exact csE ok h2
  · exact r_tup m (ih _ _ _ _ _ _ ok eo h)
  · exact r_give (ih _ _ _ _ _ _ ok eo h) m
  · exact r_give (ih _ _ _ _ _ _ ok eo h) m
  · obtain ⟨h1, h⟩ := andE h
    obtain ⟨h2, h3⟩ := andE h
    have h1 := decE h1
    subst h1
    exact r_bin (opBE ok _) (ih _ _ _ _ _ _ ok eo h2) (ih _ _ _ _ _ _ ok eo h3)
  · obtain ⟨h1, h2⟩ := andE h
    have h1 := decE h1
    subst h1
    exact r_neg (ih _ _ _ _ _ _ ok eo h2)
  · obtain ⟨h1, h2⟩ := andE h
    have h1 := decE h1
    subst h1
    exact r_not ok.hK (ih _ _ _ _ _ _ ok eo h2)
  · obtain ⟨h1, hb⟩ := andE h
    have h1 := decE h1
    subst h1
    split at hb
    · exact pe_one (ih _ _ _ _ _ _ ok eo hb)
    · obtain ⟨h2, h3⟩ := andE hb
      exact r_and ok.hK (ih _ _ _ _ _ _ ok eo h2) (ih _ _ _ _ _ _ ok eo h3)
    · cases hb
  · obtain ⟨h1, hb⟩ := andE h
    have h1 := decE h1
    subst h1
    split at hb
    · exact pe_one (ih _ _ _ _ _ _ ok eo hb)
    · obtain ⟨h2, h3⟩ := andE hb
      exact r_or ok.hK (ih _ _ _ _ _ _ ok eo h2) (ih _ _ _ _ _ _ ok eo h3)
    · cases hb
  · obtain ⟨h1, h⟩ := andE h
    obtain ⟨h2, h⟩ := andE h
    obtain ⟨h3, h4⟩ := andE h
    have h1 := decE h1
    subst h1
    exact r_cmp (opCE ok _) (ih _ _ _ _ _ _ ok eo h3) (ih _ _ _ _ _ _ ok eo h4) (notE h2)
  · obtain ⟨h1, h⟩ := andE h
    obtain ⟨h2, h⟩ := andE h
    obtain ⟨h3, h⟩ := andE h
    obtain ⟨h4, h⟩ := andE h
    obtain ⟨h5, h6⟩ := andE h
    have h1 := decE h1
    have h2 := decE h2
    subst h1 h2
    exact r_ch (opCE ok _) (opCE ok _) (ih _ _ _ _ _ _ ok eo h4) (ih _ _ _ _ _ _ ok eo h5) (ih _ _ _ _ _ _ ok eo h6) (notE h3)
  · obtain ⟨h1, h⟩ := andE h
    obtain ⟨h2, h3⟩ := andE h
    exact tOf_congr (r_ite (ih _ _ _ _ _ _ ok eo h1) (ih _ _ _ _ _ _ ok eo h2) (ih _ _ _ _ _ _ ok eo h3)) fun ρ => (Rs.bind_assoc _ _ _).symm
  · obtain ⟨h1, h⟩ := andE h
    obtain ⟨h2, h3⟩ := andE h
    exact r_callE ok eo h1 h2 (ih _ _ _ _ _ _ ok eo h3) (asLen h3)
  · obtain ⟨h1, h⟩ := andE h
    obtain ⟨h2, h⟩ := andE h
    obtain ⟨h3, h⟩ := andE h
    obtain ⟨h4, h⟩ := andE h
    obtain ⟨h5, h6⟩ := andE h
    have h2 := decE h2
    have h4 := decE h4
    subst h2 h4
    obtain ⟨q1, q2, _, _⟩ := blE ok h1
    obtain ⟨q5, q6, _, _⟩ := blE ok h3
    refine tOf_congr (r_lenset ok.hK ok.calm ok.un q1 q2 q5 q6 (ih _ _ X G B E ok eo h6) h5) fun ρ => ?_
    simp only [evE, evWs, Rs.bind_assoc, Rs.bind_ok]
    congr 1
    funext w
    unfold wBi wLenset
    cases w with
    | d x => cases x <;> rfl
    | _ => rfl
  · obtain ⟨h1, h⟩ := andE h
    obtain ⟨h2, h⟩ := andE h
    obtain ⟨h3, h⟩ := andE h
    obtain ⟨h4, h⟩ := andE h
    obtain ⟨h5, h⟩ := andE h
    obtain ⟨h6, h⟩ := andE h
    obtain ⟨h7, h⟩ := andE h
    obtain ⟨h8, h9⟩ := andE h
    have h3 := decE h3
    subst h3
    obtain ⟨q1, q2, _, _⟩ := blE ok h1
    have L : LamS1 I.sc _ _ := lamS1_by h6
    have hroom : Room (I.kx + 3) X.A := by have := ok.room; rw [h7] at this; exact this
    exact r_srtk (k := I.kx) (decE h2) ok.hK hroom ok.nd (slE ok h5) rfl q1 q2 (ih _ _ X G B E ok eo h8) h4 (ok.lmb h7) (by rw [ok.sc]; exact L) fun B2 A s H f c' hr => ih _ _ _ G B2 _ (ok.lm L hr) (EOk.no _) h9
  · obtain ⟨h1, h⟩ := andE h
    obtain ⟨h2, h⟩ := andE h
    obtain ⟨h3, h⟩ := andE h
    obtain ⟨h4, h5⟩ := andE h
    exact r_biE ok h1 (decE h2) h3 (notE h4) (ih _ _ _ _ _ _ ok eo h5)
  · obtain ⟨h1, h⟩ := andE h
    obtain ⟨h2, h⟩ := andE h
    obtain ⟨h3, h⟩ := andE h
    obtain ⟨h4, h⟩ := andE h
    obtain ⟨h5, h6⟩ := andE h
    have h2 := decE h2
    subst h2
    obtain ⟨q1, q2, q3, q4⟩ := blE ok h1
    exact r_isi ok.hK (ih _ _ _ _ _ _ ok eo h6) (btE ok h3 (decE h4)) q1 q2 (by with_unfolding_all rfl) q4 q3 (star_cons h5) rfl rfl
  · obtain ⟨h1, h⟩ := andE h
    obtain ⟨h2, h3⟩ := andE h
    have h1 := decE h1
    have h2 := decE h2
    subst h1 h2
    exact r_rev ok.hK (ih _ _ _ _ _ _ ok eo h3)
  · obtain ⟨h1, h⟩ := andE h
    obtain ⟨h2, h3⟩ := andE h
    exact r_ix (o_ix ok.hK) (ih _ _ X G B E ok eo h2) (ih _ _ X G B E ok eo h3) (plainI_ix h1)
  · obtain ⟨h1, h⟩ := andE h
    obtain ⟨h2, h3⟩ := andE h
    exact tOf_congr (r_sl ok.hK (ih _ _ _ _ _ _ ok eo h1) (ih _ _ _ _ _ _ ok eo h2) (ih _ _ _ _ _ _ ok eo h3)) fun ρ => by
      simp only [evE, Rs.bind_assoc]
  · cases h
theorem snd_n (ih : IHy Γ Δ N n) (ok : XOk X G Γ I) (eo : EOk X E) {c : CE} {e : Expr} (h : kk (n + 1) I (.n c e) = true) : PE X e (tOfN G B E (evE Γ Δ c)) := by
  unfold kk at h
  dsimp only at h
  split at h
  · exact r_lstN (ih _ _ _ _ _ _ ok eo h)
  · obtain ⟨h1, h⟩ := andE h
    obtain ⟨h2, h⟩ := andE h
    obtain ⟨h3, h4⟩ := andE h
    have h2 := decE h2
    subst h2
    obtain ⟨q1, q2, q3, q4⟩ := blE ok h1
    exact r_listN ok.hK q1 q2 (by with_unfolding_all rfl) (ih _ _ _ _ _ _ ok eo h4) q4 q3 (star_cons h3) rfl
  · obtain ⟨own, q1, q2, q3, q4, q5, q6, q7, q8⟩ := lcE (B := B) ih ok eo h
    exact r_lcN ok.calm ok.nd q4 q1 q2 q6 q7 q8 q3 q5
  · cases h
theorem snd_w (ih : IHy Γ Δ N n) (ok : XOk X G Γ I) (eo : EOk X E) {c : CE} {e : Expr} (h : kk (n + 1) I (.w c e) = true) : PW X e (tOfT G B E fun ρ => (evE Γ Δ c ρ).bind truth) := by
  unfold kk at h
  dsimp only at h
  split at h
  · obtain ⟨h1, hb⟩ := andE h
    have h1 := decE h1
    subst h1
    split at hb
    · exact pw_and1 (ih _ _ _ _ _ _ ok eo hb)
    · obtain ⟨h2, h3⟩ := andE hb
      refine pw_of (r_andT (ih _ _ X G B E ok eo h2) (ih _ _ X G B E ok eo h3)) fun σ H Q ⟨os, ρ, l, S, q⟩ => ⟨os, ρ, l, S, ?_⟩
      refine Eq.mp ?_ q
      congr 1
      exact truth_b
    · cases hb
  · obtain ⟨h1, hb⟩ := andE h
    have h1 := decE h1
    subst h1
    split at hb
    · exact pw_or1 (ih _ _ _ _ _ _ ok eo hb)
    · obtain ⟨h2, h3⟩ := andE hb
      refine pw_of (r_orT (ih _ _ X G B E ok eo h2) (ih _ _ X G B E ok eo h3)) fun σ H Q ⟨os, ρ, l, S, q⟩ => ⟨os, ρ, l, S, ?_⟩
      refine Eq.mp ?_ q
      congr 1
      exact truth_o
    · cases hb
  · cases h
theorem snd_t (ih : IHy Γ Δ N n) (ok : XOk X G Γ I) (eo : EOk X E) {c : CE} {e : Expr} (h : kk (n + 1) I (.t c e) = true) : PT X e (tOfT G B E fun ρ => (evE Γ Δ c ρ).bind truth) := by
  unfold kk at h
  dsimp only at h
  split at h
  · obtain ⟨h1, h2⟩ := andE h
    have h1 := decE h1
    subst h1
    refine tOfT_congr (r_notT (ih _ _ X G B E ok eo h2)) fun ρ => ?_
    simp only [evE, Rs.bind_assoc]
    rfl
  · exact (ih _ _ _ _ _ _ ok eo h).pt
  · exact (ih _ _ _ _ _ _ ok eo h).pt
  · obtain ⟨h1, h⟩ := andE h
    obtain ⟨h2, h⟩ := andE h
    obtain ⟨h3, h4⟩ := andE h
    have h1 := decE h1
    subst h1
    refine tOfT_congr (r_cmpT (opCE ok _) (ih _ _ X G B E ok eo h3) (ih _ _ X G B E ok eo h4) (notE h2)) fun ρ => ?_
    simp only [evE, Rs.bind_assoc, rBl_truth]
  · obtain ⟨h1, h⟩ := andE h
    obtain ⟨h2, h⟩ := andE h
    obtain ⟨h3, h⟩ := andE h
    obtain ⟨h4, h⟩ := andE h
    obtain ⟨h5, h6⟩ := andE h
    have h1 := decE h1
    have h2 := decE h2
    subst h1 h2
    refine tOfT_congr (r_chT (opCE ok _) (opCE ok _) (ih _ _ X G B E ok eo h4) (ih _ _ X G B E ok eo h5) (ih _ _ X G B E ok eo h6) (notE h3)) fun ρ => ?_
    simp only [evE, Rs.bind_assoc]
    congr 1; funext x; congr 1; funext y; congr 1; funext k
    cases k
    · rfl
    · simp only [if_true, Rs.bind_assoc, rBl_truth]
  · obtain ⟨h1, h2⟩ := andE h
    exact r_truth ok.hK (ih _ _ X G B E ok eo h2) (plainT_eq h1)
theorem snd_as (ih : IHy Γ Δ N n) (ok : XOk X G Γ I) (eo : EOk X E) {m : Bool} {cs : List CE} {es : List Expr} (h : kk (n + 1) I (.as m cs es) = true) : PA X es (tOfA G B E m (evWs Γ Δ cs)) := by
  unfold kk at h
  dsimp only at h
  split at h
  · exact r_nil
  · obtain ⟨h1, h⟩ := andE h
    obtain ⟨h2, h3⟩ := andE h
    exact r_args (ih _ _ X G B E ok eo h2) (ih _ _ X G B E ok eo h3) (star_cons h1)
  · cases h
theorem snd_pr (ih : IHy Γ Δ N n) (ok : XOk X G Γ I) (eo : EOk X E) {r : List (Nat × Bool)} {cs : List CE} {es : List Expr} (h : kk (n + 1) I (.pr r cs es) = true) : PA X es (tOfP G B E r (evWs Γ Δ cs)) := by
  unfold kk at h
  dsimp only at h
  split at h
  · exact p_nil
  · obtain ⟨h1, h⟩ := andE h
    obtain ⟨h2, h3⟩ := andE h
    split at h2
    · rename_i hb
      subst hb
      exact p_yes (ih _ _ X G B E ok eo h2) (ih _ _ X G B E ok eo h3) (star_cons h1)
    · rename_i hb
      have hb := Bool.eq_false_iff.mpr hb
      subst hb
      exact p_no (ih _ _ X G B E ok eo h2) (ih _ _ X G B E ok eo h3) (star_cons h1)
  · cases h
theorem snd_it (ih : IHy Γ Δ N n) (ok : XOk X G Γ I) (eo : EOk X E) {m : Bool} {c : CE} {e : Expr} (h : kk (n + 1) I (.it m c e) = true) (tg : Expr) : PI X tg e (tOfI G B E m (evE Γ Δ c)) := by
  unfold kk at h
  dsimp only at h
  split at h
  · obtain ⟨h1, h⟩ := andE h
    obtain ⟨h2, h⟩ := andE h
    obtain ⟨h3, h4⟩ := andE h
    obtain ⟨q1, q2, q3, q4⟩ := blE ok h1
    exact r_rng (decE h2) (ih _ _ X G B E ok eo h4) q1 q2 (star_cons h3)
  · exact r_it ok.hK (ih _ _ X G B E ok eo h)
theorem snd_ts (ih : IHy Γ Δ N n) (ok : XOk X G Γ I) (eo : EOk X E) {cs : List CE} {es : List Expr} (h : kk (n + 1) I (.ts cs es) = true) : PTs X es (tOfT G B E (evTs Γ Δ cs)) := by
  unfold kk at h
  dsimp only at h
  split at h
  · exact ⟨fun pins s σ H Q J hq => pts_nil.run pins s σ H Q J (by obtain ⟨os, ρ, l, S, q⟩ := hq; exact q H S)⟩
  · refine pts_one (tOfT_congr (ih _ _ X G B E ok eo h) fun ρ => ?_)
    simp only [evTs, Rs.bind_assoc]
    congr 1
    funext x
    cases e : truth x with
    | ok k => cases k <;> rfl
    | exc c => rfl
    | stuck => rfl
  · cases h
theorem snd_o (ih : IHy Γ Δ N n) (ok : XOk X G Γ I) (eo : EOk X E) {cs : List CE} {e : Option Expr} (h : kk (n + 1) I (.o cs e) = true) : PO X e (tOfO G B E fun ρ => (evWs Γ Δ cs ρ).bind optInt) := by
  unfold kk at h
  dsimp only at h
  split at h
  · exact r_po0
  · refine po_of (r_po1 (ih _ _ X G B E ok eo h)) fun σ H Q ⟨os, ρ, l, S, q⟩ => ⟨os, ρ, l, S, ?_⟩
    refine Eq.mp ?_ q
    congr 1
    simp only [evWs, Rs.bind_assoc, Rs.bind_ok]
  · cases h
end
end Pz
namespace Pz
open PySem PySem.Spec PyProof.Rows L2 LamX
section
variable {X : Cx} {G : Gc} {B : Bs} {E : XK} {Γ : Fns} {Δ : Dyn} {N n : Nat} {I : Inf}
theorem nmE {i : Nat} {x : Str} (ok : XOk X G Γ I) (h : varB I i x = true) : X.N[i]? = some x ∧ Vis X.env.scope x ∧ (x == ("__debug__" : Str)) = false ∧ (x == ("__classdict__" : Str)) = false := varE ok h
theorem tgTE {is : List Nat} {ts : List Expr} {k : Nat} {p : Pos} (ok : XOk X G Γ I) (h : sameN is ts I = true) : PG X (.Tuple ts k p) (tgR G.K (.t is)) ∧ ∀ i ∈ is, i < X.N.length := tgE (tg := .t is) (te := .Tuple ts k p) ok h
theorem snd_s (ih : IHy Γ Δ N n) (ok : XOk X G Γ I) (eo : EOk X E) (po : PassesOwn (model X.prog X.w) X.A X.env X.xe) (fn : ∀ x, X.fn x = true) {c : CS} {st : Stmt} (h : kk (n + 1) I (.s c st) = true) : PS X st (sOf G B E (evS Γ Δ N c)) := by
  have hsw : ∀ {elt : Expr} {gs : List Comprehension} {scope : Scope} {pos py : Pos} {y : Str} {l : Nat} {b : Bool}, swB I.sc y py scope pos = b → swapsWith (.ListComp elt gs scope pos) (some (.Name y py)) l X.env = pure b := fun {elt gs scope pos py y l b} h => by
    rw [sw_lc ok.kind, ok.sc, h]
  unfold kk at h
  dsimp only at h
  split at h
  -- asg
  · obtain ⟨h1, h2⟩ := andE h
    obtain ⟨q1, q2, q3⟩ := tgtE ok h1
    split at h2
    · split at h2
      · rename_i hw
        obtain ⟨own, b1, b2, b3, b4, b5, b6, b7, b8⟩ := lcE (B := B) ih ok eo h2
        exact s_asgLc (mu := false) ok.calm ok.nd q1 (by rw [ok.sc]; exact isLcl_eq (andE (andE hw).1).1) (hsw hw) b4 b1 b2 b6 b7 b8 b3 b5
      · rename_i hw
        exact s_asg ok.nd q1 q2 (ih _ _ X G B E ok eo h2) (hsw (Bool.eq_false_iff.mpr hw)) q3
    · obtain ⟨h3, h4⟩ := andE h2
      exact s_asg ok.nd q1 q2 (ih _ _ X G B E ok eo h4) (noComp_sw h3) q3
  -- asgN
  · obtain ⟨h1, h2⟩ := andE h
    obtain ⟨q1, q2, q3⟩ := tgtE ok h1
    split at h2
    · split at h2
      · rename_i hw
        obtain ⟨own, b1, b2, b3, b4, b5, b6, b7, b8⟩ := lcE (B := B) ih ok eo h2
        exact s_asgLc (mu := true) ok.calm ok.nd q1 (by rw [ok.sc]; exact isLcl_eq (andE (andE hw).1).1) (hsw hw) b4 b1 b2 b6 b7 b8 b3 b5
      · rename_i hw
        exact s_asgN ok.nd q1 q2 (ih _ _ X G B E ok eo h2) (hsw (Bool.eq_false_iff.mpr hw)) q3
    · obtain ⟨h3, h4⟩ := andE h2
      exact s_asgN ok.nd q1 q2 (ih _ _ X G B E ok eo h4) (noComp_sw h3) q3
  -- par
  · split at h
    · obtain ⟨h1, h⟩ := andE h
      obtain ⟨h2, h⟩ := andE h
      obtain ⟨h3, h⟩ := andE h
      obtain ⟨h4, h5⟩ := andE h
      obtain ⟨l1, l2⟩ := andE (andE h4).1
      exact s_par2 ok.calm ok.nd (slE ok h1) (slE ok h2) (decE h3) (by rw [ok.sc]; exact isLcl_eq l1) (by rw [ok.sc]; exact isLcl_eq l2) (ih _ _ X G B E ok eo h5) (par2_sw ok.kind ok.sc h4) rfl
    · obtain ⟨h1, h⟩ := andE h
      obtain ⟨h2, h⟩ := andE h
      obtain ⟨h0, h⟩ := andE h
      obtain ⟨h3, h⟩ := andE h
      obtain ⟨h6, h⟩ := andE h
      obtain ⟨h7, h⟩ := andE h
      obtain ⟨h4, h5⟩ := andE h
      obtain ⟨l1, l2⟩ := andE (andE h4).1
      obtain ⟨l2, l3⟩ := andE l2
      exact s_par3 ok.calm ok.nd (slE ok h1) (slE ok h2) (slE ok h0) (decE h3) (decE h6) (decE h7) (by rw [ok.sc]; exact isLcl_eq l1) (by rw [ok.sc]; exact isLcl_eq l2) (by rw [ok.sc]; exact isLcl_eq l3) (ih _ _ X G B E ok eo h5) (par3_sw ok.kind ok.sc h4) rfl
    · cases h
  -- unp
  · obtain ⟨h1, h⟩ := andE h
    obtain ⟨h2, h⟩ := andE h
    obtain ⟨h3, h4⟩ := andE h
    refine s_unp (ih _ _ X G B E ok eo h4) (tgTE ok h1).1 (noComp_sole h2) ?_ assign_tup (tgTE (k := 0) (p := ⟨0, 0, 0, 0⟩) ok h1).2
    split at h3
    · rcases Bool.or_eq_true _ _ ▸ h3 with h3 | h3
      · exact const_sw h3
      · exact cell_sw ok.sc h3
    · exact noTup_sw h3
  -- iff
  · obtain ⟨h1, h⟩ := andE h
    obtain ⟨h2, h3⟩ := andE h
    exact sOf_congr (s_iff (ih _ _ X G B E ok eo h1) (ih _ _ X G B E ok eo h2 po fn) (ih _ _ X G B E ok eo h3 po fn)) fun ρ => (Rs.bind_assoc _ _ _).symm
  -- whl
  · obtain ⟨h1, h2⟩ := andE h
    exact s_whl N po (ih _ _ X G B E ok eo h1) (ih _ _ X G B E ok eo h2 po fn)
  -- fo
  · obtain ⟨h1, h⟩ := andE h
    obtain ⟨h2, h⟩ := andE h
    obtain ⟨h3, h4⟩ := andE h
    obtain ⟨g1, g2⟩ := tgE ok h1
    exact s_fo po ok.calm (ih _ _ X G B E ok eo h3 _) g1 (ih _ _ X G B E ok eo h4 po fn) (noSet_fold h2) g2
  · exact s_ret (ih _ _ X G B E ok eo h)
  · exact s_ret0
  · obtain ⟨h1, h2⟩ := andE h
    exact s_exp (ih _ _ X G B E ok eo h2) (noComp_sw h1)
  -- app
  · obtain ⟨h1, h⟩ := andE h
    obtain ⟨h2, h⟩ := andE h
    obtain ⟨h3, h⟩ := andE h
    obtain ⟨h4, h5⟩ := andE h
    have h2 := decE h2
    subst h2
    obtain ⟨q1, q2, q3, q4⟩ := nmE ok h1
    exact s_app q1 q2 q3 q4 (ih _ _ X G B E ok eo h5) rfl (star_few h4) h3 (star_cons h4) rfl
  -- ext
  · obtain ⟨h1, h⟩ := andE h
    obtain ⟨h2, h⟩ := andE h
    obtain ⟨h3, h⟩ := andE h
    obtain ⟨h4, h5⟩ := andE h
    have h2 := decE h2
    subst h2
    obtain ⟨q1, q2, q3, q4⟩ := nmE ok h1
    exact s_ext ok.kls ok.hK q1 q2 q3 q4 (ih _ _ X G B E ok eo h5) rfl (star_few h4) h3 (star_cons h4) rfl
  -- rse
  · obtain ⟨h1, h⟩ := andE h
    obtain ⟨h2, h⟩ := andE h
    obtain ⟨h3, h4⟩ := andE h
    have h1 := decE h1
    subst h1
    obtain ⟨C, bmB, Bn, newId, initId, x1, x2, x3, x4, x5⟩ := (ok.xs _ (decE h2)).ex
    exact s_rse x1 x2 x3 x4 x5 (glX ok h3) (notE h4) ok.calm eo.takes ok.hmg
  · cases h
theorem snd_ss (ih : IHy Γ Δ N n) (ok : XOk X G Γ I) (eo : EOk X E) (po : PassesOwn (model X.prog X.w) X.A X.env X.xe) (fn : ∀ x, X.fn x = true) {cs : List CS} {sts : List Stmt} (h : kk (n + 1) I (.ss cs sts) = true) : PSs X sts (sOf G B E (evSs Γ Δ N cs)) := by
  unfold kk at h
  dsimp only at h
  split at h
  · exact s_fz (ih _ _ X G B E ok eo h po fn)
  · refine sOfs_congr (s_cons s_doc (ih _ _ X G B E ok eo h po fn)) fun ρ => ?_
    rfl
  · exact s_nil
  · obtain ⟨h1, h2⟩ := andE h
    exact s_cons (ih _ _ X G B E ok eo h1 po fn) (ih _ _ X G B E ok eo h2 po fn)
  · cases h
theorem sound (Γ : Fns) (Δ : Dyn) (N : Nat) : ∀ n, IHy Γ Δ N n
  | 0 => fun I q X G B E ok eo h => by cases h
  | n + 1 => fun I q X G B E ok eo h => by
    have ih := sound Γ Δ N n
    cases q with
    | e m c e => exact snd_e ih ok eo h
    | n c e => exact snd_n ih ok eo h
    | t c e => exact snd_t ih ok eo h
    | w c e => exact snd_w ih ok eo h
    | as m cs es => exact snd_as ih ok eo h
    | pr r cs es => exact snd_pr ih ok eo h
    | it m c e => exact snd_it ih ok eo h
    | ts cs es => exact snd_ts ih ok eo h
    | o cs e => exact snd_o ih ok eo h
    | s c st => exact fun po fn => snd_s ih ok eo po fn h
    | ss cs sts => exact fun po fn => snd_ss ih ok eo po fn h
end
end Pz
namespace Pz
open PySem PySem.Spec PyProof.Rows L2 LamX

/-! ### a def keeps its promise -/
theorem start_st {G : Gc} {os : Os} {H : Hp} {N : List Str} {vs : List V} {ws : List W} (hl : vs.length = ws.length) (hn : ws.length ≤ N.length) (od : ∀ p t, os p = some t → OwnAt H p) (r : Paired (RepW G (frz os H)) vs ws) (tb : Tabs G.T (frz os H)) :
    StV G ⟨H, os⟩ (osF os) (ws.map Sl.va ++ List.replicate (N.length - ws.length) .un) (L2.start N vs) H [] := by
  have got : ∀ {vs : List V} {ws : List W} {i : Nat} {w : W}, Paired (RepW G (frz os H)) vs ws → ws[i]? = some w → ∃ v, vs[i]? = some v ∧ RepW G (frz os H) v w := by
    intro vs ws i w r
    induction r generalizing i with
    | nil => intro h; simp at h
    | cons a b ih =>
      intro h
      cases i with
      | zero => simp at h; subst h; exact ⟨_, rfl, a⟩
      | succ i => obtain ⟨v, q1, q2⟩ := ih (i := i) (by simpa using h); exact ⟨v, by simpa using q1, q2⟩
  refine ⟨?_, fun i w e => ?_, fun i w e => ?_, fun p i w e => ?_, fun p w e => ?_, fun p t e => ?_, Gr.refl H, fun a t e => ?_, by rw [frz_osF]; exact tb, fun t ht => by cases ht⟩
  · unfold L2.start
    simp only [List.length_append, List.length_map, List.length_replicate]
    omega
  · rw [frz_osF]
    have hi : i < ws.length := by
      rcases Nat.lt_or_ge i ws.length with h | h
      · exact h
      · rw [List.getElem?_append_right (by rw [List.length_map]; exact h)] at e
        have := List.eq_of_mem_replicate (List.mem_of_getElem? e)
        cases this
    rw [List.getElem?_append_left (by rw [List.length_map]; exact hi), List.getElem?_map] at e
    cases q : ws[i]? with
    | none => rw [q] at e; cases e
    | some w' =>
      rw [q] at e
      cases e
      obtain ⟨v, q1, q2⟩ := got r q
      refine ⟨v, ?_, q2⟩
      unfold L2.start
      rw [List.getElem?_append_left (by rw [List.length_map, hl]; exact hi), List.getElem?_map, q1]; rfl
  · exfalso
    rcases List.mem_append.mp (List.mem_of_getElem? e) with h | h
    · obtain ⟨w', _, h⟩ := List.mem_map.mp h; cases h
    · have := List.eq_of_mem_replicate h; cases this
  · have := (osF_some e).1; cases this
  · have := (osF_some e).1; cases this
  · obtain ⟨_, u, e2⟩ := osF_some e
    exact od p u e2
  · have e : os a = some t := e
    unfold osF; rw [e]
/-- what is known of the module -/
structure KOk (K : PySem.W.Frag) (mg : Str → Option Value) (G : Gc) (cs : List (Str × PyData)) (bl xs : List Str) : Prop where
  hK : G.K = K
  hmg : G.mg = mg
  kls : KLs K
  cs : ∀ c ∈ cs, ∃ u v, mg c.1 = some u ∧ RelV v u ∧ constV c.2 = some v
  bl : ∀ x ∈ bl, mg x = none
  xs : ∀ x ∈ xs, ∃ C : Addr, PySem.W.excIn K C He.veBase "ValueError.__new__" = true ∧ mg x = some (.ref C) ∧ PySem.W.keepIn K (.ref C) = true ∧ PySem.W.subIn K (.ref C) (.type "BaseException") = some true ∧ PySem.W.typeIn K (.ref C) = some (.type "type")
/-- a def that can be called -/
structure FnQ (P : Program) (w : World) (K : PySem.W.Frag) (mg : Str → Option Value) (base : Heap) (G : Gc) (x : Str) (n : Nat) (g : List W → Rs W) (kx : Nat) : Prop where
  ex : ∃ (k : Nat) (fa : Addr) (fd : FuncData) (ps : List Str), FnOk P w K mg base (L2.CX P w) k fa fd ps (spF G n g) ∧ k ≤ kx ∧ mg x = some (.ref fa) ∧ PySem.W.keepIn K (.ref fa) = true ∧ L2.Binds K fd ps []
theorem FnQ.mono {P : Program} {w : World} {K : PySem.W.Frag} {mg : Str → Option Value} {base : Heap} {G : Gc} {x : Str} {n : Nat} {g : List W → Rs W} {kx ky : Nat} (h : FnQ P w K mg base G x n g kx) (le : kx ≤ ky) : FnQ P w K mg base G x n g ky := by
  obtain ⟨k, fa, fd, ps, h1, h2, h3⟩ := h.ex
  exact ⟨k, fa, fd, ps, h1, Nat.le_trans h2 le, h3⟩
theorem rep_len {G : Gc} {F : Hp} {vs : List V} {ws : List W} (r : Paired (RepW G F) vs ws) : vs.length = ws.length := by
  induction r with
  | nil => rfl
  | cons a b ih => simp [ih]
/-- what the context of a call of a def is -/
structure CxIs (X : Cx) (P : Program) (w : World) (K : PySem.W.Frag) (mg : Str → Option Value) (base : Heap) (N : List Str) (qual : Str) (scope : Scope) (cd : Value) : Prop where
  prog : X.prog = P
  w : X.w = w
  K : X.K = K
  mg : X.mg = mg
  base : X.base = base
  N : X.N = N
  sc : X.env.scope = scope
  qual : X.env.qual = qual ++ ".<locals>."
  code : X.env.code = cd
  calm : X.calm = true
  fn : ∀ x, X.fn x = true
theorem cx_is {CX : CXT} {P : Program} {w : World} {K : PySem.W.Frag} {mg : Str → Option Value} {base : Heap} {N : List Str} {qual : Str} {scope : Scope} {f : Addr} {cd : Value} {A : Around} {outer : List Env} {s : Shared} {H : Hp} {E : XK} :
    CxIs (cxOf CX P w K mg base N qual scope f cd A outer s H E) P w K mg base N qual scope cd := ⟨rfl, rfl, rfl, rfl, rfl, rfl, rfl, rfl, rfl, rfl, fun _ => rfl⟩
theorem x_ok {P : Program} {w : World} {K : PySem.W.Frag} {mg : Str → Option Value} {base : Heap} {G : Gc} {Γ : Fns} {qual : Str} {cd : Value} {I : Inf} {X : Cx} {ps : List Str} (S : FnScope I.N ps I.sc) (kok : KOk K mg G I.cs I.bl I.xs) (c : CxIs X P w K mg base I.N qual I.sc cd) (room : Room (I.kx + (if I.lam then 3 else 0)) X.A)
    (hf : ∀ x f n, (x, f, n) ∈ I.fns → FnQ P w K mg base G x n (Γ f) I.kx) (hlam : I.lam = true → ∃ c Pt : Addr, cd = .ref c ∧ LamX.TabB base mg c Pt ∧ (Pt, qual ++ ".<locals>." ++ "<lambda>") ∈ G.T ∧ ∀ p ∈ G.T, p.1 = Pt → p.2 = qual ++ ".<locals>." ++ "<lambda>") : XOk X G Γ I where
  N := c.N
  sc := c.sc
  raw := fun x _ => c.fn x
  kind := by rw [c.sc]; exact S.kind
  nd := by rw [c.N]; exact S.nd
  calm := c.calm
  hK := by rw [c.K]; exact kok.hK
  hmg := by rw [c.mg]; exact kok.hmg
  kls := by rw [c.K]; exact kok.kls
  room := room
  lmb := fun hl => by
    obtain ⟨cc, Pt, e, h1, h2, h3⟩ := hlam hl
    refine ⟨cc, Pt, by rw [c.code]; exact e, by rw [c.base, c.mg]; exact h1, by rw [c.qual]; exact h2, by rw [c.qual]; exact h3⟩
  fns := fun x f n h => by
    obtain ⟨k, fa, fd, ps, h1, h2, h3, h4, h5⟩ := (hf x f n h).ex
    exact ⟨k, fa, fd, ps, by rw [c.prog, c.w, c.K, c.mg, c.base]; exact h1, h2, by rw [c.mg]; exact h3, by rw [c.K]; exact h4, by rw [c.K]; exact h5⟩
  cs := by rw [c.mg]; exact kok.cs
  bl := by rw [c.mg]; exact kok.bl
  xs := fun x h => by
    obtain ⟨C, h1, h2, h3, h4, h5⟩ := kok.xs x h
    exact ⟨C, _, _, _, _, PySem.F.excBase_ValueError, by rw [c.K]; exact h1, by rw [c.mg]; exact h2, by rw [c.K]; exact h3, raises_own (by rw [c.K]; exact h4) (by rw [c.K]; exact h5)⟩
theorem def_ok {P : Program} {w : World} {K : PySem.W.Frag} {mg : Str → Option Value} {base : Heap} {G : Gc} {Γ : Fns} {Δ : Dyn} {Nf fuel : Nat} {x qual : Str} {ps : List Str} {as : Arguments} {body : List Stmt} {f : Addr} {fd : FuncData} {I : Inf} {core : List CS}
    (D : FunD K x qual as body I.sc [] [] f fd) (S : FnScope I.N ps I.sc) (kok : KOk K mg G I.cs I.bl I.xs) (hk : kk fuel I (.ss core body) = true)
    (hf : ∀ x f n, (x, f, n) ∈ I.fns → FnQ P w K mg base G x n (Γ f) I.kx) (hlam : I.lam = true → ∃ c Pt : Addr, fd.code = .ref c ∧ LamX.TabB base mg c Pt ∧ (Pt, qual ++ ".<locals>." ++ "<lambda>") ∈ G.T ∧ ∀ p ∈ G.T, p.1 = Pt → p.2 = qual ++ ".<locals>." ++ "<lambda>") :
    FnOk P w K mg base (L2.CX P w) (I.kx + (if I.lam then 3 else 0) + 1) f fd ps (spF G ps.length (evF Γ Δ Nf I.N.length core)) := by
  obtain ⟨oc, od, dV, kV, doc, pm, an, cdv, ct, osl, hfd, lk, hcd, _, _⟩ := D.ex
  have hcode : fd.code = cdv := by rw [hfd]
  rw [hcode] at hlam
  rw [hfd] at lk ⊢
  clear hcode
  refine fn_of lk hcd S (fun vs H Q E h => h.1) fun A outer s H vs Q E hr hsp => ?_
  have ci := cx_is (CX := L2.CX P w) (P := P) (w := w) (K := K) (mg := mg) (base := base) (N := I.N) (qual := qual) (scope := I.sc) (f := f) (cd := cdv) (A := A) (outer := outer) (s := s) (H := H) (E := E)
  have tk : Takes (cxOf (L2.CX P w) P w K mg base I.N qual I.sc f cdv A outer s H E) (fun cls d _ H => E cls d H) := L2.takes_of rfl rfl rfl rfl
  have ps_ : PassesOwn (model P w) (A.deeper (envOfC qual I.sc s.heap.objs.size f cdv)) (envOfC qual I.sc s.heap.objs.size f cdv) (cxOf (L2.CX P w) P w K mg base I.N qual I.sc f cdv A outer s H E).xe := PassesOwn.leaving
  have ok := x_ok (Γ := Γ) (G := G) S kok ci hr hf hlam
  have eo : EOk (cxOf (L2.CX P w) P w K mg base I.N qual I.sc f cdv A outer s H E) E := ⟨L2.passes_call tk fun cls d σ H h => h, tk⟩
  obtain ⟨hlen, os, ws, hod, hrep, htb, hres⟩ := hsp
  have hl2 := rep_len hrep
  have hN : ws.length ≤ I.N.length := by
    have := congrArg List.length S.pre
    rw [List.length_take] at this
    omega
  have snd : PSs (cxOf (L2.CX P w) P w K mg base I.N qual I.sc f cdv A outer s H E) body (sOf G ⟨H, os⟩ E (evSs Γ Δ Nf core)) := (sound Γ Δ Nf fuel I (.ss core body) _ G ⟨H, os⟩ E ok eo hk) ps_ (fun _ => rfl)
  refine ⟨_, snd, osF os, _, [], (fun t ht => by cases ht), start_st hl2 hN hod hrep htb, ?_⟩
  refine (Rs.P_bind hres).mono fun p _ q => ?_
  obtain ⟨ρ', fl⟩ := p
  cases fl with
  | nx =>
    intro os' σ' H' S'
    obtain ⟨h1, h2, h3⟩ := ret_out (S'.reN (l' := []) rfl false)
    exact q _ H' h1 h2 h3
  | rt w => exact q
end Pz
namespace Pz
open PySem PySem.Spec PyProof.Rows L2 LamX

/-! ### a module of defs: later defs call earlier ones -/
structure UD where
  d : He.DefD
  id : Nat
  N : List Str
  lam : Bool
  core : List CS
def plainA (a : Arguments) : Bool := a.posonlyargs.isEmpty && (a.vararg.isNone && (a.kwonlyargs.isEmpty && (a.kw_defaults.isEmpty && (a.kwarg.isNone && a.defaults.isEmpty))))
theorem plainA_eq {a : Arguments} (h : plainA a = true) : a = ⟨[], a.args, none, [], [], none, []⟩ := by
  obtain ⟨p, as, v, k, kd, kw, df⟩ := a
  unfold plainA at h
  simp only [Bool.and_eq_true, List.isEmpty_iff, Option.isNone_iff_eq_none] at h
  obtain ⟨rfl, rfl, rfl, rfl, rfl, rfl⟩ := h
  rfl
def UD.ps (u : UD) : List Str := u.d.params.args.map fun a => a.arg
def lev : List UD → Nat
  | [] => 0
  | u :: r => lev r + (if u.lam then 3 else 0) + 1
def fnsL (r : List UD) : List (Str × Nat × Nat) := r.map fun u => (u.d.name, u.id, u.ps.length)
structure Md where
  cs : List (Str × PyData)
  bl : List Str
  xs : List Str
def infL (M : Md) (r : List UD) (u : UD) : Inf := ⟨u.N, u.d.scope, u.d.scope, fnsL r, M.cs, M.bl, M.xs, u.lam, lev r⟩
def gam (Δ : Dyn) (Nf : Nat) : List UD → Fns
  | [] => fun _ _ => .stuck
  | u :: r => fun f => if f = u.id then evF (gam Δ Nf r) Δ Nf u.N.length u.core else gam Δ Nf r f
def chkU (M : Md) (fuel : Nat) (r : List UD) (u : UD) : Bool :=
  plainA u.d.params && (decide (u.ps.Nodup) && (C8.scC u.N u.ps u.d.scope && (u.d.dfl.isEmpty && (u.d.kwd.isEmpty && (decide (u.d.at_ = (u.d.name, none)) && (r.all (fun v => !(v.id == u.id)) && kk fuel (infL M r u) (.ss u.core u.d.body)))))))
def chkL (M : Md) (fuel : Nat) : List UD → Bool
  | [] => true
  | u :: r => chkL M fuel r && chkU M fuel r u
/-- the tables of the defs with a lambda -/
def lamT (K : PySem.W.Frag) (us : List UD) : List (Addr × Str) := (us.filter fun u => u.lam).map fun u => ((He.cT K u.d.at_).2, u.d.qual ++ ".<locals>." ++ "<lambda>")
def lamD (us : List UD) : List He.Defn := (us.filter fun u => u.lam).map fun u => u.d.at_
def oneT (K : PySem.W.Frag) (us : List UD) : Bool := (lamT K us).all fun p => (lamT K us).all fun q => decide (p = q) || !decide (p.1 = q.1)
theorem oneT_ok {K : PySem.W.Frag} {us : List UD} (h : oneT K us = true) {p q : Addr × Str} (hp : p ∈ lamT K us) (hq : q ∈ lamT K us) (e : p.1 = q.1) : p = q := by
  have := List.all_eq_true.mp (List.all_eq_true.mp h p hp) q hq
  simp only [Bool.or_eq_true, decide_eq_true_eq, Bool.not_eq_true', decide_eq_false_iff_not] at this
  rcases this with h | h
  · exact h
  · exact absurd e h
theorem gam_ok {P : Program} {w : World} {K : PySem.W.Frag} {mg : Str → Option Value} {base : Heap} {G : Gc} {M : Md} {fuel Nf : Nat} {Δ : Dyn} {all : List UD} (kok : KOk K mg G M.cs M.bl M.xs) (hT : G.T = lamT K all) (one : oneT K all = true)
    (tb : ∀ u ∈ all, u.lam = true → LamX.TabB base mg (He.cT K u.d.at_).1 (He.cT K u.d.at_).2)
    (fd : ∀ u ∈ all, ∃ fd, FunD K u.d.name u.d.qual u.d.params u.d.body u.d.scope (u.d.dvs K) (u.d.kws K) (He.fAd K u.d.at_) fd) (gl : ∀ u ∈ all, mg u.d.name = some (.ref (He.ga K u.d.name))) :
    ∀ r : List UD, (∀ u ∈ r, u ∈ all) → chkL M fuel r = true → (∀ x f n, (x, f, n) ∈ fnsL r → FnQ P w K mg base G x n (gam Δ Nf r f) (lev r)) ∧
      ∀ u r', r = u :: r' → ∀ fd', FunD K u.d.name u.d.qual u.d.params u.d.body u.d.scope (u.d.dvs K) (u.d.kws K) (He.fAd K u.d.at_) fd' → FnOk P w K mg base (L2.CX P w) (lev r) (He.ga K u.d.name) fd' u.ps (spF G u.ps.length (gam Δ Nf r u.id))
  | [], _, _ => ⟨(fun x f n h => nomatch h), (fun u r' h => nomatch h)⟩
  | u :: r, hsub, h => by
    obtain ⟨h1, h2⟩ := He.ba (show (chkL M fuel r && chkU M fuel r u) = true from h)
    have ih := (gam_ok kok hT one tb fd gl r (fun v hv => hsub v (List.mem_cons_of_mem _ hv)) h1 (P := P) (w := w) (Nf := Nf) (Δ := Δ)).1
    obtain ⟨c1, h3⟩ := He.ba (show (plainA u.d.params && (decide (u.ps.Nodup) && (C8.scC u.N u.ps u.d.scope && (u.d.dfl.isEmpty && (u.d.kwd.isEmpty && (decide (u.d.at_ = (u.d.name, none)) && (r.all (fun v => !(v.id == u.id)) && kk fuel (infL M r u) (.ss u.core u.d.body)))))))) = true from h2)
    obtain ⟨c2, h4⟩ := He.ba h3
    obtain ⟨c3, h5⟩ := He.ba h4
    obtain ⟨c4, h6⟩ := He.ba h5
    obtain ⟨c5, h7⟩ := He.ba h6
    obtain ⟨c6, h8⟩ := He.ba h7
    obtain ⟨c7, c8⟩ := He.ba h8
    have e4 : u.d.dvs K = [] := by unfold He.DefD.dvs; rw [List.isEmpty_iff.mp c4]; rfl
    have e5 : u.d.kws K = [] := by unfold He.DefD.kws; rw [List.isEmpty_iff.mp c5]; rfl
    have e6 : u.d.at_ = (u.d.name, none) := of_decide_eq_true c6
    have ea : He.fAd K u.d.at_ = He.ga K u.d.name := by rw [e6]; rfl
    have hu := hsub u List.mem_cons_self
    have key : ∀ fd', FunD K u.d.name u.d.qual u.d.params u.d.body u.d.scope (u.d.dvs K) (u.d.kws K) (He.fAd K u.d.at_) fd' → FnOk P w K mg base (L2.CX P w) (lev (u :: r)) (He.ga K u.d.name) fd' u.ps (spF G u.ps.length (gam Δ Nf (u :: r) u.id)) := fun fd' D => by
      have eg : gam Δ Nf (u :: r) u.id = evF (gam Δ Nf r) Δ Nf u.N.length u.core := if_pos rfl
      rw [eg]
      have D2 := D
      rw [e4, e5, ea] at D2
      refine def_ok (I := infL M r u) (fuel := fuel) D2 (C8.fnScope_by c3) kok c8 ih fun hl => ?_
      obtain ⟨oc, od, dV, kV, doc, pm, an, cdv, ct, osl, rfl, lk, hcd, _, _⟩ := D.ex
      obtain ⟨c, rfl⟩ := He.codeIn_ref hcd
      have ec : (He.cT K u.d.at_).1 = c := He.codeOf_eq lk rfl
      have hm : ((He.cT K u.d.at_).2, u.d.qual ++ ".<locals>." ++ "<lambda>") ∈ lamT K all := List.mem_map.mpr ⟨u, List.mem_filter.mpr ⟨hu, hl⟩, rfl⟩
      refine ⟨c, (He.cT K u.d.at_).2, rfl, ec ▸ tb u hu hl, hT ▸ hm, fun p hp e => ?_⟩
      rw [hT] at hp
      have := oneT_ok one hp hm e
      rw [this]
    refine ⟨fun x f n hx => ?_, fun u' r' e fd' D => ?_⟩
    · rcases List.mem_cons.mp (show (x, f, n) ∈ (u.d.name, u.id, u.ps.length) :: fnsL r from hx) with e | hx
      · cases e
        obtain ⟨fd', D⟩ := fd u hu
        refine ⟨lev (u :: r), He.ga K u.d.name, fd', u.ps, key fd' D, Nat.le_refl _, gl u hu, ea ▸ D.kp, ?_⟩
        have D2 := D
        rw [e4] at D2
        refine FunD.bindsN D2 fun kV doc pm an cdv ct us hl => ?_
        exact bind_plain (as := u.d.params.args) (of_decide_eq_true c2) (by show u.d.params = _; exact plainA_eq c1) rfl (by rw [hl]; unfold UD.ps; rw [List.length_map])
      · have hne : f ≠ u.id := by
          obtain ⟨v, hv, e⟩ := List.mem_map.mp hx
          cases e
          have := List.all_eq_true.mp c7 v hv
          simpa using this
        have eg : gam Δ Nf (u :: r) f = gam Δ Nf r f := if_neg hne
        rw [eg]
        exact (ih x f n hx).mono (by show lev r ≤ lev r + _ + 1; omega)
    · cases e
      exact key fd' D
end Pz
namespace Pz
open PySem PySem.Spec PyProof.Rows L2 LamX

/-! ### the law's end -/
def csFa (c : Str × PyData) : He.Fa := match c.2 with
  | .int i => .int c.1 i
  | .str z => .str c.1 z
  | _ => .glo c.1
def csOk (c : Str × PyData) : Bool := match c.2 with
  | .int _ => true
  | .str _ => true
  | _ => false
def faOf (M : Md) (us : List UD) : List He.Fa := us.map (fun u => .glo u.d.name) ++ (M.bl.map .free ++ (M.cs.map csFa ++ (M.xs.map .glo ++ M.xs.map .exc)))
def klB (K : PySem.W.Frag) : Bool := K.all fun p => match p.2.cls with
  | .type c => !(c == "list") || p.2.slots.isEmpty
  | _ => true
theorem mem_of_lookup' : ∀ {K : PySem.W.Frag} {a : Addr} {o : Obj} (h : K.lookup a = some o), ∃ b, (b, o) ∈ K
  | [], _, _, h => by cases h
  | (b, p) :: K, a, o, h => by
    rw [List.lookup_cons] at h
    by_cases e : (a == b) = true
    · rw [e] at h
      cases h
      exact ⟨b, List.mem_cons_self⟩
    · rw [show (a == b) = false by simpa using e] at h
      obtain ⟨c, hc⟩ := mem_of_lookup' h
      exact ⟨c, List.mem_cons_of_mem _ hc⟩
theorem klB_ok {K : PySem.W.Frag} (h : klB K = true) : KLs K := fun a o e hc => by
  obtain ⟨b, hb⟩ := mem_of_lookup' e
  have := List.all_eq_true.mp h _ hb
  simp only [hc] at this
  simpa using this
def exB (us : List UD) (K : PySem.W.Frag) : Bool := klB K && oneT K us
/-- what a law is for the proof: its defs (the law first), its names -/
theorem law_at {l : PySem.W.OpenLaw} {w : World} {mg : Str → Option Value} {fa : Addr} {h : Heap} {M : Md} {fuel Nf : Nat} {Δ : Dyn} {u : UD} {r : List UD} {x : Str} {n : Nat} (Y : ∃ K : PySem.W.Frag, K.In h ∧ He.SaysX (faOf M (u :: r)) ((u :: r).map fun u => u.d) [] (lamD (u :: r)) (exB (u :: r)) w h K) (g : h.Ns mainGlobals mg) (hm : mg u.d.name = some (.ref fa))
    (hc : chkL M fuel (u :: r) = true) (hcs : M.cs.all csOk = true) (hps : u.ps = [x]) (hn : n ≤ sizeLine) (good : ∀ ns : List Int, ns.length ≤ n → (∀ z ∈ ns, Builtin.Int.intBits z ≤ 1048576) → gam Δ Nf (u :: r) u.id [.d (.list (ns.map .int))] = .ok (.d (.bool true))) :
    ∃ K : PySem.W.Frag, K.In h ∧ LawAtS l w K (L2.CX l.prog w) (lev (u :: r)) n x mg fa h := by
  obtain ⟨K, X, c⟩ := Y
  have cd := c.t.d
  have memf : ∀ {f : He.Fa}, f ∈ faOf M (u :: r) → f.ok K = true := fun hf => cd.facts hf
  have defs : ∀ v ∈ u :: r, ∃ fd, FunD K v.d.name v.d.qual v.d.params v.d.body v.d.scope (v.d.dvs K) (v.d.kws K) (He.fAd K v.d.at_) fd := fun v hv => cd.defs (List.mem_map.mpr ⟨v, hv, rfl⟩)
  have hglo : ∀ v ∈ u :: r, (He.Fa.glo v.d.name).ok K = true := fun v hv => memf (List.mem_append_left _ (List.mem_map.mpr ⟨v, hv, rfl⟩))
  have gl : ∀ {mg' : Str → Option Value} {h' : Heap}, K.In h' → h'.Ns mainGlobals mg' → ∀ v ∈ u :: r, mg' v.d.name = some (.ref (He.ga K v.d.name)) := fun X' g' v hv => He.glo_ok X' g' (hglo v hv)
  obtain ⟨e1, e2⟩ := He.ba (show (klB K && oneT K (u :: r)) = true from c.more)
  have efa : fa = He.ga K u.d.name := by
    have := gl X g u List.mem_cons_self
    rw [hm] at this
    cases this; rfl
  obtain ⟨fd, D⟩ := defs u List.mem_cons_self
  obtain ⟨hc1, hc2⟩ := He.ba (show (chkL M fuel r && chkU M fuel r u) = true from hc)
  obtain ⟨c1, h3⟩ := He.ba (show (plainA u.d.params && (decide (u.ps.Nodup) && (C8.scC u.N u.ps u.d.scope && (u.d.dfl.isEmpty && (u.d.kwd.isEmpty && (decide (u.d.at_ = (u.d.name, none)) && (r.all (fun v => !(v.id == u.id)) && kk fuel (infL M r u) (.ss u.core u.d.body)))))))) = true from hc2)
  obtain ⟨c2, h4⟩ := He.ba h3
  obtain ⟨c3, h5⟩ := He.ba h4
  obtain ⟨c4, h6⟩ := He.ba h5
  have e4 : u.d.dvs K = [] := by unfold He.DefD.dvs; rw [List.isEmpty_iff.mp c4]; rfl
  let G : Gc := ⟨K, mg, w, lamT K (u :: r)⟩
  refine ⟨K, X, fd, (lamD (u :: r)).map (He.cT K), spF G u.ps.length (gam Δ Nf (u :: r) u.id), ?_, ?_, ?_, ?_, ?_, ?_⟩
  · intro p hp
    obtain ⟨q, hq, rfl⟩ := List.mem_map.mp hp
    exact c.empty q hq
  · intro p hp
    obtain ⟨q, hq, rfl⟩ := List.mem_map.mp hp
    exact c.out q hq
  · intro p hp
    obtain ⟨q, hq, rfl⟩ := List.mem_map.mp hp
    exact PySem.W.codeHd_of_K X (c.hd q hq)
  · intro s v
    have D2 := D
    rw [e4] at D2
    have := FunD.bindsA (ps := u.ps) D2 (fun kV doc pm an cdv ct us hl => bind_plain (as := u.d.params.args) (of_decide_eq_true c2) (by show u.d.params = _; exact plainA_eq c1) rfl (by rw [hl]; unfold UD.ps; rw [List.length_map])) s [v] (by rw [hps]; rfl)
    rw [hps] at this
    exact this
  · intro H a ns hl hb hT hS
    refine ⟨by rw [hps]; rfl, fun _ => none, [.d (.list (ns.map .int))], (fun p t h => nomatch h), ?_, ?_, ?_⟩
    · have e : frz (fun _ => none) H = H := funext fun a => rfl
      rw [e]
      refine .cons (show Dp K H (.ref a) (.list (ns.map .int)) from .lst hS ?_) .nil
      clear hl hb hS
      induction ns with
      | nil => exact .nil
      | cons z zs ih => exact .cons (.int z) ih
    · intro p hp
      obtain ⟨v, hv, rfl⟩ := List.mem_map.mp hp
      refine TabS.nil (show frz (fun _ => none) H _ = _ from hT _ (List.mem_map.mpr ⟨v.d.at_, List.mem_map.mpr ⟨v, hv, rfl⟩, rfl⟩))
    · rw [good ns hl hb]
      intro v H' _ _ h
      have h : Dp K _ v (.bool true) := h
      cases h; rfl
  · intro base Xb gb tb
    have kok : KOk K mg G M.cs M.bl M.xs := {
      hK := rfl
      hmg := rfl
      kls := klB_ok e1
      cs := fun q hq => by
        have hf : (csFa q).ok K = true := memf (List.mem_append_right _ (List.mem_append_right _ (List.mem_append_left _ (List.mem_map.mpr ⟨q, hq, rfl⟩))))
        have ho := List.all_eq_true.mp hcs q hq
        obtain ⟨y, d⟩ := q
        cases d with
        | int i => obtain ⟨t, e⟩ := He.int_ok X g (x := y) (i := i) hf; exact ⟨_, .int i, e, ⟨t, rfl⟩, rfl⟩
        | str z => obtain ⟨t, e⟩ := He.str_ok X g (x := y) (z := z) hf; exact ⟨_, .str z, e, ⟨t, rfl⟩, rfl⟩
        | _ => cases ho
      bl := fun y hy => He.free_ok X g (memf (List.mem_append_right _ (List.mem_append_left _ (List.mem_map.mpr ⟨y, hy, rfl⟩))))
      xs := fun y hy => by
        have f1 := He.glo_ok X g (memf (List.mem_append_right _ (List.mem_append_right _ (List.mem_append_right _ (List.mem_append_left _ (List.mem_map.mpr ⟨y, hy, rfl⟩))))))
        obtain ⟨q1, q2, q3, q4⟩ := He.exc_ok (memf (List.mem_append_right _ (List.mem_append_right _ (List.mem_append_right _ (List.mem_append_right _ (List.mem_map.mpr ⟨y, hy, rfl⟩))))))
        exact ⟨_, q1, f1, q2, q3, q4⟩ }
    have := (gam_ok (P := l.prog) (w := w) (base := base) (G := G) (fuel := fuel) (Nf := Nf) (Δ := Δ) kok rfl e2 (fun v hv hl => tb _ (List.mem_map.mpr ⟨v.d.at_, List.mem_map.mpr ⟨v, List.mem_filter.mpr ⟨hv, hl⟩, rfl⟩, rfl⟩)) defs (gl X g) (u :: r) (fun v hv => hv) hc).2 u r rfl fd D
    rw [efa]
    rw [hps] at this ⊢
    exact this
theorem cx_end {P : Program} (w : World) (H : Hp) (s : Shared) (e : Value) (s' : Shared) (h : L2.CX P w [] H s (fun _ _ _ => False) e s') : False := by
  obtain ⟨a, B, H', cls, d, _, _, _, _, _, _, _, h⟩ := h
  exact h
end Pz
namespace Pz
open PySem PySem.Spec PyProof.Rows L2 LamX

/-! ### the evaluator's equations -/
section
variable {Γ : Fns} {Δ : Dyn} {N : Nat}
set_option autoImplicit true in
@[simp] theorem q0 {ρ : En} : evE Γ Δ (.v i) ρ = (getV ρ i) := rfl
set_option autoImplicit true in
@[simp] theorem q1 {ρ : En} : evE Γ Δ (.vr i) ρ = (getR ρ i) := rfl
set_option autoImplicit true in
@[simp] theorem q2 {ρ : En} : evE Γ Δ (.k d) ρ = (.ok (.d d)) := rfl
set_option autoImplicit true in
@[simp] theorem q3 {ρ : En} : evE Γ Δ (.g z1 d) ρ = (.ok (.d d)) := rfl
set_option autoImplicit true in
@[simp] theorem q4 {ρ : En} : evE Γ Δ (.gf x) ρ = (.ok (.fn x)) := rfl
set_option autoImplicit true in
@[simp] theorem q5 {ρ : En} : evE Γ Δ (.tup l) ρ = ((evWs Γ Δ l ρ).bind fun ws => (allD ws).bind fun ds => if fits ds.length then .ok (.d (.tuple ds)) else .stuck) := rfl
set_option autoImplicit true in
@[simp] theorem q6 {ρ : En} : evE Γ Δ (.lst l) ρ = ((evWs Γ Δ l ρ).bind fun ws => (allD ws).bind fun ds => if fits ds.length then .ok (.d (.list ds)) else .stuck) := rfl
set_option autoImplicit true in
@[simp] theorem q7 {ρ : En} : evE Γ Δ (.emp) ρ = (.ok (.dic [])) := rfl
set_option autoImplicit true in
@[simp] theorem q8 {ρ : En} : evE Γ Δ (.dsp z1 z2) ρ = (.stuck) := rfl
set_option autoImplicit true in
@[simp] theorem q9 {ρ : En} : evE Γ Δ (.bin op a b) ρ = ((evE Γ Δ a ρ).bind fun x => (evE Γ Δ b ρ).bind fun y => wBin op x y) := rfl
set_option autoImplicit true in
@[simp] theorem q10 {ρ : En} : evE Γ Δ (.neg a) ρ = ((evE Γ Δ a ρ).bind wNeg) := rfl
set_option autoImplicit true in
@[simp] theorem q11 {ρ : En} : evE Γ Δ (.not a) ρ = ((evE Γ Δ a ρ).bind fun x => (truth x).bind fun b => .ok (.d (.bool (!b)))) := rfl
set_option autoImplicit true in
@[simp] theorem q12 {ρ : En} : evE Γ Δ (.and l) ρ = (evAnd Γ Δ l ρ) := rfl
set_option autoImplicit true in
@[simp] theorem q13 {ρ : En} : evE Γ Δ (.or l) ρ = (evOr Γ Δ l ρ) := rfl
set_option autoImplicit true in
@[simp] theorem q14 {ρ : En} : evE Γ Δ (.cmp op a b) ρ = ((evE Γ Δ a ρ).bind fun x => (evE Γ Δ b ρ).bind fun y => rBl (wCmp op x y)) := rfl
set_option autoImplicit true in
@[simp] theorem q15 {ρ : En} : evE Γ Δ (.ch op op' a b c) ρ = ((evE Γ Δ a ρ).bind fun x => (evE Γ Δ b ρ).bind fun y => (wCmp op x y).bind fun k =>
      if k then (evE Γ Δ c ρ).bind fun z => rBl (wCmp op' y z) else .ok (.d (.bool false))) := rfl
set_option autoImplicit true in
@[simp] theorem q16 {ρ : En} : evE Γ Δ (.ite t a b) ρ = ((evE Γ Δ t ρ).bind fun x => (truth x).bind fun k => if k then evE Γ Δ a ρ else evE Γ Δ b ρ) := rfl
set_option autoImplicit true in
@[simp] theorem q17 {ρ : En} : evE Γ Δ (.call f l) ρ = ((evWs Γ Δ l ρ).bind fun ws => Γ f ws) := rfl
set_option autoImplicit true in
@[simp] theorem q18 {ρ : En} : evE Γ Δ (.dyn f l) ρ = ((evE Γ Δ f ρ).bind fun x => (evWs Γ Δ l ρ).bind fun ws => match x with
    | .fn n => Δ n ws
    | _ => .stuck) := rfl
set_option autoImplicit true in
@[simp] theorem q19 {ρ : En} : evE Γ Δ (.bi f l) ρ = ((evWs Γ Δ l ρ).bind fun ws => wBi f ws) := rfl
set_option autoImplicit true in
@[simp] theorem q20 {ρ : En} : evE Γ Δ (.isi a t) ρ = ((evE Γ Δ a ρ).bind fun x => wIsi x t) := rfl
set_option autoImplicit true in
@[simp] theorem q21 {ρ : En} : evE Γ Δ (.isx z1 z2) ρ = (.stuck) := rfl
set_option autoImplicit true in
@[simp] theorem q22 {ρ : En} : evE Γ Δ (.ix a b) ρ = ((evE Γ Δ a ρ).bind fun x => (evE Γ Δ b ρ).bind fun y => wIx x y) := rfl
set_option autoImplicit true in
@[simp] theorem q23 {ρ : En} : evE Γ Δ (.sl a lO hI) ρ = ((evE Γ Δ a ρ).bind fun x => (evWs Γ Δ lO ρ).bind fun l => (optInt l).bind fun i => (evWs Γ Δ hI ρ).bind fun h => (optInt h).bind fun j => wSl x i j) := rfl
set_option autoImplicit true in
@[simp] theorem q24 {ρ : En} : evE Γ Δ (.rev a) ρ = ((evE Γ Δ a ρ).bind wRev) := rfl
set_option autoImplicit true in
theorem evE_lc {ρ : En} : evE Γ Δ (.lc e tg it ifs) ρ = ((evE Γ Δ it ρ).bind fun wi => (items wi).bind fun xs =>
      (lcF (fun x => (bindT (wipeE ρ tg.is) tg x).bind fun ρ' => (evTs Γ Δ ifs ρ').bind fun b => if b then (evE Γ Δ e ρ').bind fun y => .ok (some y) else .ok none) xs).bind fun ds => .ok (.d (.list ds))) := rfl
set_option autoImplicit true in
theorem evE_lc2 {ρ : En} : evE Γ Δ (.lc2 e tg it ifs tg' it' ifs') ρ = ((evE Γ Δ it ρ).bind fun wi => (items wi).bind fun xs =>
      (lcF2 (fun x => (bindT (wipeE ρ (tg.is ++ tg'.is)) tg x).bind fun ρ' => (evTs Γ Δ ifs ρ').bind fun b => if b then (evE Γ Δ it' ρ').bind fun wi => (items wi).bind fun ys =>
        (lcF (fun y => (bindT ρ' tg' y).bind fun ρ2 => (evTs Γ Δ ifs' ρ2).bind fun b => if b then (evE Γ Δ e ρ2).bind fun z => .ok (some z) else .ok none) ys).bind fun ds => .ok (some ds) else .ok none) xs).bind fun ds => if fits ds.length then .ok (.d (.list ds)) else .stuck) := rfl
set_option autoImplicit true in
theorem evE_dc {ρ : En} : evE Γ Δ (.dc ke ve tg it ifs) ρ = ((evE Γ Δ it ρ).bind fun wi => (items wi).bind fun xs =>
      (dcF (fun x => (bindT (wipeE ρ tg.is) tg x).bind fun ρ' => (evTs Γ Δ ifs ρ').bind fun b => if b then (evE Γ Δ ke ρ').bind fun y => (evE Γ Δ ve ρ').bind fun z => .ok (some (y, z)) else .ok none) xs []).bind fun l => .ok (.dic l)) := rfl
set_option autoImplicit true in
theorem evE_dc2 {ρ : En} : evE Γ Δ (.dc2 ke ve tg it ifs tg' it' ifs') ρ = ((evE Γ Δ it ρ).bind fun wi => (items wi).bind fun xs =>
      (dcF2 (fun x acc => (bindT (wipeE ρ (tg.is ++ tg'.is)) tg x).bind fun ρ' => (evTs Γ Δ ifs ρ').bind fun b => if b then (evE Γ Δ it' ρ').bind fun wi => (items wi).bind fun ys =>
        dcF (fun y => (bindT ρ' tg' y).bind fun ρ2 => (evTs Γ Δ ifs' ρ2).bind fun b => if b then (evE Γ Δ ke ρ2).bind fun z => (evE Γ Δ ve ρ2).bind fun u => .ok (some (z, u)) else .ok none) ys acc else .ok acc) xs []).bind fun l => .ok (.dic l)) := rfl
set_option autoImplicit true in
theorem evE_srtk {ρ : En} : evE Γ Δ (.srtk a x body) ρ = ((evE Γ Δ a ρ).bind fun wi => (itemsLT wi).bind fun xs => (keysOfF (fun y => evE Γ Δ body ((noMu ρ).set x (.va (.d y)))) xs).bind fun kl => (sortK kl).bind fun ds => .ok (.d (.list ds))) := rfl
set_option autoImplicit true in
@[simp] theorem q30 {ρ : En} : evE Γ Δ (.mth m o l) ρ = ((evE Γ Δ o ρ).bind fun x => (evWs Γ Δ l ρ).bind fun ws => wMth m x ws) := rfl
set_option autoImplicit true in
@[simp] theorem q31 {ρ : En} : evE Γ Δ (.rng a) ρ = ((evE Γ Δ a ρ).bind fun x => (wRng x).bind fun xs => .ok (.it xs)) := rfl
set_option autoImplicit true in
@[simp] theorem q32 {ρ : En} : evE Γ Δ (.rng2 a b) ρ = ((evE Γ Δ a ρ).bind fun x => (evE Γ Δ b ρ).bind fun y => (wRng2 x y).bind fun xs => .ok (.it xs)) := rfl
set_option autoImplicit true in
@[simp] theorem q33 {ρ : En} : evE Γ Δ (.enm a) ρ = ((evE Γ Δ a ρ).bind fun x => (wEnm x).bind fun xs => .ok (.it xs)) := rfl
set_option autoImplicit true in
@[simp] theorem q34 {ρ : En} : evE Γ Δ (.zp a b) ρ = ((evE Γ Δ a ρ).bind fun x => (evE Γ Δ b ρ).bind fun y => (wZip x y).bind fun xs => .ok (.it xs)) := rfl
set_option autoImplicit true in
@[simp] theorem q35 {ρ : En} : evWs Γ Δ ([]) ρ = (.ok []) := rfl
set_option autoImplicit true in
@[simp] theorem q36 {ρ : En} : evWs Γ Δ (c :: r) ρ = ((evE Γ Δ c ρ).bind fun x => (evWs Γ Δ r ρ).bind fun xs => .ok (x :: xs)) := rfl
set_option autoImplicit true in
@[simp] theorem q37 {ρ : En} : evAnd Γ Δ ([]) ρ = (.stuck) := rfl
set_option autoImplicit true in
@[simp] theorem q38 {c : CE} {ρ : En} : evAnd Γ Δ [c] ρ = evE Γ Δ c ρ := rfl
set_option autoImplicit true in
@[simp] theorem q39 {c d : CE} {r : List CE} {ρ : En} : evAnd Γ Δ (c :: d :: r) ρ = (evE Γ Δ c ρ).bind fun x => (truth x).bind fun k => if k then evAnd Γ Δ (d :: r) ρ else .ok x := rfl
set_option autoImplicit true in
@[simp] theorem q40 {ρ : En} : evOr Γ Δ ([]) ρ = (.stuck) := rfl
set_option autoImplicit true in
@[simp] theorem q41 {c : CE} {ρ : En} : evOr Γ Δ [c] ρ = evE Γ Δ c ρ := rfl
set_option autoImplicit true in
@[simp] theorem q42 {c d : CE} {r : List CE} {ρ : En} : evOr Γ Δ (c :: d :: r) ρ = (evE Γ Δ c ρ).bind fun x => (truth x).bind fun k => if k then .ok x else evOr Γ Δ (d :: r) ρ := rfl
set_option autoImplicit true in
@[simp] theorem q43 {ρ : En} : evTs Γ Δ ([]) ρ = (.ok true) := rfl
set_option autoImplicit true in
@[simp] theorem q44 {ρ : En} : evTs Γ Δ (c :: r) ρ = ((evE Γ Δ c ρ).bind fun x => (truth x).bind fun k => if k then evTs Γ Δ r ρ else .ok false) := rfl
set_option autoImplicit true in
@[simp] theorem q45 {ρ : En} : evS Γ Δ N (.asg i c) ρ = ((evE Γ Δ c ρ).bind fun w => .ok (ρ.set i (.va w), .nx)) := rfl
set_option autoImplicit true in
@[simp] theorem q46 {ρ : En} : evS Γ Δ N (.asgN i c) ρ = ((evE Γ Δ c ρ).bind fun w => .ok (ρ.set i (.mu w), .nx)) := rfl
set_option autoImplicit true in
@[simp] theorem q47 {ρ : En} : evS Γ Δ N (.par l cs) ρ = ((evWs Γ Δ cs ρ).bind fun ws => (parF l ws ρ).bind fun ρ' => .ok (ρ', .nx)) := rfl
set_option autoImplicit true in
@[simp] theorem q48 {ρ : En} : evS Γ Δ N (.unp is c) ρ = ((evE Γ Δ c ρ).bind fun w => (unpF ρ is w).bind fun ρ' => .ok (ρ', .nx)) := rfl
set_option autoImplicit true in
@[simp] theorem q49 {ρ : En} : evS Γ Δ N (.app i c) ρ = ((getML ρ i).bind fun x => (evE Γ Δ c ρ).bind fun y => (appD x y).bind fun z => .ok (ρ.set i (.mu z), .nx)) := rfl
set_option autoImplicit true in
@[simp] theorem q50 {ρ : En} : evS Γ Δ N (.ext i c) ρ = ((getML ρ i).bind fun x => (evE Γ Δ c ρ).bind fun y => (extD x y).bind fun z => .ok (ρ.set i (.mu z), .nx)) := rfl
set_option autoImplicit true in
@[simp] theorem q51 {ρ : En} : evS Γ Δ N (.put i k v) ρ = ((evE Γ Δ v ρ).bind fun y => (getMu ρ i).bind fun x => (evE Γ Δ k ρ).bind fun u => (putD x u y).bind fun z => .ok (ρ.set i (.mu z), .nx)) := rfl
set_option autoImplicit true in
@[simp] theorem q52 {ρ : En} : evS Γ Δ N (.iff t a b) ρ = ((evE Γ Δ t ρ).bind fun x => (truth x).bind fun k => if k then evSs Γ Δ N a ρ else evSs Γ Δ N b ρ) := rfl
set_option autoImplicit true in
theorem evS_whl {ρ : En} : evS Γ Δ N (.whl t b) ρ = (whlF (fun ρ => (evE Γ Δ t ρ).bind truth) (evSs Γ Δ N b) N ρ) := rfl
set_option autoImplicit true in
theorem evS_fo {ρ : En} : evS Γ Δ N (.fo tg it b) ρ = ((evE Γ Δ it ρ).bind fun wi => (items wi).bind fun xs => forF (fun ρ x => bindT ρ tg x) (evSs Γ Δ N b) xs ρ) := rfl
set_option autoImplicit true in
@[simp] theorem q55 {ρ : En} : evS Γ Δ N (.ret c) ρ = ((evE Γ Δ c ρ).bind fun w => .ok (ρ, .rt w)) := rfl
set_option autoImplicit true in
@[simp] theorem q56 {ρ : En} : evS Γ Δ N (.ret0) ρ = (.ok (ρ, .rt (.d .none))) := rfl
set_option autoImplicit true in
@[simp] theorem q57 {ρ : En} : evS Γ Δ N (.rse x) ρ = (.exc x) := rfl
set_option autoImplicit true in
@[simp] theorem q58 {ρ : En} : evS Γ Δ N (.exp c) ρ = ((evE Γ Δ c ρ).bind fun _ => .ok (ρ, .nx)) := rfl
set_option autoImplicit true in
@[simp] theorem q59 {ρ : En} : evS Γ Δ N (.fz is) ρ = (.ok (is.foldl freezeE ρ, .nx)) := rfl
set_option autoImplicit true in
@[simp] theorem q60 {ρ : En} : evS Γ Δ N (.tr z1 z2 z3 z4) ρ = (.stuck) := rfl
set_option autoImplicit true in
@[simp] theorem q61 {ρ : En} : evSs Γ Δ N ([]) ρ = (.ok (ρ, .nx)) := rfl
set_option autoImplicit true in
@[simp] theorem q62 {ρ : En} : evSs Γ Δ N (c :: r) ρ = ((evS Γ Δ N c ρ).bind fun p => match p.2 with
    | .nx => evSs Γ Δ N r p.1
    | .rt w => .ok (p.1, .rt w)) := rfl
end
/-! ### comprehensions over such lists -/
theorem lcF_map {α β : Type} {f : PyData → Rs (Option W)} {ea : α → PyData} {eb : β → PyData} {p : α → Bool} {g : α → β} : ∀ {l : List α}, (∀ a ∈ l, f (ea a) = .ok (if p a then some (.d (eb (g a))) else none)) → lcF f (l.map ea) = .ok (((l.filter p).map g).map eb)
  | [], _ => rfl
  | a :: l, h => by
    have ih := lcF_map (l := l) fun b hb => h b (List.mem_cons_of_mem _ hb)
    rw [List.map_cons, lcF, h a List.mem_cons_self]
    by_cases e : p a = true
    · rw [List.filter_cons_of_pos e]
      simp only [e, if_true, ih, List.map_cons]
    · rw [List.filter_cons_of_neg e]
      simp only [e, if_false, ih, Bool.false_eq_true]
/-- no test -/
theorem lcF_all {α β : Type} {f : PyData → Rs (Option W)} {ea : α → PyData} {eb : β → PyData} {g : α → β} {l : List α} (h : ∀ a ∈ l, f (ea a) = .ok (some (.d (eb (g a))))) : lcF f (l.map ea) = .ok ((l.map g).map eb) := by
  have := lcF_map (f := f) (ea := ea) (eb := eb) (p := fun _ => true) (g := g) (l := l) (fun a ha => by rw [h a ha]; rfl)
  rw [this, List.filter_eq_self.mpr fun _ _ => rfl]
/-- a list comprehension over things told by data -/
theorem ev_lc {Γ : Fns} {Δ : Dyn} {ρ : En} {α β : Type} {e it : CE} {tg : Tg} {ifs : List CE} {wi : W} {l : List α} {ea : α → PyData} {eb : β → PyData} (p : α → Bool) (g : α → β) (h1 : evE Γ Δ it ρ = .ok wi) (h2 : items wi = .ok (l.map ea))
    (h : ∀ a ∈ l, ((bindT (wipeE ρ tg.is) tg (ea a)).bind fun ρ' => (evTs Γ Δ ifs ρ').bind fun b => if b then (evE Γ Δ e ρ').bind fun y => .ok (some y) else .ok none) = .ok (if p a then some (.d (eb (g a))) else none)) :
    evE Γ Δ (.lc e tg it ifs) ρ = .ok (.d (.list (((l.filter p).map g).map eb))) := by
  rw [evE_lc, h1, Rs.bind_ok, h2, Rs.bind_ok, lcF_map h]; rfl
theorem ev_lcA {Γ : Fns} {Δ : Dyn} {ρ : En} {α β : Type} {e it : CE} {tg : Tg} {wi : W} {l : List α} {ea : α → PyData} {eb : β → PyData} (g : α → β) (h1 : evE Γ Δ it ρ = .ok wi) (h2 : items wi = .ok (l.map ea))
    (h : ∀ a ∈ l, ((bindT (wipeE ρ tg.is) tg (ea a)).bind fun ρ' => evE Γ Δ e ρ') = .ok (.d (eb (g a)))) :
    evE Γ Δ (.lc e tg it []) ρ = .ok (.d (.list ((l.map g).map eb))) := by
  rw [evE_lc, h1, Rs.bind_ok, h2, Rs.bind_ok]
  rw [lcF_all (eb := eb) (g := g) (l := l) fun a ha => ?_]
  · rfl
  · have := h a ha
    cases q : bindT (wipeE ρ tg.is) tg (ea a) with
    | ok ρ' =>
      rw [q] at this
      have t2 : evE Γ Δ e ρ' = .ok (.d (eb (g a))) := this
      rw [Rs.bind_ok]
      simp [t2]
    | exc c => rw [q] at this; cases this
    | stuck => rw [q] at this; cases this
end Pz
namespace Pz
open PySem
/-! ### the defs of the program and of the laws, in the core language (printed by gencores.py) -/
/-- is_int(value, least, most) -/
def core_1 : List CS := [.ret (.and [.isi (.vr 0) .int, .not (.isi (.vr 0) .bool), .ch .le .le (.vr 1) (.vr 0) (.vr 2)])]
/-- is_name(value, sign) -/
def core_2 : List CS := [.ret (.and [.isi (.vr 0) .str, .ch .le .le (.k (.int 1)) (.bi .len [.vr 0]) (.g ⟨#[77, 65, 88, 95, 78, 65, 77, 69]⟩ (.int 4)), .bi .all [.lc (.cmp .mem (.vr 1) (.g ⟨#[76, 69, 84, 84, 69, 82, 83]⟩ (.str ⟨#[97, 98, 99, 100, 101, 102, 103, 104, 105, 106, 107, 108, 109, 110, 111, 112, 113, 114, 115, 116, 117, 118, 119, 120, 121, 122]⟩))) (.n 1) (.vr 0) []]])]
/-- is_any(value) -/
def core_3 : List CS := [.ret (.and [.isi (.vr 0) .str, .cmp .eq (.vr 0) (.g ⟨#[65, 78, 89]⟩ (.str ⟨#[42]⟩))])]
/-- is_kind(candidate) -/
def core_4 : List CS := [.ret (.and [.isi (.vr 0) .tuple, .cmp .eq (.bi .len [.vr 0]) (.k (.int 2)), .call 2 [.ix (.vr 0) (.k (.int 0))], .call 2 [.ix (.vr 0) (.k (.int 1))]])]
/-- is_range(candidate) -/
def core_5 : List CS := [.iff (.call 4 [.v 0]) [.ret (.k (.bool true))] [], .iff (.or [.not (.isi (.vr 0) .tuple), .cmp .ne (.bi .len [.vr 0]) (.k (.int 2)), .not (.call 3 [.ix (.vr 0) (.k (.int 1))])]) [.ret (.k (.bool false))] [], .ret (.or [.call 3 [.ix (.vr 0) (.k (.int 0))], .call 2 [.ix (.vr 0) (.k (.int 0))]])]
/-- is_entry(value) -/
def core_6 : List CS := [.ret (.and [.isi (.vr 0) .tuple, .cmp .eq (.bi .len [.vr 0]) (.k (.int 3)), .call 5 [.sl (.vr 0) [] [.k (.int 2)]], .call 1 [.ix (.vr 0) (.k (.int 2)), .k (.int 0), .g ⟨#[77, 65, 88, 95, 87, 69, 73, 71, 72, 84]⟩ (.int 1000)]])]
/-- is_accept_list(candidate, entry) -/
def core_7 : List CS := [.iff (.or [.not (.isi (.vr 0) .tuple), .cmp .gt (.bi .len [.vr 0]) (.g ⟨#[77, 65, 88, 95, 69, 78, 84, 82, 73, 69, 83]⟩ (.int 8))]) [.ret (.k (.bool false))] [], .iff (.not (.bi .all [.lc (.call 6 [.v 1]) (.n 1) (.vr 0) []])) [.ret (.k (.bool false))] [], .ret (.cmp .eq (.bi .lenset [.lc (.sl (.vr 1) [] [.k (.int 2)]) (.n 1) (.vr 0) []]) (.bi .len [.vr 0]))]
/-- is_offer(candidate, kind) -/
def core_8 : List CS := [.iff (.or [.not (.isi (.vr 0) .tuple), .cmp .gt (.bi .len [.vr 0]) (.g ⟨#[77, 65, 88, 95, 79, 70, 70, 69, 82]⟩ (.int 6))]) [.ret (.k (.bool false))] [], .ret (.and [.bi .all [.lc (.call 4 [.v 1]) (.n 1) (.vr 0) []], .cmp .eq (.bi .lenset [.vr 0]) (.bi .len [.vr 0])])]
/-- check_list(value) -/
def core_9 : List CS := [.iff (.not (.call 7 [.v 0])) [.rse ⟨#[73, 110, 118, 97, 108, 105, 100, 76, 105, 115, 116]⟩] []]
/-- check_kind(value) -/
def core_10 : List CS := [.iff (.not (.call 4 [.v 0])) [.rse ⟨#[73, 110, 118, 97, 108, 105, 100, 75, 105, 110, 100]⟩] []]
/-- check_offer(value) -/
def core_11 : List CS := [.iff (.not (.call 8 [.v 0])) [.rse ⟨#[73, 110, 118, 97, 108, 105, 100, 79, 102, 102, 101, 114]⟩] []]
/-- find_entry(accept, kind, place, found, entry) -/
def core_12 : List CS := [.fo (.n 2) (.tup [.v 1, .tup [.ix (.vr 1) (.k (.int 0)), .g ⟨#[65, 78, 89]⟩ (.str ⟨#[42]⟩)], .tup [.g ⟨#[65, 78, 89]⟩ (.str ⟨#[42]⟩), .g ⟨#[65, 78, 89]⟩ (.str ⟨#[42]⟩)]]) [.asg 3 (.lc (.v 4) (.n 4) (.vr 0) [.cmp .eq (.sl (.vr 4) [] [.k (.int 2)]) (.vr 2)]), .iff (.cmp .ne (.vr 3) (.lst [])) [.ret (.ix (.vr 3) (.k (.int 0)))] []], .ret (.k (.none))]
/-- find_weight(accept, kind, entry) -/
def core_13 : List CS := [.asg 2 (.call 12 [.v 0, .v 1]), .ret (.ite (.cmp .is (.vr 2) (.k (.none))) (.k (.int 0)) (.ix (.vr 2) (.k (.int 2))))]
/-- entry_for(accept, kind) -/
def core_14 : List CS := [.exp (.call 9 [.v 0]), .exp (.call 10 [.v 1]), .ret (.call 12 [.v 0, .v 1])]
/-- weight_of(accept, kind) -/
def core_15 : List CS := [.exp (.call 9 [.v 0]), .exp (.call 10 [.v 1]), .ret (.call 13 [.v 0, .v 1])]
/-- find_accepted(accept, offer, kind) -/
def core_16 : List CS := [.ret (.lc (.v 2) (.n 2) (.vr 1) [.cmp .gt (.call 13 [.v 0, .v 2]) (.k (.int 0))])]
/-- accepted(accept, offer) -/
def core_17 : List CS := [.exp (.call 9 [.v 0]), .exp (.call 11 [.v 1]), .ret (.call 16 [.v 0, .v 1])]
/-- find_ranked(accept, offer, kind) -/
def core_18 : List CS := [.ret (.srtk (.call 16 [.v 0, .v 1]) 2 (.bin .sub (.k (.int 0)) (.call 13 [.v 0, .v 2])))]
/-- ranked(accept, offer) -/
def core_19 : List CS := [.exp (.call 9 [.v 0]), .exp (.call 11 [.v 1]), .ret (.call 18 [.v 0, .v 1])]
/-- find_choice(accept, offer, found) -/
def core_20 : List CS := [.asg 2 (.call 18 [.v 0, .v 1]), .ret (.ite (.cmp .ne (.vr 2) (.lst [])) (.ix (.vr 2) (.k (.int 0))) (.k (.none)))]
/-- choice(accept, offer) -/
def core_21 : List CS := [.exp (.call 9 [.v 0]), .exp (.call 11 [.v 1]), .ret (.call 20 [.v 0, .v 1])]
/-- check_lists(value, one) -/
def core_22 : List CS := [.iff (.or [.not (.isi (.vr 0) .list), .cmp .gt (.bi .len [.vr 0]) (.g ⟨#[77, 65, 88, 95, 76, 73, 83, 84, 83]⟩ (.int 8)), .not (.bi .all [.lc (.call 7 [.v 1]) (.n 1) (.vr 0) []])]) [.rse ⟨#[73, 110, 118, 97, 108, 105, 100, 76, 105, 115, 116, 115]⟩] []]
/-- choices(accepts, offer, accept) -/
def core_23 : List CS := [.exp (.call 22 [.v 0]), .exp (.call 11 [.v 1]), .ret (.lc (.call 20 [.v 2, .v 1]) (.n 2) (.vr 0) [])]
/-- without_choice(accept, offer, chosen, kind) -/
def core_24 : List CS := [.asg 2 (.call 21 [.v 0, .v 1]), .ret (.bi .tuple [.lc (.v 3) (.n 3) (.vr 1) [.cmp .ne (.vr 3) (.vr 2)]])]
/-- order_of_choices(accept, offer, chosen, found) -/
def core_25 : List CS := [.par [(2, false), (3, true)] [.call 21 [.v 0, .v 1], .lst []], .whl (.cmp .isn (.vr 2) (.k (.none))) [.app 3 (.v 2), .asg 1 (.call 24 [.v 0, .v 1]), .asg 2 (.call 20 [.v 0, .v 1])], .fz [3], .ret (.v 3)]
/-- _law_drawn(_law_script, _law_k, _law_many, _law_cell, _law_turn, _law_rest) -/
def core_26 : List CS := [.asg 3 (.bin .mul (.k (.int 7)) (.vr 1)), .iff (.cmp .ne (.vr 0) (.lst [])) [.asg 3 (.ix (.vr 0) (.bin .mod (.vr 1) (.bi .len [.vr 0]))), .asg 4 (.bin .div (.vr 1) (.bi .len [.vr 0])), .iff (.and [.cmp .ge (.vr 3) (.bin .pow (.k (.int 10)) (.k (.int 18))), .cmp .lt (.vr 4) (.k (.int 60))]) [.asg 5 (.bin .div (.vr 3) (.bin .pow (.k (.int 10)) (.k (.int 18)))), .whl (.and [.cmp .gt (.vr 5) (.k (.int 0)), .cmp .gt (.vr 4) (.k (.int 0))]) [.asg 5 (.bin .div (.vr 5) (.k (.int 1000000))), .asg 4 (.bin .sub (.vr 4) (.k (.int 1)))], .iff (.cmp .gt (.vr 5) (.k (.int 0))) [.ret (.bin .mod (.bin .mod (.vr 5) (.k (.int 1000000))) (.vr 2))] []] [], .asg 3 (.bin .add (.vr 3) (.bin .mul (.k (.int 6553)) (.bin .div (.vr 1) (.bi .len [.vr 0]))))] [], .asg 3 (.bin .mod (.bin .add (.bin .mul (.bin .mod (.vr 3) (.k (.int 2147483563))) (.k (.int 69069))) (.bin .mul (.k (.int 104723)) (.bin .add (.vr 1) (.k (.int 1))))) (.k (.int 2147483563))), .asg 3 (.bin .mod (.bin .add (.bin .mul (.vr 3) (.vr 3)) (.bin .div (.vr 3) (.k (.int 3)))) (.k (.int 2147483399))), .ret (.bin .mod (.bin .div (.bin .mod (.bin .add (.bin .mul (.vr 3) (.vr 3)) (.bin .div (.vr 3) (.k (.int 7)))) (.k (.int 2147483647))) (.k (.int 11))) (.vr 2))]
/-- _law_kind(_law_script, _law_at) -/
def core_27 : List CS := [.ret (.tup [.ix (.lst [.k (.str ⟨#[97]⟩), .k (.str ⟨#[98]⟩), .k (.str ⟨#[97, 97]⟩), .k (.str ⟨#[120]⟩)]) (.call 26 [.v 0, .v 1, .k (.int 4)]), .ix (.lst [.k (.str ⟨#[97]⟩), .k (.str ⟨#[99]⟩), .k (.str ⟨#[97, 97]⟩), .k (.str ⟨#[121]⟩)]) (.call 26 [.v 0, .bin .add (.vr 1) (.k (.int 1)), .k (.int 4)])])]
/-- _law_list(_law_script, _law_at, _law_most, _law_k, _law_found, _law_taken, _law_here, _law_place, _law_way) -/
def core_28 : List CS := [.par [(4, true), (5, true)] [.lst [], .lst []], .fo (.n 3) (.rng (.call 26 [.v 0, .v 1, .bin .add (.vr 2) (.k (.int 1))])) [.asg 6 (.bin .add (.bin .add (.vr 1) (.k (.int 1))) (.bin .mul (.k (.int 5)) (.vr 3))), .par [(7, false), (8, false)] [.call 27 [.v 0, .v 6], .call 26 [.v 0, .bin .add (.vr 6) (.k (.int 2)), .k (.int 5)]], .asg 7 (.ite (.cmp .lt (.vr 8) (.k (.int 3))) (.v 7) (.ite (.cmp .eq (.vr 8) (.k (.int 3))) (.tup [.ix (.vr 7) (.k (.int 0)), .k (.str ⟨#[42]⟩)]) (.tup [.k (.str ⟨#[42]⟩), .k (.str ⟨#[42]⟩)]))), .iff (.cmp .nmem (.vr 7) (.vr 5)) [.app 5 (.v 7), .app 4 (.bin .add (.vr 7) (.tup [.ix (.lst [.k (.int 0), .k (.int 1), .k (.int 2), .k (.int 5), .k (.int 2), .k (.int 1000), .k (.int 0), .k (.int 7)]) (.call 26 [.v 0, .bin .add (.vr 6) (.k (.int 3)), .k (.int 8)])]))] []], .ret (.bi .tuple [.vr 4])]
/-- _law_offer(_law_script, _law_at, _law_most, _law_found, _law_k, _law_kind_here) -/
def core_29 : List CS := [.asg 3 (.lst []), .fo (.n 4) (.rng (.call 26 [.v 0, .v 1, .bin .add (.vr 2) (.k (.int 1))])) [.asg 5 (.call 27 [.v 0, .bin .add (.bin .add (.vr 1) (.k (.int 1))) (.bin .mul (.k (.int 2)) (.vr 4))]), .asg 3 (.bin .add (.vr 3) (.ite (.cmp .nmem (.vr 5) (.vr 3)) (.lst [.v 5]) (.lst [])))], .ret (.bi .tuple [.vr 3])]
/-- law(_law_script, _law_kind_here, _law_place, _law_parts, _law_accept, _law_offer_here, _law_told, _law_good, _law_rest, _law_entry, _law_weight, _law_other) -/
def core_30 : List CS := [.par [(4, false), (5, false)] [.call 28 [.v 0, .k (.int 10), .k (.int 8)], .call 29 [.v 0, .k (.int 60), .k (.int 6)]], .unp [6, 7] (.tup [.call 21 [.v 4, .v 5], .call 17 [.v 4, .v 5]]), .iff (.or [.cmp .ne (.cmp .is (.vr 6) (.k (.none))) (.cmp .eq (.vr 7) (.lst [])), .cmp .ne (.call 25 [.v 4, .v 5]) (.call 19 [.v 4, .v 5])]) [.ret (.k (.bool false))] [], .iff (.cmp .ne (.call 24 [.v 4, .v 5]) (.bi .tuple [.lc (.v 1) (.n 1) (.vr 5) [.cmp .ne (.vr 1) (.vr 6)]])) [.ret (.k (.bool false))] [], .fo (.n 1) (.v 5) [.par [(9, false), (10, false)] [.call 14 [.v 4, .v 1], .call 15 [.v 4, .v 1]], .iff (.or [.cmp .ne (.vr 10) (.ite (.cmp .is (.vr 9) (.k (.none))) (.k (.int 0)) (.ix (.vr 9) (.k (.int 2)))), .cmp .ne (.cmp .mem (.vr 1) (.vr 7)) (.cmp .gt (.vr 10) (.k (.int 0)))]) [.ret (.k (.bool false))] [], .iff (.and [.cmp .isn (.vr 9) (.k (.none)), .cmp .nmem (.vr 9) (.vr 4)]) [.ret (.k (.bool false))] [], .iff (.and [.cmp .isn (.vr 9) (.k (.none)), .or [.cmp .nmem (.ix (.vr 9) (.k (.int 0))) (.tup [.ix (.vr 1) (.k (.int 0)), .k (.str ⟨#[42]⟩)]), .cmp .nmem (.ix (.vr 9) (.k (.int 1))) (.tup [.ix (.vr 1) (.k (.int 1)), .k (.str ⟨#[42]⟩)])]]) [.ret (.k (.bool false))] [], .iff (.and [.cmp .isn (.vr 6) (.k (.none)), .cmp .gt (.vr 10) (.call 15 [.v 4, .v 6])]) [.ret (.k (.bool false))] [], .asg 8 (.bi .tuple [.lc (.v 11) (.n 11) (.vr 5) [.cmp .ne (.vr 11) (.vr 1)]]), .iff (.and [.cmp .ne (.vr 1) (.vr 6), .cmp .ne (.call 21 [.v 4, .v 8]) (.vr 6)]) [.ret (.k (.bool false))] [], .iff (.cmp .ne (.call 21 [.v 4, .tup [.v 1]]) (.ite (.cmp .mem (.vr 1) (.vr 7)) (.vr 1) (.k (.none)))) [.ret (.k (.bool false))] []], .iff (.and [.cmp .isn (.vr 6) (.k (.none)), .cmp .ne (.call 21 [.v 4, .bi .tuple [.vr 7]]) (.vr 6)]) [.ret (.k (.bool false))] [], .iff (.cmp .ne (.call 21 [.v 4, .bi .tuple [.call 19 [.v 4, .v 5]]]) (.vr 6)) [.ret (.k (.bool false))] [], .asg 2 (.call 26 [.v 0, .k (.int 1), .bin .add (.bi .len [.vr 5]) (.k (.int 1))]), .asg 3 (.lst [.call 21 [.v 4, .sl (.vr 5) [] [.vr 2]], .call 21 [.v 4, .sl (.vr 5) [.vr 2] []]]), .iff (.cmp .ne (.call 21 [.v 4, .bi .tuple [.lc (.v 1) (.n 1) (.vr 3) [.cmp .isn (.vr 1) (.k (.none))]]]) (.vr 6)) [.ret (.k (.bool false))] [], .iff (.cmp .ne (.call 23 [.lst [.v 4, .v 4], .v 5]) (.lst [.v 6, .v 6])) [.ret (.k (.bool false))] [], .iff (.cmp .ne (.call 21 [.rev (.vr 4), .v 5]) (.vr 6)) [.ret (.k (.bool false))] [], .ret (.cmp .eq (.call 19 [.bi .tuple [.bi .sorted [.vr 4]], .v 5]) (.call 19 [.v 4, .v 5]))]
/-- _law_weight(_law_accept, _law_kind_here, _law_known, _law_group, _law_form, _law_weight_here) -/
def core_31 : List CS := [.asgN 2 (.emp), .fo (.t [3, 4, 5]) (.v 0) [.put 2 (.tup [.v 3, .v 4]) (.v 5)], .ret (.mth .get2 (.vr 2) [.v 1, .mth .get2 (.vr 2) [.tup [.ix (.vr 1) (.k (.int 0)), .k (.str ⟨#[42]⟩)], .mth .get2 (.vr 2) [.tup [.k (.str ⟨#[42]⟩), .k (.str ⟨#[42]⟩)], .k (.int 0)]]])]
/-- _law_odd(_law_script, _law_at, _law_odd_here) -/
def core_32 : List CS := [.asg 2 (.lst [.k (.none), .lst [], .tup [.tup [.k (.str ⟨#[97]⟩), .k (.str ⟨#[98]⟩)]], .tup [.tup [.k (.str ⟨#[42]⟩), .k (.str ⟨#[97]⟩), .k (.int 1)]], .tup [.tup [.k (.str ⟨#[97]⟩), .k (.str ⟨#[97]⟩), .k (.int 1)], .tup [.k (.str ⟨#[97]⟩), .k (.str ⟨#[97]⟩), .k (.int 2)]]]), .asg 2 (.bin .add (.vr 2) (.lst [.tup [.tup [.k (.str ⟨#[97]⟩), .k (.str ⟨#[97]⟩), .k (.int 1001)]], .tup [.tup [.k (.str ⟨#[97]⟩), .k (.str ⟨#[97]⟩), .neg (.k (.int 1))]]])), .asg 2 (.bin .add (.vr 2) (.lst [.tup [.tup [.k (.str ⟨#[65]⟩), .k (.str ⟨#[97]⟩), .k (.int 1)]], .tup [.tup [.k (.str ⟨#[97, 98, 99, 100, 101]⟩), .k (.str ⟨#[97]⟩), .k (.int 1)]], .tup [.tup [.k (.str ⟨#[97]⟩), .k (.str ⟨#[]⟩), .k (.int 1)]], .tup [.tup [.k (.str ⟨#[97]⟩), .k (.str ⟨#[97]⟩), .k (.bool true)]]])), .asg 2 (.bin .add (.vr 2) (.lst [.lst [.tup [.k (.str ⟨#[97]⟩), .k (.str ⟨#[97]⟩), .k (.int 1)]], .k (.str ⟨#[97, 47, 97]⟩)])), .ret (.ix (.vr 2) (.call 26 [.v 0, .v 1, .k (.int 13)]))]
/-- _law_forms(_law_accept, _law_kind_here, _law_offer_here, _law_eight, _law_six, _law_letter) -/
def core_33 : List CS := [.iff (.or [.cmp .isn (.call 4 [.v 1]) (.k (.bool true)), .cmp .isn (.call 5 [.v 1]) (.k (.bool true))]) [.ret (.k (.bool false))] [], .iff (.cmp .isn (.call 7 [.v 0]) (.k (.bool true))) [.ret (.k (.bool false))] [], .iff (.or [.cmp .isn (.call 8 [.v 2]) (.k (.bool true)), .cmp .isn (.call 8 [.tup []]) (.k (.bool true)), .cmp .isn (.call 7 [.tup []]) (.k (.bool true))]) [.ret (.k (.bool false))] [], .iff (.or [.not (.call 5 [.tup [.k (.str ⟨#[42]⟩), .k (.str ⟨#[42]⟩)]]), .not (.call 5 [.tup [.k (.str ⟨#[97]⟩), .k (.str ⟨#[42]⟩)]]), .call 4 [.tup [.k (.str ⟨#[97]⟩), .k (.str ⟨#[42]⟩)]]]) [.ret (.k (.bool false))] [], .iff (.call 5 [.tup [.k (.str ⟨#[42]⟩), .k (.str ⟨#[97]⟩)]]) [.ret (.k (.bool false))] [], .asg 3 (.bi .tuple [.lc (.tup [.v 5, .k (.str ⟨#[42]⟩), .k (.int 1000)]) (.n 5) (.k (.str ⟨#[97, 98, 99, 100, 101, 102, 103, 104]⟩)) []]), .asg 4 (.bi .tuple [.lc (.tup [.v 5, .k (.str ⟨#[97, 98, 99, 100]⟩)]) (.n 5) (.k (.str ⟨#[97, 98, 99, 100, 101, 102]⟩)) []]), .iff (.or [.not (.call 7 [.v 3]), .call 7 [.bin .add (.vr 3) (.tup [.tup [.k (.str ⟨#[122]⟩), .k (.str ⟨#[42]⟩), .k (.int 0)]])]]) [.ret (.k (.bool false))] [], .ret (.and [.cmp .is (.call 8 [.v 4]) (.k (.bool true)), .cmp .is (.call 8 [.bin .add (.vr 4) (.tup [.tup [.k (.str ⟨#[122]⟩), .k (.str ⟨#[122]⟩)]])]) (.k (.bool false))])]
/-- _law_badkind(_law_script, _law_at) -/
def core_34 : List CS := [.ret (.ix (.lst [.k (.none), .k (.str ⟨#[97]⟩), .tup [.k (.str ⟨#[97]⟩)], .tup [.k (.str ⟨#[97]⟩), .k (.str ⟨#[42]⟩)], .tup [.k (.str ⟨#[65]⟩), .k (.str ⟨#[97]⟩)], .tup [.k (.str ⟨#[97]⟩), .k (.str ⟨#[97, 98, 99, 100, 101]⟩)], .lst [.k (.str ⟨#[97]⟩), .k (.str ⟨#[97]⟩)]]) (.call 26 [.v 0, .v 1, .k (.int 7)]))]
/-- _law_badoffer(_law_script, _law_at, _law_odd_here) -/
def core_35 : List CS := [.asg 2 (.lst [.k (.none), .lst [], .tup [.tup [.k (.str ⟨#[97]⟩), .k (.str ⟨#[42]⟩)]], .tup [.tup [.k (.str ⟨#[97]⟩), .k (.str ⟨#[97]⟩)], .tup [.k (.str ⟨#[97]⟩), .k (.str ⟨#[97]⟩)]], .k (.str ⟨#[97]⟩), .tup [.tup [.k (.str ⟨#[97]⟩), .k (.str ⟨#[97]⟩), .k (.int 1)]], .tup [.k (.none)]]), .ret (.ix (.vr 2) (.call 26 [.v 0, .v 1, .k (.int 7)]))]
/-- _law_choice(_law_accept, _law_offer_here, _law_best, _law_kind_here, _law_weight_here) -/
def core_36 : List CS := [.asg 2 (.k (.none)), .fo (.n 3) (.v 1) [.asg 4 (.call 31 [.v 0, .v 3]), .iff (.and [.cmp .gt (.vr 4) (.k (.int 0)), .or [.cmp .is (.vr 2) (.k (.none)), .cmp .gt (.vr 4) (.call 31 [.v 0, .v 2])]]) [.asg 2 (.v 3)] []], .ret (.v 2)]
/-- next_name(name) -/
def core_37 : List CS := [.iff (.cmp .lt (.bi .len [.vr 0]) (.g ⟨#[77, 65, 88, 95, 78, 65, 77, 69]⟩ (.int 4))) [.ret (.bin .add (.vr 0) (.ix (.g ⟨#[76, 69, 84, 84, 69, 82, 83]⟩ (.str ⟨#[97, 98, 99, 100, 101, 102, 103, 104, 105, 106, 107, 108, 109, 110, 111, 112, 113, 114, 115, 116, 117, 118, 119, 120, 121, 122]⟩)) (.k (.int 0))))] [], .whl (.cmp .eq (.ix (.vr 0) (.neg (.k (.int 1)))) (.ix (.g ⟨#[76, 69, 84, 84, 69, 82, 83]⟩ (.str ⟨#[97, 98, 99, 100, 101, 102, 103, 104, 105, 106, 107, 108, 109, 110, 111, 112, 113, 114, 115, 116, 117, 118, 119, 120, 121, 122]⟩)) (.neg (.k (.int 1))))) [.asg 0 (.sl (.vr 0) [] [.neg (.k (.int 1))])], .ret (.bin .add (.sl (.vr 0) [] [.neg (.k (.int 1))]) (.ix (.g ⟨#[76, 69, 84, 84, 69, 82, 83]⟩ (.str ⟨#[97, 98, 99, 100, 101, 102, 103, 104, 105, 106, 107, 108, 109, 110, 111, 112, 113, 114, 115, 116, 117, 118, 119, 120, 121, 122]⟩)) (.bin .add (.mth .index (.g ⟨#[76, 69, 84, 84, 69, 82, 83]⟩ (.str ⟨#[97, 98, 99, 100, 101, 102, 103, 104, 105, 106, 107, 108, 109, 110, 111, 112, 113, 114, 115, 116, 117, 118, 119, 120, 121, 122]⟩)) [.ix (.vr 0) (.neg (.k (.int 1)))]) (.k (.int 1)))))]
/-- free_name(taken, name) -/
def core_38 : List CS := [.asg 1 (.ix (.g ⟨#[76, 69, 84, 84, 69, 82, 83]⟩ (.str ⟨#[97, 98, 99, 100, 101, 102, 103, 104, 105, 106, 107, 108, 109, 110, 111, 112, 113, 114, 115, 116, 117, 118, 119, 120, 121, 122]⟩)) (.k (.int 0))), .whl (.cmp .mem (.vr 1) (.vr 0)) [.asg 1 (.call 37 [.v 1])], .ret (.v 1)]
/-- find_kinds(accepts, found, accept, entry) -/
def core_39 : List CS := [.asg 1 (.dc2 (.sl (.vr 3) [] [.k (.int 2)]) (.k (.bool true)) (.n 2) (.vr 0) [] (.n 3) (.vr 2) [.cmp .ne (.ix (.vr 3) (.k (.int 1))) (.g ⟨#[65, 78, 89]⟩ (.str ⟨#[42]⟩))]), .ret (.bi .sorted [.vr 1])]
/-- find_groups(accepts, found, accept, entry) -/
def core_40 : List CS := [.asg 1 (.dc2 (.ix (.vr 3) (.k (.int 0))) (.k (.bool true)) (.n 2) (.vr 0) [] (.n 3) (.vr 2) [.cmp .ne (.ix (.vr 3) (.k (.int 0))) (.g ⟨#[65, 78, 89]⟩ (.str ⟨#[42]⟩))]), .ret (.bi .sorted [.vr 1])]
/-- other_kind(kinds, group, kind) -/
def core_41 : List CS := [.ret (.tup [.v 1, .call 38 [.lc (.ix (.vr 2) (.k (.int 1))) (.n 2) (.vr 0) [.cmp .eq (.ix (.vr 2) (.k (.int 0))) (.vr 1)]]])]
/-- find_representatives(accepts, others, kinds, groups, group) -/
def core_42 : List CS := [.unp [2, 3] (.tup [.call 39 [.v 0], .call 40 [.v 0]]), .asg 1 (.lc (.call 41 [.v 2, .v 4]) (.n 4) (.vr 3) []), .ret (.bi .sorted [.bin .add (.bin .add (.vr 2) (.vr 1)) (.lst [.tup [.call 38 [.v 3], .ix (.g ⟨#[76, 69, 84, 84, 69, 82, 83]⟩ (.str ⟨#[97, 98, 99, 100, 101, 102, 103, 104, 105, 106, 107, 108, 109, 110, 111, 112, 113, 114, 115, 116, 117, 118, 119, 120, 121, 122]⟩)) (.k (.int 0))]])])]
/-- representatives(accepts) -/
def core_43 : List CS := [.exp (.call 22 [.v 0]), .ret (.call 42 [.v 0])]
/-- representative_of(accepts, kind, kinds, groups) -/
def core_44 : List CS := [.exp (.call 22 [.v 0]), .exp (.call 10 [.v 1]), .par [(2, false), (3, false)] [.call 39 [.v 0], .call 40 [.v 0]], .iff (.cmp .mem (.vr 1) (.vr 2)) [.ret (.v 1)] [], .ret (.ite (.cmp .mem (.ix (.vr 1) (.k (.int 0))) (.vr 3)) (.call 41 [.v 2, .ix (.vr 1) (.k (.int 0))]) (.tup [.call 38 [.v 3], .ix (.g ⟨#[76, 69, 84, 84, 69, 82, 83]⟩ (.str ⟨#[97, 98, 99, 100, 101, 102, 103, 104, 105, 106, 107, 108, 109, 110, 111, 112, 113, 114, 115, 116, 117, 118, 119, 120, 121, 122]⟩)) (.k (.int 0))]))]
/-- find_levels(accept, entry) -/
def core_45 : List CS := [.ret (.rev (.bi .srtset [.lc (.ix (.vr 1) (.k (.int 2))) (.n 1) (.vr 0) [.cmp .gt (.ix (.vr 1) (.k (.int 2))) (.k (.int 0))]]))]
/-- levels(accept) -/
def core_46 : List CS := [.exp (.call 9 [.v 0]), .ret (.call 45 [.v 0])]
/-- _law_free(_law_taken, _law_names, _law_letter, _law_name) -/
def core_47 : List CS := [.asg 1 (.bin .add (.lst [.k (.str ⟨#[97]⟩), .k (.str ⟨#[97, 97]⟩), .k (.str ⟨#[97, 97, 97]⟩), .k (.str ⟨#[97, 97, 97, 97]⟩)]) (.lc (.bin .add (.k (.str ⟨#[97, 97, 97]⟩)) (.vr 2)) (.n 2) (.k (.str ⟨#[98, 99, 100, 101, 102, 103, 104, 105, 106, 107, 108, 109, 110, 111, 112, 113, 114, 115, 116, 117, 118, 119, 120, 121, 122]⟩)) [])), .ret (.ix (.lc (.v 3) (.n 3) (.vr 1) [.cmp .nmem (.vr 3) (.vr 0)]) (.k (.int 0)))]
/-- _law_members(_law_accepts, _law_accept, _law_found, _law_group, _law_kinds, _law_groups, _law_form, _law_weight_here, _law_kind_here) -/
def core_48 : List CS := [.par [(4, true), (5, true)] [.lst [], .lst []], .fo (.n 1) (.v 0) [.fo (.t [3, 6, 7]) (.v 1) [.iff (.and [.cmp .ne (.vr 6) (.k (.str ⟨#[42]⟩)), .cmp .nmem (.tup [.v 3, .v 6]) (.vr 4)]) [.app 4 (.tup [.v 3, .v 6])] [], .iff (.and [.cmp .ne (.vr 3) (.k (.str ⟨#[42]⟩)), .cmp .nmem (.vr 3) (.vr 5)]) [.app 5 (.v 3)] []]], .asgN 2 (.bi .list [.vr 4]), .fz [5], .fo (.n 3) (.v 5) [.app 2 (.tup [.v 3, .call 47 [.lc (.ix (.vr 8) (.k (.int 1))) (.n 8) (.vr 4) [.cmp .eq (.ix (.vr 8) (.k (.int 0))) (.vr 3)]]])], .fz [5], .app 2 (.tup [.call 47 [.v 5], .k (.str ⟨#[97]⟩)]), .ret (.bi .sorted [.vr 2])]
/-- check_two(one, other) -/
def core_49 : List CS := [.exp (.call 9 [.v 0]), .exp (.call 9 [.v 1])]
/-- find_difference(one, other, kinds, kind, first, second, offer) -/
def core_50 : List CS := [.asg 2 (.call 42 [.lst [.v 0, .v 1]]), .fo (.n 3) (.v 2) [.iff (.cmp .ne (.call 20 [.v 0, .tup [.v 3]]) (.call 20 [.v 1, .tup [.v 3]])) [.ret (.tup [.v 3])] []], .fo (.n 4) (.v 2) [.fo (.n 5) (.v 2) [.asg 6 (.tup [.v 4, .v 5]), .iff (.and [.cmp .ne (.vr 4) (.vr 5), .cmp .ne (.call 20 [.v 0, .v 6]) (.call 20 [.v 1, .v 6])]) [.ret (.v 6)] []]], .ret (.k (.none))]
/-- weights_of(accept, kinds, kind) -/
def core_51 : List CS := [.ret (.lc (.call 13 [.v 0, .v 2]) (.n 2) (.vr 1) [])]
/-- have_same_order(one, other, kinds, pairs, first, second) -/
def core_52 : List CS := [.asg 2 (.call 42 [.lst [.v 0, .v 1]]), .asg 3 (.bi .srtset [.bin .add (.bi .list [.zp (.call 51 [.v 0, .v 2]) (.call 51 [.v 1, .v 2])]) (.lst [.tup [.k (.int 0), .k (.int 0)]])]), .ret (.bi .all [.lc (.and [.cmp .lt (.ix (.vr 4) (.k (.int 0))) (.ix (.vr 5) (.k (.int 0))), .cmp .lt (.ix (.vr 4) (.k (.int 1))) (.ix (.vr 5) (.k (.int 1)))]) (.t [4, 5]) (.zp (.vr 3) (.sl (.vr 3) [.k (.int 1)] [])) []])]
/-- are_equal(one, other) -/
def core_53 : List CS := [.exp (.call 49 [.v 0, .v 1]), .ret (.call 52 [.v 0, .v 1])]
/-- difference(one, other) -/
def core_54 : List CS := [.exp (.call 49 [.v 0, .v 1]), .ret (.ite (.call 52 [.v 0, .v 1]) (.k (.none)) (.call 50 [.v 0, .v 1]))]
/-- is_difference(one, other, candidate) -/
def core_55 : List CS := [.exp (.call 49 [.v 0, .v 1]), .ret (.and [.call 8 [.v 2], .cmp .ne (.call 20 [.v 0, .v 2]) (.call 20 [.v 1, .v 2])])]
/-- find_only(one, other, kinds, kind) -/
def core_56 : List CS := [.asg 2 (.call 42 [.lst [.v 0, .v 1]]), .ret (.lc (.v 3) (.n 3) (.vr 2) [.and [.cmp .gt (.call 13 [.v 0, .v 3]) (.k (.int 0)), .cmp .eq (.call 13 [.v 1, .v 3]) (.k (.int 0))]])]
/-- accepts_all(one, other) -/
def core_57 : List CS := [.exp (.call 49 [.v 0, .v 1]), .ret (.cmp .eq (.call 56 [.v 1, .v 0]) (.lst []))]
/-- only_accepted(one, other, found) -/
def core_58 : List CS := [.exp (.call 49 [.v 0, .v 1]), .asg 2 (.call 56 [.v 0, .v 1]), .ret (.ite (.cmp .ne (.vr 2) (.lst [])) (.ix (.vr 2) (.k (.int 0))) (.k (.none)))]
/-- is_sure_choice(accept, kind, weight, other, entry) -/
def core_59 : List CS := [.exp (.call 9 [.v 0]), .exp (.call 10 [.v 1]), .asg 2 (.call 13 [.v 0, .v 1]), .iff (.or [.cmp .eq (.vr 2) (.k (.int 0)), .not (.bi .any [.lc (.cmp .eq (.sl (.vr 4) [] [.k (.int 2)]) (.vr 1)) (.n 4) (.vr 0) []])]) [.ret (.k (.bool false))] [], .ret (.bi .all [.lc (.cmp .lt (.call 13 [.v 0, .v 3]) (.vr 2)) (.n 3) (.call 42 [.lst [.v 0]]) [.cmp .ne (.vr 3) (.vr 1)]])]
/-- _law_near(_law_script, _law_at, _law_accept, _law_way, _law_found, _law_group, _law_form, _law_weight_here, _law_place) -/
def core_60 : List CS := [.par [(3, false), (4, true)] [.call 26 [.v 0, .v 1, .k (.int 4)], .lst []], .fo (.t [5, 6, 7]) (.v 2) [.app 4 (.tup [.v 5, .v 6, .ix (.lst [.v 7, .bi .min2 [.bin .mul (.k (.int 3)) (.vr 7), .k (.int 1000)], .bin .div (.vr 7) (.k (.int 2)), .v 7]) (.vr 3)])], .iff (.and [.cmp .eq (.vr 3) (.k (.int 3)), .cmp .ne (.vr 4) (.lst [])]) [.asg 8 (.call 26 [.v 0, .bin .add (.vr 1) (.k (.int 1)), .bi .len [.vr 4]]), .put 4 (.v 8) (.bin .add (.sl (.ix (.vr 4) (.vr 8)) [] [.k (.int 2)]) (.tup [.ix (.lst [.k (.int 0), .k (.int 1), .k (.int 2), .k (.int 5)]) (.call 26 [.v 0, .bin .add (.vr 1) (.k (.int 2)), .k (.int 4)])]))] [], .ret (.bi .tuple [.rev (.vr 4)])]
/-- find_ranks(accept, found, places, place, weight, entry) -/
def core_61 : List CS := [.asg 1 (.call 45 [.v 0]), .asg 2 (.dc (.v 4) (.bin .sub (.bi .len [.vr 1]) (.vr 3)) (.t [3, 4]) (.enm (.vr 1)) []), .ret (.bi .tuple [.lc (.bin .add (.sl (.vr 5) [] [.k (.int 2)]) (.tup [.mth .get2 (.vr 2) [.ix (.vr 5) (.k (.int 2)), .k (.int 0)]])) (.n 5) (.vr 0) []])]
/-- ranks(accept) -/
def core_62 : List CS := [.exp (.call 9 [.v 0]), .ret (.call 61 [.v 0])]
/-- _law_offers(_law_script, _law_one, _law_other, _law_k, _law_offer_here, _law_kind_here) -/
def core_63 : List CS := [.fo (.n 3) (.rng (.k (.int 5))) [.asg 4 (.call 29 [.v 0, .bin .add (.k (.int 120)) (.bin .mul (.k (.int 20)) (.vr 3)), .k (.int 6)]), .iff (.cmp .ne (.cmp .ne (.call 21 [.v 1, .v 4]) (.call 21 [.v 2, .v 4])) (.call 55 [.v 1, .v 2, .v 4])) [.ret (.k (.bool false))] [], .iff (.and [.call 53 [.v 1, .v 2], .cmp .ne (.call 21 [.v 1, .v 4]) (.call 21 [.v 2, .v 4])]) [.ret (.k (.bool false))] [], .fo (.n 5) (.v 4) [.iff (.and [.call 59 [.v 1, .v 5], .cmp .ne (.call 21 [.v 1, .v 4]) (.vr 5)]) [.ret (.k (.bool false))] []]], .ret (.k (.bool true))]
/-- law(_law_script, _law_rows, _law_first, _law_both, _law_one, _law_other, _law_second, _law_told, _law_kind_here, _law_same, _law_third) -/
def core_64 : List CS := [.par [(4, false), (5, false)] [.call 28 [.v 0, .k (.int 10), .k (.int 6)], .call 28 [.v 0, .k (.int 50), .k (.int 6)]], .asg 1 (.lst [.v 4, .v 5, .call 62 [.v 4]]), .fo (.n 2) (.v 1) [.iff (.or [.cmp .isn (.call 53 [.v 2, .v 2]) (.k (.bool true)), .cmp .isn (.call 54 [.v 2, .v 2]) (.k (.none))]) [.ret (.k (.bool false))] [], .iff (.not (.call 57 [.v 2, .v 2])) [.ret (.k (.bool false))] [], .fo (.n 6) (.v 1) [.asg 9 (.call 53 [.v 2, .v 6]), .iff (.or [.cmp .ne (.vr 9) (.call 53 [.v 6, .v 2]), .cmp .ne (.vr 9) (.cmp .is (.call 54 [.v 2, .v 6]) (.k (.none)))]) [.ret (.k (.bool false))] [], .fo (.n 10) (.v 1) [.iff (.and [.vr 9, .cmp .ne (.call 53 [.v 6, .v 10]) (.call 53 [.v 2, .v 10])]) [.ret (.k (.bool false))] [], .iff (.and [.call 57 [.v 2, .v 6], .call 57 [.v 6, .v 10], .not (.call 57 [.v 2, .v 10])]) [.ret (.k (.bool false))] []], .iff (.cmp .ne (.call 57 [.v 2, .v 6]) (.cmp .is (.call 58 [.v 6, .v 2]) (.k (.none)))) [.ret (.k (.bool false))] [], .iff (.and [.vr 9, .not (.call 57 [.v 2, .v 6])]) [.ret (.k (.bool false))] []]], .iff (.or [.not (.call 53 [.v 4, .call 62 [.v 4]]), .not (.call 57 [.tup [.tup [.k (.str ⟨#[42]⟩), .k (.str ⟨#[42]⟩), .k (.int 1)]], .v 4])]) [.ret (.k (.bool false))] [], .iff (.not (.call 57 [.v 4, .tup []])) [.ret (.k (.bool false))] [], .par [(7, false), (8, false)] [.call 54 [.v 4, .v 5], .call 58 [.v 4, .v 5]], .asg 3 (.and [.call 57 [.v 4, .v 5], .call 57 [.v 5, .v 4]]), .iff (.and [.cmp .isn (.vr 7) (.k (.none)), .or [.cmp .ne (.bi .len [.vr 7]) (.ite (.vr 3) (.k (.int 2)) (.k (.int 1))), .not (.call 55 [.v 5, .v 4, .v 7])]]) [.ret (.k (.bool false))] [], .iff (.cmp .isn (.vr 8) (.k (.none))) [.iff (.or [.cmp .eq (.call 15 [.v 4, .v 8]) (.k (.int 0)), .cmp .gt (.call 15 [.v 5, .v 8]) (.k (.int 0)), .not (.call 55 [.v 4, .v 5, .tup [.v 8]])]) [.ret (.k (.bool false))] []] [], .ret (.call 63 [.v 0, .v 4, .v 5])]
/-- broader(place) -/
def core_65 : List CS := [.iff (.cmp .eq (.vr 0) (.tup [.g ⟨#[65, 78, 89]⟩ (.str ⟨#[42]⟩), .g ⟨#[65, 78, 89]⟩ (.str ⟨#[42]⟩)])) [.ret (.lst [])] [], .ret (.ite (.cmp .eq (.ix (.vr 0) (.k (.int 1))) (.g ⟨#[65, 78, 89]⟩ (.str ⟨#[42]⟩))) (.lst [.tup [.g ⟨#[65, 78, 89]⟩ (.str ⟨#[42]⟩), .g ⟨#[65, 78, 89]⟩ (.str ⟨#[42]⟩)]]) (.lst [.tup [.ix (.vr 0) (.k (.int 0)), .g ⟨#[65, 78, 89]⟩ (.str ⟨#[42]⟩)], .tup [.g ⟨#[65, 78, 89]⟩ (.str ⟨#[42]⟩), .g ⟨#[65, 78, 89]⟩ (.str ⟨#[42]⟩)]]))]
/-- is_needless(accept, entry, known, found, other, place) -/
def core_66 : List CS := [.asg 2 (.dc (.sl (.vr 4) [] [.k (.int 2)]) (.ix (.vr 4) (.k (.int 2))) (.n 4) (.vr 0) []), .asg 3 (.lc (.ix (.vr 2) (.vr 5)) (.n 5) (.call 65 [.sl (.vr 1) [] [.k (.int 2)]]) [.cmp .mem (.vr 5) (.vr 2)]), .ret (.cmp .eq (.ix (.vr 1) (.k (.int 2))) (.ite (.cmp .ne (.vr 3) (.lst [])) (.ix (.vr 3) (.k (.int 0))) (.k (.int 0))))]
/-- needless(accept, index, entry) -/
def core_67 : List CS := [.exp (.call 9 [.v 0]), .ret (.lc (.v 1) (.t [1, 2]) (.enm (.vr 0)) [.call 66 [.v 0, .v 2]])]
/-- find_shortest(accept, kept, entry, one, other) -/
def core_68 : List CS := [.asg 1 (.bi .list [.vr 0]), .fo (.n 2) (.srtk (.vr 0) 3 (.tup [.cmp .eq (.ix (.vr 3) (.k (.int 0))) (.g ⟨#[65, 78, 89]⟩ (.str ⟨#[42]⟩)), .cmp .eq (.ix (.vr 3) (.k (.int 1))) (.g ⟨#[65, 78, 89]⟩ (.str ⟨#[42]⟩))])) [.iff (.call 66 [.v 1, .v 2]) [.asg 1 (.lc (.v 4) (.n 4) (.vr 1) [.cmp .ne (.vr 4) (.vr 2)])] []], .ret (.bi .tuple [.bi .sorted [.vr 1]])]
/-- shortest(accept) -/
def core_69 : List CS := [.exp (.call 9 [.v 0]), .ret (.call 68 [.v 0])]
/-- normal_form(accept) -/
def core_70 : List CS := [.exp (.call 9 [.v 0]), .ret (.call 61 [.call 68 [.v 0]])]
/-- with_entry(accept, entry, other) -/
def core_71 : List CS := [.exp (.call 9 [.v 0]), .iff (.not (.call 6 [.v 1])) [.rse ⟨#[73, 110, 118, 97, 108, 105, 100, 69, 110, 116, 114, 121]⟩] [], .iff (.bi .any [.lc (.cmp .eq (.sl (.vr 2) [] [.k (.int 2)]) (.sl (.vr 1) [] [.k (.int 2)])) (.n 2) (.vr 0) []]) [.ret (.bi .tuple [.lc (.ite (.cmp .eq (.sl (.vr 2) [] [.k (.int 2)]) (.sl (.vr 1) [] [.k (.int 2)])) (.v 1) (.v 2)) (.n 2) (.vr 0) []])] [], .iff (.cmp .ge (.bi .len [.vr 0]) (.g ⟨#[77, 65, 88, 95, 69, 78, 84, 82, 73, 69, 83]⟩ (.int 8))) [.rse ⟨#[84, 111, 111, 76, 97, 114, 103, 101]⟩] [], .ret (.bin .add (.vr 0) (.tup [.v 1]))]
/-- _law_ranks(_law_accept, _law_found, _law_entry) -/
def core_72 : List CS := [.asg 1 (.bi .srtset [.lc (.ix (.vr 2) (.k (.int 2))) (.n 2) (.vr 0) [.cmp .gt (.ix (.vr 2) (.k (.int 2))) (.k (.int 0))]]), .ret (.bi .tuple [.lc (.bin .add (.sl (.vr 2) [] [.k (.int 2)]) (.tup [.ite (.cmp .gt (.ix (.vr 2) (.k (.int 2))) (.k (.int 0))) (.bin .add (.mth .index (.vr 1) [.ix (.vr 2) (.k (.int 2))]) (.k (.int 1))) (.k (.int 0))])) (.n 2) (.vr 0) []])]
/-- _law_alike(_law_accept, _law_other, _law_members_here, _law_kind_here) -/
def core_73 : List CS := [.ret (.cmp .eq (.lc (.v 3) (.n 3) (.vr 2) [.cmp .ne (.call 31 [.v 0, .v 3]) (.call 31 [.v 1, .v 3])]) (.lst []))]
/-- _law_members(_law_accepts, _law_accept, _law_found, _law_group, _law_kinds, _law_groups, _law_form, _law_weight, _law_kind_here) -/
def core_74 : List CS := [.par [(4, true), (5, true)] [.lst [], .lst []], .fo (.n 1) (.v 0) [.fo (.t [3, 6, 7]) (.v 1) [.iff (.and [.cmp .ne (.vr 6) (.k (.str ⟨#[42]⟩)), .cmp .nmem (.tup [.v 3, .v 6]) (.vr 4)]) [.app 4 (.tup [.v 3, .v 6])] [], .iff (.and [.cmp .ne (.vr 3) (.k (.str ⟨#[42]⟩)), .cmp .nmem (.vr 3) (.vr 5)]) [.app 5 (.v 3)] []]], .asgN 2 (.bi .list [.vr 4]), .fz [5], .fo (.n 3) (.v 5) [.app 2 (.tup [.v 3, .call 47 [.lc (.ix (.vr 8) (.k (.int 1))) (.n 8) (.vr 4) [.cmp .eq (.ix (.vr 8) (.k (.int 0))) (.vr 3)]]])], .fz [5], .app 2 (.tup [.call 47 [.v 5], .k (.str ⟨#[97]⟩)]), .ret (.bi .sorted [.vr 2])]
/-- least_weight(accepts, kind, accept) -/
def core_75 : List CS := [.ret (.bi .min1 [.lc (.call 13 [.v 2, .v 1]) (.n 2) (.vr 0) []])]
/-- for_all(accepts, found, kind, accept) -/
def core_76 : List CS := [.exp (.call 22 [.v 0]), .asg 1 (.call 42 [.v 0]), .ret (.lc (.v 2) (.n 2) (.vr 1) [.bi .all [.lc (.cmp .gt (.call 13 [.v 3, .v 2]) (.k (.int 0))) (.n 3) (.vr 0) []]])]
/-- are_kinds(value, one, other, kind) -/
def core_77 : List CS := [.iff (.or [.not (.isi (.vr 0) .tuple), .cmp .gt (.bi .len [.vr 0]) (.g ⟨#[77, 65, 88, 95, 75, 73, 78, 68, 83]⟩ (.int 8)), .not (.bi .all [.lc (.call 4 [.v 3]) (.n 3) (.vr 0) []])]) [.ret (.k (.bool false))] [], .ret (.bi .all [.lc (.cmp .lt (.vr 1) (.vr 2)) (.t [1, 2]) (.zp (.vr 0) (.sl (.vr 0) [.k (.int 1)] [])) []])]
/-- is_serving(accepts, kinds, accept, kind) -/
def core_78 : List CS := [.exp (.call 22 [.v 0]), .iff (.not (.call 77 [.v 1])) [.rse ⟨#[73, 110, 118, 97, 108, 105, 100, 75, 105, 110, 100, 115]⟩] [], .ret (.bi .all [.lc (.bi .any [.lc (.cmp .gt (.call 13 [.v 2, .v 3]) (.k (.int 0))) (.n 3) (.vr 1) []]) (.n 2) (.vr 0) []])]
/-- served_by(accepts, kind, place, accept) -/
def core_79 : List CS := [.ret (.bi .tuple [.lc (.v 2) (.t [2, 3]) (.enm (.vr 0)) [.cmp .gt (.call 13 [.v 3, .v 1]) (.k (.int 0))]])]
/-- fewest_kinds(accepts, best, kind, more, served, place, value) -/
def core_80 : List CS := [.exp (.call 22 [.v 0]), .asg 1 (.dsp [.tup []] [.tup []]), .fo (.n 2) (.call 42 [.v 0]) [.asgN 3 (.bi .dict [.vr 1]), .fo (.n 4) (.v 1) [.par [(5, false), (6, false)] [.bi .tuple [.bi .srtset [.bin .add (.vr 4) (.call 79 [.v 0, .v 2])]], .bin .add (.ix (.vr 1) (.vr 4)) (.tup [.v 2])], .iff (.or [.cmp .nmem (.vr 5) (.vr 3), .cmp .lt (.tup [.bi .len [.vr 6], .v 6]) (.tup [.bi .len [.ix (.vr 3) (.vr 5)], .ix (.vr 3) (.vr 5)])]) [.put 3 (.v 5) (.v 6)] []], .fz [3], .asg 1 (.v 3)], .ret (.mth .get1 (.vr 1) [.bi .tuple [.rng (.bi .len [.vr 0])]])]
/-- fairest(accepts, found, most, kind) -/
def core_81 : List CS := [.exp (.call 22 [.v 0]), .asg 1 (.call 42 [.v 0]), .iff (.cmp .eq (.vr 0) (.lst [])) [.ret (.ix (.vr 1) (.k (.int 0)))] [], .asg 2 (.bi .max1 [.lc (.call 75 [.v 0, .v 3]) (.n 3) (.vr 1) []]), .ret (.ite (.cmp .gt (.vr 2) (.k (.int 0))) (.ix (.lc (.v 3) (.n 3) (.vr 1) [.cmp .eq (.call 75 [.v 0, .v 3]) (.vr 2)]) (.k (.int 0))) (.k (.none)))]
/-- find_agreement(accepts, offer, accept) -/
def core_82 : List CS := [.ret (.cmp .le (.bi .lenset [.lc (.call 20 [.v 2, .v 1]) (.n 2) (.vr 0) []]) (.k (.int 1)))]
/-- agree(accepts, offer) -/
def core_83 : List CS := [.exp (.call 22 [.v 0]), .exp (.call 11 [.v 1]), .ret (.call 82 [.v 0, .v 1])]
/-- is_disagreement(accepts, candidate) -/
def core_84 : List CS := [.exp (.call 22 [.v 0]), .ret (.and [.call 8 [.v 1], .not (.call 82 [.v 0, .v 1])])]
/-- _law_fewest(_law_accepts, _law_members_here, _law_rows, _law_size, _law_row, _law_longer, _law_left, _law_accept, _law_kind_here) -/
def core_85 : List CS := [.asg 2 (.lst [.tup []]), .fo (.n 3) (.rng (.bin .add (.bi .len [.vr 0]) (.k (.int 1)))) [.fo (.n 4) (.v 2) [.asg 6 (.lc (.v 7) (.n 7) (.vr 0) [.cmp .eq (.lc (.v 8) (.n 8) (.vr 4) [.cmp .gt (.call 31 [.v 7, .v 8]) (.k (.int 0))]) (.lst [])]), .iff (.cmp .eq (.vr 6) (.lst [])) [.ret (.v 4)] []], .asg 5 (.lst []), .fo (.n 4) (.v 2) [.asg 5 (.bin .add (.vr 5) (.lc (.bin .add (.vr 4) (.tup [.v 8])) (.n 8) (.vr 1) [.or [.cmp .eq (.vr 4) (.tup []), .cmp .gt (.vr 8) (.ix (.vr 4) (.neg (.k (.int 1))))]]))], .asg 2 (.v 5)], .ret (.k (.none))]
/-- _law_disagreed(_law_accepts, _law_members_here, _law_offers, _law_first, _law_offer_here, _law_kind_here, _law_second, _law_accept) -/
def core_86 : List CS := [.asg 2 (.lc (.tup [.v 5]) (.n 5) (.vr 1) []), .fo (.n 3) (.v 1) [.asg 2 (.bin .add (.vr 2) (.lc (.tup [.v 3, .v 6]) (.n 6) (.vr 1) [.cmp .ne (.vr 6) (.vr 3)]))], .fo (.n 4) (.v 2) [.iff (.cmp .gt (.bi .lenset [.lc (.call 36 [.v 7, .v 4]) (.n 7) (.vr 0) []]) (.k (.int 1))) [.ret (.bi .len [.vr 4])] []], .ret (.k (.none))]
/-- is_observation(value) -/
def core_87 : List CS := [.iff (.or [.not (.isi (.vr 0) .tuple), .cmp .ne (.bi .len [.vr 0]) (.k (.int 2)), .not (.call 8 [.ix (.vr 0) (.k (.int 0))])]) [.ret (.k (.bool false))] [], .ret (.or [.cmp .is (.ix (.vr 0) (.k (.int 1))) (.k (.none)), .and [.call 4 [.ix (.vr 0) (.k (.int 1))], .cmp .mem (.ix (.vr 0) (.k (.int 1))) (.ix (.vr 0) (.k (.int 0)))]])]
/-- kinds_in(observations, found, kind, offer, chosen) -/
def core_88 : List CS := [.asg 1 (.dc2 (.v 2) (.k (.bool true)) (.t [3, 4]) (.vr 0) [] (.n 2) (.vr 3) []), .ret (.bi .sorted [.vr 1])]
/-- check_observations(value, one) -/
def core_89 : List CS := [.iff (.or [.not (.isi (.vr 0) .list), .cmp .gt (.bi .len [.vr 0]) (.g ⟨#[77, 65, 88, 95, 79, 66, 83, 69, 82, 86, 69, 68]⟩ (.int 8)), .not (.bi .all [.lc (.call 87 [.v 1]) (.n 1) (.vr 0) []])]) [.rse ⟨#[73, 110, 118, 97, 108, 105, 100, 79, 98, 115, 101, 114, 118, 97, 116, 105, 111, 110, 115]⟩] [], .iff (.cmp .gt (.bi .len [.call 88 [.v 0]]) (.g ⟨#[77, 65, 88, 95, 75, 73, 78, 68, 83]⟩ (.int 8))) [.rse ⟨#[73, 110, 118, 97, 108, 105, 100, 79, 98, 115, 101, 114, 118, 97, 116, 105, 111, 110, 115]⟩] []]
/-- explains_all(accept, observations, offer, chosen) -/
def core_90 : List CS := [.ret (.bi .all [.lc (.cmp .eq (.call 20 [.v 0, .v 2]) (.vr 3)) (.t [2, 3]) (.vr 1) []])]
/-- explains(accept, observations) -/
def core_91 : List CS := [.exp (.call 9 [.v 0]), .exp (.call 89 [.v 1]), .ret (.call 90 [.v 0, .v 1])]
/-- demands(observations, found, kind, offer, chosen, place, index) -/
def core_92 : List CS := [.asgN 1 (.emp), .fo (.n 2) (.call 88 [.v 0]) [.put 1 (.tup [.v 2, .k (.none)]) (.k (.bool false))], .fo (.t [3, 4]) (.v 0) [.asg 5 (.ite (.cmp .isn (.vr 4) (.k (.none))) (.mth .index (.vr 3) [.v 4]) (.k (.int 0))), .fo (.t [6, 2]) (.enm (.v 3)) [.iff (.cmp .is (.vr 4) (.k (.none))) [.put 1 (.tup [.k (.none), .v 2]) (.k (.bool false))] [.iff (.cmp .eq (.vr 2) (.vr 4)) [.put 1 (.tup [.v 4, .k (.none)]) (.k (.bool true))] [.iff (.cmp .lt (.vr 6) (.vr 5)) [.put 1 (.tup [.v 4, .v 2]) (.k (.bool true))] [.put 1 (.tup [.v 4, .v 2]) (.mth .get2 (.vr 1) [.tup [.v 4, .v 2], .k (.bool false)])]]]]], .fz [1], .ret (.v 1)]
/-- shortest_from(edges, start, ways, seen, longer, way, is_more, one, other, more) -/
def core_93 : List CS := [.par [(2, false), (3, true)] [.lst [.tup [.tup [.v 1], .k (.bool false)]], .emp], .whl (.cmp .ne (.vr 2) (.lst [])) [.asgN 4 (.lst []), .fo (.t [5, 6]) (.v 2) [.fo (.t [7, 8]) (.v 0) [.iff (.cmp .eq (.vr 7) (.ix (.vr 5) (.neg (.k (.int 1))))) [.asg 9 (.or [.v 6, .ix (.vr 0) (.tup [.v 7, .v 8])]), .iff (.and [.cmp .eq (.vr 8) (.vr 1), .vr 9]) [.ret (.v 5)] [], .iff (.and [.cmp .nmem (.tup [.v 8, .v 9]) (.vr 3), .cmp .ne (.vr 8) (.vr 1)]) [.put 3 (.tup [.v 8, .v 9]) (.k (.bool true)), .app 4 (.tup [.bin .add (.vr 5) (.tup [.v 8]), .v 9])] []] []]], .fz [4], .asg 2 (.v 4)], .ret (.k (.none))]
/-- find_clash(observations, edges, found, sizes, kind, way) -/
def core_94 : List CS := [.asg 1 (.call 92 [.v 0]), .asg 2 (.lc (.call 93 [.v 1, .v 4]) (.n 4) (.call 88 [.v 0]) []), .asg 2 (.lc (.v 5) (.n 5) (.vr 2) [.cmp .isn (.vr 5) (.k (.none))]), .asg 3 (.lc (.bi .len [.vr 5]) (.n 5) (.vr 2) []), .ret (.ite (.cmp .ne (.vr 2) (.lst [])) (.ix (.vr 2) (.mth .index (.vr 3) [.bi .min1 [.vr 3]])) (.k (.none)))]
/-- find_explanation(observations, weights, turn, edges, kinds, kind, one, other) -/
def core_95 : List CS := [.iff (.cmp .isn (.call 94 [.v 0]) (.k (.none))) [.ret (.k (.none))] [], .par [(3, false), (4, false)] [.call 92 [.v 0], .call 88 [.v 0]], .asgN 1 (.dc (.v 5) (.k (.int 0)) (.n 5) (.vr 4) []), .put 1 (.k (.none)) (.k (.int 0)), .fo (.n 2) (.rng (.bin .add (.bi .len [.vr 4]) (.k (.int 1)))) [.fo (.t [6, 7]) (.v 3) [.put 1 (.v 6) (.bi .max2 [.ix (.vr 1) (.vr 6), .bin .add (.ix (.vr 1) (.vr 7)) (.ite (.ix (.vr 3) (.tup [.v 6, .v 7])) (.k (.int 1)) (.k (.int 0)))])]], .ret (.bi .tuple [.lc (.bin .add (.vr 5) (.tup [.ix (.vr 1) (.vr 5)])) (.n 5) (.vr 4) []])]
/-- explanation(observations) -/
def core_96 : List CS := [.exp (.call 89 [.v 0]), .ret (.call 95 [.v 0])]
/-- clash(observations) -/
def core_97 : List CS := [.exp (.call 89 [.v 0]), .ret (.call 94 [.v 0])]
/-- is_clash(observations, candidate, edges, pairs, pair, item) -/
def core_98 : List CS := [.exp (.call 89 [.v 0]), .iff (.or [.not (.isi (.vr 1) .tuple), .cmp .lt (.bi .len [.vr 1]) (.k (.int 2))]) [.ret (.k (.bool false))] [], .iff (.or [.not (.bi .all [.lc (.or [.cmp .is (.vr 5) (.k (.none)), .call 4 [.v 5]]) (.n 5) (.vr 1) []]), .cmp .ne (.bi .lenset [.vr 1]) (.bi .len [.vr 1])]) [.ret (.k (.bool false))] [], .asg 2 (.call 92 [.v 0]), .asg 3 (.bi .list [.zp (.vr 1) (.bin .add (.sl (.vr 1) [.k (.int 1)] []) (.sl (.vr 1) [] [.k (.int 1)]))]), .ret (.and [.bi .all [.lc (.cmp .mem (.vr 4) (.vr 2)) (.n 4) (.vr 3) []], .bi .any [.lc (.ix (.vr 2) (.vr 4)) (.n 4) (.vr 3) []]])]
/-- _law_pick(_law_script, _law_k, _law_many, _law_cell, _law_drawn, _law_rest, _law_again) -/
def core_99 : List CS := [.asg 3 (.ite (.cmp .ne (.vr 0) (.lst [])) (.ix (.vr 0) (.bin .mod (.vr 1) (.bi .len [.vr 0]))) (.k (.int 0))), .par [(5, false), (6, false)] [.bin .div (.vr 3) (.bin .pow (.k (.int 10)) (.k (.int 18))), .bin .div (.vr 1) (.bi .max2 [.bi .len [.vr 0], .k (.int 1)])], .whl (.and [.cmp .gt (.vr 5) (.k (.int 0)), .cmp .gt (.vr 6) (.k (.int 0))]) [.par [(5, false), (6, false)] [.bin .div (.vr 5) (.k (.int 840)), .bin .sub (.vr 6) (.k (.int 1))]], .iff (.cmp .gt (.vr 5) (.k (.int 0))) [.ret (.bin .mod (.bin .mod (.vr 5) (.k (.int 840))) (.vr 2))] [], .asg 4 (.bin .mod (.bin .mul (.bin .add (.bin .mul (.vr 3) (.k (.int 31))) (.bin .mul (.k (.int 6151)) (.bin .add (.vr 1) (.k (.int 1))))) (.k (.int 40692))) (.k (.int 2147483399))), .ret (.bin .mod (.bin .mod (.bin .add (.bin .mul (.vr 4) (.vr 4)) (.bin .div (.vr 4) (.k (.int 31)))) (.k (.int 2147483629))) (.vr 2))]
/-- _law_kind(_law_script, _law_place) -/
def core_100 : List CS := [.ret (.tup [.ix (.tup [.k (.str ⟨#[97]⟩), .k (.str ⟨#[98]⟩), .k (.str ⟨#[99]⟩)]) (.call 99 [.v 0, .v 1, .k (.int 3)]), .ix (.tup [.k (.str ⟨#[120]⟩), .k (.str ⟨#[121]⟩), .k (.str ⟨#[122]⟩)]) (.call 99 [.v 0, .bin .add (.vr 1) (.k (.int 1)), .k (.int 3)])])]
/-- _law_accept(_law_script, _law_place, _law_found, _law_i, _law_at, _law_part, _law_weight_here, _law_kind_here, _law_sort, _law_entry) -/
def core_101 : List CS := [.asgN 2 (.lst []), .fo (.n 3) (.rng (.call 99 [.v 0, .v 1, .k (.int 6)])) [.asg 4 (.bin .add (.bin .add (.vr 1) (.k (.int 1))) (.bin .mul (.k (.int 4)) (.vr 3))), .par [(7, false), (8, false)] [.call 100 [.v 0, .v 4], .call 99 [.v 0, .bin .add (.vr 4) (.k (.int 2)), .k (.int 6)]], .asg 5 (.ite (.cmp .lt (.vr 8) (.k (.int 3))) (.v 7) (.ite (.cmp .lt (.vr 8) (.k (.int 5))) (.tup [.ix (.vr 7) (.k (.int 0)), .k (.str ⟨#[42]⟩)]) (.tup [.k (.str ⟨#[42]⟩), .k (.str ⟨#[42]⟩)]))), .asg 6 (.ix (.tup [.k (.int 0), .k (.int 100), .k (.int 200), .k (.int 300), .k (.int 500), .k (.int 1000)]) (.call 99 [.v 0, .bin .add (.vr 4) (.k (.int 3)), .k (.int 6)])), .iff (.cmp .nmem (.vr 5) (.lc (.sl (.vr 9) [] [.k (.int 2)]) (.n 9) (.vr 2) [])) [.app 2 (.bin .add (.vr 5) (.tup [.v 6]))] []], .ret (.bi .tuple [.vr 2])]
/-- _law_offer(_law_script, _law_place, _law_most, _law_found, _law_i, _law_kind_here) -/
def core_102 : List CS := [.asgN 3 (.lst []), .fo (.n 4) (.rng (.call 99 [.v 0, .v 1, .bin .add (.vr 2) (.k (.int 1))])) [.asg 5 (.call 100 [.v 0, .bin .add (.bin .add (.vr 1) (.k (.int 1))) (.bin .mul (.k (.int 2)) (.vr 4))]), .iff (.cmp .nmem (.vr 5) (.vr 3)) [.app 3 (.v 5)] []], .ret (.bi .tuple [.vr 3])]
/-- _law_weight(_law_accept_here, _law_kind_here, _law_known, _law_group, _law_form, _law_weight_here) -/
def core_103 : List CS := [.asgN 2 (.emp), .fo (.t [3, 4, 5]) (.v 0) [.put 2 (.tup [.v 3, .v 4]) (.v 5)], .ret (.mth .get2 (.vr 2) [.v 1, .mth .get2 (.vr 2) [.tup [.ix (.vr 1) (.k (.int 0)), .k (.str ⟨#[42]⟩)], .mth .get2 (.vr 2) [.tup [.k (.str ⟨#[42]⟩), .k (.str ⟨#[42]⟩)], .k (.int 0)]]])]
/-- _law_choice(_law_accept_here, _law_offer_here, _law_kind_here, _law_best, _law_most) -/
def core_104 : List CS := [.unp [3, 4] (.tup [.k (.none), .k (.int 0)]), .fo (.n 2) (.v 1) [.iff (.cmp .gt (.call 103 [.v 0, .v 2]) (.vr 4)) [.par [(3, false), (4, false)] [.v 2, .call 103 [.v 0, .v 2]]] []], .ret (.v 3)]
/-- _law_observed(_law_script, _law_place, _law_most, _law_i, _law_accept_here, _law_found, _law_offer_here, _law_chosen, _law_kind_here) -/
def core_105 : List CS := [.par [(4, false), (5, true)] [.call 101 [.v 0, .v 1], .lst []], .fo (.n 3) (.rng (.call 99 [.v 0, .bin .add (.vr 1) (.k (.int 25)), .bin .add (.vr 2) (.k (.int 1))])) [.asg 6 (.sl (.call 102 [.v 0, .bin .add (.bin .add (.vr 1) (.k (.int 30))) (.bin .mul (.k (.int 12)) (.vr 3)), .k (.int 4)]) [] [.k (.int 4)]), .asg 6 (.bi .tuple [.lc (.v 8) (.n 8) (.vr 6) [.and [.cmp .ne (.ix (.vr 8) (.k (.int 0))) (.k (.str ⟨#[99]⟩)), .cmp .ne (.ix (.vr 8) (.k (.int 1))) (.k (.str ⟨#[122]⟩))]]]), .asg 7 (.call 104 [.v 4, .v 6]), .iff (.cmp .eq (.call 99 [.v 0, .bin .add (.bin .add (.vr 1) (.k (.int 41))) (.bin .mul (.k (.int 12)) (.vr 3)), .k (.int 5)]) (.k (.int 0))) [.asg 7 (.ix (.bin .add (.vr 6) (.tup [.k (.none)])) (.call 99 [.v 0, .bin .add (.vr 1) (.k (.int 29)), .bin .add (.bi .len [.vr 6]) (.k (.int 1))]))] [], .app 5 (.tup [.v 6, .v 7])], .fz [5], .ret (.v 5)]
/-- _law_edges(_law_observations, _law_edges_here, _law_offer_here, _law_chosen, _law_kind_here, _law_before) -/
def core_106 : List CS := [.asgN 1 (.emp), .fo (.t [2, 3]) (.v 0) [.fo (.n 4) (.v 2) [.put 1 (.tup [.v 4, .k (.none)]) (.mth .get2 (.vr 1) [.tup [.v 4, .k (.none)], .k (.bool false)]), .iff (.cmp .is (.vr 3) (.k (.none))) [.put 1 (.tup [.k (.none), .v 4]) (.k (.bool false))] [.iff (.cmp .eq (.vr 4) (.vr 3)) [.put 1 (.tup [.v 4, .k (.none)]) (.k (.bool true))] [.asg 5 (.cmp .lt (.mth .index (.vr 2) [.v 4]) (.mth .index (.vr 2) [.v 3])), .put 1 (.tup [.v 3, .v 4]) (.or [.v 5, .mth .get2 (.vr 1) [.tup [.v 3, .v 4], .k (.bool false)]])]]]], .fz [1], .ret (.v 1)]
/-- predictions(observations, offer, kind) -/
def core_107 : List CS := [.exp (.call 89 [.v 0]), .exp (.call 11 [.v 1]), .iff (.or [.cmp .ge (.bi .len [.vr 0]) (.g ⟨#[77, 65, 88, 95, 79, 66, 83, 69, 82, 86, 69, 68]⟩ (.int 8)), .cmp .gt (.bi .len [.call 88 [.bin .add (.vr 0) (.lst [.tup [.v 1, .k (.none)]])]]) (.g ⟨#[77, 65, 88, 95, 75, 73, 78, 68, 83]⟩ (.int 8))]) [.rse ⟨#[84, 111, 111, 76, 97, 114, 103, 101]⟩] [], .ret (.lc (.v 2) (.n 2) (.bin .add (.vr 1) (.tup [.k (.none)])) [.cmp .is (.call 94 [.bin .add (.vr 0) (.lst [.tup [.v 1, .v 2]])]) (.k (.none))])]
/-- is_row(value) -/
def core_108 : List CS := [.ret (.and [.isi (.vr 0) .tuple, .cmp .eq (.bi .len [.vr 0]) (.k (.int 2)), .call 4 [.ix (.vr 0) (.k (.int 0))], .call 1 [.ix (.vr 0) (.k (.int 1)), .k (.int 0), .g ⟨#[77, 65, 88, 95, 87, 69, 73, 71, 72, 84]⟩ (.int 1000)]])]
/-- is_server(value, row, kind, quality) -/
def core_109 : List CS := [.iff (.or [.not (.isi (.vr 0) .tuple), .cmp .gt (.bi .len [.vr 0]) (.g ⟨#[77, 65, 88, 95, 79, 70, 70, 69, 82]⟩ (.int 6)), .not (.bi .all [.lc (.call 108 [.v 1]) (.n 1) (.vr 0) []])]) [.ret (.k (.bool false))] [], .ret (.cmp .eq (.bi .lenset [.lc (.v 2) (.t [2, 3]) (.vr 0) []]) (.bi .len [.vr 0]))]
/-- find_served(accept, server, best, most, kind, quality, product) -/
def core_110 : List CS := [.unp [2, 3] (.tup [.k (.none), .k (.int 0)]), .fo (.t [4, 5]) (.v 1) [.asg 6 (.bin .mul (.call 13 [.v 0, .v 4]) (.vr 5)), .iff (.cmp .gt (.vr 6) (.vr 3)) [.par [(2, false), (3, false)] [.v 4, .v 6]] []], .ret (.v 2)]
/-- served(accept, server) -/
def core_111 : List CS := [.exp (.call 9 [.v 0]), .iff (.not (.call 109 [.v 1])) [.rse ⟨#[73, 110, 118, 97, 108, 105, 100, 83, 101, 114, 118, 101, 114]⟩] [], .ret (.call 110 [.v 0, .v 1])]
/-- check_pair(one, other) -/
def core_112 : List CS := [.exp (.call 9 [.v 0]), .exp (.call 9 [.v 1])]
/-- weights_of(one, other, kinds, kind) -/
def core_113 : List CS := [.asg 2 (.call 42 [.lst [.v 0, .v 1]]), .ret (.lc (.tup [.v 3, .call 13 [.v 0, .v 3], .call 13 [.v 1, .v 3]]) (.n 3) (.vr 2) [])]
/-- divisor(one, other) -/
def core_114 : List CS := [.whl (.cmp .ne (.vr 1) (.k (.int 0))) [.par [(0, false), (1, false)] [.v 1, .bin .mod (.vr 0) (.vr 1)]], .ret (.v 0)]
/-- find_parting(one, other, rows, kind, left, right, row, first, low, high, common, pair) -/
def core_115 : List CS := [.asg 2 (.call 113 [.v 0, .v 1]), .fo (.t [3, 4, 5]) (.v 2) [.iff (.cmp .ne (.cmp .eq (.vr 4) (.k (.int 0))) (.cmp .eq (.vr 5) (.k (.int 0)))) [.ret (.tup [.tup [.v 3, .k (.int 1)]])] []], .asg 2 (.lc (.v 6) (.n 6) (.vr 2) [.cmp .gt (.ix (.vr 6) (.k (.int 1))) (.k (.int 0))]), .fo (.t [3, 4, 5]) (.sl (.vr 2) [.k (.int 1)] []) [.unp [7, 8, 9] (.ix (.vr 2) (.k (.int 0))), .iff (.cmp .ne (.bin .mul (.vr 4) (.vr 9)) (.bin .mul (.vr 5) (.vr 8))) [.asg 10 (.call 114 [.v 4, .v 8]), .asg 11 (.tup [.tup [.v 7, .bin .div (.vr 4) (.vr 10)], .tup [.v 3, .bin .div (.vr 8) (.vr 10)]]), .ret (.ite (.cmp .lt (.bin .mul (.vr 4) (.vr 9)) (.bin .mul (.vr 5) (.vr 8))) (.v 11) (.rev (.vr 11)))] []], .ret (.k (.none))]
/-- are_proportional(one, other) -/
def core_116 : List CS := [.exp (.call 112 [.v 0, .v 1]), .ret (.cmp .is (.call 115 [.v 0, .v 1]) (.k (.none)))]
/-- parting_server(one, other) -/
def core_117 : List CS := [.exp (.call 112 [.v 0, .v 1]), .ret (.call 115 [.v 0, .v 1])]
/-- is_parting_server(one, other, candidate) -/
def core_118 : List CS := [.exp (.call 112 [.v 0, .v 1]), .ret (.and [.call 109 [.v 2], .cmp .ne (.call 110 [.v 0, .v 2]) (.call 110 [.v 1, .v 2])])]
/-- _law_changed(_law_script, _law_place, _law_accept_here, _law_found, _law_at, _law_group, _law_form, _law_weight_here) -/
def core_119 : List CS := [.asgN 3 (.bi .list [.vr 2]), .iff (.cmp .ne (.vr 3) (.lst [])) [.asg 4 (.call 99 [.v 0, .v 1, .bi .len [.vr 3]]), .unp [5, 6, 7] (.ix (.vr 3) (.vr 4)), .put 3 (.v 4) (.tup [.v 5, .v 6, .ite (.cmp .eq (.vr 7) (.k (.int 0))) (.k (.int 0)) (.ix (.tup [.k (.int 50), .k (.int 150), .k (.int 250), .k (.int 400), .k (.int 900)]) (.call 99 [.v 0, .bin .add (.vr 1) (.k (.int 1)), .k (.int 5)]))])] [], .ret (.bi .tuple [.vr 3])]
/-- _law_kinds(_law_found, _law_group, _law_form) -/
def core_120 : List CS := [.asgN 0 (.lst []), .fo (.n 1) (.tup [.k (.str ⟨#[97]⟩), .k (.str ⟨#[98]⟩), .k (.str ⟨#[99]⟩), .k (.str ⟨#[100]⟩), .k (.str ⟨#[101]⟩)]) [.ext 0 (.lc (.tup [.v 1, .v 2]) (.n 2) (.tup [.k (.str ⟨#[119]⟩), .k (.str ⟨#[120]⟩), .k (.str ⟨#[121]⟩), .k (.str ⟨#[122]⟩)]) [])], .fz [0], .ret (.v 0)]
/-- _law_served(_law_accept_here, _law_server_here, _law_best, _law_most, _law_kind_here, _law_quality) -/
def core_121 : List CS := [.unp [2, 3] (.tup [.k (.none), .k (.int 0)]), .fo (.t [4, 5]) (.v 1) [.iff (.cmp .gt (.bin .mul (.call 103 [.v 0, .v 4]) (.vr 5)) (.vr 3)) [.par [(2, false), (3, false)] [.v 4, .bin .mul (.call 103 [.v 0, .v 4]) (.vr 5)]] []], .ret (.v 2)]
/-- _law_server(_law_script, _law_place, _law_found, _law_i, _law_kind_here, _law_row) -/
def core_122 : List CS := [.asgN 2 (.lst []), .fo (.n 3) (.rng (.call 99 [.v 0, .v 1, .k (.int 6)])) [.asg 4 (.call 100 [.v 0, .bin .add (.bin .add (.vr 1) (.k (.int 1))) (.bin .mul (.k (.int 3)) (.vr 3))]), .iff (.cmp .nmem (.vr 4) (.lc (.ix (.vr 5) (.k (.int 0))) (.n 5) (.vr 2) [])) [.app 2 (.tup [.v 4, .ix (.tup [.k (.int 0), .k (.int 1), .k (.int 2), .k (.int 100), .k (.int 500), .k (.int 1000), .k (.int 3)]) (.call 99 [.v 0, .bin .add (.bin .add (.vr 1) (.k (.int 3))) (.bin .mul (.k (.int 3)) (.vr 3)), .k (.int 7)])])] []], .ret (.bi .tuple [.vr 2])]
/-- _law_times(_law_accept_here, _law_by, _law_group, _law_form, _law_weight_here) -/
def core_123 : List CS := [.ret (.bi .tuple [.lc (.tup [.v 2, .v 3, .bin .div (.vr 4) (.vr 1)]) (.t [2, 3, 4]) (.vr 0) []])]
/-- law(_law_script, _law_i, _law_one, _law_other, _law_sort, _law_rows, _law_same, _law_due, _law_server_here, _law_j, _law_odd, _law_left, _law_right, _law_drawn, _law_kind_here, _law_value, _law_high, _law_low) -/
def core_124 : List CS := [.fo (.n 1) (.rng (.k (.int 3))) [.asg 2 (.call 101 [.v 0, .bin .mul (.k (.int 100)) (.vr 1)]), .asg 3 (.call 123 [.v 2, .ix (.tup [.k (.int 10), .k (.int 100), .k (.int 1), .k (.int 50)]) (.call 99 [.v 0, .bin .add (.bin .mul (.k (.int 100)) (.vr 1)) (.k (.int 30)), .k (.int 4)])]), .asg 4 (.call 99 [.v 0, .bin .add (.bin .mul (.k (.int 100)) (.vr 1)) (.k (.int 31)), .k (.int 4)]), .iff (.cmp .eq (.vr 4) (.k (.int 0))) [.asg 3 (.call 101 [.v 0, .bin .add (.bin .mul (.k (.int 100)) (.vr 1)) (.k (.int 32))])] [.iff (.cmp .lt (.vr 4) (.k (.int 3))) [.asg 3 (.call 119 [.v 0, .bin .add (.bin .mul (.k (.int 100)) (.vr 1)) (.k (.int 60)), .v 2])] []], .asg 5 (.lc (.tup [.call 103 [.v 2, .v 14], .call 103 [.v 3, .v 14]]) (.n 14) (.call 120 []) []), .asg 6 (.bi .all [.lc (.cmp .eq (.cmp .eq (.vr 11) (.k (.int 0))) (.cmp .eq (.vr 12) (.k (.int 0)))) (.t [11, 12]) (.vr 5) []]), .asg 7 (.v 6), .fo (.t [11, 12]) (.v 5) [.asg 7 (.and [.v 7, .bi .all [.lc (.cmp .eq (.bin .mul (.vr 11) (.vr 17)) (.bin .mul (.vr 12) (.vr 16))) (.t [16, 17]) (.vr 5) []]])], .iff (.cmp .ne (.call 116 [.v 2, .v 3]) (.vr 7)) [.ret (.k (.bool false))] [], .asg 8 (.call 117 [.v 2, .v 3]), .iff (.cmp .ne (.cmp .is (.vr 8) (.k (.none))) (.vr 7)) [.ret (.k (.bool false))] [], .iff (.not (.vr 7)) [.iff (.or [.cmp .isn (.call 118 [.v 2, .v 3, .v 8]) (.k (.bool true)), .cmp .ne (.bi .len [.vr 8]) (.ite (.vr 6) (.k (.int 2)) (.k (.int 1)))]) [.ret (.k (.bool false))] [], .iff (.cmp .eq (.call 121 [.v 2, .v 8]) (.call 121 [.v 3, .v 8])) [.ret (.k (.bool false))] []] [], .fo (.n 9) (.rng (.k (.int 4))) [.asg 13 (.call 122 [.v 0, .bin .add (.bin .add (.bin .mul (.k (.int 100)) (.vr 1)) (.k (.int 300))) (.bin .mul (.k (.int 25)) (.vr 9))]), .unp [11, 12] (.tup [.call 121 [.v 2, .v 13], .call 121 [.v 3, .v 13]]), .iff (.or [.cmp .ne (.call 111 [.v 2, .v 13]) (.vr 11), .and [.vr 7, .cmp .ne (.vr 11) (.vr 12)]]) [.ret (.k (.bool false))] [], .iff (.cmp .ne (.call 118 [.v 2, .v 3, .v 13]) (.cmp .ne (.vr 11) (.vr 12))) [.ret (.k (.bool false))] []], .asgN 10 (.lst [.k (.none), .lst [], .k (.str ⟨#[97]⟩), .tup [.tup [.k (.str ⟨#[97]⟩), .k (.str ⟨#[120]⟩)]], .tup [.tup [.tup [.k (.str ⟨#[97]⟩), .k (.str ⟨#[120]⟩)], .k (.int 1001)]], .tup [.tup [.tup [.k (.str ⟨#[97]⟩), .k (.str ⟨#[42]⟩)], .k (.int 1)]]]), .ext 10 (.lst [.tup [.tup [.tup [.k (.str ⟨#[97]⟩), .k (.str ⟨#[120]⟩)], .k (.int 1)], .tup [.tup [.k (.str ⟨#[97]⟩), .k (.str ⟨#[120]⟩)], .k (.int 2)]], .tup [.tup [.tup [.k (.str ⟨#[97]⟩), .k (.str ⟨#[120]⟩)], .k (.bool true)]]]), .iff (.bi .any [.lc (.cmp .isn (.call 118 [.v 2, .v 3, .v 15]) (.k (.bool false))) (.n 15) (.vr 10) []]) [.ret (.k (.bool false))] []], .ret (.cmp .is (.call 111 [.tup [], .tup [.tup [.tup [.k (.str ⟨#[97]⟩), .k (.str ⟨#[120]⟩)], .k (.int 1000)]]]) (.k (.none)))]
/-- lowest_terms(accept, entry, found, common) -/
def core_125 : List CS := [.exp (.call 9 [.v 0]), .unp [2, 3] (.tup [.call 68 [.v 0], .k (.int 0)]), .fo (.n 1) (.v 2) [.asg 3 (.call 114 [.v 3, .ix (.vr 1) (.k (.int 2))])], .ret (.bi .tuple [.lc (.bin .add (.sl (.vr 1) [] [.k (.int 2)]) (.tup [.bin .div (.ix (.vr 1) (.k (.int 2))) (.bi .max2 [.vr 3, .k (.int 1)])])) (.n 1) (.vr 2) []])]
/-- _law_accept(_law_script, _law_place, _law_found, _law_i, _law_at, _law_part, _law_weight, _law_kind_here, _law_sort, _law_entry) -/
def core_126 : List CS := [.asgN 2 (.lst []), .fo (.n 3) (.rng (.call 99 [.v 0, .v 1, .k (.int 6)])) [.asg 4 (.bin .add (.bin .add (.vr 1) (.k (.int 1))) (.bin .mul (.k (.int 4)) (.vr 3))), .par [(7, false), (8, false)] [.call 100 [.v 0, .v 4], .call 99 [.v 0, .bin .add (.vr 4) (.k (.int 2)), .k (.int 6)]], .asg 5 (.ite (.cmp .lt (.vr 8) (.k (.int 3))) (.v 7) (.ite (.cmp .lt (.vr 8) (.k (.int 5))) (.tup [.ix (.vr 7) (.k (.int 0)), .k (.str ⟨#[42]⟩)]) (.tup [.k (.str ⟨#[42]⟩), .k (.str ⟨#[42]⟩)]))), .asg 6 (.ix (.tup [.k (.int 0), .k (.int 100), .k (.int 200), .k (.int 300), .k (.int 500), .k (.int 1000)]) (.call 99 [.v 0, .bin .add (.vr 4) (.k (.int 3)), .k (.int 6)])), .iff (.cmp .nmem (.vr 5) (.lc (.sl (.vr 9) [] [.k (.int 2)]) (.n 9) (.vr 2) [])) [.app 2 (.bin .add (.vr 5) (.tup [.v 6]))] []], .ret (.bi .tuple [.vr 2])]
/-- law(_law_script, _law_i, _law_low, _law_parts, _law_weights, _law_one, _law_other, _law_entry, _law_by, _law_group, _law_form, _law_weight) -/
def core_127 : List CS := [.fo (.n 1) (.rng (.k (.int 4))) [.par [(5, false), (6, false)] [.call 126 [.v 0, .bin .mul (.k (.int 60)) (.vr 1)], .call 126 [.v 0, .bin .add (.bin .mul (.k (.int 60)) (.vr 1)) (.k (.int 30))]], .iff (.cmp .eq (.call 99 [.v 0, .bin .add (.bin .mul (.k (.int 60)) (.vr 1)) (.k (.int 59)), .k (.int 2)]) (.k (.int 0))) [.asg 6 (.bi .tuple [.lc (.tup [.v 9, .v 10, .bin .div (.vr 11) (.k (.int 20))]) (.t [9, 10, 11]) (.rev (.vr 5)) []])] [], .asg 2 (.call 125 [.v 5]), .asg 3 (.lc (.sl (.vr 7) [] [.k (.int 2)]) (.n 7) (.call 69 [.v 5]) []), .iff (.or [.not (.call 7 [.v 2]), .cmp .ne (.lc (.sl (.vr 7) [] [.k (.int 2)]) (.n 7) (.vr 2) []) (.vr 3)]) [.ret (.k (.bool false))] [], .asg 4 (.lc (.ix (.vr 7) (.k (.int 2))) (.n 7) (.vr 2) [.cmp .gt (.ix (.vr 7) (.k (.int 2))) (.k (.int 0))]), .iff (.bi .any [.lc (.bi .all [.lc (.cmp .eq (.bin .mod (.vr 11) (.vr 8)) (.k (.int 0))) (.n 11) (.vr 4) []]) (.n 8) (.rng2 (.k (.int 2)) (.k (.int 1001))) [.cmp .ne (.vr 4) (.lst [])]]) [.ret (.k (.bool false))] [], .iff (.or [.cmp .isn (.call 116 [.v 5, .v 2]) (.k (.bool true)), .cmp .ne (.call 125 [.v 2]) (.vr 2)]) [.ret (.k (.bool false))] [], .iff (.cmp .ne (.cmp .eq (.call 125 [.v 6]) (.vr 2)) (.call 116 [.v 5, .v 6])) [.ret (.k (.bool false))] []], .ret (.and [.cmp .eq (.call 125 [.tup []]) (.tup []), .cmp .eq (.call 125 [.tup [.tup [.k (.str ⟨#[97]⟩), .k (.str ⟨#[120]⟩), .k (.int 0)], .tup [.k (.str ⟨#[97]⟩), .k (.str ⟨#[42]⟩), .k (.int 7)]]]) (.tup [.tup [.k (.str ⟨#[97]⟩), .k (.str ⟨#[42]⟩), .k (.int 1)], .tup [.k (.str ⟨#[97]⟩), .k (.str ⟨#[120]⟩), .k (.int 0)]])])]
/-- is_record(value) -/
def core_128 : List CS := [.ret (.and [.isi (.vr 0) .tuple, .cmp .eq (.bi .len [.vr 0]) (.k (.int 2)), .call 7 [.ix (.vr 0) (.k (.int 0))], .call 4 [.ix (.vr 0) (.k (.int 1))]])]
/-- check_records(value, one) -/
def core_129 : List CS := [.iff (.or [.not (.isi (.vr 0) .list), .not (.ch .le .le (.k (.int 1)) (.bi .len [.vr 0]) (.g ⟨#[77, 65, 88, 95, 82, 69, 67, 79, 82, 68, 83]⟩ (.int 4))), .not (.bi .all [.lc (.call 128 [.v 1]) (.n 1) (.vr 0) []])]) [.rse ⟨#[73, 110, 118, 97, 108, 105, 100, 82, 101, 99, 111, 114, 100, 115]⟩] []]
/-- fits(records, offer, accept, kind) -/
def core_130 : List CS := [.ret (.bi .all [.lc (.cmp .eq (.call 20 [.v 2, .v 1]) (.vr 3)) (.t [2, 3]) (.vr 0) []])]
/-- orders(kinds, found, count, order, kind) -/
def core_131 : List CS := [.asg 1 (.lst [.tup []]), .fo (.n 2) (.rng (.bi .len [.vr 0])) [.asg 1 (.lc2 (.bin .add (.vr 3) (.tup [.v 4])) (.n 3) (.vr 1) [] (.n 4) (.vr 0) [.cmp .nmem (.vr 4) (.vr 3)])], .ret (.v 1)]
/-- recorded(records, accept, kind) -/
def core_132 : List CS := [.ret (.bi .srtset [.lc (.v 2) (.t [1, 2]) (.vr 0) []])]
/-- smallest_offers(records, offer) -/
def core_133 : List CS := [.ret (.lc (.v 1) (.n 1) (.call 131 [.call 132 [.v 0]]) [.call 130 [.v 0, .v 1]])]
/-- possible_offer(records, found) -/
def core_134 : List CS := [.exp (.call 129 [.v 0]), .asg 1 (.call 133 [.v 0]), .ret (.ite (.cmp .ne (.vr 1) (.lst [])) (.ix (.vr 1) (.k (.int 0))) (.k (.none)))]
/-- more_kinds(records, accept, used, found, group, accepts, known, kinds, groups, kind, one) -/
def core_135 : List CS := [.unp [5, 6] (.tup [.bin .add (.lc (.v 10) (.t [10, 9]) (.vr 0) []) (.lst [.v 1]), .call 132 [.v 0]]), .par [(7, false), (8, false)] [.call 39 [.v 5], .call 40 [.v 5]], .asg 2 (.dc (.ix (.vr 9) (.k (.int 0))) (.k (.bool true)) (.n 9) (.vr 6) []), .asgN 3 (.lc (.v 9) (.n 9) (.vr 7) [.cmp .nmem (.vr 9) (.vr 6)]), .fo (.n 4) (.v 8) [.app 3 (.tup [.v 4, .call 38 [.lc (.ix (.vr 9) (.k (.int 1))) (.n 9) (.bin .add (.vr 7) (.vr 6)) [.cmp .eq (.ix (.vr 9) (.k (.int 0))) (.vr 4)]]])], .ret (.bin .add (.vr 3) (.lst [.tup [.call 38 [.bin .add (.vr 8) (.bi .list [.vr 2])], .ix (.g ⟨#[76, 69, 84, 84, 69, 82, 83]⟩ (.str ⟨#[97, 98, 99, 100, 101, 102, 103, 104, 105, 106, 107, 108, 109, 110, 111, 112, 113, 114, 115, 116, 117, 118, 119, 120, 121, 122]⟩)) (.k (.int 0))]]))]
/-- find_offers(records, accept, offer, kind, found, known) -/
def core_136 : List CS := [.par [(4, true), (5, false)] [.emp, .call 132 [.v 0]], .fo (.n 2) (.call 133 [.v 0]) [.put 4 (.call 20 [.v 1, .v 2]) (.v 2)], .fo (.n 3) (.call 135 [.v 0, .v 1]) [.fo (.n 2) (.call 131 [.bin .add (.vr 5) (.lst [.v 3])]) [.iff (.call 130 [.v 0, .v 2]) [.put 4 (.call 20 [.v 1, .v 2]) (.v 2)] []]], .fz [4], .ret (.v 4)]
/-- check_all(records, accept) -/
def core_137 : List CS := [.exp (.call 129 [.v 0]), .exp (.call 9 [.v 1]), .iff (.cmp .eq (.call 133 [.v 0]) (.lst [])) [.rse ⟨#[67, 111, 110, 116, 114, 97, 100, 105, 99, 116, 105, 111, 110]⟩] []]
/-- is_settled(records, accept) -/
def core_138 : List CS := [.exp (.call 137 [.v 0, .v 1]), .ret (.cmp .eq (.bi .len [.call 136 [.v 0, .v 1]]) (.k (.int 1)))]
/-- settled_choice(records, accept, found) -/
def core_139 : List CS := [.exp (.call 137 [.v 0, .v 1]), .asg 2 (.bi .list [.call 136 [.v 0, .v 1]]), .iff (.cmp .ne (.bi .len [.vr 2]) (.k (.int 1))) [.rse ⟨#[85, 110, 115, 101, 116, 116, 108, 101, 100]⟩] [], .ret (.ix (.vr 2) (.k (.int 0)))]
/-- are_doubtful_offers(records, accept, candidate, offer) -/
def core_140 : List CS := [.exp (.call 137 [.v 0, .v 1]), .iff (.or [.not (.isi (.vr 2) .tuple), .cmp .ne (.bi .len [.vr 2]) (.k (.int 2)), .not (.bi .all [.lc (.call 8 [.v 3]) (.n 3) (.vr 2) []])]) [.ret (.k (.bool false))] [], .iff (.not (.bi .all [.lc (.call 130 [.v 0, .v 3]) (.n 3) (.vr 2) []])) [.ret (.k (.bool false))] [], .ret (.cmp .ne (.call 20 [.v 1, .ix (.vr 2) (.k (.int 0))]) (.call 20 [.v 1, .ix (.vr 2) (.k (.int 1))]))]
/-- _law_orders(_law_kinds_here, _law_found, _law_i, _law_longer, _law_order, _law_kind_here) -/
def core_141 : List CS := [.asg 1 (.lst [.tup []]), .fo (.n 2) (.rng (.bi .len [.vr 0])) [.asgN 3 (.lst []), .fo (.n 4) (.v 1) [.ext 3 (.lc (.bin .add (.vr 4) (.tup [.v 5])) (.n 5) (.vr 0) [.cmp .nmem (.vr 5) (.vr 4)])], .fz [3], .asg 1 (.v 3)], .ret (.v 1)]
/-- _law_records(_law_script, _law_place, _law_i, _law_offer_here, _law_found, _law_accept_here, _law_kind_here) -/
def core_142 : List CS := [.par [(3, false), (4, true)] [.call 102 [.v 0, .v 1, .k (.int 5)], .lst []], .fo (.n 2) (.rng (.bin .add (.k (.int 1)) (.call 99 [.v 0, .bin .add (.vr 1) (.k (.int 12)), .k (.int 2)]))) [.asg 5 (.call 101 [.v 0, .bin .add (.bin .add (.vr 1) (.k (.int 20))) (.bin .mul (.k (.int 30)) (.vr 2))]), .asg 6 (.call 104 [.v 5, .v 3]), .iff (.or [.cmp .is (.vr 6) (.k (.none)), .cmp .eq (.call 99 [.v 0, .bin .add (.bin .add (.vr 1) (.k (.int 13))) (.vr 2), .k (.int 6)]) (.k (.int 0))]) [.asg 6 (.call 100 [.v 0, .bin .add (.bin .add (.vr 1) (.k (.int 15))) (.bin .mul (.k (.int 2)) (.vr 2))])] [], .app 4 (.tup [.v 5, .v 6])], .fz [4], .ret (.v 4)]
/-- _law_fits(_law_records_here, _law_offer_here, _law_accept_here, _law_kind_here) -/
def core_143 : List CS := [.ret (.bi .all [.lc (.cmp .eq (.call 104 [.v 2, .v 1]) (.vr 3)) (.t [2, 3]) (.vr 0) []])]
/-- _law_larger(_law_script, _law_place, _law_records_here, _law_accept_here, _law_kind_here, _law_i, _law_offer_here, _law_one, _law_other) -/
def core_144 : List CS := [.fo (.n 5) (.rng (.k (.int 8))) [.asg 6 (.call 102 [.v 0, .bin .add (.vr 1) (.bin .mul (.k (.int 7)) (.vr 5)), .k (.int 6)]), .fo (.t [7, 8]) (.v 2) [.asg 6 (.ite (.cmp .mem (.vr 8) (.vr 6)) (.v 6) (.bin .add (.bin .add (.sl (.vr 6) [] [.k (.int 3)]) (.tup [.v 8])) (.sl (.vr 6) [.k (.int 3)] [])))], .iff (.and [.cmp .le (.bi .len [.vr 6]) (.k (.int 6)), .call 143 [.v 2, .v 6], .cmp .ne (.call 104 [.v 3, .v 6]) (.vr 4)]) [.ret (.k (.bool false))] []], .ret (.k (.bool true))]
/-- is_possible(records, offer) -/
def core_145 : List CS := [.exp (.call 129 [.v 0]), .exp (.call 11 [.v 1]), .ret (.call 130 [.v 0, .v 1])]
/-- law(_law_script, _law_i, _law_offer_here, _law_j, _law_accept_here, _law_records, _law_one, _law_offers, _law_good, _law_some, _law_odd, _law_fit, _law_k, _law_unlike, _law_due, _law_value, _law_kind_here) -/
def core_146 : List CS := [.fo (.n 1) (.rng (.k (.int 3))) [.unp [4, 5] (.tup [.call 101 [.v 0, .bin .mul (.k (.int 150)) (.vr 1)], .lst []]), .asg 2 (.call 102 [.v 0, .bin .add (.bin .mul (.k (.int 150)) (.vr 1)) (.k (.int 30)), .k (.int 4)]), .fo (.n 3) (.rng (.bin .add (.k (.int 1)) (.call 99 [.v 0, .bin .add (.bin .mul (.k (.int 150)) (.vr 1)) (.k (.int 31)), .k (.int 2)]))) [.asg 6 (.call 101 [.v 0, .bin .add (.bin .add (.bin .mul (.k (.int 150)) (.vr 1)) (.k (.int 50))) (.bin .mul (.k (.int 30)) (.vr 3))]), .iff (.cmp .isn (.call 104 [.v 6, .v 2]) (.k (.none))) [.app 5 (.tup [.v 6, .call 104 [.v 6, .v 2]])] []], .iff (.cmp .ne (.vr 5) (.lst [])) [.asgN 7 (.lst [.v 2, .rev (.vr 2), .sl (.vr 2) [.k (.int 1)] [], .bin .add (.vr 2) (.tup [.tup [.k (.str ⟨#[100]⟩), .k (.str ⟨#[119]⟩)]]), .tup []]), .ext 7 (.lc (.call 102 [.v 0, .bin .add (.bin .add (.k (.int 400)) (.bin .mul (.k (.int 60)) (.vr 1))) (.bin .mul (.k (.int 14)) (.vr 12)), .k (.int 5)]) (.n 12) (.rng (.k (.int 3))) []), .asgN 8 (.lst []), .fz [7], .fo (.n 9) (.v 7) [.asg 11 (.bi .all [.lc (.cmp .eq (.call 104 [.v 6, .v 9]) (.vr 16)) (.t [6, 16]) (.vr 5) []]), .fz [5], .iff (.cmp .ne (.call 145 [.v 5, .v 9]) (.vr 11)) [.ret (.k (.bool false))] [], .app 8 (.v 11)], .fo (.n 3) (.rng (.bi .len [.vr 7])) [.fo (.n 12) (.rng (.bi .len [.vr 7])) [.asg 13 (.cmp .ne (.call 104 [.v 4, .ix (.vr 7) (.vr 3)]) (.call 104 [.v 4, .ix (.vr 7) (.vr 12)])), .asg 14 (.and [.ix (.vr 8) (.vr 3), .ix (.vr 8) (.vr 12), .v 13]), .fz [5], .iff (.cmp .ne (.call 140 [.v 5, .v 4, .tup [.ix (.vr 7) (.vr 3), .ix (.vr 7) (.vr 12)]]) (.vr 14)) [.ret (.k (.bool false))] []]], .fz [7], .asg 10 (.lst [.k (.none), .v 7, .tup [.v 2], .lst [.v 2, .tup []], .tup [.v 2, .v 2, .v 2], .tup [.v 2, .k (.int 5)], .tup [.v 2, .tup [.tup [.k (.str ⟨#[97]⟩), .k (.str ⟨#[42]⟩)]]]]), .fz [5], .iff (.bi .any [.lc (.cmp .isn (.call 140 [.v 5, .v 4, .v 15]) (.k (.bool false))) (.n 15) (.vr 10) []]) [.ret (.k (.bool false))] []] []], .ret (.cmp .is (.call 145 [.lst [.tup [.tup [.tup [.k (.str ⟨#[42]⟩), .k (.str ⟨#[42]⟩), .k (.int 5)]], .tup [.k (.str ⟨#[97]⟩), .k (.str ⟨#[98]⟩)]]], .tup [.tup [.k (.str ⟨#[97]⟩), .k (.str ⟨#[98]⟩)], .tup [.k (.str ⟨#[99]⟩), .k (.str ⟨#[100]⟩)]]]) (.k (.bool true)))]
/-- _law_next(_law_accept_here, _law_kind_here, _law_entry, _law_places, _law_other) -/
def core_147 : List CS := [.asg 3 (.lc (.sl (.vr 4) [] [.k (.int 2)]) (.n 4) (.vr 0) []), .iff (.cmp .eq (.vr 1) (.k (.int 0))) [.iff (.cmp .mem (.sl (.vr 2) [] [.k (.int 2)]) (.vr 3)) [.ret (.bi .tuple [.lc (.ite (.cmp .eq (.sl (.vr 4) [] [.k (.int 2)]) (.sl (.vr 2) [] [.k (.int 2)])) (.v 2) (.v 4)) (.n 4) (.vr 0) []])] [], .ret (.ite (.cmp .lt (.bi .len [.vr 0]) (.k (.int 8))) (.bin .add (.vr 0) (.tup [.v 2])) (.k (.str ⟨#[84, 111, 111, 76, 97, 114, 103, 101]⟩)))] [], .iff (.cmp .nmem (.sl (.vr 2) [] [.k (.int 2)]) (.vr 3)) [.ret (.k (.str ⟨#[78, 111, 116, 84, 104, 101, 114, 101]⟩))] [], .ret (.bi .tuple [.lc (.v 4) (.n 4) (.vr 0) [.cmp .ne (.sl (.vr 4) [] [.k (.int 2)]) (.sl (.vr 2) [] [.k (.int 2)])]])]
/-- _law_stepped(_law_kind_here, _law_many, _law_at) -/
def core_148 : List CS := [.iff (.cmp .eq (.vr 0) (.k (.int 3))) [.ret (.ite (.cmp .gt (.vr 2) (.k (.int 0))) (.tup [.k (.none), .bin .sub (.vr 2) (.k (.int 1))]) (.tup [.k (.str ⟨#[78, 111, 116, 104, 105, 110, 103, 84, 111, 85, 110, 100, 111]⟩), .v 2]))] [], .ret (.ite (.cmp .lt (.bin .add (.vr 2) (.k (.int 1))) (.vr 1)) (.tup [.k (.none), .bin .add (.vr 2) (.k (.int 1))]) (.tup [.k (.str ⟨#[78, 111, 116, 104, 105, 110, 103, 84, 111, 85, 110, 100, 111]⟩), .v 2]))]
/-- _law_alike(_law_one, _law_other, _law_rows, _law_left, _law_right, _law_kind_here, _law_high, _law_low) -/
def core_149 : List CS := [.asg 2 (.lc (.tup [.call 103 [.v 0, .v 5], .call 103 [.v 1, .v 5]]) (.n 5) (.call 120 []) []), .fo (.t [3, 4]) (.v 2) [.iff (.or [.cmp .ne (.cmp .gt (.vr 3) (.k (.int 0))) (.cmp .gt (.vr 4) (.k (.int 0))), .bi .any [.lc (.cmp .ne (.cmp .gt (.vr 3) (.vr 6)) (.cmp .gt (.vr 4) (.vr 7))) (.t [6, 7]) (.vr 2) []]]) [.ret (.k (.bool false))] []], .ret (.k (.bool true))]
/-- weight_text(weight, text) -/
def core_150 : List CS := [.iff (.cmp .eq (.vr 0) (.k (.int 0))) [.ret (.k (.str ⟨#[48]⟩))] [], .asg 1 (.bin .add (.k (.str ⟨#[48, 46]⟩)) (.sl (.bi .str [.bin .add (.g ⟨#[77, 65, 88, 95, 87, 69, 73, 71, 72, 84]⟩ (.int 1000)) (.vr 0)]) [.k (.int 1)] [])), .whl (.cmp .eq (.ix (.vr 1) (.neg (.k (.int 1)))) (.k (.str ⟨#[48]⟩))) [.asg 1 (.sl (.vr 1) [] [.neg (.k (.int 1))])], .ret (.v 1)]
/-- entry_text(entry, text) -/
def core_151 : List CS := [.asg 1 (.bin .add (.bin .add (.ix (.vr 0) (.k (.int 0))) (.k (.str ⟨#[47]⟩))) (.ix (.vr 0) (.k (.int 1)))), .ret (.ite (.cmp .eq (.ix (.vr 0) (.k (.int 2))) (.g ⟨#[77, 65, 88, 95, 87, 69, 73, 71, 72, 84]⟩ (.int 1000))) (.v 1) (.bin .add (.bin .add (.vr 1) (.g ⟨#[77, 65, 82, 75]⟩ (.str ⟨#[59, 113, 61]⟩))) (.call 150 [.ix (.vr 0) (.k (.int 2))])))]
/-- header_of(accept, entry) -/
def core_152 : List CS := [.ret (.mth .join (.k (.str ⟨#[44, 32]⟩)) [.lc (.call 151 [.v 1]) (.n 1) (.vr 0) []])]
/-- format_header(accept) -/
def core_153 : List CS := [.exp (.call 9 [.v 0]), .ret (.call 152 [.v 0])]
/-- check_text(value) -/
def core_154 : List CS := [.iff (.not (.isi (.vr 0) .str)) [.rse ⟨#[80, 97, 114, 115, 101, 69, 114, 114, 111, 114]⟩] []]
/-- weight_in(text, figures, sign) -/
def core_155 : List CS := [.iff (.cmp .eq (.vr 0) (.k (.str ⟨#[48]⟩))) [.ret (.k (.int 0))] [], .asg 1 (.sl (.vr 0) [.k (.int 2)] []), .iff (.or [.cmp .ne (.sl (.vr 0) [] [.k (.int 2)]) (.k (.str ⟨#[48, 46]⟩)), .not (.ch .le .le (.k (.int 1)) (.bi .len [.vr 1]) (.k (.int 3))), .not (.bi .all [.lc (.cmp .mem (.vr 2) (.g ⟨#[68, 73, 71, 73, 84, 83]⟩ (.str ⟨#[48, 49, 50, 51, 52, 53, 54, 55, 56, 57]⟩))) (.n 2) (.vr 1) []])]) [.ret (.k (.none))] [], .ret (.bi .int [.sl (.bin .add (.vr 1) (.k (.str ⟨#[48, 48]⟩))) [] [.k (.int 3)]])]
/-- entry_in(text, parts, weight) -/
def core_156 : List CS := [.asg 1 (.mth .split (.vr 0) [.g ⟨#[77, 65, 82, 75]⟩ (.str ⟨#[59, 113, 61]⟩)]), .asg 2 (.ite (.cmp .eq (.bi .len [.vr 1]) (.k (.int 2))) (.call 155 [.ix (.vr 1) (.k (.int 1))]) (.g ⟨#[77, 65, 88, 95, 87, 69, 73, 71, 72, 84]⟩ (.int 1000))), .ret (.bin .add (.bi .tuple [.mth .split (.ix (.vr 1) (.k (.int 0))) [.k (.str ⟨#[47]⟩)]]) (.tup [.v 2]))]
/-- parse_header(text, accept, part) -/
def core_157 : List CS := [.exp (.call 154 [.v 0]), .asg 1 (.ite (.cmp .ne (.vr 0) (.k (.str ⟨#[]⟩))) (.bi .tuple [.lc (.call 156 [.v 2]) (.n 2) (.mth .split (.vr 0) [.k (.str ⟨#[44, 32]⟩)]) []]) (.tup [])), .iff (.or [.not (.call 7 [.v 1]), .cmp .ne (.call 152 [.v 1]) (.vr 0)]) [.rse ⟨#[80, 97, 114, 115, 101, 69, 114, 114, 111, 114]⟩] [], .ret (.v 1)]
/-- offer_text(offer, kind) -/
def core_158 : List CS := [.ret (.mth .join (.k (.str ⟨#[32]⟩)) [.lc (.bin .add (.bin .add (.ix (.vr 1) (.k (.int 0))) (.k (.str ⟨#[47]⟩))) (.ix (.vr 1) (.k (.int 1)))) (.n 1) (.vr 0) []])]
/-- format_offer(offer) -/
def core_159 : List CS := [.exp (.call 11 [.v 0]), .ret (.call 158 [.v 0])]
/-- parse_offer(text, offer, part) -/
def core_160 : List CS := [.exp (.call 154 [.v 0]), .asg 1 (.ite (.cmp .ne (.vr 0) (.k (.str ⟨#[]⟩))) (.bi .tuple [.lc (.bi .tuple [.mth .split (.vr 2) [.k (.str ⟨#[47]⟩)]]) (.n 2) (.mth .split (.vr 0) [.k (.str ⟨#[32]⟩)]) []]) (.tup [])), .iff (.or [.not (.call 8 [.v 1]), .cmp .ne (.call 158 [.v 1]) (.vr 0)]) [.rse ⟨#[80, 97, 114, 115, 101, 69, 114, 114, 111, 114]⟩] [], .ret (.v 1)]
/-- _law_decimals(_law_weight, _law_text, _law_figures, _law_last, _law_i, _law_figure) -/
def core_161 : List CS := [.unp [1, 2] (.tup [.k (.str ⟨#[48]⟩), .tup [.bin .div (.vr 0) (.k (.int 100)), .bin .mod (.bin .div (.vr 0) (.k (.int 10))) (.k (.int 10)), .bin .mod (.vr 0) (.k (.int 10))]]), .iff (.cmp .gt (.vr 0) (.k (.int 0))) [.asg 3 (.bi .max1 [.lc (.v 4) (.n 4) (.rng (.k (.int 3))) [.cmp .gt (.ix (.vr 2) (.vr 4)) (.k (.int 0))]]), .asg 1 (.bin .add (.k (.str ⟨#[48, 46]⟩)) (.mth .join (.k (.str ⟨#[]⟩)) [.lc (.bi .str [.vr 5]) (.n 5) (.sl (.vr 2) [] [.bin .add (.vr 3) (.k (.int 1))]) []]))] [], .ret (.v 1)]
/-- plain_weight(accept, kind, best, group, form, weight) -/
def core_162 : List CS := [.asg 2 (.tup [.neg (.k (.int 1)), .k (.int 0)]), .fo (.t [3, 4, 5]) (.v 0) [.iff (.and [.or [.cmp .eq (.vr 3) (.g ⟨#[65, 78, 89]⟩ (.str ⟨#[42]⟩)), .cmp .eq (.vr 3) (.ix (.vr 1) (.k (.int 0)))], .or [.cmp .eq (.vr 4) (.g ⟨#[65, 78, 89]⟩ (.str ⟨#[42]⟩)), .cmp .eq (.vr 4) (.ix (.vr 1) (.k (.int 1)))]]) [.asg 2 (.bi .max2 [.vr 2, .tup [.bin .add (.cmp .ne (.vr 3) (.g ⟨#[65, 78, 89]⟩ (.str ⟨#[42]⟩))) (.cmp .ne (.vr 4) (.g ⟨#[65, 78, 89]⟩ (.str ⟨#[42]⟩))), .v 5]])] []], .ret (.ix (.vr 2) (.k (.int 1)))]
/-- plain_choice(accept, offer, weights, index, weight, kind, other) -/
def core_163 : List CS := [.asg 2 (.lc (.call 162 [.v 0, .v 5]) (.n 5) (.vr 1) []), .fo (.t [3, 4]) (.enm (.v 2)) [.iff (.and [.cmp .gt (.vr 4) (.k (.int 0)), .bi .all [.lc (.cmp .lt (.vr 6) (.vr 4)) (.n 6) (.sl (.vr 2) [] [.vr 3]) []], .cmp .eq (.bi .max1 [.vr 2]) (.vr 4)]) [.ret (.ix (.vr 1) (.vr 3))] []], .ret (.k (.none))]
/-- naive_choice(accept, offer) -/
def core_164 : List CS := [.exp (.call 9 [.v 0]), .exp (.call 11 [.v 1]), .ret (.call 163 [.v 0, .v 1])]
/-- naive_are_equal(one, other, kinds, first, second, offer) -/
def core_165 : List CS := [.exp (.call 9 [.v 0]), .exp (.call 9 [.v 1]), .asg 2 (.call 42 [.lst [.v 0, .v 1]]), .fo (.n 3) (.v 2) [.fo (.n 4) (.v 2) [.asg 5 (.ite (.cmp .eq (.vr 3) (.vr 4)) (.tup [.v 3]) (.tup [.v 3, .v 4])), .iff (.cmp .ne (.call 163 [.v 0, .v 5]) (.call 163 [.v 1, .v 5])) [.ret (.k (.bool false))] []]], .ret (.k (.bool true))]
/-- naive_settled(records, accept, groups, kind, group, known, more, found, offer) -/
def core_166 : List CS := [.exp (.call 137 [.v 0, .v 1]), .unp [5, 6, 7] (.tup [.call 132 [.v 0], .call 135 [.v 0, .v 1], .emp]), .asg 2 (.lst [.lst []]), .fo (.n 3) (.v 6) [.asg 2 (.bin .add (.vr 2) (.lc (.bin .add (.vr 4) (.lst [.v 3])) (.n 4) (.vr 2) [.cmp .lt (.bin .add (.bi .len [.vr 5]) (.bi .len [.vr 4])) (.g ⟨#[77, 65, 88, 95, 84, 82, 73, 69, 68]⟩ (.int 4))]))], .fo (.n 4) (.v 2) [.fo (.n 8) (.call 131 [.bin .add (.vr 5) (.vr 4)]) [.iff (.call 130 [.v 0, .v 8]) [.put 7 (.call 163 [.v 1, .v 8]) (.k (.bool true))] []]], .ret (.cmp .eq (.bi .len [.vr 7]) (.k (.int 1)))]
/-- law(_law_script, _law_i, _law_offer_here, _law_kind_here, _law_one, _law_other, _law_records, _law_third, _law_group, _law_form, _law_weight_here) -/
def core_167 : List CS := [.fo (.n 1) (.rng (.k (.int 3))) [.par [(4, false), (5, false)] [.call 101 [.v 0, .bin .mul (.k (.int 120)) (.vr 1)], .call 101 [.v 0, .bin .add (.bin .mul (.k (.int 120)) (.vr 1)) (.k (.int 30))]], .iff (.cmp .eq (.call 99 [.v 0, .bin .add (.bin .mul (.k (.int 120)) (.vr 1)) (.k (.int 60)), .k (.int 2)]) (.k (.int 0))) [.asg 5 (.bi .tuple [.lc (.tup [.v 8, .v 9, .bin .div (.bin .add (.vr 10) (.k (.int 1))) (.k (.int 2))]) (.t [8, 9, 10]) (.rev (.vr 4)) []])] [], .iff (.cmp .eq (.call 99 [.v 0, .bin .add (.bin .mul (.k (.int 120)) (.vr 1)) (.k (.int 61)), .k (.int 3)]) (.k (.int 0))) [.asg 5 (.call 119 [.v 0, .bin .add (.bin .mul (.k (.int 120)) (.vr 1)) (.k (.int 80)), .v 4])] [], .asg 2 (.call 102 [.v 0, .bin .add (.bin .mul (.k (.int 120)) (.vr 1)) (.k (.int 62)), .k (.int 6)]), .iff (.or [.cmp .ne (.call 164 [.v 4, .v 2]) (.call 104 [.v 4, .v 2]), .cmp .ne (.call 21 [.v 4, .v 2]) (.call 104 [.v 4, .v 2])]) [.ret (.k (.bool false))] [], .iff (.cmp .ne (.call 165 [.v 4, .v 5]) (.call 53 [.v 4, .v 5])) [.ret (.k (.bool false))] [], .asg 3 (.call 104 [.v 4, .v 2]), .iff (.and [.cmp .isn (.vr 3) (.k (.none)), .cmp .eq (.vr 1) (.k (.int 0))]) [.asgN 6 (.lst [.tup [.v 4, .v 3]]), .asg 7 (.call 101 [.v 0, .k (.int 80)]), .iff (.and [.cmp .isn (.call 104 [.v 7, .v 2]) (.k (.none)), .cmp .eq (.call 99 [.v 0, .k (.int 110), .k (.int 2)]) (.k (.int 0))]) [.app 6 (.tup [.v 7, .call 104 [.v 7, .v 2]])] [], .fz [6], .iff (.cmp .ne (.call 166 [.v 6, .v 5]) (.call 138 [.v 6, .v 5])) [.ret (.k (.bool false))] []] []], .ret (.and [.cmp .is (.call 164 [.tup [], .tup []]) (.k (.none)), .cmp .is (.call 165 [.tup [], .tup [.tup [.k (.str ⟨#[97]⟩), .k (.str ⟨#[98]⟩), .k (.int 0)]]]) (.k (.bool true))])]
end Pz
namespace Pz
open PySem PySem.Spec PyProof.Rows L2 LamX

/-! ### data of a shape -/
def Sh (n : Nat) (d : PyData) : Prop := d.canLay0 = true ∧ d.depth ≤ n
theorem Sh.ok {n : Nat} {d : PyData} (h : Sh n d) (hn : n ≤ 64 := by decide) : okd d = true := by
  unfold okd SeqAt.shaped
  rw [h.1, decide_eq_true (Nat.le_trans h.2 hn)]; rfl
theorem Sh.mono {n m : Nat} {d : PyData} (h : Sh n d) (hn : n ≤ m) : Sh m d := ⟨h.1, Nat.le_trans h.2 hn⟩
theorem layAll {ds : List PyData} (h : ∀ d ∈ ds, d.canLay0 = true) : PyData.canLayAll0 ds = true := by
  induction ds with
  | nil => simp [PyData.canLayAll0]
  | cons d ds ih => rw [PyData.canLayAll0, h d List.mem_cons_self, ih fun e he => h e (List.mem_cons_of_mem _ he)]; rfl
theorem depAll {n : Nat} {ds : List PyData} (h : ∀ d ∈ ds, d.depth ≤ n) : PyData.depthAll ds ≤ n := by
  induction ds with
  | nil => simp [PyData.depthAll]
  | cons d ds ih => rw [PyData.depthAll]; exact Nat.max_le.mpr ⟨h d List.mem_cons_self, ih fun e he => h e (List.mem_cons_of_mem _ he)⟩
theorem Sh.list {n : Nat} {ds : List PyData} (h : ∀ d ∈ ds, Sh n d) : Sh (n + 1) (.list ds) := ⟨by rw [PyData.canLay0]; exact layAll fun d hd => (h d hd).1, by rw [PyData.depth]; exact Nat.succ_le_succ (depAll fun d hd => (h d hd).2)⟩
theorem Sh.tuple {n : Nat} {ds : List PyData} (h : ∀ d ∈ ds, Sh n d) : Sh (n + 1) (.tuple ds) := ⟨by rw [PyData.canLay0]; exact layAll fun d hd => (h d hd).1, by rw [PyData.depth]; exact Nat.succ_le_succ (depAll fun d hd => (h d hd).2)⟩
theorem Sh.int {n : Nat} (i : Int) : Sh n (.int i) := ⟨by simp [PyData.canLay0], by simp [PyData.depth]⟩
theorem Sh.none {n : Nat} : Sh n .none := ⟨by simp [PyData.canLay0], by simp [PyData.depth]⟩
theorem Sh.bool {n : Nat} (b : Bool) : Sh n (.bool b) := ⟨by simp [PyData.canLay0], by simp [PyData.depth]⟩
/-- a text that can be compared -/
def OS (x : Str) : Prop := PyData.strOk x = true ∧ x.length ≤ 16777216
theorem Sh.str {n : Nat} {x : Str} (h : OS x) : Sh n (.str x) := ⟨by simp [PyData.canLay0, h.1], by simp [PyData.depth]⟩

/-! ### lists of things told by data -/
/-- f tells things apart -/
def Tells {α : Type} [DecidableEq α] (f : α → PyData) : Prop := ∀ a b, PyData.eqv (f a) (f b) = decide (a = b)
theorem eqvAll_map {α : Type} [DecidableEq α] {f : α → PyData} (h : Tells f) : ∀ l m : List α, PyData.eqvAll (l.map f) (m.map f) = decide (l = m)
  | [], [] => by simp [PyData.eqvAll]
  | a :: l, [] => by simp [PyData.eqvAll]
  | [], b :: m => by simp [PyData.eqvAll]
  | a :: l, b :: m => by
    rw [List.map_cons, List.map_cons, PyData.eqvAll, h, eqvAll_map h l m]
    by_cases e : a = b <;> by_cases e2 : l = m <;> simp [e, e2]
theorem tells_list {α : Type} [DecidableEq α] {f : α → PyData} (h : Tells f) : Tells fun l : List α => .list (l.map f) := fun a b => by rw [PyData.eqv]; exact eqvAll_map h a b
theorem tells_tuple {α : Type} [DecidableEq α] {f : α → PyData} (h : Tells f) : Tells fun l : List α => .tuple (l.map f) := fun a b => by rw [PyData.eqv]; exact eqvAll_map h a b
theorem any_eqv {α : Type} [DecidableEq α] {f : α → PyData} (h : Tells f) (l : List α) (a : α) : ((l.map f).any fun z => PyData.eqv z (f a)) = decide (a ∈ l) := by
  induction l with
  | nil => simp
  | cons b l ih =>
    rw [List.map_cons, List.any_cons, ih, h]
    by_cases e : b = a
    · subst e; simp
    · have : a ≠ b := fun z => e z.symm
      simp [e, this]

/-! ### bools -/
theorem bools_map (l : List Bool) : bools (l.map .bool) = some l := by
  induction l with
  | nil => rfl
  | cons b l ih => rw [List.map_cons, bools, ih]

theorem bools_comp {α : Type} (g : α → Bool) (l : List α) : bools (l.map (PyData.bool ∘ g)) = some (l.map g) := by
  rw [← List.map_map]; exact bools_map _
/-! ### equal ones once -/
def dd {α : Type} [DecidableEq α] : List α → List α
  | [] => []
  | a :: r => a :: (dd r).filter fun b => !decide (b = a)
theorem dd_mem {α : Type} [DecidableEq α] {b : α} : ∀ {l : List α}, b ∈ dd l ↔ b ∈ l
  | [] => Iff.rfl
  | a :: l => by
    rw [dd, List.mem_cons, List.mem_filter, dd_mem (l := l), List.mem_cons]
    by_cases e : b = a
    · simp [e]
    · simp [e]
theorem dd_len {α : Type} [DecidableEq α] : ∀ l : List α, (dd l).length ≤ l.length
  | [] => Nat.le_refl _
  | a :: l => by rw [dd]; exact Nat.succ_le_succ (Nat.le_trans (List.length_filter_le ..) (dd_len l))
theorem dd_nodup {α : Type} [DecidableEq α] : ∀ l : List α, (dd l).length = l.length ↔ l.Nodup
  | [] => by simp [dd]
  | a :: l => by
    rw [dd, List.length_cons, List.length_cons, List.nodup_cons]
    have h1 := List.length_filter_le (fun b => !decide (b = a)) (dd l)
    have h2 := dd_len l
    constructor
    · intro h
      have e1 : ((dd l).filter fun b => !decide (b = a)).length = (dd l).length := by omega
      have e2 : (dd l).length = l.length := by omega
      refine ⟨fun ha => ?_, (dd_nodup l).mp e2⟩
      have := List.length_filter_eq_length_iff.mp e1 a (dd_mem.mpr ha)
      simp at this
    · rintro ⟨ha, hl⟩
      have e2 := (dd_nodup l).mpr hl
      have e1 : ((dd l).filter fun b => !decide (b = a)) = dd l := List.filter_eq_self.mpr fun b hb => by
        have : b ≠ a := fun z => ha (z ▸ dd_mem.mp hb)
        simp [this]
      rw [e1, e2]
theorem dedup_map {α : Type} [DecidableEq α] {f : α → PyData} {h : α → NestedKey} (hk : ∀ a, keyOf (f a) = some (h a)) (inj : ∀ a b, h a = h b → a = b) : ∀ l : List α, dedup (l.map f) = (dd l).map f
  | [] => rfl
  | a :: l => by
    rw [List.map_cons, dedup, dd, List.map_cons, dedup_map hk inj l, List.filter_map]
    congr 2
    refine List.filter_congr fun b _ => ?_
    show (!decide (keyOf (f b) = keyOf (f a))) = !decide (b = a)
    rw [hk, hk]
    by_cases e : b = a
    · simp [e]
    · have : h b ≠ h a := fun z => e (inj _ _ z)
      simp [e, this]
@[simp] theorem truth_bool (b : Bool) : truth (.d (.bool b)) = .ok b := rfl
@[simp] theorem truth_int (i : Int) : truth (.d (.int i)) = .ok (i != 0) := rfl
@[simp] theorem isi_tt (l : List PyData) : wIsi (.d (.tuple l)) .tuple = .ok (.d (.bool true)) := rfl
@[simp] theorem isi_tl (l : List PyData) : wIsi (.d (.tuple l)) .list = .ok (.d (.bool false)) := rfl
@[simp] theorem isi_ll (l : List PyData) : wIsi (.d (.list l)) .list = .ok (.d (.bool true)) := rfl
@[simp] theorem isi_lt (l : List PyData) : wIsi (.d (.list l)) .tuple = .ok (.d (.bool false)) := rfl
@[simp] theorem isi_ii (i : Int) : wIsi (.d (.int i)) .int = .ok (.d (.bool true)) := rfl
@[simp] theorem isi_ib (i : Int) : wIsi (.d (.int i)) .bool = .ok (.d (.bool false)) := rfl
@[simp] theorem isi_ss (x : Str) : wIsi (.d (.str x)) .str = .ok (.d (.bool true)) := rfl
@[simp] theorem len_t (l : List PyData) : wBi .len [.d (.tuple l)] = .ok (.d (.int l.length)) := rfl
@[simp] theorem len_l (l : List PyData) : wBi .len [.d (.list l)] = .ok (.d (.int l.length)) := rfl
@[simp] theorem bi_tl (l : List PyData) : wBi .tuple [.d (.list l)] = .ok (.d (.tuple l)) := rfl
@[simp] theorem bi_tt (l : List PyData) : wBi .tuple [.d (.tuple l)] = .ok (.d (.tuple l)) := rfl
@[simp] theorem bi_ll (l : List PyData) : wBi .list [.d (.list l)] = .ok (.d (.list l)) := rfl
@[simp] theorem bi_lt (l : List PyData) : wBi .list [.d (.tuple l)] = .ok (.d (.list l)) := rfl
@[simp] theorem all_l (l : List Bool) : wBi .all [.d (.list (l.map .bool))] = .ok (.d (.bool (l.all id))) := by
  show (match bools (l.map .bool) with
    | some bs => Rs.ok (W.d (.bool (bs.all id)))
    | none => .stuck) = _
  rw [bools_map]
@[simp] theorem all_c {α : Type} (g : α → Bool) (l : List α) : wBi .all [.d (.list (l.map (PyData.bool ∘ g)))] = .ok (.d (.bool (l.all g))) := by
  rw [← List.map_map, all_l, List.all_map]; rfl
@[simp] theorem cmp_eqi (a b : Int) : wCmp .eq (.d (.int a)) (.d (.int b)) = .ok (decide (a = b)) := by
  have h1 := (Sh.int (n := 0) a).ok
  have h2 := (Sh.int (n := 0) b).ok
  unfold wCmp wEq
  simp only [h1, h2, Bool.and_self, if_true, PyData.eqv]
  by_cases e : a = b <;> simp [e]
@[simp] theorem cmp_nei (a b : Int) : wCmp .ne (.d (.int a)) (.d (.int b)) = .ok (!decide (a = b)) := by
  have := cmp_eqi a b
  have e : wCmp .ne (.d (.int a)) (.d (.int b)) = rNot (wEq (.d (.int a)) (.d (.int b))) := by simp only [wCmp]
  have e2 : wCmp .eq (.d (.int a)) (.d (.int b)) = wEq (.d (.int a)) (.d (.int b)) := by simp only [wCmp]
  rw [e, ← e2, this]; rfl
@[simp] theorem cmp_lti (a b : Int) : wCmp .lt (.d (.int a)) (.d (.int b)) = .ok (decide (a < b)) := rfl
@[simp] theorem cmp_lei (a b : Int) : wCmp .le (.d (.int a)) (.d (.int b)) = .ok (decide (a ≤ b)) := rfl
@[simp] theorem cmp_gti (a b : Int) : wCmp .gt (.d (.int a)) (.d (.int b)) = .ok (decide (b < a)) := rfl
@[simp] theorem cmp_gei (a b : Int) : wCmp .ge (.d (.int a)) (.d (.int b)) = .ok (decide (b ≤ a)) := rfl
@[simp] theorem rbl_ok (b : Bool) : rBl (.ok b) = .ok (.d (.bool b)) := rfl
@[simp] theorem rnot_ok (b : Bool) : rNot (.ok b) = .ok (!b) := rfl
theorem cmp_eq {a b : PyData} (ha : okd a = true) (hb : okd b = true) : wCmp .eq (.d a) (.d b) = .ok (PyData.eqv a b) := by
  have e : wCmp .eq (.d a) (.d b) = wEq (.d a) (.d b) := by simp only [wCmp]
  rw [e]
  unfold wEq
  simp only [ha, hb]; rfl
theorem cmp_ne {a b : PyData} (ha : okd a = true) (hb : okd b = true) : wCmp .ne (.d a) (.d b) = .ok (!PyData.eqv a b) := by
  have := cmp_eq ha hb
  have e : wCmp .ne (.d a) (.d b) = rNot (wEq (.d a) (.d b)) := by simp only [wCmp]
  have e2 : wCmp .eq (.d a) (.d b) = wEq (.d a) (.d b) := by simp only [wCmp]
  rw [e, ← e2, this]; rfl
theorem cmp_meml {a : PyData} {l : List PyData} (ha : okd a = true) (hb : okd (.list l) = true) : wMem (.d a) (.d (.list l)) = .ok (l.any fun z => PyData.eqv z a) := by
  have : wMem (.d a) (.d (.list l)) = if okd a && okd (.list l) then .ok (l.any fun z => PyData.eqv z a) else .stuck := by cases a <;> rfl
  rw [this, ha, hb]; rfl
theorem cmp_memt {a : PyData} {l : List PyData} (ha : okd a = true) (hb : okd (.tuple l) = true) : wMem (.d a) (.d (.tuple l)) = .ok (l.any fun z => PyData.eqv z a) := by
  have : wMem (.d a) (.d (.tuple l)) = if okd a && okd (.tuple l) then .ok (l.any fun z => PyData.eqv z a) else .stuck := by cases a <;> rfl
  rw [this, ha, hb]; rfl
@[simp] theorem add_i (a b : Int) : wBin .add (.d (.int a)) (.d (.int b)) = .ok (.d (.int (a + b))) := rfl
@[simp] theorem sub_i (a b : Int) : wBin .sub (.d (.int a)) (.d (.int b)) = .ok (.d (.int (a - b))) := rfl
@[simp] theorem optInt_nil : optInt [] = .ok none := rfl
@[simp] theorem optInt_one (i : Int) : optInt [.d (.int i)] = .ok (some i) := rfl
@[simp] theorem allD_nil : allD [] = .ok [] := rfl
@[simp] theorem allD_cons (d : PyData) (r : List W) : allD (.d d :: r) = (allD r).bind fun ds => .ok (d :: ds) := rfl
@[simp] theorem tgn (i : Nat) : Tg.is (.n i) = [i] := rfl
@[simp] theorem items_l (l : List PyData) : items (.d (.list l)) = .ok l := rfl
@[simp] theorem items_t (l : List PyData) : items (.d (.tuple l)) = .ok l := rfl
@[simp] theorem items_i (l : List PyData) : items (.it l) = .ok l := rfl
@[simp] theorem getV_0 (w : W) (ρ : En) : getV (.va w :: ρ) 0 = .ok w := rfl
@[simp] theorem getR_0 (w : W) (ρ : En) : getR (.va w :: ρ) 0 = .ok w := rfl
@[simp] theorem getR_0m (w : W) (ρ : En) : getR (.mu w :: ρ) 0 = .ok w := rfl
@[simp] theorem getV_s (s : Sl) (ρ : En) (i : Nat) : getV (s :: ρ) (i + 1) = getV ρ i := rfl
@[simp] theorem getR_s (s : Sl) (ρ : En) (i : Nat) : getR (s :: ρ) (i + 1) = getR ρ i := rfl
/-- a tuple of two, of three -/
theorem ix_t (a : PyData) (l : List PyData) : wIx (.d (.tuple (a :: l))) (.d (.int 0)) = .ok (.d a) := by
  simp [wIx, atI, ixN]
theorem ix_t1 (a b : PyData) (l : List PyData) : wIx (.d (.tuple (a :: b :: l))) (.d (.int 1)) = .ok (.d b) := by
  have e : (1 : Int) < (l.length : Int) + 1 + 1 := by omega
  simp [wIx, atI, ixN, e]
theorem ix_t2 (a b c : PyData) (l : List PyData) : wIx (.d (.tuple (a :: b :: c :: l))) (.d (.int 2)) = .ok (.d c) := by
  have e : (2 : Int) < (l.length : Int) + 1 + 1 + 1 := by omega
  simp [wIx, atI, ixN, e]
theorem ix_l (a : PyData) (l : List PyData) : wIx (.d (.list (a :: l))) (.d (.int 0)) = .ok (.d a) := by
  simp [wIx, atI, ixN]
theorem sl_t2 (a b c : PyData) : wSl (.d (.tuple [a, b, c])) none (some 2) = .ok (.d (.tuple [a, b])) := by
  simp [wSl, cutD, HT.sIx]
end Pz
namespace Pz
open PySem PySem.Spec PyProof.Rows L2 LamX

/-! ### names, kinds, entries -/
def star : Str := ⟨#[42]⟩
def letters : List Nat := [97, 98, 99, 100, 101, 102, 103, 104, 105, 106, 107, 108, 109, 110, 111, 112, 113, 114, 115, 116, 117, 118, 119, 120, 121, 122]
def nmOk (x : Str) : Bool := decide (1 ≤ x.length) && (decide (x.length ≤ 4) && x.cps.toList.all fun c => decide (c ∈ letters))
abbrev Kd := Str × Str
def kD (k : Kd) : PyData := .tuple [.str k.1, .str k.2]
abbrev Ey := Kd × Int
def eD (e : Ey) : PyData := .tuple [.str e.1.1, .str e.1.2, .int e.2]
def OSk (k : Kd) : Prop := OS k.1 ∧ OS k.2
def kOk (k : Kd) : Bool := nmOk k.1 && nmOk k.2
def rOk (k : Kd) : Bool := kOk k || (decide (k.2 = star) && (decide (k.1 = star) || nmOk k.1))
def eyOk (e : Ey) : Bool := rOk e.1 && (decide (0 ≤ e.2) && decide (e.2 ≤ 1000))
def aOk (A : List Ey) : Bool := decide (A.length ≤ 8) && (A.all eyOk && decide ((A.map (·.1)).Nodup))
def oOk (O : List Kd) : Bool := decide (O.length ≤ 6) && (O.all kOk && decide O.Nodup)
theorem OS.star : OS star := ⟨by decide +kernel, by decide⟩
theorem nm_os {x : Str} (h : nmOk x = true) : OS x := by
  unfold nmOk at h
  simp only [Bool.and_eq_true, decide_eq_true_eq, List.all_eq_true] at h
  refine ⟨?_, Nat.le_trans h.2.1 (by decide)⟩
  unfold PyData.strOk
  rw [← Array.all_toList, List.all_eq_true]
  intro c hc
  have := h.2.2 c hc
  unfold letters at this
  simp only [List.mem_cons, List.not_mem_nil, or_false] at this
  simp only [decide_eq_true_eq]
  omega
theorem k_os {k : Kd} (h : kOk k = true) : OSk k := by
  unfold kOk at h
  rw [Bool.and_eq_true] at h
  exact ⟨nm_os h.1, nm_os h.2⟩
theorem r_os {k : Kd} (h : rOk k = true) : OSk k := by
  unfold rOk at h
  simp only [Bool.or_eq_true, Bool.and_eq_true, decide_eq_true_eq] at h
  rcases h with h | ⟨h1, h2 | h2⟩
  · exact k_os h
  · exact ⟨h2 ▸ OS.star, h1 ▸ OS.star⟩
  · exact ⟨nm_os h2, h1 ▸ OS.star⟩
theorem sh_k {k : Kd} (h : OSk k) : Sh 1 (kD k) := Sh.tuple (n := 0) fun d hd => by
  simp only [List.mem_cons, List.not_mem_nil, or_false] at hd
  rcases hd with rfl | rfl
  · exact Sh.str h.1
  · exact Sh.str h.2
theorem sh_e {e : Ey} (h : OSk e.1) : Sh 1 (eD e) := Sh.tuple (n := 0) fun d hd => by
  simp only [List.mem_cons, List.not_mem_nil, or_false] at hd
  rcases hd with rfl | rfl | rfl
  · exact Sh.str h.1
  · exact Sh.str h.2
  · exact Sh.int _
theorem tells_k : Tells kD := fun a b => by
  obtain ⟨a1, a2⟩ := a
  obtain ⟨b1, b2⟩ := b
  unfold kD
  simp only [PyData.eqv, PyData.eqvAll, Bool.and_true]
  by_cases h1 : a1 = b1 <;> by_cases h2 : a2 = b2 <;> simp [h1, h2]
theorem tells_e : Tells eD := fun a b => by
  obtain ⟨⟨a1, a2⟩, a3⟩ := a
  obtain ⟨⟨b1, b2⟩, b3⟩ := b
  unfold eD
  simp only [PyData.eqv, PyData.eqvAll, Bool.and_true]
  by_cases h1 : a1 = b1 <;> by_cases h2 : a2 = b2 <;> by_cases h3 : a3 = b3 <;> simp [h1, h2, h3]
def kK (k : Kd) : NestedKey := .tup [.text k.1, .text k.2]
theorem key_k (k : Kd) : keyOf (kD k) = some (kK k) := by
  unfold keyOf kD kK
  simp [nk, nks, NestedKey.depth, NestedKey.depthAll]
theorem kK_inj (a b : Kd) (h : kK a = kK b) : a = b := by
  unfold kK at h
  simp at h
  exact Prod.ext h.1 h.2

/-! ### what the first defs compute -/
def F1 (g : List W → Rs W) : Prop := ∀ i a b : Int, g [.d (.int i), .d (.int a), .d (.int b)] = .ok (.d (.bool (decide (a ≤ i) && decide (i ≤ b))))
def F2 (g : List W → Rs W) : Prop := ∀ x, OS x → g [.d (.str x)] = .ok (.d (.bool (nmOk x)))
def F3 (g : List W → Rs W) : Prop := ∀ x, OS x → g [.d (.str x)] = .ok (.d (.bool (decide (x = star))))
def F4 (g : List W → Rs W) : Prop := ∀ k, OSk k → g [.d (kD k)] = .ok (.d (.bool (kOk k)))
def F5 (g : List W → Rs W) : Prop := ∀ k, OSk k → g [.d (kD k)] = .ok (.d (.bool (rOk k)))
def F6 (g : List W → Rs W) : Prop := ∀ e : Ey, OSk e.1 → g [.d (eD e)] = .ok (.d (.bool (eyOk e)))
def F7 (g : List W → Rs W) : Prop := ∀ A : List Ey, (∀ e ∈ A, OSk e.1) → g [.d (.tuple (A.map eD))] = .ok (.d (.bool (aOk A)))
def F8 (g : List W → Rs W) : Prop := ∀ O : List Kd, (∀ k ∈ O, OSk k) → g [.d (.tuple (O.map kD))] = .ok (.d (.bool (oOk O)))
section
variable {Γ : Fns} {Δ : Dyn} {N : Nat}
theorem m1 : F1 (evF Γ Δ N 3 core_1) := fun i a b => by
  by_cases h : a ≤ i <;> simp [evF, core_1, h]
theorem m2 : F2 (evF Γ Δ N 2 core_2) := fun x hx => by
  have hf : fits x.length = true := decide_eq_true hx.2
  have hl : wBi .len [.d (.str x)] = .ok (.d (.int x.length)) := if_pos hf
  have e := ev_lcA (Γ := Γ) (Δ := Δ) (ρ := [Sl.va (.d (.str x)), .un]) (e := .cmp .mem (.vr 1) (.g ⟨#[76, 69, 84, 84, 69, 82, 83]⟩ (.str ⟨#[97, 98, 99, 100, 101, 102, 103, 104, 105, 106, 107, 108, 109, 110, 111, 112, 113, 114, 115, 116, 117, 118, 119, 120, 121, 122]⟩))) (it := .vr 0) (tg := .n 1)
    (l := x.cps.toList) (ea := fun c => PyData.str ⟨#[c]⟩) (eb := PyData.bool) (fun c => decide (c ∈ letters)) (wi := .d (.str x)) rfl (by simp [items, hf]) fun c _ => by
      simp [bindT, wipeE, getR, wCmp, wMem, letters]
  unfold nmOk
  by_cases h1 : 1 ≤ x.length
  · by_cases h2 : x.length ≤ 4
    · have i1 : (1 : Int) ≤ (x.length : Int) := by omega
      have i2 : (x.length : Int) ≤ 4 := by omega
      simp [evF, core_2, hl, i1, i2, h1, h2, e]
    · have i1 : (1 : Int) ≤ (x.length : Int) := by omega
      have i2 : ¬ (x.length : Int) ≤ 4 := by omega
      simp [evF, core_2, hl, i1, i2, h1, h2]
  · have i1 : ¬ (1 : Int) ≤ (x.length : Int) := by omega
    simp [evF, core_2, hl, i1, h1]
theorem m3 : F3 (evF Γ Δ N 1 core_3) := fun x hx => by
  have h1 := (Sh.str (n := 0) hx).ok
  have h2 : okd (.str ⟨#[42]⟩) = true := by decide +kernel
  simp [evF, core_3, cmp_eq h1 h2, PyData.eqv, star]
  by_cases e : x = ⟨#[42]⟩ <;> simp [e]
theorem m4 (h2 : F2 (Γ 2)) : F4 (evF Γ Δ N 1 core_4) := fun k hk => by
  have a1 := h2 _ hk.1
  have a2 := h2 _ hk.2
  unfold kOk
  by_cases e : nmOk k.1 = true <;> simp [evF, core_4, kD, ix_t, ix_t1, a1, a2, e]
theorem m5 (h2 : F2 (Γ 2)) (h3 : F3 (Γ 3)) (h4 : F4 (Γ 4)) : F5 (evF Γ Δ N 1 core_5) := fun k hk => by
  have a1 := h2 _ hk.1
  have a2 := h3 _ hk.1
  have a3 := h3 _ hk.2
  have a4 := h4 k hk
  unfold kD at a4
  unfold rOk
  generalize decide (k.1 = star) = s1 at *
  generalize decide (k.2 = star) = s2 at *
  generalize kOk k = b at *
  cases b <;> cases s1 <;> cases s2 <;> simp [evF, core_5, kD, ix_t, ix_t1, a1, a2, a3, a4]
theorem m6 (h1 : F1 (Γ 1)) (h5 : F5 (Γ 5)) : F6 (evF Γ Δ N 1 core_6) := fun e he => by
  have a1 := h1 e.2 0 1000
  have a5 := h5 _ he
  unfold kD at a5
  unfold eyOk
  by_cases q : rOk e.1 = true <;> simp [evF, core_6, eD, ix_t2, sl_t2, a1, a5, q]
theorem lenset_l {α : Type} [DecidableEq α] {f : α → PyData} {h : α → NestedKey} (hk : ∀ a, keyOf (f a) = some (h a)) (inj : ∀ a b, h a = h b → a = b) (ht : ∀ a, ∃ l, f a = .tuple l) {l : List α} (hl : l.length ≤ 60) :
    wBi .lenset [.d (.list (l.map f))] = .ok (.d (.int (dd l).length)) ∧ wBi .lenset [.d (.tuple (l.map f))] = .ok (.d (.int (dd l).length)) := by
  have t : tupKeys (l.map f) = true := by
    unfold tupKeys
    rw [List.all_eq_true]
    intro d hd
    obtain ⟨a, _, rfl⟩ := List.mem_map.mp hd
    obtain ⟨m, e⟩ := ht a
    have := hk a
    rw [e] at this ⊢
    simp [this]
  constructor <;> (simp only [wBi, t, List.length_map, hl, decide_true, Bool.and_self, if_true, dedup_map hk inj])
theorem m7 (h6 : F6 (Γ 6)) : F7 (evF Γ Δ N 2 core_7) := fun A hA => by
  have e1 := ev_lcA (Γ := Γ) (Δ := Δ) (ρ := [Sl.va (.d (.tuple (A.map eD))), .un]) (e := .call 6 [.v 1]) (it := .vr 0) (tg := .n 1) (l := A) (ea := eD) (eb := PyData.bool) eyOk (wi := .d (.tuple (A.map eD))) rfl rfl fun e he => by
    simp [bindT, wipeE, h6 e (hA e he)]
  have e2 := ev_lcA (Γ := Γ) (Δ := Δ) (ρ := [Sl.va (.d (.tuple (A.map eD))), .un]) (e := .sl (.vr 1) [] [.k (.int 2)]) (it := .vr 0) (tg := .n 1) (l := A) (ea := eD) (eb := kD) (fun e => e.1) (wi := .d (.tuple (A.map eD))) rfl rfl fun e he => by
    simp [bindT, wipeE, eD, sl_t2, kD]
  unfold aOk
  by_cases h1 : A.length ≤ 8
  · have i1 : ¬ (8 : Int) < (A.length : Int) := by omega
    have e3 := (lenset_l key_k kK_inj (fun a => ⟨_, rfl⟩) (l := A.map (·.1)) (by rw [List.length_map]; omega)).1
    by_cases h2 : A.all eyOk = true
    · have q := dd_nodup (A.map (·.1))
      rw [List.length_map] at q
      simp [evF, core_7, h1, i1, e1, h2]
      simp only [e2, Rs.bind_ok, e3, cmp_eqi, rbl_ok]
      simp [← q]
      omega
    · simp [evF, core_7, h1, i1, e1, h2]
  · have i1 : (8 : Int) < (A.length : Int) := by omega
    simp [evF, core_7, h1, i1]
theorem m8 (h4 : F4 (Γ 4)) : F8 (evF Γ Δ N 2 core_8) := fun A hA => by
  have e1 := ev_lcA (Γ := Γ) (Δ := Δ) (ρ := [Sl.va (.d (.tuple (A.map kD))), .un]) (e := .call 4 [.v 1]) (it := .vr 0) (tg := .n 1) (l := A) (ea := kD) (eb := PyData.bool) kOk (wi := .d (.tuple (A.map kD))) rfl rfl fun e he => by
    simp [bindT, wipeE, h4 e (hA e he)]
  unfold oOk
  by_cases h1 : A.length ≤ 6
  · have i1 : ¬ (6 : Int) < (A.length : Int) := by omega
    have e3 := (lenset_l key_k kK_inj (fun a => ⟨_, rfl⟩) (l := A) (by omega)).2
    have q := dd_nodup A
    by_cases h2 : A.all kOk = true
    · simp [evF, core_8, h1, i1, e1, h2, e3, ← q]
      omega
    · simp [evF, core_8, h1, i1, e1, h2]
  · have i1 : (6 : Int) < (A.length : Int) := by omega
    simp [evF, core_8, h1, i1]
/-! ### the checks -/
def nLst : Str := ⟨#[73, 110, 118, 97, 108, 105, 100, 76, 105, 115, 116]⟩
def nOff : Str := ⟨#[73, 110, 118, 97, 108, 105, 100, 79, 102, 102, 101, 114]⟩
def nKnd : Str := ⟨#[73, 110, 118, 97, 108, 105, 100, 75, 105, 110, 100]⟩
def chkR (b : Bool) (x : Str) : Rs W := if b then .ok (.d .none) else .exc x
def F9 (g : List W → Rs W) : Prop := ∀ A : List Ey, (∀ e ∈ A, OSk e.1) → g [.d (.tuple (A.map eD))] = chkR (aOk A) nLst
def F10 (g : List W → Rs W) : Prop := ∀ k, OSk k → g [.d (kD k)] = chkR (kOk k) nKnd
def F11 (g : List W → Rs W) : Prop := ∀ O : List Kd, (∀ k ∈ O, OSk k) → g [.d (.tuple (O.map kD))] = chkR (oOk O) nOff
theorem m9 (h7 : F7 (Γ 7)) : F9 (evF Γ Δ N 1 core_9) := fun A hA => by
  by_cases e : aOk A = true <;> simp [evF, core_9, h7 A hA, e, chkR, nLst]
theorem m10 (h4 : F4 (Γ 4)) : F10 (evF Γ Δ N 1 core_10) := fun A hA => by
  by_cases e : kOk A = true <;> simp [evF, core_10, h4 A hA, e, chkR, nKnd]
theorem m11 (h8 : F8 (Γ 8)) : F11 (evF Γ Δ N 1 core_11) := fun A hA => by
  by_cases e : oOk A = true <;> simp [evF, core_11, h8 A hA, e, chkR, nOff]
end
end Pz
namespace Pz
open PySem PySem.Spec PyProof.Rows L2 LamX

/-! ### entries, weights, choices -/
def findE (A : List Ey) (k : Kd) : Option Ey := (A.find? fun e => decide (e.1 = k)).or ((A.find? fun e => decide (e.1 = (k.1, star))).or (A.find? fun e => decide (e.1 = (star, star))))
def findW (A : List Ey) (k : Kd) : Int := match findE A k with
  | some e => e.2
  | none => 0
def optE : Option Ey → PyData
  | some e => eD e
  | none => .none
def optK : Option Kd → PyData
  | some k => kD k
  | none => .none
def accE (A : List Ey) (O : List Kd) : List Kd := O.filter fun k => decide (0 < findW A k)
def leW (A : List Ey) (a b : Kd) : Bool := decide (findW A b ≤ findW A a)
def rnkE (A : List Ey) (O : List Kd) : List Kd := (accE A O).mergeSort (leW A)
def chE (A : List Ey) (O : List Kd) : Option Kd := (rnkE A O).head?
def okA (A : List Ey) : Prop := ∀ e ∈ A, OSk e.1
def okO (O : List Kd) : Prop := ∀ k ∈ O, OSk k
abbrev tA (A : List Ey) : W := .d (.tuple (A.map eD))
abbrev tO (O : List Kd) : W := .d (.tuple (O.map kD))
def F12 (g : List W → Rs W) : Prop := ∀ A k, okA A → OSk k → g [tA A, .d (kD k)] = .ok (.d (optE (findE A k)))
def F13 (g : List W → Rs W) : Prop := ∀ A k, okA A → OSk k → g [tA A, .d (kD k)] = .ok (.d (.int (findW A k)))
def F16 (g : List W → Rs W) : Prop := ∀ A O, okA A → okO O → g [tA A, tO O] = .ok (.d (.list ((accE A O).map kD)))
def F18 (g : List W → Rs W) : Prop := ∀ A O, okA A → okO O → g [tA A, tO O] = .ok (.d (.list ((rnkE A O).map kD)))
def F20 (g : List W → Rs W) : Prop := ∀ A O, okA A → okO O → g [tA A, tO O] = .ok (.d (optK (chE A O)))
theorem eqv_nil (l : List PyData) : PyData.eqv (.list l) (.list []) = l.isEmpty := by
  cases l <;> simp [PyData.eqv, PyData.eqvAll]
theorem sh_lE {A : List Ey} (h : okA A) : Sh 2 (.list (A.map eD)) := Sh.list fun d hd => by
  obtain ⟨e, he, rfl⟩ := List.mem_map.mp hd
  exact sh_e (h e he)
theorem sh_lK {A : List Kd} (h : okO A) : Sh 2 (.list (A.map kD)) := Sh.list fun d hd => by
  obtain ⟨e, he, rfl⟩ := List.mem_map.mp hd
  exact sh_k (h e he)
theorem sh_tE {A : List Ey} (h : okA A) : Sh 2 (.tuple (A.map eD)) := Sh.tuple fun d hd => by
  obtain ⟨e, he, rfl⟩ := List.mem_map.mp hd
  exact sh_e (h e he)
theorem sh_tK {A : List Kd} (h : okO A) : Sh 2 (.tuple (A.map kD)) := Sh.tuple fun d hd => by
  obtain ⟨e, he, rfl⟩ := List.mem_map.mp hd
  exact sh_k (h e he)
theorem okd_nil : okd (.list []) = true := by decide +kernel
section
variable {Γ : Fns} {Δ : Dyn} {N : Nat}
theorem b12 {A : List Ey} (hA : okA A) {p : Kd} (hp : OSk p) (kw : W) (s3 s4 : Sl) : evSs Γ Δ N [.asg 3 (.lc (.v 4) (.n 4) (.vr 0) [.cmp .eq (.sl (.vr 4) [] [.k (.int 2)]) (.vr 2)]), .iff (.cmp .ne (.vr 3) (.lst [])) [.ret (.ix (.vr 3) (.k (.int 0)))] []] [.va (tA A), .va kw, .va (.d (kD p)), s3, s4] =
    .ok ([.va (tA A), .va kw, .va (.d (kD p)), .va (.d (.list ((A.filter fun e => decide (e.1 = p)).map eD))), s4], match A.find? fun e => decide (e.1 = p) with
      | some e => .rt (.d (eD e))
      | none => .nx) := by
  have e1 := ev_lc (Γ := Γ) (Δ := Δ) (ρ := [.va (tA A), .va kw, .va (.d (kD p)), s3, s4]) (e := .v 4) (it := .vr 0) (tg := .n 4) (ifs := [.cmp .eq (.sl (.vr 4) [] [.k (.int 2)]) (.vr 2)]) (l := A) (ea := eD) (eb := eD) (fun e => decide (e.1 = p)) (fun e => e) (wi := tA A) rfl rfl fun e he => by
    have q := cmp_eq (sh_k (hA e he)).ok (sh_k hp).ok
    rw [tells_k] at q
    have hs : wSl (.d (eD e)) none (some 2) = .ok (.d (kD e.1)) := sl_t2 _ _ _
    generalize decide (e.1 = p) = z at q
    cases z <;> simp [bindT, wipeE, hs, q]
  have e2 := cmp_ne (sh_lE (A := A.filter fun e => decide (e.1 = p)) fun e he => hA e (List.mem_filter.mp he).1).ok okd_nil
  rw [eqv_nil] at e2
  simp only [List.map_id'] at e1
  rw [← List.head?_filter]
  cases q : A.filter (fun e => decide (e.1 = p)) with
  | nil =>
    rw [q] at e1 e2
    simp at e1 e2
    simp [e1, e2, fits]
  | cons e r =>
    rw [q] at e1 e2
    simp at e1 e2
    simp [e1, e2, fits, ix_l]
theorem os_st {k : Kd} (h : OSk k) : OSk (k.1, star) := ⟨h.1, OS.star⟩
theorem os_ss : OSk (star, star) := ⟨OS.star, OS.star⟩
theorem m12 : F12 (evF Γ Δ N 5 core_12) := fun A k hA hk => by
  have et : evE Γ Δ (.tup [.v 1, .tup [.ix (.vr 1) (.k (.int 0)), .g ⟨#[65, 78, 89]⟩ (.str ⟨#[42]⟩)], .tup [.g ⟨#[65, 78, 89]⟩ (.str ⟨#[42]⟩), .g ⟨#[65, 78, 89]⟩ (.str ⟨#[42]⟩)]]) [.va (tA A), .va (.d (kD k)), .un, .un, .un] = .ok (.d (.tuple [kD k, kD (k.1, star), kD (star, star)])) := by
    simp [ix_t, fits, kD, star]
  have ef : evS Γ Δ N (.fo (.n 2) (.tup [.v 1, .tup [.ix (.vr 1) (.k (.int 0)), .g ⟨#[65, 78, 89]⟩ (.str ⟨#[42]⟩)], .tup [.g ⟨#[65, 78, 89]⟩ (.str ⟨#[42]⟩), .g ⟨#[65, 78, 89]⟩ (.str ⟨#[42]⟩)]]) [.asg 3 (.lc (.v 4) (.n 4) (.vr 0) [.cmp .eq (.sl (.vr 4) [] [.k (.int 2)]) (.vr 2)]), .iff (.cmp .ne (.vr 3) (.lst [])) [.ret (.ix (.vr 3) (.k (.int 0)))] []]) [.va (tA A), .va (.d (kD k)), .un, .un, .un] =
      (forF (fun ρ x => bindT ρ (.n 2) x) (evSs Γ Δ N [.asg 3 (.lc (.v 4) (.n 4) (.vr 0) [.cmp .eq (.sl (.vr 4) [] [.k (.int 2)]) (.vr 2)]), .iff (.cmp .ne (.vr 3) (.lst [])) [.ret (.ix (.vr 3) (.k (.int 0)))] []]) [kD k, kD (k.1, star), kD (star, star)] [.va (tA A), .va (.d (kD k)), .un, .un, .un]) := by
    rw [evS_fo, et]; rfl
  unfold findE
  have e0 : ([tA A, W.d (kD k)].map Sl.va ++ List.replicate (5 - [tA A, W.d (kD k)].length) Sl.un) = [.va (tA A), .va (.d (kD k)), .un, .un, .un] := rfl
  unfold evF core_12
  rw [e0, show ∀ c r ρ, evSs Γ Δ N (c :: r) ρ = (evS Γ Δ N c ρ).bind fun p => match p.2 with
    | .nx => evSs Γ Δ N r p.1
    | .rt w => .ok (p.1, .rt w) from fun _ _ _ => rfl, ef]
  simp only [forF, bindT, Rs.bind_ok, List.set_cons_succ, List.set_cons_zero, b12 hA hk, b12 hA (os_st hk), b12 hA os_ss]
  cases q1 : A.find? (fun e => decide (e.1 = k)) with
  | some e => simp [optE]
  | none =>
    simp only [Rs.bind_ok, b12 hA (os_st hk)]
    cases q2 : A.find? (fun e => decide (e.1 = (k.1, star))) with
    | some e => simp [optE]
    | none =>
      simp only [Rs.bind_ok, b12 hA os_ss]
      cases q3 : A.find? (fun e => decide (e.1 = (star, star))) with
      | some e => simp [optE]
      | none => simp [optE]
theorem m13 (h : F12 (Γ 12)) : F13 (evF Γ Δ N 3 core_13) := fun A k hA hk => by
  have e := h A k hA hk
  unfold findW
  cases q : findE A k with
  | none =>
    rw [q] at e
    simp [evF, core_13, e, optE, wCmp, wIs]
  | some y =>
    rw [q] at e
    have i : wIx (.d (eD y)) (.d (.int 2)) = .ok (.d (.int y.2)) := ix_t2 _ _ _ _
    have j : wCmp .is (.d (eD y)) (.d .none) = .ok false := rfl
    simp [evF, core_13, e, optE, i, j]
theorem m16 (h : F13 (Γ 13)) : F16 (evF Γ Δ N 3 core_16) := fun A O hA hO => by
  have e1 := ev_lc (Γ := Γ) (Δ := Δ) (ρ := [.va (tA A), .va (tO O), .un]) (e := .v 2) (it := .vr 1) (tg := .n 2) (ifs := [.cmp .gt (.call 13 [.v 0, .v 2]) (.k (.int 0))]) (l := O) (ea := kD) (eb := kD) (fun k => decide (0 < findW A k)) (fun e => e) (wi := tO O) rfl rfl fun k hk => by
    by_cases z : 0 < findW A k <;> simp [bindT, wipeE, h A k hA (hO k hk), z]
  simp only [List.map_id'] at e1
  simp [evF, core_16, e1, accE]
theorem keys_map {α : Type} {f : PyData → Rs W} {ea : α → PyData} {g : α → PyData} : ∀ {l : List α}, (∀ a ∈ l, f (ea a) = .ok (.d (g a))) → keysOfF f (l.map ea) = .ok (l.map fun a => (g a, ea a))
  | [], _ => rfl
  | a :: l, h => by
    rw [List.map_cons, keysOfF, h a List.mem_cons_self, keys_map (l := l) fun b hb => h b (List.mem_cons_of_mem _ hb)]; rfl
theorem sortable_ints {α : Type} (l : List α) (g : α → Int) : sortable (l.map fun a => .int (g a)) = true := by
  unfold sortable
  have h1 : ((l.map fun a => PyData.int (g a)).all fun a => okd a && (l.map fun a => PyData.int (g a)).all fun b => W.alike a b) = true := by
    rw [List.all_eq_true]
    intro d hd
    obtain ⟨a, _, rfl⟩ := List.mem_map.mp hd
    rw [(Sh.int (n := 0) _).ok, Bool.true_and, List.all_eq_true]
    intro d hd
    obtain ⟨b, _, rfl⟩ := List.mem_map.mp hd
    rfl
  rw [h1, Bool.true_and, Bool.or_eq_true]
  refine .inr (List.all_eq_true.mpr fun d hd => ?_)
  obtain ⟨a, _, rfl⟩ := List.mem_map.mp hd
  rfl
theorem sortK_ints {α : Type} {ea : α → PyData} (l : List α) (g : α → Int) : sortK (l.map fun a => (.int (g a), ea a)) = .ok ((l.mergeSort fun a b => decide (g a ≤ g b)).map ea) := by
  unfold sortK
  have h := sortable_ints l g
  rw [show (l.map fun a => (PyData.int (g a), ea a)).map (·.1) = l.map fun a => PyData.int (g a) by rw [List.map_map]; rfl, if_pos h]
  rw [← List.map_mergeSort (r := fun a b => decide (g a ≤ g b)) (s := W.dataLe false (·.1)) (f := fun a => (PyData.int (g a), ea a)) (l := l) fun a _ b _ => ?_]
  · rw [List.map_map]; rfl
  · show _ = (!PySem.W.dataLt (.int (g b)) (.int (g a)))
    rw [PySem.W.dataLt_int]
    by_cases z : g a ≤ g b
    · have : ¬ g b < g a := by omega
      simp [z, this]
    · have : g b < g a := by omega
      simp [z, this]
theorem m18 (h13 : F13 (Γ 13)) (h16 : F16 (Γ 16)) : F18 (evF Γ Δ N 3 core_18) := fun A O hA hO => by
  have e1 : evE Γ Δ (.srtk (.call 16 [.v 0, .v 1]) 2 (.bin .sub (.k (.int 0)) (.call 13 [.v 0, .v 2]))) [.va (tA A), .va (tO O), .un] = .ok (.d (.list ((rnkE A O).map kD))) := by
    rw [evE_srtk]
    have e2 : evE Γ Δ (.call 16 [.v 0, .v 1]) [.va (tA A), .va (tO O), .un] = .ok (.d (.list ((accE A O).map kD))) := by simp [h16 A O hA hO]
    have e3 : keysOfF (fun y => evE Γ Δ (.bin .sub (.k (.int 0)) (.call 13 [.v 0, .v 2])) ((noMu [.va (tA A), .va (tO O), .un]).set 2 (.va (.d y)))) ((accE A O).map kD) = .ok ((accE A O).map fun k => (.int (0 - findW A k), kD k)) :=
      keys_map (g := fun k => .int (0 - findW A k)) fun k hk => by
        have hk2 : k ∈ O := (List.mem_filter.mp hk).1
        simp [noMu, h13 A k hA (hO k hk2)]
    rw [e2, Rs.bind_ok]
    show (Rs.ok ((accE A O).map kD)).bind _ = _
    rw [Rs.bind_ok, e3, Rs.bind_ok, sortK_ints, Rs.bind_ok]
    unfold rnkE
    have : (fun a b : Kd => decide (0 - findW A a ≤ 0 - findW A b)) = leW A := by
      funext a b
      unfold leW
      refine decide_eq_decide.mpr ⟨fun h => by omega, fun h => by omega⟩
    rw [this]
  simp [evF, core_18, e1]
theorem ok_acc {A : List Ey} {O : List Kd} (h : okO O) : okO (accE A O) := fun k hk => h k (List.mem_filter.mp hk).1
theorem ok_rnk {A : List Ey} {O : List Kd} (h : okO O) : okO (rnkE A O) := fun k hk => ok_acc h k (List.mem_mergeSort.mp hk)
theorem m20 (h18 : F18 (Γ 18)) : F20 (evF Γ Δ N 3 core_20) := fun A O hA hO => by
  have e := h18 A O hA hO
  have e2 := cmp_ne (sh_lK (ok_rnk (A := A) hO)).ok okd_nil
  rw [eqv_nil] at e2
  unfold chE
  cases q : rnkE A O with
  | nil =>
    rw [q] at e e2
    simp at e e2
    simp [evF, core_20, e, e2, fits, optK]
  | cons k r =>
    rw [q] at e e2
    simp at e e2
    simp [evF, core_20, e, e2, fits, optK, ix_l]
end
end Pz
namespace Pz
open PySem PySem.Spec PyProof.Rows L2 LamX

/-! ### stable sorts -/
section
variable {α : Type} {le : α → α → Bool}
def Tr (le : α → α → Bool) : Prop := ∀ x y z, le x y = true → le y z = true → le x z = true
def To (le : α → α → Bool) : Prop := ∀ x y, (le x y || le y x) = true
theorem sort_filter (tr : Tr le) (to : To le) (p : α → Bool) (l : List α) : (l.mergeSort le).filter p = (l.filter p).mergeSort le := by
  refine PySem.W.Srt.the le tr to ((List.pairwise_mergeSort tr to l).filter p) fun z => ?_
  rw [List.filter_filter, List.filter_filter, ← List.filter_filter]
  have e : (fun a => PySem.W.Srt.alike le z a && p a) = fun a => p a && PySem.W.Srt.alike le z a := by funext a; exact Bool.and_comm ..
  have h := PySem.W.Srt.any_kept le tr to l z
  rw [List.filter_filter, e, ← List.filter_filter, h, List.filter_filter, ← e]
/-- the first of the least -/
def best (le : α → α → Bool) : List α → Option α
  | [] => none
  | a :: l => match best le l with
    | none => some a
    | some b => if le a b then some a else some b
theorem best_mem : ∀ {l : List α} {a : α}, best le l = some a → a ∈ l
  | [], _, h => by cases h
  | b :: l, a, h => by
    unfold best at h
    cases q : best le l with
    | none => rw [q] at h; cases h; exact List.mem_cons_self
    | some c =>
      rw [q] at h
      dsimp only at h
      split at h
      · cases h; exact List.mem_cons_self
      · cases h; exact List.mem_cons_of_mem _ (best_mem q)
theorem best_none {l : List α} (h : best le l = none) : l = [] := by
  cases l with
  | nil => rfl
  | cons a l =>
    unfold best at h
    cases q : best le l with
    | none => rw [q] at h; cases h
    | some c => rw [q] at h; dsimp only at h; split at h <;> cases h
theorem head_sort (tr : Tr le) (to : To le) : ∀ l : List α, (l.mergeSort le).head? = best le l
  | [] => by simp [best]
  | a :: l => by
    obtain ⟨l1, l2, h1, h2, h3⟩ := List.mergeSort_cons (le := le) tr to a l
    have ih := head_sort tr to l
    rw [h2] at ih
    rw [h1, best, ← ih]
    cases l1 with
    | nil =>
      cases l2 with
      | nil => rfl
      | cons b l2 =>
        have hp := List.pairwise_mergeSort (le := le) tr to (a :: l)
        rw [h1] at hp
        have : le a b = true := (List.pairwise_cons.mp hp).1 b List.mem_cons_self
        simp [this]
    | cons b l1 =>
      have := h3 b List.mem_cons_self
      simp at this
      simp [this]
def comb (le : α → α → Bool) : Option α → Option α → Option α
  | none, y => y
  | some a, none => some a
  | some a, some b => if le a b then some a else some b
theorem best_cons (a : α) (l : List α) : best le (a :: l) = comb le (some a) (best le l) := by
  rw [best]
  cases best le l <;> rfl
theorem comb_assoc (tr : Tr le) (to : To le) (x y z : Option α) : comb le x (comb le y z) = comb le (comb le x y) z := by
  cases x with
  | none => rfl
  | some a =>
    cases y with
    | none => cases z <;> rfl
    | some b =>
      cases z with
      | none => by_cases h : le a b = true <;> simp [comb, h]
      | some c =>
        by_cases h1 : le a b = true <;> by_cases h2 : le b c = true
        · have := tr a b c h1 h2
          simp [comb, h1, h2, this]
        · simp [comb, h1, h2]
        · simp [comb, h1, h2]
        · have hb : le b a = true := by have := to a b; simp [h1] at this; exact this
          have h3 : le a c = false := by
            cases e : le a c with
            | false => rfl
            | true => exact absurd (tr b a c hb e) h2
          simp [comb, h1, h2, h3]
theorem best_app (tr : Tr le) (to : To le) : ∀ l m : List α, best le (l ++ m) = comb le (best le l) (best le m)
  | [], m => rfl
  | a :: l, m => by rw [List.cons_append, best_cons, best_app tr to l m, comb_assoc tr to, ← best_cons]
theorem best_opt (c : Option α) : best le c.toList = c := by cases c <;> rfl
theorem best_parts (tr : Tr le) (to : To le) (l m : List α) : best le ((best le l).toList ++ (best le m).toList) = best le (l ++ m) := by
  rw [best_app tr to, best_app tr to, best_opt, best_opt]
theorem sort_idem (tr : Tr le) (to : To le) (l : List α) : (l.mergeSort le).mergeSort le = l.mergeSort le := List.mergeSort_of_pairwise (List.pairwise_mergeSort tr to l)
end

/-! ### choices -/
theorem tr_w (A : List Ey) : Tr (leW A) := fun x y z h1 h2 => by
  unfold leW at *
  simp only [decide_eq_true_eq] at *
  omega
theorem to_w (A : List Ey) : To (leW A) := fun x y => by
  unfold leW
  simp only [Bool.or_eq_true, decide_eq_true_eq]
  omega
theorem ch_best (A : List Ey) (O : List Kd) : chE A O = best (leW A) (accE A O) := head_sort (tr_w A) (to_w A) _
theorem ch_mem {A : List Ey} {O : List Kd} {k : Kd} (h : chE A O = some k) : k ∈ accE A O := by
  rw [ch_best] at h
  exact best_mem h
theorem ch_none {A : List Ey} {O : List Kd} : chE A O = none ↔ accE A O = [] := by
  rw [ch_best]
  exact ⟨best_none, fun h => by rw [h]; rfl⟩
theorem acc_filter (A : List Ey) (O : List Kd) (p : Kd → Bool) : accE A (O.filter p) = (accE A O).filter p := by
  unfold accE
  rw [List.filter_filter, List.filter_filter]
  congr 1
  funext a
  exact Bool.and_comm ..
theorem rnk_filter (A : List Ey) (O : List Kd) (p : Kd → Bool) : rnkE A (O.filter p) = (rnkE A O).filter p := by
  unfold rnkE
  rw [acc_filter, sort_filter (tr_w A) (to_w A)]
theorem rnk_nodup {A : List Ey} {O : List Kd} (h : O.Nodup) : (rnkE A O).Nodup := ((List.mergeSort_perm _ _).nodup_iff).mpr (List.Nodup.sublist List.filter_sublist h)
/-- the chosen one left out: the rest of the ranking -/
theorem rnk_tail {A : List Ey} {O : List Kd} {k : Kd} (hn : O.Nodup) (h : chE A O = some k) : rnkE A O = k :: rnkE A (O.filter fun j => !decide (some j = chE A O)) := by
  rw [rnk_filter, h]
  have n := rnk_nodup (A := A) hn
  unfold chE at h
  cases q : rnkE A O with
  | nil => rw [q] at h; cases h
  | cons j r =>
    rw [q] at h n
    cases h
    obtain ⟨n1, n2⟩ := List.nodup_cons.mp n
    rw [List.filter_cons_of_neg (by simp), List.filter_eq_self.mpr fun a ha => ?_]
    have : a ≠ k := fun z => n1 (z ▸ ha)
    simp [this]
/-- another one left out: the same choice -/
theorem ch_rest {A : List Ey} {O : List Kd} {k : Kd} (h : chE A O ≠ some k) : chE A (O.filter fun j => !decide (j = k)) = chE A O := by
  unfold chE at *
  rw [rnk_filter]
  cases q : rnkE A O with
  | nil => rfl
  | cons j r =>
    rw [q] at h
    have : j ≠ k := fun z => h (by rw [z]; rfl)
    rw [List.filter_cons_of_pos (by simp [this])]
    rfl
theorem ch_top {A : List Ey} {O : List Kd} {t k : Kd} (h : chE A O = some t) (hk : k ∈ O) : findW A k ≤ findW A t := by
  have ht := ch_mem h
  have h0 : 0 < findW A t := of_decide_eq_true (List.mem_filter.mp ht).2
  by_cases hw : 0 < findW A k
  · have hm : k ∈ rnkE A O := List.mem_mergeSort.mpr (List.mem_filter.mpr ⟨hk, decide_eq_true hw⟩)
    have hp : (rnkE A O).Pairwise fun x y => leW A x y = true := List.pairwise_mergeSort (tr_w A) (to_w A) _
    unfold chE at h
    cases q : rnkE A O with
    | nil => rw [q] at h; cases h
    | cons j r =>
      rw [q] at h hm hp
      cases h
      rcases List.mem_cons.mp hm with e | hr
      · rw [e]; exact Int.le_refl _
      · exact of_decide_eq_true ((List.pairwise_cons.mp hp).1 k hr)
  · omega
theorem ch_one (A : List Ey) (k : Kd) : chE A [k] = if 0 < findW A k then some k else none := by
  rw [ch_best]
  unfold accE
  by_cases h : 0 < findW A k
  · simp [h, best]
  · simp [h, best]
theorem acc_idem (A : List Ey) (O : List Kd) : accE A (accE A O) = accE A O := by
  unfold accE
  rw [List.filter_filter]
  congr 1
  funext a
  simp
theorem ch_acc (A : List Ey) (O : List Kd) : chE A (accE A O) = chE A O := by
  rw [ch_best, ch_best, acc_idem]
theorem acc_rnk (A : List Ey) (O : List Kd) : accE A (rnkE A O) = rnkE A O := List.filter_eq_self.mpr fun k hk => (List.mem_filter.mp (List.mem_mergeSort.mp hk)).2
theorem ch_rnk (A : List Ey) (O : List Kd) : chE A (rnkE A O) = chE A O := by
  unfold chE
  have : rnkE A (rnkE A O) = rnkE A O := by
    have h : rnkE A (rnkE A O) = (accE A (rnkE A O)).mergeSort (leW A) := rfl
    rw [h, acc_rnk]
    exact sort_idem (tr_w A) (to_w A) _
  rw [this]
theorem acc_opt {A : List Ey} {O : List Kd} : accE A (chE A O).toList = (chE A O).toList := by
  cases q : chE A O with
  | none => rfl
  | some k =>
    have := (List.mem_filter.mp (ch_mem q)).2
    have h : 0 < findW A k := of_decide_eq_true this
    simp [accE, h]
theorem acc_app (A : List Ey) (O P : List Kd) : accE A (O ++ P) = accE A O ++ accE A P := List.filter_append ..
theorem ch_parts (A : List Ey) (O P : List Kd) : chE A ((chE A O).toList ++ (chE A P).toList) = chE A (O ++ P) := by
  have := best_parts (tr_w A) (to_w A) (accE A O) (accE A P)
  rw [ch_best A (_ ++ _), acc_app, acc_opt, acc_opt, ch_best A (O ++ P), acc_app, ch_best A O, ch_best A P]
  exact this
/-- entries in another order -/
theorem find_perm {A B : List Ey} (hp : A.Perm B) (hn : (A.map (·.1)).Nodup) (k : Kd) : (A.find? fun e => decide (e.1 = k)) = B.find? fun e => decide (e.1 = k) := by
  have key : ∀ {A : List Ey}, (A.map (·.1)).Nodup → ∀ e : Ey, (A.find? fun e => decide (e.1 = k)) = some e ↔ (e ∈ A ∧ e.1 = k) := by
    intro A
    induction A with
    | nil => intro _ e; simp
    | cons a A ih =>
      intro hn e
      rw [List.map_cons, List.nodup_cons] at hn
      rw [List.find?_cons]
      by_cases h : a.1 = k
      · simp only [h, decide_true]
        constructor
        · intro z; cases z; exact ⟨List.mem_cons_self, h⟩
        · rintro ⟨z, z2⟩
          rcases List.mem_cons.mp z with z | z
          · rw [z]
          · exact absurd (List.mem_map.mpr ⟨e, z, z2.trans h.symm⟩) hn.1
      · simp only [h, decide_false]
        rw [ih hn.2]
        constructor
        · rintro ⟨z, z2⟩; exact ⟨List.mem_cons_of_mem _ z, z2⟩
        · rintro ⟨z, z2⟩
          rcases List.mem_cons.mp z with z | z
          · rw [z] at z2; exact absurd z2 h
          · exact ⟨z, z2⟩
  have hn2 : (B.map (·.1)).Nodup := ((hp.map _).nodup_iff).mp hn
  refine Option.ext fun e => ?_
  rw [key hn, key hn2, hp.mem_iff]
theorem findE_perm {A B : List Ey} (hp : A.Perm B) (hn : (A.map (·.1)).Nodup) (k : Kd) : findE A k = findE B k := by
  unfold findE
  rw [find_perm hp hn, find_perm hp hn, find_perm hp hn]
theorem findW_perm {A B : List Ey} (hp : A.Perm B) (hn : (A.map (·.1)).Nodup) : findW A = findW B := by
  funext k
  unfold findW
  rw [findE_perm hp hn]
theorem rnk_perm {A B : List Ey} (hp : A.Perm B) (hn : (A.map (·.1)).Nodup) (O : List Kd) : rnkE A O = rnkE B O := by
  have h := findW_perm hp hn
  unfold rnkE accE leW
  rw [h]
theorem ch_perm {A B : List Ey} (hp : A.Perm B) (hn : (A.map (·.1)).Nodup) (O : List Kd) : chE A O = chE B O := by
  unfold chE
  rw [rnk_perm hp hn]
theorem aOk_perm {A B : List Ey} (hp : A.Perm B) (h : aOk A = true) : aOk B = true := by
  unfold aOk at *
  simp only [Bool.and_eq_true, decide_eq_true_eq, List.all_eq_true] at *
  exact ⟨hp.length_eq ▸ h.1, fun e he => h.2.1 e (hp.mem_iff.mpr he), ((hp.map _).nodup_iff).mp h.2.2⟩
theorem oOk_sub {O P : List Kd} (hs : P.Sublist O) (h : oOk O = true) : oOk P = true := by
  unfold oOk at *
  simp only [Bool.and_eq_true, decide_eq_true_eq, List.all_eq_true] at *
  exact ⟨Nat.le_trans hs.length_le h.1, fun e he => h.2.1 e (hs.subset he), h.2.2.sublist hs⟩
theorem oOk_perm {O P : List Kd} (hp : O.Perm P) (h : oOk O = true) : oOk P = true := by
  unfold oOk at *
  simp only [Bool.and_eq_true, decide_eq_true_eq, List.all_eq_true] at *
  exact ⟨hp.length_eq ▸ h.1, fun e he => h.2.1 e (hp.mem_iff.mpr he), (hp.nodup_iff).mp h.2.2⟩
theorem aOk_os {A : List Ey} (h : aOk A = true) : okA A := fun e he => by
  unfold aOk at h
  simp only [Bool.and_eq_true, decide_eq_true_eq, List.all_eq_true] at h
  have := h.2.1 e he
  unfold eyOk at this
  rw [Bool.and_eq_true] at this
  exact r_os this.1
theorem aOk_nd {A : List Ey} (h : aOk A = true) : (A.map (·.1)).Nodup := by
  unfold aOk at h
  simp only [Bool.and_eq_true, decide_eq_true_eq] at h
  exact h.2.2
theorem oOk_os {O : List Kd} (h : oOk O = true) : okO O := fun e he => by
  unfold oOk at h
  simp only [Bool.and_eq_true, decide_eq_true_eq, List.all_eq_true] at h
  exact k_os (h.2.1 e he)
theorem oOk_nd {O : List Kd} (h : oOk O = true) : O.Nodup := by
  unfold oOk at h
  simp only [Bool.and_eq_true, decide_eq_true_eq] at h
  exact h.2.2
theorem oOk_k {O : List Kd} (h : oOk O = true) {k : Kd} (hk : k ∈ O) : kOk k = true := by
  unfold oOk at h
  simp only [Bool.and_eq_true, decide_eq_true_eq, List.all_eq_true] at h
  exact h.2.1 k hk
theorem oOk_acc {A : List Ey} {O : List Kd} (h : oOk O = true) : oOk (accE A O) = true := oOk_sub List.filter_sublist h
theorem oOk_rnk {A : List Ey} {O : List Kd} (h : oOk O = true) : oOk (rnkE A O) = true := oOk_perm (List.mergeSort_perm _ _).symm (oOk_acc (A := A) h)
end Pz
namespace Pz
open PySem PySem.Spec PyProof.Rows L2 LamX

/-! ### the checked functions -/
def chk2 (A : List Ey) (O : List Kd) (r : W) : Rs W := if aOk A then (if oOk O then .ok r else .exc nOff) else .exc nLst
def chk1 (A : List Ey) (k : Kd) (r : W) : Rs W := if aOk A then (if kOk k then .ok r else .exc nKnd) else .exc nLst
def F14 (g : List W → Rs W) : Prop := ∀ A k, okA A → OSk k → g [tA A, .d (kD k)] = chk1 A k (.d (optE (findE A k)))
def F15 (g : List W → Rs W) : Prop := ∀ A k, okA A → OSk k → g [tA A, .d (kD k)] = chk1 A k (.d (.int (findW A k)))
def F17 (g : List W → Rs W) : Prop := ∀ A O, okA A → okO O → g [tA A, tO O] = chk2 A O (.d (.list ((accE A O).map kD)))
def F19 (g : List W → Rs W) : Prop := ∀ A O, okA A → okO O → g [tA A, tO O] = chk2 A O (.d (.list ((rnkE A O).map kD)))
def F21 (g : List W → Rs W) : Prop := ∀ A O, okA A → okO O → g [tA A, tO O] = chk2 A O (.d (optK (chE A O)))
def F24 (g : List W → Rs W) : Prop := ∀ A O, aOk A = true → oOk O = true → g [tA A, tO O] = .ok (tO (O.filter fun k => !decide (some k = chE A O)))
def F25 (g : List W → Rs W) : Prop := ∀ A O, aOk A = true → oOk O = true → g [tA A, tO O] = .ok (.d (.list ((rnkE A O).map kD)))
section
variable {Γ : Fns} {Δ : Dyn} {N : Nat}
theorem m14 (h9 : F9 (Γ 9)) (h10 : F10 (Γ 10)) (h : F12 (Γ 12)) : F14 (evF Γ Δ N 2 core_14) := fun A k hA hk => by
  have e9 := h9 A hA
  have e10 := h10 k hk
  have e := h A k hA hk
  unfold chk1
  by_cases z1 : aOk A = true <;> by_cases z2 : kOk k = true <;> simp [chkR, z1, z2] at e9 e10 <;> simp [evF, core_14, e9, e10, e, z1, z2]
theorem m15 (h9 : F9 (Γ 9)) (h10 : F10 (Γ 10)) (h : F13 (Γ 13)) : F15 (evF Γ Δ N 2 core_15) := fun A k hA hk => by
  have e9 := h9 A hA
  have e10 := h10 k hk
  have e := h A k hA hk
  unfold chk1
  by_cases z1 : aOk A = true <;> by_cases z2 : kOk k = true <;> simp [chkR, z1, z2] at e9 e10 <;> simp [evF, core_15, e9, e10, e, z1, z2]
theorem m17 (h9 : F9 (Γ 9)) (h11 : F11 (Γ 11)) (h : F16 (Γ 16)) : F17 (evF Γ Δ N 2 core_17) := fun A O hA hO => by
  have e9 := h9 A hA
  have e11 := h11 O hO
  have e := h A O hA hO
  unfold chk2
  by_cases z1 : aOk A = true <;> by_cases z2 : oOk O = true <;> simp [chkR, z1, z2] at e9 e11 <;> simp [evF, core_17, e9, e11, e, z1, z2]
theorem m19 (h9 : F9 (Γ 9)) (h11 : F11 (Γ 11)) (h : F18 (Γ 18)) : F19 (evF Γ Δ N 2 core_19) := fun A O hA hO => by
  have e9 := h9 A hA
  have e11 := h11 O hO
  have e := h A O hA hO
  unfold chk2
  by_cases z1 : aOk A = true <;> by_cases z2 : oOk O = true <;> simp [chkR, z1, z2] at e9 e11 <;> simp [evF, core_19, e9, e11, e, z1, z2]
theorem m21 (h9 : F9 (Γ 9)) (h11 : F11 (Γ 11)) (h : F20 (Γ 20)) : F21 (evF Γ Δ N 2 core_21) := fun A O hA hO => by
  have e9 := h9 A hA
  have e11 := h11 O hO
  have e := h A O hA hO
  unfold chk2
  by_cases z1 : aOk A = true <;> by_cases z2 : oOk O = true <;> simp [chkR, z1, z2] at e9 e11 <;> simp [evF, core_21, e9, e11, e, z1, z2]
theorem F14.ok {g : List W → Rs W} (h : F14 g) {A : List Ey} {k : Kd} (hA : aOk A = true) (hk : kOk k = true) : g [tA A, .d (kD k)] = .ok (.d (optE (findE A k))) := by rw [h A k (aOk_os hA) (k_os hk), chk1, hA, hk]; rfl
theorem F15.ok {g : List W → Rs W} (h : F15 g) {A : List Ey} {k : Kd} (hA : aOk A = true) (hk : kOk k = true) : g [tA A, .d (kD k)] = .ok (.d (.int (findW A k))) := by rw [h A k (aOk_os hA) (k_os hk), chk1, hA, hk]; rfl
theorem F17.ok {g : List W → Rs W} (h : F17 g) {A : List Ey} {O : List Kd} (hA : aOk A = true) (hO : oOk O = true) : g [tA A, tO O] = .ok (.d (.list ((accE A O).map kD))) := by rw [h A O (aOk_os hA) (oOk_os hO), chk2, hA, hO]; rfl
theorem F19.ok {g : List W → Rs W} (h : F19 g) {A : List Ey} {O : List Kd} (hA : aOk A = true) (hO : oOk O = true) : g [tA A, tO O] = .ok (.d (.list ((rnkE A O).map kD))) := by rw [h A O (aOk_os hA) (oOk_os hO), chk2, hA, hO]; rfl
theorem F21.ok {g : List W → Rs W} (h : F21 g) {A : List Ey} {O : List Kd} (hA : aOk A = true) (hO : oOk O = true) : g [tA A, tO O] = .ok (.d (optK (chE A O))) := by rw [h A O (aOk_os hA) (oOk_os hO), chk2, hA, hO]; rfl
theorem ch_os {A : List Ey} {O : List Kd} (hO : okO O) {k : Kd} (h : chE A O = some k) : OSk k := hO k (List.mem_filter.mp (ch_mem h)).1
theorem sh_oK {c : Option Kd} (h : ∀ k, c = some k → OSk k) : Sh 1 (optK c) := by
  cases c with
  | none => exact Sh.none
  | some k => exact sh_k (h k rfl)
theorem tells_oK : Tells optK := fun a b => by
  cases a <;> cases b
  · rfl
  · rfl
  · rfl
  · rename_i a b
    show PyData.eqv (kD a) (kD b) = _
    rw [tells_k]
    by_cases e : a = b <;> simp [e]
theorem neq_ko {k : Kd} {c : Option Kd} (hk : OSk k) (hc : ∀ k, c = some k → OSk k) : wCmp .ne (.d (kD k)) (.d (optK c)) = .ok (!decide (some k = c)) := by
  rw [cmp_ne (sh_k hk).ok (sh_oK hc).ok, show kD k = optK (some k) from rfl, tells_oK]
theorem m24 (h : F21 (Γ 21)) : F24 (evF Γ Δ N 4 core_24) := fun A O hA hO => by
  have e0 := h.ok hA hO
  have e1 := ev_lc (Γ := Γ) (Δ := Δ) (ρ := [.va (tA A), .va (tO O), .va (.d (optK (chE A O))), .un]) (e := .v 3) (it := .vr 1) (tg := .n 3) (ifs := [.cmp .ne (.vr 3) (.vr 2)]) (l := O) (ea := kD) (eb := kD) (fun k => !decide (some k = chE A O)) (fun e => e) (wi := tO O) rfl rfl fun k hk => by
    have q := neq_ko (oOk_os hO k hk) (fun k h => ch_os (oOk_os hO) h) (c := chE A O)
    generalize decide (some k = chE A O) = z at q
    cases z <;> simp [bindT, wipeE, q]
  simp only [List.map_id'] at e1
  simp [evF, core_24, e0, e1]
theorem whl_step {t : En → Rs Bool} {b : En → Rs (En × Fl)} {m : Nat} {ρ ρ' : En} (h1 : t ρ = .ok true) (h2 : b ρ = .ok (ρ', .nx)) : whlF t b (m + 1) ρ = whlF t b m ρ' := by
  rw [whlF, h1, Rs.bind_ok, if_pos rfl, h2]; rfl
theorem whl_stop {t : En → Rs Bool} {b : En → Rs (En × Fl)} {m : Nat} {ρ : En} (h1 : t ρ = .ok false) : whlF t b (m + 1) ρ = .ok (ρ, .nx) := by
  rw [whlF, h1, Rs.bind_ok, if_neg Bool.false_ne_true]
def body25 : List CS := [.app 3 (.v 2), .asg 1 (.call 24 [.v 0, .v 1]), .asg 2 (.call 20 [.v 0, .v 1])]
def test25 (Γ : Fns) (Δ : Dyn) : En → Rs Bool := fun ρ => (evE Γ Δ (.cmp .isn (.vr 2) (.k .none)) ρ).bind truth
theorem w25 (h20 : F20 (Γ 20)) (h24 : F24 (Γ 24)) {A : List Ey} (hA : aOk A = true) : ∀ (n m : Nat) (O : List Kd) (fd : List PyData), oOk O = true → O.length ≤ n → n < m → fd.length + O.length ≤ 100 →
    ∃ O' : List Kd, ∃ w, whlF (test25 Γ Δ) (evSs Γ Δ N body25) m [.va (tA A), .va (tO O), .va (.d (optK (chE A O))), .mu (.d (.list fd))] =
      .ok ([.va (tA A), .va (tO O'), .va w, .mu (.d (.list (fd ++ (rnkE A O).map kD)))], .nx)
  | n, 0, O, fd, _, _, h, _ => absurd h (Nat.not_lt_zero _)
  | n, m + 1, O, fd, hO, hl, hm, hf => by
    cases q : chE A O with
    | none =>
      have r : rnkE A O = [] := by
        cases e : rnkE A O with
        | nil => rfl
        | cons a b => unfold chE at q; rw [e] at q; cases q
      refine ⟨O, .d .none, ?_⟩
      rw [whl_stop (by simp [test25, optK, wCmp, wIs]), r]
      simp [optK]
    | some k =>
      have ht := rnk_tail (oOk_nd hO) q
      have hk : k ∈ O := (List.mem_filter.mp (ch_mem q)).1
      have hO2 : oOk (O.filter fun j => !decide (some j = chE A O)) = true := oOk_sub List.filter_sublist hO
      have hlt : (O.filter fun j => !decide (some j = chE A O)).length < O.length := by
        rw [← Nat.not_le]
        intro hle
        have e := List.length_filter_eq_length_iff.mp (Nat.le_antisymm (List.length_filter_le ..) hle) k hk
        rw [q] at e
        simp at e
      have e24 := h24 A O hA hO
      have e20 := h20 A (O.filter fun j => !decide (some j = chE A O)) (aOk_os hA) (oOk_os hO2)
      have hpos : 0 < O.length := List.length_pos_of_mem hk
      obtain ⟨O', w, ih⟩ := w25 h20 h24 hA (n - 1) m (O.filter fun j => !decide (some j = chE A O)) (fd ++ [kD k]) hO2 (by omega) (by omega) (by rw [List.length_append, List.length_singleton]; omega)
      refine ⟨O', w, ?_⟩
      have j : wCmp .isn (.d (kD k)) (.d .none) = .ok true := rfl
      have hfit : fits (fd.length + 1) = true := decide_eq_true (by omega)
      rw [ht]
      generalize (O.filter fun j => !decide (some j = chE A O)) = P at *
      rw [whl_step (ρ' := [.va (tA A), .va (tO P), .va (.d (optK (chE A P))), .mu (.d (.list (fd ++ [kD k])))]) (by simp [test25, optK, j]) (by simp [body25, optK, getML, appD, hfit, e24, e20]), ih]
      simp
theorem m25 (h20 : F20 (Γ 20)) (h21 : F21 (Γ 21)) (h24 : F24 (Γ 24)) : F25 (evF Γ Δ 4000 4 core_25) := fun A O hA hO => by
  have e21 := h21.ok hA hO
  have hl : O.length ≤ 6 := by
    unfold oOk at hO
    rw [Bool.and_eq_true] at hO
    exact of_decide_eq_true hO.1
  obtain ⟨O', w, e⟩ := w25 (Γ := Γ) (Δ := Δ) (N := 4000) h20 h24 hA 6 4000 O [] hO hl (by decide) (by simp; omega)
  have e2 : evS Γ Δ 4000 (.whl (.cmp .isn (.vr 2) (.k .none)) [.app 3 (.v 2), .asg 1 (.call 24 [.v 0, .v 1]), .asg 2 (.call 20 [.v 0, .v 1])]) [.va (tA A), .va (tO O), .va (.d (optK (chE A O))), .mu (.d (.list []))] = _ := e
  rw [List.nil_append] at e2
  simp [evF, core_25, e21, e2, fits, parF, freezeE]
end
end Pz
namespace Pz
open PySem PySem.Spec PyProof.Rows L2 LamX

/-! ### what is drawn from the script -/
abbrev sI (ns : List Int) : W := .d (.list (ns.map .int))
def F26 (g : List W → Rs W) : Prop := ∀ (ns : List Int) (k m : Int), 0 ≤ k → k < 1000000000000 → 0 < m → ∃ r, 0 ≤ r ∧ r < m ∧ g [sI ns, .d (.int k), .d (.int m)] = .ok (.d (.int r))
theorem small_of {i : Int} (h1 : -18446744073709551616 < i) (h2 : i < 18446744073709551616) : small64 i = true := decide_eq_true (by omega)
theorem mul_i {a b : Int} (h1 : small64 a = true) (h2 : small64 b = true) : wBin .mul (.d (.int a)) (.d (.int b)) = .ok (.d (.int (a * b))) := by
  simp [wBin, h1, h2]
theorem div_i {a b : Int} (h1 : 0 < b) (h2 : small64 b = true) : wBin .div (.d (.int a)) (.d (.int b)) = .ok (.d (.int (a / b))) := by
  simp [wBin, h1, h2]
theorem mod_i {a b : Int} (h1 : 0 < b) : wBin .mod (.d (.int a)) (.d (.int b)) = .ok (.d (.int (a % b))) := by
  simp [wBin, h1]
section
variable {Γ : Fns} {Δ : Dyn} {N : Nat}
def c26a : CE := .bin .mod (.bin .add (.bin .mul (.bin .mod (.vr 3) (.k (.int 2147483563))) (.k (.int 69069))) (.bin .mul (.k (.int 104723)) (.bin .add (.vr 1) (.k (.int 1))))) (.k (.int 2147483563))
def c26b : CE := .bin .mod (.bin .add (.bin .mul (.vr 3) (.vr 3)) (.bin .div (.vr 3) (.k (.int 3)))) (.k (.int 2147483399))
def c26c : CE := .bin .mod (.bin .div (.bin .mod (.bin .add (.bin .mul (.vr 3) (.vr 3)) (.bin .div (.vr 3) (.k (.int 7)))) (.k (.int 2147483647))) (.k (.int 11))) (.vr 2)
theorem v26a (l : Sl) (k m cell : Int) (s4 s5 : Sl) (h1 : 0 ≤ k) (h2 : k < 1000000000000) : ∃ c, 0 ≤ c ∧ c < 2147483563 ∧ evE Γ Δ c26a [l, .va (.d (.int k)), .va (.d (.int m)), .va (.d (.int cell)), s4, s5] = .ok (.d (.int c)) := by
  have a1 : small64 (cell % 2147483563) = true := small_of (by omega) (by omega)
  have a2 : small64 (k + 1) = true := small_of (by omega) (by omega)
  have a3 : small64 69069 = true := by decide
  have a4 : small64 104723 = true := by decide
  refine ⟨(cell % 2147483563 * 69069 + 104723 * (k + 1)) % 2147483563, by omega, by omega, ?_⟩
  simp [c26a, mod_i, mul_i, a1, a2, a3, a4]
theorem v26b (l : Sl) (k m c : Int) (s4 s5 : Sl) (h1 : 0 ≤ c) (h2 : c < 2147483563) : ∃ d, 0 ≤ d ∧ d < 2147483399 ∧ evE Γ Δ c26b [l, .va (.d (.int k)), .va (.d (.int m)), .va (.d (.int c)), s4, s5] = .ok (.d (.int d)) := by
  have a1 : small64 c = true := small_of (by omega) (by omega)
  have a3 : small64 3 = true := by decide
  refine ⟨(c * c + c / 3) % 2147483399, Int.emod_nonneg _ (by decide), Int.emod_lt_of_pos _ (by decide), ?_⟩
  simp [c26b, mod_i, mul_i, div_i, a1, a3]
theorem v26c (l : Sl) (k m c : Int) (s4 s5 : Sl) (h1 : 0 ≤ c) (h2 : c < 2147483399) (hm : 0 < m) : ∃ d, 0 ≤ d ∧ d < m ∧ evE Γ Δ c26c [l, .va (.d (.int k)), .va (.d (.int m)), .va (.d (.int c)), s4, s5] = .ok (.d (.int d)) := by
  have a1 : small64 c = true := small_of (by omega) (by omega)
  have a3 : small64 7 = true := by decide
  have a4 : small64 11 = true := by decide
  refine ⟨(c * c + c / 7) % 2147483647 / 11 % m, Int.emod_nonneg _ (by omega), Int.emod_lt_of_pos _ hm, ?_⟩
  simp [c26c, mod_i, mul_i, div_i, a1, a3, a4, hm]
def tail26 : List CS := [.asg 3 c26a, .asg 3 c26b, .ret c26c]
theorem t26 (l : Sl) (k m cell : Int) (s4 s5 : Sl) (h1 : 0 ≤ k) (h2 : k < 1000000000000) (hm : 0 < m) : ∃ ρ' r, 0 ≤ r ∧ r < m ∧ evSs Γ Δ N tail26 [l, .va (.d (.int k)), .va (.d (.int m)), .va (.d (.int cell)), s4, s5] = .ok (ρ', .rt (.d (.int r))) := by
  obtain ⟨c, p1, p2, e1⟩ := v26a (Γ := Γ) (Δ := Δ) l k m cell s4 s5 h1 h2
  obtain ⟨d, q1, q2, e2⟩ := v26b (Γ := Γ) (Δ := Δ) l k m c s4 s5 p1 p2
  obtain ⟨r, r1, r2, e3⟩ := v26c (Γ := Γ) (Δ := Δ) l k m d s4 s5 q1 q2 hm
  refine ⟨[l, .va (.d (.int k)), .va (.d (.int m)), .va (.d (.int d)), s4, s5], r, r1, r2, ?_⟩
  simp [tail26, e1, e2, e3]
/-! the loop -/
def body26 : List CS := [.asg 5 (.bin .div (.vr 5) (.k (.int 1000000))), .asg 4 (.bin .sub (.vr 4) (.k (.int 1)))]
def test26 (Γ : Fns) (Δ : Dyn) : En → Rs Bool := fun ρ => (evE Γ Δ (.and [.cmp .gt (.vr 5) (.k (.int 0)), .cmp .gt (.vr 4) (.k (.int 0))]) ρ).bind truth
theorem w26 (a b c d : Sl) : ∀ (n : Nat) (turn : Nat) (rest : Int), turn < n → ∃ t' r', whlF (test26 Γ Δ) (evSs Γ Δ N body26) n [a, b, c, d, .va (.d (.int turn)), .va (.d (.int rest))] = .ok ([a, b, c, d, .va (.d (.int t')), .va (.d (.int r'))], .nx)
  | 0, turn, rest, h => absurd h (Nat.not_lt_zero _)
  | n + 1, turn, rest, h => by
    by_cases h1 : 0 < rest
    · cases turn with
      | zero =>
        refine ⟨(0 : Nat), rest, whl_stop ?_⟩
        simp [test26, h1]
      | succ t =>
        obtain ⟨t', r', ih⟩ := w26 a b c d n t (rest / 1000000) (by omega)
        refine ⟨t', r', ?_⟩
        have s : small64 1000000 = true := by decide
        have p : (0 : Int) < (t : Int) + 1 := by omega
        rw [whl_step (ρ' := [a, b, c, d, .va (.d (.int t)), .va (.d (.int (rest / 1000000)))]) (by simp [test26, h1, p]) (by simp [body26, div_i, s]), ih]
    · refine ⟨turn, rest, whl_stop ?_⟩
      simp [test26, h1]
theorem core26 : core_26 = .asg 3 (.bin .mul (.k (.int 7)) (.vr 1)) :: .iff (.cmp .ne (.vr 0) (.lst [])) [.asg 3 (.ix (.vr 0) (.bin .mod (.vr 1) (.bi .len [.vr 0]))), .asg 4 (.bin .div (.vr 1) (.bi .len [.vr 0])), .iff (.and [.cmp .ge (.vr 3) (.bin .pow (.k (.int 10)) (.k (.int 18))), .cmp .lt (.vr 4) (.k (.int 60))]) [.asg 5 (.bin .div (.vr 3) (.bin .pow (.k (.int 10)) (.k (.int 18)))), .whl (.and [.cmp .gt (.vr 5) (.k (.int 0)), .cmp .gt (.vr 4) (.k (.int 0))]) body26, .iff (.cmp .gt (.vr 5) (.k (.int 0))) [.ret (.bin .mod (.bin .mod (.vr 5) (.k (.int 1000000))) (.vr 2))] []] [], .asg 3 (.bin .add (.vr 3) (.bin .mul (.k (.int 6553)) (.bin .div (.vr 1) (.bi .len [.vr 0]))))] [] :: tail26 := rfl
theorem n26 {L : W} {k m : Int} (h1 : 0 ≤ k) (h2 : k < 1000000000000) (hm : 0 < m) (hne : wCmp .ne L (.d (.list [])) = .ok false) : ∃ r, 0 ≤ r ∧ r < m ∧ evF Γ Δ 4000 6 core_26 [L, .d (.int k), .d (.int m)] = .ok (.d (.int r)) := by
  have s7 : small64 7 = true := by decide
  have sk : small64 k = true := small_of (by omega) (by omega)
  obtain ⟨ρ', r, r1, r2, e⟩ := t26 (Γ := Γ) (Δ := Δ) (N := 4000) (.va L) k m (7 * k) .un .un h1 h2 hm
  refine ⟨r, r1, r2, ?_⟩
  simp [evF, core26, mul_i, s7, sk, fits, hne, e]
theorem y26 {L : W} {k m v : Int} {n : Nat} (h1 : 0 ≤ k) (h2 : k < 1000000000000) (hm : 0 < m) (hne : wCmp .ne L (.d (.list [])) = .ok true) (hn : 0 < n) (hn2 : n < 1000000) (hlen : wBi .len [L] = .ok (.d (.int n))) (hix : wIx L (.d (.int (k % n))) = .ok (.d (.int v))) :
    ∃ r, 0 ≤ r ∧ r < m ∧ evF Γ Δ 4000 6 core_26 [L, .d (.int k), .d (.int m)] = .ok (.d (.int r)) := by
  have s7 : small64 7 = true := by decide
  have s8 : small64 6553 = true := by decide
  have sk : small64 k = true := small_of (by omega) (by omega)
  have hnp : (0 : Int) < (n : Int) := by omega
  have sn : small64 (n : Int) = true := small_of (by omega) (by omega)
  have d0 : 0 ≤ k / (n : Int) := Int.ediv_nonneg h1 (by omega)
  have d1 : k / (n : Int) ≤ k := Int.ediv_le_self _ h1
  obtain ⟨t, ht⟩ := Int.eq_ofNat_of_zero_le d0
  have st : small64 (t : Int) = true := small_of (by omega) (by omega)
  have hp : wBin .pow (.d (.int 10)) (.d (.int 18)) = .ok (.d (.int 1000000000000000000)) := by rfl
  have sp : small64 1000000000000000000 = true := by decide
  have tailE : ∀ cell s4 s5, ∃ r, 0 ≤ r ∧ r < m ∧ ∃ ρ', evSs Γ Δ 4000 tail26 [.va L, .va (.d (.int k)), .va (.d (.int m)), .va (.d (.int cell)), s4, s5] = .ok (ρ', .rt (.d (.int r))) := fun cell s4 s5 => by
    obtain ⟨ρ', r, r1, r2, e⟩ := t26 (Γ := Γ) (Δ := Δ) (N := 4000) (.va L) k m cell s4 s5 h1 h2 hm
    exact ⟨r, r1, r2, ρ', e⟩
  by_cases c : 1000000000000000000 ≤ v ∧ (t : Int) < 60
  · obtain ⟨c1, c2⟩ := c
    obtain ⟨t', r', ew⟩ := w26 (Γ := Γ) (Δ := Δ) (N := 4000) (.va L) (.va (.d (.int k))) (.va (.d (.int m))) (.va (.d (.int v))) 4000 t (v / 1000000000000000000) (by omega)
    have ew2 : evS Γ Δ 4000 (.whl (.and [.cmp .gt (.vr 5) (.k (.int 0)), .cmp .gt (.vr 4) (.k (.int 0))]) body26) [.va L, .va (.d (.int k)), .va (.d (.int m)), .va (.d (.int v)), .va (.d (.int t)), .va (.d (.int (v / 1000000000000000000)))] = _ := ew
    by_cases hr : 0 < r'
    · refine ⟨r' % 1000000 % m, Int.emod_nonneg _ (by omega), Int.emod_lt_of_pos _ hm, ?_⟩
      simp [evF, core26, mul_i, div_i, mod_i, s7, sk, fits, hne, hlen, hix, hn, hnp, sn, ht, hp, sp, c1, c2, ew2, hr, hm]
    · obtain ⟨r, r1, r2, ρ', e⟩ := tailE (v + 6553 * t) (.va (.d (.int t'))) (.va (.d (.int r')))
      refine ⟨r, r1, r2, ?_⟩
      simp [evF, core26, mul_i, div_i, mod_i, s7, s8, st, sk, fits, hne, hlen, hix, hn, hnp, sn, ht, hp, sp, c1, c2, ew2, hr, hm, e]
  · obtain ⟨r, r1, r2, ρ', e⟩ := tailE (v + 6553 * t) (.va (.d (.int t))) .un
    refine ⟨r, r1, r2, ?_⟩
    by_cases c1 : 1000000000000000000 ≤ v
    · have c2 : ¬ (t : Int) < 60 := fun z => c ⟨c1, z⟩
      simp [evF, core26, mul_i, div_i, mod_i, s7, s8, st, sk, fits, hne, hlen, hix, hn, hnp, sn, ht, hp, sp, c1, c2, hm, e]
    · simp [evF, core26, mul_i, div_i, mod_i, s7, s8, st, sk, fits, hne, hlen, hix, hn, hnp, sn, ht, hp, sp, c1, hm, e]
def F26' (n : Nat) (g : List W → Rs W) : Prop := ∀ (ns : List Int) (k m : Int), ns.length ≤ n → 0 ≤ k → k < 1000000000000 → 0 < m → ∃ r, 0 ≤ r ∧ r < m ∧ g [sI ns, .d (.int k), .d (.int m)] = .ok (.d (.int r))
theorem m26 : F26' 1000 (evF Γ Δ 4000 6 core_26) := fun ns k m hl h1 h2 hm => by
  have shl : okd (.list (ns.map .int)) = true := (Sh.list (n := 0) fun d hd => by
    obtain ⟨i, _, rfl⟩ := List.mem_map.mp hd
    exact Sh.int i).ok
  have e2 := cmp_ne shl okd_nil
  rw [eqv_nil] at e2
  by_cases z : ns = []
  · subst z
    exact n26 h1 h2 hm e2
  · have hpos : 0 < ns.length := List.length_pos_iff.mpr z
    have hne : (ns.map PyData.int).isEmpty = false := by cases ns with
      | nil => exact absurd rfl z
      | cons a l => rfl
    rw [hne] at e2
    have p0 : 0 ≤ k % (ns.length : Int) := Int.emod_nonneg _ (by omega)
    have p1 : k % (ns.length : Int) < (ns.length : Int) := Int.emod_lt_of_pos _ (by omega)
    obtain ⟨j, hj⟩ := Int.eq_ofNat_of_zero_le p0
    have hj2 : j < ns.length := by omega
    refine y26 (v := ns[j]) h1 h2 hm e2 hpos (by omega) (by show Rs.ok (W.d (.int ((ns.map PyData.int).length))) = _; rw [List.length_map]) ?_
    rw [hj]
    have i1 : ixN (ns.map PyData.int).length (j : Int) = some j := by
      unfold ixN
      rw [if_pos (Int.natCast_nonneg _), List.length_map, if_pos (by omega)]; rfl
    show (match atI (ns.map PyData.int) (j : Int) with
      | some d => Rs.ok (W.d d)
      | none => .stuck) = _
    unfold atI
    rw [i1]
    simp [hj2]
end
end Pz
namespace Pz
open PySem PySem.Spec PyProof.Rows L2 LamX

theorem ix_mem {l : List PyData} {i : Int} (h1 : 0 ≤ i) (h2 : i < l.length) : ∃ x ∈ l, wIx (.d (.list l)) (.d (.int i)) = .ok (.d x) := by
  obtain ⟨j, hj⟩ := Int.eq_ofNat_of_zero_le h1
  have hj2 : j < l.length := by omega
  refine ⟨l[j], List.getElem_mem hj2, ?_⟩
  have i1 : ixN l.length i = some j := by
    unfold ixN
    rw [if_pos h1, if_pos h2, hj]; rfl
  show (match atI l i with
    | some d => Rs.ok (W.d d)
    | none => .stuck) = _
  unfold atI
  rw [i1]
  simp [hj2]
theorem for_inv {f : En → PyData → Rs En} {b : En → Rs (En × Fl)} {I : Nat → En → Prop} {n : Nat} : ∀ {xs : List PyData} {j : Nat} {ρ : En}, I j ρ → j + xs.length ≤ n → (∀ j ρ x, x ∈ xs → j < n → I j ρ → ∃ ρ1 ρ', f ρ x = .ok ρ1 ∧ b ρ1 = .ok (ρ', .nx) ∧ I (j + 1) ρ') → ∃ ρ', forF f b xs ρ = .ok (ρ', .nx) ∧ I (j + xs.length) ρ'
  | [], j, ρ, h, _, _ => ⟨ρ, rfl, h⟩
  | x :: xs, j, ρ, h, hn, k => by
    rw [List.length_cons] at hn
    obtain ⟨ρ1, ρ', e1, e2, h'⟩ := k j ρ x List.mem_cons_self (by omega) h
    obtain ⟨ρ2, e3, h2⟩ := for_inv h' (by omega) fun j ρ y hy hj hi => k j ρ y (List.mem_cons_of_mem _ hy) hj hi
    refine ⟨ρ2, ?_, by rw [List.length_cons, show j + (xs.length + 1) = j + 1 + xs.length by omega]; exact h2⟩
    rw [forF, e1, Rs.bind_ok, e2, Rs.bind_ok]
    exact e3
theorem rng_for {f : En → PyData → Rs En} {b : En → Rs (En × Fl)} {I : Nat → En → Prop} {r : Int} (h1 : 0 ≤ r) {ρ : En} (h : I 0 ρ) (k : ∀ (j : Nat) (ρ : En) (i : Int), 0 ≤ i → i < r → (j : Int) < r → I j ρ → ∃ ρ1 ρ', f ρ (.int i) = .ok ρ1 ∧ b ρ1 = .ok (ρ', .nx) ∧ I (j + 1) ρ') :
    ∃ ρ', forF f b ((List.range r.toNat).map fun (i : Nat) => PyData.int (0 + (i : Int))) ρ = .ok (ρ', .nx) ∧ I r.toNat ρ' := by
  have := for_inv (f := f) (b := b) (I := I) (n := r.toNat) (xs := (List.range r.toNat).map fun (i : Nat) => PyData.int (0 + (i : Int))) (j := 0) (ρ := ρ) h (by simp) fun j ρ x hx hj hi => by
    obtain ⟨i, h2, rfl⟩ := List.mem_map.mp hx
    have h3 := List.mem_range.mp h2
    exact k j ρ (0 + (i : Int)) (by omega) (by omega) (by omega) hi
  simpa using this
def F27 (g : List W → Rs W) : Prop := ∀ (ns : List Int) (at_ : Int), ns.length ≤ 1000 → 0 ≤ at_ → at_ < 100000000000 → ∃ k, kOk k = true ∧ g [sI ns, .d (.int at_)] = .ok (.d (kD k))
def F28 (g : List W → Rs W) : Prop := ∀ (ns : List Int) (at_ most : Int), ns.length ≤ 1000 → 0 ≤ at_ → at_ < 1000000000 → 0 ≤ most → most ≤ 8 → ∃ A, aOk A = true ∧ g [sI ns, .d (.int at_), .d (.int most)] = .ok (tA A)
def F29 (g : List W → Rs W) : Prop := ∀ (ns : List Int) (at_ most : Int), ns.length ≤ 1000 → 0 ≤ at_ → at_ < 1000000000 → 0 ≤ most → most ≤ 6 → ∃ O, oOk O = true ∧ g [sI ns, .d (.int at_), .d (.int most)] = .ok (tO O)
theorem rng_ok {r : Int} (h1 : 0 ≤ r) (h2 : r ≤ 1000) : wRng (.d (.int r)) = .ok ((List.range r.toNat).map fun (i : Nat) => PyData.int (0 + (i : Int))) := by
  have e : (fits r.toNat && decide (-(4611686018427387904) ≤ r)) = true := by
    unfold fits
    simp only [Bool.and_eq_true, decide_eq_true_eq]
    omega
  unfold wRng
  simp only [e, if_true]
section
variable {Γ : Fns} {Δ : Dyn} {N : Nat}
theorem m27 (h26 : F26' 1000 (Γ 26)) : F27 (evF Γ Δ N 2 core_27) := fun ns a hl h1 h2 => by
  obtain ⟨r, r1, r2, e1⟩ := h26 ns a 4 hl h1 (by omega) (by decide)
  obtain ⟨q, q1, q2, e2⟩ := h26 ns (a + 1) 4 hl (by omega) (by omega) (by decide)
  obtain ⟨x, hx, ex⟩ := ix_mem (l := [.str ⟨#[97]⟩, .str ⟨#[98]⟩, .str ⟨#[97, 97]⟩, .str ⟨#[120]⟩]) r1 r2
  obtain ⟨y, hy, ey⟩ := ix_mem (l := [.str ⟨#[97]⟩, .str ⟨#[99]⟩, .str ⟨#[97, 97]⟩, .str ⟨#[121]⟩]) q1 q2
  have key : ∃ k : Kd, kOk k = true ∧ x = .str k.1 ∧ y = .str k.2 := by
    have gx : ∃ s : Str, nmOk s = true ∧ x = .str s := by
      simp only [List.mem_cons, List.not_mem_nil, or_false] at hx
      rcases hx with rfl | rfl | rfl | rfl <;> exact ⟨_, by decide +kernel, rfl⟩
    have gy : ∃ s : Str, nmOk s = true ∧ y = .str s := by
      simp only [List.mem_cons, List.not_mem_nil, or_false] at hy
      rcases hy with rfl | rfl | rfl | rfl <;> exact ⟨_, by decide +kernel, rfl⟩
    obtain ⟨s, s1, s2⟩ := gx
    obtain ⟨t, t1, t2⟩ := gy
    exact ⟨(s, t), by unfold kOk; rw [s1, t1]; rfl, s2, t2⟩
  obtain ⟨k, hk, rfl, rfl⟩ := key
  refine ⟨k, hk, ?_⟩
  simp [evF, core_27, fits, e1, e2, ex, ey, kD]
def ite28 : CE := .ite (.cmp .lt (.vr 8) (.k (.int 3))) (.v 7) (.ite (.cmp .eq (.vr 8) (.k (.int 3))) (.tup [.ix (.vr 7) (.k (.int 0)), .k (.str ⟨#[42]⟩)]) (.tup [.k (.str ⟨#[42]⟩), .k (.str ⟨#[42]⟩)]))
theorem v28 (a b c d e f g : Sl) {k : Kd} (hk : kOk k = true) (w : Int) : ∃ p, rOk p = true ∧ evE Γ Δ ite28 [a, b, c, d, e, f, g, .va (.d (kD k)), .va (.d (.int w))] = .ok (.d (kD p)) := by
  have hn : nmOk k.1 = true := by unfold kOk at hk; rw [Bool.and_eq_true] at hk; exact hk.1
  by_cases h1 : w < 3
  · exact ⟨k, by unfold rOk; rw [hk]; rfl, by simp [ite28, h1]⟩
  · by_cases h2 : w = 3
    · refine ⟨(k.1, star), by unfold rOk; rw [hn]; simp, ?_⟩
      simp [ite28, h2, ix_t, fits, kD, star]
    · refine ⟨(star, star), by unfold rOk; simp, ?_⟩
      simp [ite28, h1, h2, fits, kD, star]
def iff28 : CS := .iff (.cmp .nmem (.vr 7) (.vr 5)) [.app 5 (.v 7), .app 4 (.bin .add (.vr 7) (.tup [.ix (.lst [.k (.int 0), .k (.int 1), .k (.int 2), .k (.int 5), .k (.int 2), .k (.int 1000), .k (.int 0), .k (.int 7)]) (.call 26 [.v 0, .bin .add (.vr 6) (.k (.int 3)), .k (.int 8)])]))] []
theorem i28 (h26 : F26' 1000 (Γ 26)) {ns : List Int} (hl : ns.length ≤ 1000) (b c d s8 : Sl) {p : Kd} (hp : rOk p = true) {here : Int} (h1 : 0 ≤ here) (h2 : here < 100000000000) {A : List Ey} (hA : A.all eyOk = true) (hn : (A.map (·.1)).Nodup) (hs : A.length ≤ 100) :
    ∃ A' : List Ey, A'.all eyOk = true ∧ (A'.map (·.1)).Nodup ∧ A'.length ≤ A.length + 1 ∧ evS Γ Δ N iff28 [.va (sI ns), b, c, d, .mu (.d (.list (A.map eD))), .mu (.d (.list ((A.map (·.1)).map kD))), .va (.d (.int here)), .va (.d (kD p)), s8] =
      .ok ([.va (sI ns), b, c, d, .mu (.d (.list (A'.map eD))), .mu (.d (.list ((A'.map (·.1)).map kD))), .va (.d (.int here)), .va (.d (kD p)), s8], .nx) := by
  have hok : okO (A.map (·.1)) := fun k hk => by
    obtain ⟨e, he, rfl⟩ := List.mem_map.mp hk
    have := List.all_eq_true.mp hA e he
    unfold eyOk at this
    rw [Bool.and_eq_true] at this
    exact r_os this.1
  have em : wCmp .nmem (.d (kD p)) (.d (.list ((A.map (·.1)).map kD))) = .ok (!decide (p ∈ A.map (·.1))) := by
    have : wCmp .nmem (.d (kD p)) (.d (.list ((A.map (·.1)).map kD))) = rNot (wMem (.d (kD p)) (.d (.list ((A.map (·.1)).map kD)))) := by simp only [wCmp]
    rw [this, cmp_meml (sh_k (r_os hp)).ok (sh_lK hok).ok, any_eqv tells_k, rnot_ok]
    by_cases hz : p ∈ A.map (·.1) <;> simp only [hz, decide_true, decide_false]
  have hfl : fits ((A.map eD).length + 1) = true := decide_eq_true (by rw [List.length_map]; omega)
  have hfl2 : fits (((A.map (·.1)).map kD).length + 1) = true := decide_eq_true (by rw [List.length_map, List.length_map]; omega)
  obtain ⟨r, r1, r2, e26⟩ := h26 ns (here + 3) 8 hl (by omega) (by omega) (by decide)
  obtain ⟨x, hx, ex⟩ := ix_mem (l := [.int 0, .int 1, .int 2, .int 5, .int 2, .int 1000, .int 0, .int 7]) r1 r2
  have gx : ∃ w : Int, (0 ≤ w ∧ w ≤ 1000) ∧ x = .int w := by
    simp only [List.mem_cons, List.not_mem_nil, or_false] at hx
    rcases hx with rfl | rfl | rfl | rfl | rfl | rfl | rfl | rfl <;> exact ⟨_, by decide, rfl⟩
  obtain ⟨w, ⟨w1, w2⟩, rfl⟩ := gx
  by_cases z : p ∈ A.map (·.1)
  · refine ⟨A, hA, hn, by omega, ?_⟩
    rw [decide_eq_true z] at em
    generalize A.map eD = LA at *
    generalize (A.map (·.1)).map kD = LT at *
    simp [iff28, em]
  · refine ⟨A ++ [(p, w)], ?_, ?_, by simp, ?_⟩
    · rw [List.all_append, hA]
      simp [eyOk, hp, w1, w2]
    · rw [List.map_append]
      refine List.nodup_append.mpr ⟨hn, by simp, fun a ha b hb e => ?_⟩
      simp at hb
      rw [e, hb] at ha
      exact z ha
    · rw [decide_eq_false z] at em
      rw [List.map_append, List.map_append, List.map_append]
      have eadd : wBin .add (.d (kD p)) (.d (.tuple [.int w])) = .ok (.d (eD (p, w))) := by
        simp [wBin, kD, eD, fits]
      generalize A.map eD = LA at *
      generalize (A.map (·.1)).map kD = LT at *
      have f8 : fits 8 = true := rfl
      have f1 : fits 1 = true := rfl
      simp [iff28, em, getML, appD, hfl, hfl2, f8, f1, e26, ex, eadd]
def body28 : List CS := [.asg 6 (.bin .add (.bin .add (.vr 1) (.k (.int 1))) (.bin .mul (.k (.int 5)) (.vr 3))), .par [(7, false), (8, false)] [.call 27 [.v 0, .v 6], .call 26 [.v 0, .bin .add (.vr 6) (.k (.int 2)), .k (.int 5)]], .asg 7 ite28, iff28]
def I28 (ns : List Int) (a m : Int) (j : Nat) (ρ : En) : Prop := ∃ (A : List Ey) (s3 s6 s7 s8 : Sl), A.all eyOk = true ∧ (A.map (·.1)).Nodup ∧ A.length ≤ j ∧ ρ = [.va (sI ns), .va (.d (.int a)), .va (.d (.int m)), s3, .mu (.d (.list (A.map eD))), .mu (.d (.list ((A.map (·.1)).map kD))), s6, s7, s8]
theorem b28 (h26 : F26' 1000 (Γ 26)) (h27 : F27 (Γ 27)) {ns : List Int} (hl : ns.length ≤ 1000) {a m i : Int} (h1 : 0 ≤ a) (h2 : a < 1000000000) (i1 : 0 ≤ i) (i2 : i ≤ 100) {j : Nat} (hj : j ≤ 100) {ρ : En} (I : I28 ns a m j ρ) :
    ∃ ρ', evSs Γ Δ N body28 (ρ.set 3 (.va (.d (.int i)))) = .ok (ρ', .nx) ∧ I28 ns a m (j + 1) ρ' := by
  obtain ⟨A, s3, s6, s7, s8, hA, hn, hs, rfl⟩ := I
  obtain ⟨k, hk, e27⟩ := h27 ns (a + 1 + 5 * i) hl (by omega) (by omega)
  obtain ⟨w, w1, w2, e26⟩ := h26 ns (a + 1 + 5 * i + 2) 5 hl (by omega) (by omega) (by decide)
  obtain ⟨p, hp, ei⟩ := v28 (Γ := Γ) (Δ := Δ) (.va (sI ns)) (.va (.d (.int a))) (.va (.d (.int m))) (.va (.d (.int i))) (.mu (.d (.list (A.map eD)))) (.mu (.d (.list ((A.map (·.1)).map kD)))) (.va (.d (.int (a + 1 + 5 * i)))) hk w
  obtain ⟨A', hA', hn', hs', ef⟩ := i28 (Δ := Δ) (N := N) h26 hl (.va (.d (.int a))) (.va (.d (.int m))) (.va (.d (.int i))) (.va (.d (.int w))) hp (here := a + 1 + 5 * i) (by omega) (by omega) hA hn (by omega)
  refine ⟨_, ?_, A', .va (.d (.int i)), .va (.d (.int (a + 1 + 5 * i))), .va (.d (kD p)), .va (.d (.int w)), hA', hn', by omega, rfl⟩
  have s5 : small64 5 = true := by decide
  have si : small64 i = true := small_of (by omega) (by omega)
  generalize A.map eD = LA at *
  generalize (A.map (·.1)).map kD = LT at *
  generalize A'.map eD = LA' at *
  generalize (A'.map (·.1)).map kD = LT' at *
  simp [body28, mul_i, s5, si, e27, e26, parF, ei, ef]
theorem m28 (h26 : F26' 1000 (Γ 26)) (h27 : F27 (Γ 27)) : F28 (evF Γ Δ N 9 core_28) := fun ns a m hl h1 h2 m1 m2 => by
  obtain ⟨r, r1, r2, e26⟩ := h26 ns a (m + 1) hl h1 (by omega) (by omega)
  have er := rng_ok (r := r) r1 (by omega)
  obtain ⟨ρ', ef, A, s3, s6, s7, s8, hA, hn, hs, rfl⟩ := rng_for (f := fun ρ x => bindT ρ (.n 3) x) (b := evSs Γ Δ N body28) (I := I28 ns a m) r1 (ρ := [.va (sI ns), .va (.d (.int a)), .va (.d (.int m)), .un, .mu (.d (.list [])), .mu (.d (.list [])), .un, .un, .un])
    ⟨[], .un, .un, .un, .un, rfl, List.nodup_nil, Nat.le_refl _, rfl⟩ (fun j ρ i i1 i2 j2 I => by
      obtain ⟨ρ', e, I'⟩ := b28 (Δ := Δ) (N := N) h26 h27 hl h1 h2 i1 (i := i) (by omega) (by omega) I
      exact ⟨_, ρ', rfl, e, I'⟩)
  refine ⟨A, ?_, ?_⟩
  · unfold aOk
    have : A.length ≤ 8 := by omega
    simp [hA, hn, this]
  · have e2 : evS Γ Δ N (.fo (.n 3) (.rng (.call 26 [.v 0, .v 1, .bin .add (.vr 2) (.k (.int 1))])) body28) [.va (sI ns), .va (.d (.int a)), .va (.d (.int m)), .un, .mu (.d (.list [])), .mu (.d (.list [])), .un, .un, .un] = .ok ([.va (sI ns), .va (.d (.int a)), .va (.d (.int m)), s3, .mu (.d (.list (A.map eD))), .mu (.d (.list ((A.map (·.1)).map kD))), s6, s7, s8], .nx) := by
      rw [evS_fo]
      have : evE Γ Δ (.rng (.call 26 [.v 0, .v 1, .bin .add (.vr 2) (.k (.int 1))])) [.va (sI ns), .va (.d (.int a)), .va (.d (.int m)), .un, .mu (.d (.list [])), .mu (.d (.list [])), .un, .un, .un] = .ok (.it ((List.range r.toNat).map fun (i : Nat) => PyData.int (0 + (i : Int)))) := by
        simp [e26, er]
      rw [this, Rs.bind_ok]
      exact ef
    have hc : core_28 = [.par [(4, true), (5, true)] [.lst [], .lst []], .fo (.n 3) (.rng (.call 26 [.v 0, .v 1, .bin .add (.vr 2) (.k (.int 1))])) body28, .ret (.bi .tuple [.vr 4])] := rfl
    have f0 : fits 0 = true := rfl
    simp only [evF, hc]
    simp [f0, parF, e2]
def body29 : List CS := [.asg 5 (.call 27 [.v 0, .bin .add (.bin .add (.vr 1) (.k (.int 1))) (.bin .mul (.k (.int 2)) (.vr 4))]), .asg 3 (.bin .add (.vr 3) (.ite (.cmp .nmem (.vr 5) (.vr 3)) (.lst [.v 5]) (.lst [])))]
def I29 (ns : List Int) (a m : Int) (j : Nat) (ρ : En) : Prop := ∃ (O : List Kd) (s4 s5 : Sl), O.all kOk = true ∧ O.Nodup ∧ O.length ≤ j ∧ ρ = [.va (sI ns), .va (.d (.int a)), .va (.d (.int m)), .va (.d (.list (O.map kD))), s4, s5]
theorem b29 (h27 : F27 (Γ 27)) {ns : List Int} (hl : ns.length ≤ 1000) {a m i : Int} (h1 : 0 ≤ a) (h2 : a < 1000000000) (i1 : 0 ≤ i) (i2 : i ≤ 100) {j : Nat} (hj : j ≤ 100) {ρ : En} (I : I29 ns a m j ρ) :
    ∃ ρ', evSs Γ Δ N body29 (ρ.set 4 (.va (.d (.int i)))) = .ok (ρ', .nx) ∧ I29 ns a m (j + 1) ρ' := by
  obtain ⟨O, s4, s5, hA, hn, hs, rfl⟩ := I
  obtain ⟨k, hk, e27⟩ := h27 ns (a + 1 + 2 * i) hl (by omega) (by omega)
  have sm2 : small64 2 = true := by decide
  have si : small64 i = true := small_of (by omega) (by omega)
  have hok : okO O := fun k hk => k_os (List.all_eq_true.mp hA k hk)
  have em : wCmp .nmem (.d (kD k)) (.d (.list (O.map kD))) = .ok (!decide (k ∈ O)) := by
    have : wCmp .nmem (.d (kD k)) (.d (.list (O.map kD))) = rNot (wMem (.d (kD k)) (.d (.list (O.map kD)))) := by simp only [wCmp]
    rw [this, cmp_meml (sh_k (k_os hk)).ok (sh_lK hok).ok, any_eqv tells_k, rnot_ok]
    by_cases hz : k ∈ O <;> simp only [hz, decide_true, decide_false]
  have f1 : fits 1 = true := rfl
  have f0 : fits 0 = true := rfl
  have hlO : (O.map kD).length = O.length := List.length_map ..
  by_cases z : k ∈ O
  · refine ⟨_, ?_, O, .va (.d (.int i)), .va (.d (kD k)), hA, hn, by omega, rfl⟩
    rw [decide_eq_true z] at em
    have ea : wBin .add (.d (.list (O.map kD))) (.d (.list [])) = .ok (.d (.list (O.map kD))) := by
      have : fits ((O.map kD).length + 0) = true := decide_eq_true (by omega)
      simp only [wBin, List.length_nil, this, if_true, List.append_nil]
    generalize O.map kD = LA at *
    simp [body29, mul_i, sm2, si, e27, em, f0, ea]
  · refine ⟨_, ?_, O ++ [k], .va (.d (.int i)), .va (.d (kD k)), ?_, ?_, by simp; omega, rfl⟩
    · rw [decide_eq_false z] at em
      have ea : wBin .add (.d (.list (O.map kD))) (.d (.list [kD k])) = .ok (.d (.list (O.map kD ++ [kD k]))) := by
        have : fits ((O.map kD).length + 1) = true := decide_eq_true (by omega)
        simp only [wBin, List.length_cons, List.length_nil, Nat.zero_add, this, if_true]
      rw [List.map_append]
      generalize O.map kD = LA at *
      simp [body29, mul_i, sm2, si, e27, em, f1, ea]
    · rw [List.all_append, hA]; simp [hk]
    · refine List.nodup_append.mpr ⟨hn, by simp, fun a ha b hb e => ?_⟩
      simp at hb
      rw [e, hb] at ha
      exact z ha
theorem m29 (h26 : F26' 1000 (Γ 26)) (h27 : F27 (Γ 27)) : F29 (evF Γ Δ N 6 core_29) := fun ns a m hl h1 h2 m1 m2 => by
  obtain ⟨r, r1, r2, e26⟩ := h26 ns a (m + 1) hl h1 (by omega) (by omega)
  have er := rng_ok (r := r) r1 (by omega)
  obtain ⟨ρ', ef, O, s4, s5, hA, hn, hs, rfl⟩ := rng_for (f := fun ρ x => bindT ρ (.n 4) x) (b := evSs Γ Δ N body29) (I := I29 ns a m) r1 (ρ := [.va (sI ns), .va (.d (.int a)), .va (.d (.int m)), .va (.d (.list [])), .un, .un])
    ⟨[], .un, .un, rfl, List.nodup_nil, Nat.le_refl _, rfl⟩ (fun j ρ i i1 i2 j2 I => by
      obtain ⟨ρ', e, I'⟩ := b29 (Δ := Δ) (N := N) h27 hl h1 h2 i1 (i := i) (by omega) (by omega) I
      exact ⟨_, ρ', rfl, e, I'⟩)
  refine ⟨O, ?_, ?_⟩
  · unfold oOk
    have : O.length ≤ 6 := by omega
    simp [hA, hn, this]
  · have e2 : evS Γ Δ N (.fo (.n 4) (.rng (.call 26 [.v 0, .v 1, .bin .add (.vr 2) (.k (.int 1))])) body29) [.va (sI ns), .va (.d (.int a)), .va (.d (.int m)), .va (.d (.list [])), .un, .un] = .ok ([.va (sI ns), .va (.d (.int a)), .va (.d (.int m)), .va (.d (.list (O.map kD))), s4, s5], .nx) := by
      rw [evS_fo]
      have : evE Γ Δ (.rng (.call 26 [.v 0, .v 1, .bin .add (.vr 2) (.k (.int 1))])) [.va (sI ns), .va (.d (.int a)), .va (.d (.int m)), .va (.d (.list [])), .un, .un] = .ok (.it ((List.range r.toNat).map fun (i : Nat) => PyData.int (0 + (i : Int)))) := by
        simp [e26, er]
      rw [this, Rs.bind_ok]
      exact ef
    have hc : core_29 = [.asg 3 (.lst []), .fo (.n 4) (.rng (.call 26 [.v 0, .v 1, .bin .add (.vr 2) (.k (.int 1))])) body29, .ret (.bi .tuple [.vr 3])] := rfl
    have f0 : fits 0 = true := rfl
    simp only [evF, hc]
    simp [f0, e2]
end
end Pz
namespace Pz
open PySem PySem.Spec PyProof.Rows L2 LamX

/-! ### choices over several lists -/
def pA (A : List Ey) : PyData := .tuple (A.map eD)
def F22 (g : List W → Rs W) : Prop := ∀ L : List (List Ey), L.length ≤ 8 → (∀ A ∈ L, aOk A = true) → g [.d (.list (L.map pA))] = .ok (.d .none)
def F23 (g : List W → Rs W) : Prop := ∀ (L : List (List Ey)) (O : List Kd), L.length ≤ 8 → (∀ A ∈ L, aOk A = true) → oOk O = true → g [.d (.list (L.map pA)), tO O] = .ok (.d (.list ((L.map fun A => chE A O).map optK)))
section
variable {Γ : Fns} {Δ : Dyn} {N : Nat}
theorem m22 (h : F7 (Γ 7)) : F22 (evF Γ Δ N 2 core_22) := fun L hl hA => by
  have e1 := ev_lcA (Γ := Γ) (Δ := Δ) (ρ := [Sl.va (.d (.list (L.map pA))), .un]) (e := .call 7 [.v 1]) (it := .vr 0) (tg := .n 1) (l := L) (ea := pA) (eb := PyData.bool) (fun _ => true) (wi := .d (.list (L.map pA))) rfl rfl fun A ha => by
    have := h A (aOk_os (hA A ha))
    rw [hA A ha] at this
    have this : Γ 7 [.d (pA A)] = .ok (.d (.bool true)) := this
    simp [bindT, wipeE, this]
  have i1 : ¬ (8 : Int) < (L.length : Int) := by omega
  simp [evF, core_22, i1, e1]
theorem m23 (h22 : F22 (Γ 22)) (h11 : F11 (Γ 11)) (h20 : F20 (Γ 20)) : F23 (evF Γ Δ N 3 core_23) := fun L O hl hA hO => by
  have e22 := h22 L hl hA
  have e11 := h11 O (oOk_os hO)
  simp only [hO, chkR, if_true] at e11
  have e1 := ev_lcA (Γ := Γ) (Δ := Δ) (ρ := [.va (.d (.list (L.map pA))), .va (tO O), .un]) (e := .call 20 [.v 2, .v 1]) (it := .vr 0) (tg := .n 2) (l := L) (ea := pA) (eb := optK) (fun A => chE A O) (wi := .d (.list (L.map pA))) rfl rfl fun A ha => by
    have := h20 A O (aOk_os (hA A ha)) (oOk_os hO)
    have this : Γ 20 [.d (pA A), tO O] = .ok (.d (optK (chE A O))) := this
    simp [bindT, wipeE, this]
  generalize (L.map fun A => chE A O).map optK = R at *
  simp [evF, core_23, e22, e11, e1]
theorem iff_no {t : CE} {a : List CS} {ρ : En} (h : evE Γ Δ t ρ = .ok (.d (.bool false))) : evS Γ Δ N (.iff t a []) ρ = .ok (ρ, .nx) := by
  simp [h]
theorem ss_nx {c : CS} {r : List CS} {ρ ρ' : En} (h : evS Γ Δ N c ρ = .ok (ρ', .nx)) : evSs Γ Δ N (c :: r) ρ = evSs Γ Δ N r ρ' := by
  simp [h]
end
/-! ### the law: what is known -/
structure K06 (Γ : Fns) : Prop where
  h14 : F14 (Γ 14)
  h15 : F15 (Γ 15)
  h17 : F17 (Γ 17)
  h19 : F19 (Γ 19)
  h21 : F21 (Γ 21)
  h23 : F23 (Γ 23)
  h24 : F24 (Γ 24)
  h25 : F25 (Γ 25)
  h26 : F26' 1000 (Γ 26)
  h28 : F28 (Γ 28)
  h29 : F29 (Γ 29)
section
variable {Γ : Fns} {Δ : Dyn} {N : Nat} (h : K06 Γ) {A : List Ey} {O : List Kd} (hA : aOk A = true) (hO : oOk O = true) {ns : List Int} (hl : ns.length ≤ 63)
abbrev E6 (ns : List Int) (A : List Ey) (O : List Kd) (s1 s2 s3 s8 s9 s10 s11 : Sl) : En := [.va (sI ns), s1, s2, s3, .va (tA A), .va (tO O), .va (.d (optK (chE A O))), .va (.d (.list ((accE A O).map kD))), s8, s9, s10, s11]
theorem isn_o (c : Option Kd) : wCmp .isn (.d (optK c)) (.d .none) = .ok c.isSome := by cases c <;> rfl
theorem is_o (c : Option Kd) : wCmp .is (.d (optK c)) (.d .none) = .ok c.isNone := by cases c <;> rfl
theorem cmp_neb (a b : Bool) : wCmp .ne (.d (.bool a)) (.d (.bool b)) = .ok (!decide (a = b)) := by
  rw [cmp_ne (Sh.bool (n := 0) a).ok (Sh.bool (n := 0) b).ok]
  cases a <;> cases b <;> rfl
include h hA hO
theorem st1 (s1 s2 s3 s8 s9 s10 s11 : Sl) : evE Γ Δ (.or [.cmp .ne (.cmp .is (.vr 6) (.k .none)) (.cmp .eq (.vr 7) (.lst [])), .cmp .ne (.call 25 [.v 4, .v 5]) (.call 19 [.v 4, .v 5])]) (E6 ns A O s1 s2 s3 s8 s9 s10 s11) = .ok (.d (.bool false)) := by
  have e1 := cmp_eq (sh_lK (oOk_os (oOk_acc (A := A) hO))).ok okd_nil
  rw [eqv_nil] at e1
  have e2 : (chE A O).isNone = ((accE A O).map kD).isEmpty := by
    cases q : chE A O with
    | none => rw [ch_none.mp q]; rfl
    | some k =>
      have := ch_mem q
      cases z : accE A O with
      | nil => rw [z] at this; cases this
      | cons a l => rfl
  have e3 := cmp_ne (sh_lK (oOk_os (oOk_rnk (A := A) hO))).ok (sh_lK (oOk_os (oOk_rnk (A := A) hO))).ok
  rw [show PyData.eqv (.list ((rnkE A O).map kD)) (.list ((rnkE A O).map kD)) = true by have := tells_list tells_k (rnkE A O) (rnkE A O); simpa using this] at e3
  have e25 := h.h25 A O hA hO
  have e19 := h.h19.ok hA hO
  rw [← e2] at e1
  unfold E6
  generalize (accE A O).map kD = LG at *
  generalize (rnkE A O).map kD = LR at *
  have f0 : fits 0 = true := rfl
  simp [E6, is_o, e1, f0, cmp_neb, e25, e19, e3]
theorem st2 (s1 s2 s3 s8 s9 s10 s11 : Sl) : evE Γ Δ (.cmp .ne (.call 24 [.v 4, .v 5]) (.bi .tuple [.lc (.v 1) (.n 1) (.vr 5) [.cmp .ne (.vr 1) (.vr 6)]])) (E6 ns A O s1 s2 s3 s8 s9 s10 s11) = .ok (.d (.bool false)) := by
  have e24 := h.h24 A O hA hO
  have e1 := ev_lc (Γ := Γ) (Δ := Δ) (ρ := E6 ns A O s1 s2 s3 s8 s9 s10 s11) (e := .v 1) (it := .vr 5) (tg := .n 1) (ifs := [.cmp .ne (.vr 1) (.vr 6)]) (l := O) (ea := kD) (eb := kD) (fun k => !decide (some k = chE A O)) (fun e => e) (wi := tO O) rfl rfl fun k hk => by
    have q := neq_ko (oOk_os hO k hk) (fun k h => ch_os (oOk_os hO) h) (c := chE A O)
    generalize decide (some k = chE A O) = z at q
    cases z <;> simp [bindT, wipeE, q]
  simp only [List.map_id'] at e1
  have hs := oOk_sub (List.filter_sublist (p := fun k => !decide (some k = chE A O))) hO
  have e3 := cmp_ne (sh_tK (oOk_os hs)).ok (sh_tK (oOk_os hs)).ok
  rw [show PyData.eqv (.tuple ((O.filter fun k => !decide (some k = chE A O)).map kD)) (.tuple ((O.filter fun k => !decide (some k = chE A O)).map kD)) = true by have := tells_tuple tells_k (O.filter fun k => !decide (some k = chE A O)) (O.filter fun k => !decide (some k = chE A O)); simpa using this] at e3
  generalize (O.filter fun k => !decide (some k = chE A O)) = P at *
  simp [e24, e1, e3]
end
end Pz
namespace Pz
open PySem PySem.Spec PyProof.Rows L2 LamX

theorem findE_spec {A : List Ey} {k : Kd} {e : Ey} (h : findE A k = some e) : e ∈ A ∧ (e.1.1 = k.1 ∨ e.1.1 = star) ∧ (e.1.2 = k.2 ∨ e.1.2 = star) := by
  unfold findE at h
  rw [Option.or_eq_some_iff] at h
  rcases h with h | ⟨_, h⟩
  · have m := List.mem_of_find?_eq_some h
    have p := List.find?_some h
    have p := of_decide_eq_true p
    exact ⟨m, .inl (by rw [p]), .inl (by rw [p])⟩
  · rw [Option.or_eq_some_iff] at h
    rcases h with h | ⟨_, h⟩
    · have m := List.mem_of_find?_eq_some h
      have p := List.find?_some h
      have p := of_decide_eq_true p
      exact ⟨m, .inl (by rw [p]), .inr (by rw [p])⟩
    · have m := List.mem_of_find?_eq_some h
      have p := List.find?_some h
      have p := of_decide_eq_true p
      exact ⟨m, .inr (by rw [p]), .inr (by rw [p])⟩
theorem mem_lK {O : List Kd} {k : Kd} (hk : OSk k) (hO : okO O) : wCmp .mem (.d (kD k)) (.d (.list (O.map kD))) = .ok (decide (k ∈ O)) := by
  have : wCmp .mem (.d (kD k)) (.d (.list (O.map kD))) = wMem (.d (kD k)) (.d (.list (O.map kD))) := by simp only [wCmp]
  rw [this, cmp_meml (sh_k hk).ok (sh_lK hO).ok, any_eqv tells_k]
  by_cases hz : k ∈ O <;> simp only [hz, decide_true, decide_false]
theorem mem_tE {A : List Ey} {e : Ey} (he : OSk e.1) (hA : okA A) : wCmp .nmem (.d (eD e)) (.d (.tuple (A.map eD))) = .ok (!decide (e ∈ A)) := by
  have : wCmp .nmem (.d (eD e)) (.d (.tuple (A.map eD))) = rNot (wMem (.d (eD e)) (.d (.tuple (A.map eD)))) := by simp only [wCmp]
  rw [this, cmp_memt (sh_e he).ok (sh_tE hA).ok, any_eqv tells_e, rnot_ok]
  by_cases hz : e ∈ A <;> simp only [hz, decide_true, decide_false]
theorem nmem_2 {x a b : Str} (hx : OS x) (ha : OS a) (hb : OS b) (h : x = a ∨ x = b) : wCmp .nmem (.d (.str x)) (.d (.tuple [.str a, .str b])) = .ok false := by
  have : wCmp .nmem (.d (.str x)) (.d (.tuple [.str a, .str b])) = rNot (wMem (.d (.str x)) (.d (.tuple [.str a, .str b]))) := by simp only [wCmp]
  rw [this, cmp_memt (Sh.str (n := 0) hx).ok (Sh.tuple (n := 0) fun d hd => by
    simp only [List.mem_cons, List.not_mem_nil, or_false] at hd
    rcases hd with rfl | rfl
    · exact Sh.str ha
    · exact Sh.str hb).ok, rnot_ok]
  rcases h with rfl | rfl <;> simp [PyData.eqv]
theorem neq_oo {c d : Option Kd} (hc : ∀ k, c = some k → OSk k) (hd : ∀ k, d = some k → OSk k) : wCmp .ne (.d (optK c)) (.d (optK d)) = .ok (!decide (c = d)) := by
  rw [cmp_ne (sh_oK hc).ok (sh_oK hd).ok, tells_oK]
section
variable {Γ : Fns} {Δ : Dyn} {N : Nat} (h : K06 Γ) {A : List Ey} {O : List Kd} (hA : aOk A = true) (hO : oOk O = true) {ns : List Int} {k : Kd} (hk : k ∈ O)
abbrev E7 (ns : List Int) (A : List Ey) (O : List Kd) (k : Kd) (s2 s3 s8 s11 : Sl) : En := E6 ns A O (.va (.d (kD k))) s2 s3 s8 (.va (.d (optE (findE A k)))) (.va (.d (.int (findW A k)))) s11
include h hA hO hk
theorem u1 (s2 s3 s8 s9 s10 s11 : Sl) : evS Γ Δ N (.par [(9, false), (10, false)] [.call 14 [.v 4, .v 1], .call 15 [.v 4, .v 1]]) (E6 ns A O (.va (.d (kD k))) s2 s3 s8 s9 s10 s11) = .ok (E7 ns A O k s2 s3 s8 s11, .nx) := by
  have e14 := h.h14.ok hA (oOk_k hO hk)
  have e15 := h.h15.ok hA (oOk_k hO hk)
  simp [E6, E7, e14, e15, parF]
theorem u2 (s2 s3 s8 s11 : Sl) : evE Γ Δ (.or [.cmp .ne (.vr 10) (.ite (.cmp .is (.vr 9) (.k .none)) (.k (.int 0)) (.ix (.vr 9) (.k (.int 2)))), .cmp .ne (.cmp .mem (.vr 1) (.vr 7)) (.cmp .gt (.vr 10) (.k (.int 0)))]) (E7 ns A O k s2 s3 s8 s11) = .ok (.d (.bool false)) := by
  have em := mem_lK (oOk_os hO k hk) (oOk_os (oOk_acc (A := A) hO))
  have e1 : decide (k ∈ accE A O) = decide (0 < findW A k) := by
    unfold accE
    by_cases z : 0 < findW A k <;> simp [List.mem_filter, hk, z]
  rw [e1] at em
  have e2 : ∀ b : Bool, wCmp .ne (.d (.bool b)) (.d (.bool b)) = .ok false := fun b => by rw [cmp_neb]; simp
  have hw : findW A k = match findE A k with
    | some e => e.2
    | none => 0 := rfl
  unfold E7 E6
  cases q : findE A k with
  | none =>
    rw [q] at hw
    dsimp only at hw
    rw [hw] at em ⊢
    generalize (accE A O).map kD = LG at *
    have j : wCmp .is (.d .none) (.d .none) = .ok true := rfl
    have z0 : decide ((0 : Int) < 0) = false := by decide
    rw [z0] at em
    simp [optE, j, em, e2]
  | some e =>
    rw [q] at hw
    dsimp only at hw
    rw [hw] at em ⊢
    generalize (accE A O).map kD = LG at *
    have i : wIx (.d (eD e)) (.d (.int 2)) = .ok (.d (.int e.2)) := ix_t2 _ _ _ _
    have j : wCmp .is (.d (eD e)) (.d .none) = .ok false := rfl
    generalize hz : decide (0 < e.2) = z at em
    simp [optE, i, j, em, hz, e2]
theorem u3 (s2 s3 s8 s11 : Sl) : evE Γ Δ (.and [.cmp .isn (.vr 9) (.k .none), .cmp .nmem (.vr 9) (.vr 4)]) (E7 ns A O k s2 s3 s8 s11) = .ok (.d (.bool false)) := by
  unfold E7 E6
  cases q : findE A k with
  | none =>
    have j : wCmp .isn (.d .none) (.d .none) = .ok false := rfl
    simp [optE, j]
  | some e =>
    obtain ⟨m, _, _⟩ := findE_spec q
    have j : wCmp .isn (.d (eD e)) (.d .none) = .ok true := rfl
    have em := mem_tE (aOk_os hA e m) (aOk_os hA)
    rw [decide_eq_true m] at em
    simp [optE, j, em]
theorem u4 (s2 s3 s8 s11 : Sl) : evE Γ Δ (.and [.cmp .isn (.vr 9) (.k .none), .or [.cmp .nmem (.ix (.vr 9) (.k (.int 0))) (.tup [.ix (.vr 1) (.k (.int 0)), .k (.str ⟨#[42]⟩)]), .cmp .nmem (.ix (.vr 9) (.k (.int 1))) (.tup [.ix (.vr 1) (.k (.int 1)), .k (.str ⟨#[42]⟩)])]]) (E7 ns A O k s2 s3 s8 s11) = .ok (.d (.bool false)) := by
  unfold E7 E6
  cases q : findE A k with
  | none =>
    have j : wCmp .isn (.d .none) (.d .none) = .ok false := rfl
    simp [optE, j]
  | some e =>
    obtain ⟨m, n1, n2⟩ := findE_spec q
    have j : wCmp .isn (.d (eD e)) (.d .none) = .ok true := rfl
    have he := aOk_os hA e m
    have hk2 := oOk_os hO k hk
    have a1 := nmem_2 he.1 hk2.1 OS.star n1
    have a2 := nmem_2 he.2 hk2.2 OS.star n2
    have i1 : wIx (.d (eD e)) (.d (.int 0)) = .ok (.d (.str e.1.1)) := ix_t _ _
    have i2 : wIx (.d (eD e)) (.d (.int 1)) = .ok (.d (.str e.1.2)) := ix_t1 _ _ _
    have i3 : wIx (.d (kD k)) (.d (.int 0)) = .ok (.d (.str k.1)) := ix_t _ _
    have i4 : wIx (.d (kD k)) (.d (.int 1)) = .ok (.d (.str k.2)) := ix_t1 _ _ _
    have f2 : fits 2 = true := rfl
    unfold star at a1 a2
    simp [optE, j, i1, i2, i3, i4, f2, a1, a2]
theorem u5 (s2 s3 s8 s11 : Sl) : evE Γ Δ (.and [.cmp .isn (.vr 6) (.k .none), .cmp .gt (.vr 10) (.call 15 [.v 4, .v 6])]) (E7 ns A O k s2 s3 s8 s11) = .ok (.d (.bool false)) := by
  unfold E7 E6
  cases q : chE A O with
  | none =>
    have j : wCmp .isn (.d .none) (.d .none) = .ok false := rfl
    simp [optK, j]
  | some t =>
    have j : wCmp .isn (.d (kD t)) (.d .none) = .ok true := rfl
    have ht : t ∈ O := (List.mem_filter.mp (ch_mem q)).1
    have e15 := h.h15.ok hA (oOk_k hO ht)
    have le := ch_top q hk
    have le2 : ¬ findW A t < findW A k := by omega
    simp [optK, j, e15, le2]
def rest6 (O : List Kd) (k : Kd) : List Kd := O.filter fun j => !decide (j = k)
theorem u6 (s2 s3 s8 s11 : Sl) : evS Γ Δ N (.asg 8 (.bi .tuple [.lc (.v 11) (.n 11) (.vr 5) [.cmp .ne (.vr 11) (.vr 1)]])) (E7 ns A O k s2 s3 s8 s11) = .ok (E7 ns A O k s2 s3 (.va (tO (rest6 O k))) s11, .nx) := by
  have e1 := ev_lc (Γ := Γ) (Δ := Δ) (ρ := E7 ns A O k s2 s3 s8 s11) (e := .v 11) (it := .vr 5) (tg := .n 11) (ifs := [.cmp .ne (.vr 11) (.vr 1)]) (l := O) (ea := kD) (eb := kD) (fun j => !decide (j = k)) (fun e => e) (wi := tO O) rfl rfl fun j hj => by
    have q := cmp_ne (sh_k (oOk_os hO j hj)).ok (sh_k (oOk_os hO k hk)).ok
    rw [tells_k] at q
    generalize decide (j = k) = z at q
    cases z <;> simp [bindT, wipeE, q]
  simp only [List.map_id'] at e1
  have e2 : (O.filter fun j => !decide (j = k)) = rest6 O k := rfl
  rw [e2] at e1
  generalize rest6 O k = R at *
  simp [e1]
theorem u7 (s2 s3 s11 : Sl) : evE Γ Δ (.and [.cmp .ne (.vr 1) (.vr 6), .cmp .ne (.call 21 [.v 4, .v 8]) (.vr 6)]) (E7 ns A O k s2 s3 (.va (tO (rest6 O k))) s11) = .ok (.d (.bool false)) := by
  have hR : oOk (rest6 O k) = true := oOk_sub List.filter_sublist hO
  have e21 := h.h21.ok hA hR
  have q := neq_ko (oOk_os hO k hk) (fun k h => ch_os (oOk_os hO) h) (c := chE A O)
  have q2 := neq_oo (c := chE A (rest6 O k)) (d := chE A O) (fun k h => ch_os (oOk_os hR) h) (fun k h => ch_os (oOk_os hO) h)
  unfold E7 E6
  by_cases z : chE A O = some k
  · rw [decide_eq_true z.symm] at q
    simp [q]
  · have e : chE A (rest6 O k) = chE A O := ch_rest z
    rw [decide_eq_false (fun y => z y.symm)] at q
    rw [e] at e21 q2
    rw [decide_eq_true rfl] at q2
    generalize rest6 O k = R at *
    simp [q, e21, q2]
theorem u8 (s2 s3 s8 s11 : Sl) : evE Γ Δ (.cmp .ne (.call 21 [.v 4, .tup [.v 1]]) (.ite (.cmp .mem (.vr 1) (.vr 7)) (.vr 1) (.k .none))) (E7 ns A O k s2 s3 s8 s11) = .ok (.d (.bool false)) := by
  have hR : oOk [k] = true := oOk_sub (List.singleton_sublist.mpr hk) hO
  have e21 := h.h21.ok hA hR
  have em := mem_lK (oOk_os hO k hk) (oOk_os (oOk_acc (A := A) hO))
  have e1 : decide (k ∈ accE A O) = decide (0 < findW A k) := by
    unfold accE
    by_cases z : 0 < findW A k <;> simp [List.mem_filter, hk, z]
  rw [e1] at em
  have f1 : fits 1 = true := rfl
  have q2 := neq_oo (c := chE A [k]) (d := chE A [k]) (fun k h => ch_os (oOk_os hR) h) (fun k h => ch_os (oOk_os hR) h)
  rw [decide_eq_true rfl] at q2
  rw [ch_one] at e21 q2
  have e21 : Γ 21 [tA A, .d (.tuple [kD k])] = _ := e21
  unfold E7 E6
  generalize (accE A O).map kD = LG at *
  by_cases z : 0 < findW A k
  · rw [decide_eq_true z] at em
    rw [if_pos z] at e21 q2
    simp [optK] at e21 q2
    simp [em, f1, e21, q2]
  · rw [decide_eq_false z] at em
    rw [if_neg z] at e21 q2
    simp [optK] at e21 q2
    simp [em, f1, e21, q2]
end
end Pz
namespace Pz
open PySem PySem.Spec PyProof.Rows L2 LamX

theorem cut_take {α : Type} {f : α → PyData} {l : List α} {r : Int} (h1 : 0 ≤ r) (h2 : r ≤ l.length) : cutD (l.map f) none (some r) = (l.take r.toNat).map f := by
  have h3 : ¬ r < 0 := by omega
  have h4 : min r.toNat l.length = r.toNat := by omega
  simp [cutD, HT.sIx, h3, h4, List.map_take]
theorem cut_drop {α : Type} {f : α → PyData} {l : List α} {r : Int} (h1 : 0 ≤ r) (h2 : r ≤ l.length) : cutD (l.map f) (some r) none = (l.drop r.toNat).map f := by
  have h3 : ¬ r < 0 := by omega
  have h4 : min r.toNat l.length = r.toNat := by omega
  simp only [cutD, HT.sIx, h3, h4, if_false, List.length_map, List.map_drop]
  rw [List.take_of_length_le]
  rw [List.length_drop, List.length_map]; omega
section
variable {Γ : Fns} {Δ : Dyn} {N : Nat} (h : K06 Γ) {A : List Ey} {O : List Kd} (hA : aOk A = true) (hO : oOk O = true) {ns : List Int}
def body30 : List CS := [.par [(9, false), (10, false)] [.call 14 [.v 4, .v 1], .call 15 [.v 4, .v 1]], .iff (.or [.cmp .ne (.vr 10) (.ite (.cmp .is (.vr 9) (.k (.none))) (.k (.int 0)) (.ix (.vr 9) (.k (.int 2)))), .cmp .ne (.cmp .mem (.vr 1) (.vr 7)) (.cmp .gt (.vr 10) (.k (.int 0)))]) [.ret (.k (.bool false))] [], .iff (.and [.cmp .isn (.vr 9) (.k (.none)), .cmp .nmem (.vr 9) (.vr 4)]) [.ret (.k (.bool false))] [], .iff (.and [.cmp .isn (.vr 9) (.k (.none)), .or [.cmp .nmem (.ix (.vr 9) (.k (.int 0))) (.tup [.ix (.vr 1) (.k (.int 0)), .k (.str ⟨#[42]⟩)]), .cmp .nmem (.ix (.vr 9) (.k (.int 1))) (.tup [.ix (.vr 1) (.k (.int 1)), .k (.str ⟨#[42]⟩)])]]) [.ret (.k (.bool false))] [], .iff (.and [.cmp .isn (.vr 6) (.k (.none)), .cmp .gt (.vr 10) (.call 15 [.v 4, .v 6])]) [.ret (.k (.bool false))] [], .asg 8 (.bi .tuple [.lc (.v 11) (.n 11) (.vr 5) [.cmp .ne (.vr 11) (.vr 1)]]), .iff (.and [.cmp .ne (.vr 1) (.vr 6), .cmp .ne (.call 21 [.v 4, .v 8]) (.vr 6)]) [.ret (.k (.bool false))] [], .iff (.cmp .ne (.call 21 [.v 4, .tup [.v 1]]) (.ite (.cmp .mem (.vr 1) (.vr 7)) (.vr 1) (.k (.none)))) [.ret (.k (.bool false))] []]
def I30 (ns : List Int) (A : List Ey) (O : List Kd) (_ : Nat) (ρ : En) : Prop := ∃ s1 s2 s3 s8 s9 s10 s11, ρ = E6 ns A O s1 s2 s3 s8 s9 s10 s11
include h hA hO
theorem b30 {k : Kd} (hk : k ∈ O) (s2 s3 s8 s9 s10 s11 : Sl) : ∃ ρ', evSs Γ Δ N body30 (E6 ns A O (.va (.d (kD k))) s2 s3 s8 s9 s10 s11) = .ok (ρ', .nx) ∧ I30 ns A O 0 ρ' := by
  refine ⟨E7 ns A O k s2 s3 (.va (tO (rest6 O k))) s11, ?_, _, _, _, _, _, _, _, rfl⟩
  unfold body30
  rw [ss_nx (u1 h hA hO hk s2 s3 s8 s9 s10 s11), ss_nx (iff_no (u2 h hA hO hk s2 s3 s8 s11)), ss_nx (iff_no (u3 h hA hO hk s2 s3 s8 s11)), ss_nx (iff_no (u4 h hA hO hk s2 s3 s8 s11)), ss_nx (iff_no (u5 h hA hO hk s2 s3 s8 s11)), ss_nx (u6 h hA hO hk s2 s3 s8 s11), ss_nx (iff_no (u7 h hA hO hk s2 s3 s11)), ss_nx (iff_no (u8 h hA hO hk s2 s3 _ s11))]
  rfl
theorem l30 (s1 s2 s3 s8 s9 s10 s11 : Sl) : ∃ ρ', evS Γ Δ N (.fo (.n 1) (.v 5) body30) (E6 ns A O s1 s2 s3 s8 s9 s10 s11) = .ok (ρ', .nx) ∧ I30 ns A O 0 ρ' := by
  obtain ⟨ρ', e, I⟩ := for_inv (f := fun ρ x => bindT ρ (.n 1) x) (b := evSs Γ Δ N body30) (I := I30 ns A O) (n := (O.map kD).length) (xs := O.map kD) (j := 0) (ρ := E6 ns A O s1 s2 s3 s8 s9 s10 s11) ⟨_, _, _, _, _, _, _, rfl⟩ (by omega) fun j ρ x hx _ I => by
    obtain ⟨k, hk, rfl⟩ := List.mem_map.mp hx
    obtain ⟨t1, t2, t3, t8, t9, t10, t11, rfl⟩ := I
    obtain ⟨ρ', e, I⟩ := b30 (Δ := Δ) (N := N) h hA hO (ns := ns) hk t2 t3 t8 t9 t10 t11
    exact ⟨_, ρ', rfl, e, I⟩
  refine ⟨ρ', ?_, I⟩
  rw [evS_fo]
  exact e
theorem st5 (s1 s2 s3 s8 s9 s10 s11 : Sl) : evE Γ Δ (.and [.cmp .isn (.vr 6) (.k .none), .cmp .ne (.call 21 [.v 4, .bi .tuple [.vr 7]]) (.vr 6)]) (E6 ns A O s1 s2 s3 s8 s9 s10 s11) = .ok (.d (.bool false)) := by
  have e := h.h21.ok hA (oOk_acc (A := A) hO)
  rw [ch_acc] at e
  have q2 := neq_oo (c := chE A O) (d := chE A O) (fun k h => ch_os (oOk_os hO) h) (fun k h => ch_os (oOk_os hO) h)
  rw [decide_eq_true rfl] at q2
  have j := isn_o (chE A O)
  unfold E6
  generalize accE A O = P at *
  generalize (chE A O).isSome = b at j
  cases b <;> simp [j, e, q2]
theorem st6 (s1 s2 s3 s8 s9 s10 s11 : Sl) : evE Γ Δ (.cmp .ne (.call 21 [.v 4, .bi .tuple [.call 19 [.v 4, .v 5]]]) (.vr 6)) (E6 ns A O s1 s2 s3 s8 s9 s10 s11) = .ok (.d (.bool false)) := by
  have e := h.h21.ok hA (oOk_rnk (A := A) hO)
  rw [ch_rnk] at e
  have e19 := h.h19.ok hA hO
  have q2 := neq_oo (c := chE A O) (d := chE A O) (fun k h => ch_os (oOk_os hO) h) (fun k h => ch_os (oOk_os hO) h)
  rw [decide_eq_true rfl] at q2
  unfold E6
  generalize rnkE A O = P at *
  simp [e19, e, q2]
theorem st9 (P1 P2 : List Kd) (hp : O = P1 ++ P2) (s1 s2 s8 s9 s10 s11 : Sl) : evE Γ Δ (.cmp .ne (.call 21 [.v 4, .bi .tuple [.lc (.v 1) (.n 1) (.vr 3) [.cmp .isn (.vr 1) (.k .none)]]]) (.vr 6)) (E6 ns A O s1 s2 (.va (.d (.list [optK (chE A P1), optK (chE A P2)]))) s8 s9 s10 s11) = .ok (.d (.bool false)) := by
  have hP : oOk ((chE A P1).toList ++ (chE A P2).toList) = true := by
    refine oOk_sub ?_ hO
    rw [hp]
    refine List.Sublist.append ?_ ?_
    · cases q : chE A P1 with
      | none => exact List.nil_sublist _
      | some k => exact List.singleton_sublist.mpr (List.mem_filter.mp (ch_mem q)).1
    · cases q : chE A P2 with
      | none => exact List.nil_sublist _
      | some k => exact List.singleton_sublist.mpr (List.mem_filter.mp (ch_mem q)).1
  have e := h.h21.ok hA hP
  rw [ch_parts, ← hp] at e
  have q2 := neq_oo (c := chE A O) (d := chE A O) (fun k h => ch_os (oOk_os hO) h) (fun k h => ch_os (oOk_os hO) h)
  rw [decide_eq_true rfl] at q2
  have e1 := ev_lc (Γ := Γ) (Δ := Δ) (ρ := E6 ns A O s1 s2 (.va (.d (.list [optK (chE A P1), optK (chE A P2)]))) s8 s9 s10 s11) (e := .v 1) (it := .vr 3) (tg := .n 1) (ifs := [.cmp .isn (.vr 1) (.k .none)]) (l := [chE A P1, chE A P2]) (ea := optK) (eb := optK) (fun c => c.isSome) (fun e => e) (wi := .d (.list [optK (chE A P1), optK (chE A P2)])) rfl rfl fun c hc => by
    have j := isn_o c
    generalize c.isSome = b at j
    cases b <;> simp [bindT, wipeE, j]
  have e2 : ((([chE A P1, chE A P2].filter fun c => c.isSome).map fun e => e).map optK) = ((chE A P1).toList ++ (chE A P2).toList).map kD := by
    cases chE A P1 <;> cases chE A P2 <;> rfl
  rw [e2] at e1
  generalize (chE A P1).toList ++ (chE A P2).toList = P at *
  simp [e1, e, q2]
end
end Pz
namespace Pz
open PySem PySem.Spec PyProof.Rows L2 LamX

theorem alike_e (a b : Ey) : W.alike (eD a) (eD b) = true := by
  simp [eD, PySem.W.alike, PySem.W.alikeAll]
theorem sortD_e {A : List Ey} (hA : okA A) : ∃ B : List Ey, A.Perm B ∧ sortD (A.map eD) = .ok (B.map eD) := by
  have hs : sortable (A.map eD) = true := by
    unfold sortable
    rw [Bool.and_eq_true]
    constructor
    · rw [List.all_eq_true]
      intro d hd
      obtain ⟨a, ha, rfl⟩ := List.mem_map.mp hd
      rw [(sh_e (hA a ha)).ok, Bool.true_and, List.all_eq_true]
      intro d hd
      obtain ⟨b, _, rfl⟩ := List.mem_map.mp hd
      exact alike_e a b
    · rw [Bool.or_eq_true]
      refine .inl (List.all_eq_true.mpr fun d hd => ?_)
      obtain ⟨a, _, rfl⟩ := List.mem_map.mp hd
      rfl
  refine ⟨A.mergeSort fun a b => W.dataLe false id (eD a) (eD b), (List.mergeSort_perm _ _).symm, ?_⟩
  unfold sortD
  rw [if_pos hs, List.map_mergeSort (s := W.dataLe false id) fun _ _ _ _ => rfl]
section
variable {Γ : Fns} {Δ : Dyn} {N : Nat} (h : K06 Γ) {A : List Ey} {O : List Kd} (hA : aOk A = true) (hO : oOk O = true) {ns : List Int}
include h hA hO
theorem st10 (s1 s2 s3 s8 s9 s10 s11 : Sl) : evE Γ Δ (.cmp .ne (.call 23 [.lst [.v 4, .v 4], .v 5]) (.lst [.v 6, .v 6])) (E6 ns A O s1 s2 s3 s8 s9 s10 s11) = .ok (.d (.bool false)) := by
  have e := h.h23 [A, A] O (by simp) (by simp [hA]) hO
  have e : Γ 23 [.d (.list [.tuple (A.map eD), .tuple (A.map eD)]), tO O] = .ok (.d (.list [optK (chE A O), optK (chE A O)])) := e
  have f2 : fits 2 = true := rfl
  have sh := (Sh.list (n := 1) (ds := [optK (chE A O), optK (chE A O)]) fun d hd => by
    simp only [List.mem_cons, List.not_mem_nil, or_false, or_self] at hd
    rw [hd]
    exact sh_oK fun k h => ch_os (oOk_os hO) h).ok
  have q := cmp_ne sh sh
  rw [show PyData.eqv (.list [optK (chE A O), optK (chE A O)]) (.list [optK (chE A O), optK (chE A O)]) = true by have := tells_list tells_oK [chE A O, chE A O] [chE A O, chE A O]; simpa using this] at q
  simp [e, f2, q]
theorem st11 (s1 s2 s3 s8 s9 s10 s11 : Sl) : evE Γ Δ (.cmp .ne (.call 21 [.rev (.vr 4), .v 5]) (.vr 6)) (E6 ns A O s1 s2 s3 s8 s9 s10 s11) = .ok (.d (.bool false)) := by
  have hp : A.Perm A.reverse := (List.reverse_perm A).symm
  have e := h.h21.ok (aOk_perm hp hA) hO
  rw [← ch_perm hp (aOk_nd hA)] at e
  have er : wRev (tA A) = .ok (tA A.reverse) := by
    show Rs.ok (W.d (.tuple (A.map eD).reverse)) = Rs.ok (W.d (.tuple (A.reverse.map eD)))
    rw [List.map_reverse]
  have q2 := neq_oo (c := chE A O) (d := chE A O) (fun k h => ch_os (oOk_os hO) h) (fun k h => ch_os (oOk_os hO) h)
  rw [decide_eq_true rfl] at q2
  generalize A.reverse = B at *
  simp [er, e, q2]
theorem st12 (s1 s2 s3 s8 s9 s10 s11 : Sl) : evE Γ Δ (.cmp .eq (.call 19 [.bi .tuple [.bi .sorted [.vr 4]], .v 5]) (.call 19 [.v 4, .v 5])) (E6 ns A O s1 s2 s3 s8 s9 s10 s11) = .ok (.d (.bool true)) := by
  obtain ⟨B, hp, hs⟩ := sortD_e (aOk_os hA)
  have e := h.h19.ok (aOk_perm hp hA) hO
  rw [← rnk_perm hp (aOk_nd hA)] at e
  have e19 := h.h19.ok hA hO
  have es : wBi .sorted [tA A] = .ok (.d (.list (B.map eD))) := by
    show (sortD (A.map eD)).bind _ = _
    rw [hs]; rfl
  have q := cmp_eq (sh_lK (oOk_os (oOk_rnk (A := A) hO))).ok (sh_lK (oOk_os (oOk_rnk (A := A) hO))).ok
  rw [show PyData.eqv (.list ((rnkE A O).map kD)) (.list ((rnkE A O).map kD)) = true by have := tells_list tells_k (rnkE A O) (rnkE A O); simpa using this] at q
  generalize (rnkE A O).map kD = LR at *
  simp [es, e, e19, q]
end
theorem m30 {Γ : Fns} {Δ : Dyn} {N : Nat} (h : K06 Γ) {ns : List Int} (hl : ns.length ≤ 63) : evF Γ Δ N 12 core_30 [sI ns] = .ok (.d (.bool true)) := by
  obtain ⟨A, hA, e28⟩ := h.h28 ns 10 8 (by omega) (by decide) (by decide) (by decide) (by decide)
  obtain ⟨O, hO, e29⟩ := h.h29 ns 60 6 (by omega) (by decide) (by decide) (by decide) (by decide)
  have e21 := h.h21.ok hA hO
  have e17 := h.h17.ok hA hO
  have f2 : fits 2 = true := rfl
  obtain ⟨r, r1, r2, e26⟩ := h.h26 ns 1 ((O.length : Int) + 1) (by omega) (by decide) (by decide) (by omega)
  have p1 : evS Γ Δ N (.par [(4, false), (5, false)] [.call 28 [.v 0, .k (.int 10), .k (.int 8)], .call 29 [.v 0, .k (.int 60), .k (.int 6)]]) [.va (sI ns), .un, .un, .un, .un, .un, .un, .un, .un, .un, .un, .un] = .ok ([.va (sI ns), .un, .un, .un, .va (tA A), .va (tO O), .un, .un, .un, .un, .un, .un], .nx) := by
    simp [e28, e29, parF]
  have p2 : evS Γ Δ N (.unp [6, 7] (.tup [.call 21 [.v 4, .v 5], .call 17 [.v 4, .v 5]])) [.va (sI ns), .un, .un, .un, .va (tA A), .va (tO O), .un, .un, .un, .un, .un, .un] = .ok (E6 ns A O .un .un .un .un .un .un .un, .nx) := by
    simp [e21, e17, f2, unpF, bindAll]
  obtain ⟨ρ', el, t1, t2, t3, t8, t9, t10, t11, rfl⟩ := l30 (Δ := Δ) (N := N) h hA hO (ns := ns) .un .un .un .un .un .un .un
  have p7 : evS Γ Δ N (.asg 2 (.call 26 [.v 0, .k (.int 1), .bin .add (.bi .len [.vr 5]) (.k (.int 1))])) (E6 ns A O t1 t2 t3 t8 t9 t10 t11) = .ok (E6 ns A O t1 (.va (.d (.int r))) t3 t8 t9 t10 t11, .nx) := by
    simp [e26]
  have o1 : oOk (O.take r.toNat) = true := oOk_sub (List.take_sublist ..) hO
  have o2 : oOk (O.drop r.toNat) = true := oOk_sub (List.drop_sublist ..) hO
  have g1 := h.h21.ok hA o1
  have g2 := h.h21.ok hA o2
  have c1 : wSl (tO O) none (some r) = .ok (tO (O.take r.toNat)) := by
    show Rs.ok (W.d (.tuple (cutD (O.map kD) none (some r)))) = _
    rw [cut_take r1 (by omega)]
  have c2 : wSl (tO O) (some r) none = .ok (tO (O.drop r.toNat)) := by
    show Rs.ok (W.d (.tuple (cutD (O.map kD) (some r) none))) = _
    rw [cut_drop r1 (by omega)]
  have p8 : evS Γ Δ N (.asg 3 (.lst [.call 21 [.v 4, .sl (.vr 5) [] [.vr 2]], .call 21 [.v 4, .sl (.vr 5) [.vr 2] []]])) (E6 ns A O t1 (.va (.d (.int r))) t3 t8 t9 t10 t11) = .ok (E6 ns A O t1 (.va (.d (.int r))) (.va (.d (.list [optK (chE A (O.take r.toNat)), optK (chE A (O.drop r.toNat))]))) t8 t9 t10 t11, .nx) := by
    generalize O.take r.toNat = T1 at *
    generalize O.drop r.toNat = T2 at *
    simp [c1, c2, g1, g2, f2]
  have hcut : O = O.take r.toNat ++ O.drop r.toNat := (List.take_append_drop ..).symm
  have hb : core_30 = .par [(4, false), (5, false)] [.call 28 [.v 0, .k (.int 10), .k (.int 8)], .call 29 [.v 0, .k (.int 60), .k (.int 6)]] :: .unp [6, 7] (.tup [.call 21 [.v 4, .v 5], .call 17 [.v 4, .v 5]]) :: .iff (.or [.cmp .ne (.cmp .is (.vr 6) (.k .none)) (.cmp .eq (.vr 7) (.lst [])), .cmp .ne (.call 25 [.v 4, .v 5]) (.call 19 [.v 4, .v 5])]) [.ret (.k (.bool false))] [] :: .iff (.cmp .ne (.call 24 [.v 4, .v 5]) (.bi .tuple [.lc (.v 1) (.n 1) (.vr 5) [.cmp .ne (.vr 1) (.vr 6)]])) [.ret (.k (.bool false))] [] :: .fo (.n 1) (.v 5) body30 :: .iff (.and [.cmp .isn (.vr 6) (.k .none), .cmp .ne (.call 21 [.v 4, .bi .tuple [.vr 7]]) (.vr 6)]) [.ret (.k (.bool false))] [] :: .iff (.cmp .ne (.call 21 [.v 4, .bi .tuple [.call 19 [.v 4, .v 5]]]) (.vr 6)) [.ret (.k (.bool false))] [] :: .asg 2 (.call 26 [.v 0, .k (.int 1), .bin .add (.bi .len [.vr 5]) (.k (.int 1))]) :: .asg 3 (.lst [.call 21 [.v 4, .sl (.vr 5) [] [.vr 2]], .call 21 [.v 4, .sl (.vr 5) [.vr 2] []]]) :: .iff (.cmp .ne (.call 21 [.v 4, .bi .tuple [.lc (.v 1) (.n 1) (.vr 3) [.cmp .isn (.vr 1) (.k .none)]]]) (.vr 6)) [.ret (.k (.bool false))] [] :: .iff (.cmp .ne (.call 23 [.lst [.v 4, .v 4], .v 5]) (.lst [.v 6, .v 6])) [.ret (.k (.bool false))] [] :: .iff (.cmp .ne (.call 21 [.rev (.vr 4), .v 5]) (.vr 6)) [.ret (.k (.bool false))] [] :: .ret (.cmp .eq (.call 19 [.bi .tuple [.bi .sorted [.vr 4]], .v 5]) (.call 19 [.v 4, .v 5])) :: [] := rfl
  have e0 : ([sI ns].map Sl.va ++ List.replicate (12 - [sI ns].length) Sl.un) = [.va (sI ns), .un, .un, .un, .un, .un, .un, .un, .un, .un, .un, .un] := rfl
  unfold evF
  rw [e0, hb, ss_nx p1, ss_nx p2, ss_nx (iff_no (st1 h hA hO _ _ _ _ _ _ _)), ss_nx (iff_no (st2 h hA hO _ _ _ _ _ _ _)), ss_nx el, ss_nx (iff_no (st5 h hA hO _ _ _ _ _ _ _)), ss_nx (iff_no (st6 h hA hO _ _ _ _ _ _ _)), ss_nx p7, ss_nx p8, ss_nx (iff_no (st9 h hA hO _ _ hcut _ _ _ _ _ _)), ss_nx (iff_no (st10 h hA hO _ _ _ _ _ _ _)), ss_nx (iff_no (st11 h hA hO _ _ _ _ _ _ _))]
  have := st12 (Δ := Δ) h hA hO (ns := ns) t1 (.va (.d (.int r))) (.va (.d (.list [optK (chE A (O.take r.toNat)), optK (chE A (O.drop r.toNat))]))) t8 t9 t10 t11
  rw [q62, q55, this]
  rfl
end Pz
namespace PzLaw
open PySem PySem.Spec PyProof.Rows L2 Pz
def top (i : Nat) : Stmt := PySem.Challenge.pw_acceptlists_k06_whole_choosing.main.body.getD i (.Pass ⟨0, 0, 0, 0⟩)
def mkD (x : Str) (i : Nat) : He.DefD := ⟨(x, none), x, x, defArgs (top i), defBody (top i), defScope (top i), [], []⟩
def u_26 : UD := ⟨mkD "_law_drawn" 41, 26, ["_law_script", "_law_k", "_law_many", "_law_cell", "_law_turn", "_law_rest"], false, core_26⟩
def u_27 : UD := ⟨mkD "_law_kind" 42, 27, ["_law_script", "_law_at"], false, core_27⟩
def u_28 : UD := ⟨mkD "_law_list" 43, 28, ["_law_script", "_law_at", "_law_most", "_law_k", "_law_found", "_law_taken", "_law_here", "_law_place", "_law_way"], false, core_28⟩
def u_29 : UD := ⟨mkD "_law_offer" 44, 29, ["_law_script", "_law_at", "_law_most", "_law_found", "_law_k", "_law_kind_here"], false, core_29⟩
def u_2 : UD := ⟨mkD "is_name" 14, 2, ["value", "sign"], false, core_2⟩
def u_4 : UD := ⟨mkD "is_kind" 16, 4, ["candidate"], false, core_4⟩
def u_3 : UD := ⟨mkD "is_any" 15, 3, ["value"], false, core_3⟩
def u_5 : UD := ⟨mkD "is_range" 17, 5, ["candidate"], false, core_5⟩
def u_1 : UD := ⟨mkD "is_int" 13, 1, ["value", "least", "most"], false, core_1⟩
def u_6 : UD := ⟨mkD "is_entry" 18, 6, ["value"], false, core_6⟩
def u_7 : UD := ⟨mkD "is_accept_list" 19, 7, ["candidate", "entry"], false, core_7⟩
def u_9 : UD := ⟨mkD "check_list" 21, 9, ["value"], false, core_9⟩
def u_8 : UD := ⟨mkD "is_offer" 20, 8, ["candidate", "kind"], false, core_8⟩
def u_11 : UD := ⟨mkD "check_offer" 23, 11, ["value"], false, core_11⟩
def u_12 : UD := ⟨mkD "find_entry" 24, 12, ["accept", "kind", "place", "found", "entry"], false, core_12⟩
def u_13 : UD := ⟨mkD "find_weight" 25, 13, ["accept", "kind", "entry"], false, core_13⟩
def u_16 : UD := ⟨mkD "find_accepted" 28, 16, ["accept", "offer", "kind"], false, core_16⟩
def u_18 : UD := ⟨mkD "find_ranked" 30, 18, ["accept", "offer", "kind"], true, core_18⟩
def u_20 : UD := ⟨mkD "find_choice" 34, 20, ["accept", "offer", "found"], false, core_20⟩
def u_21 : UD := ⟨mkD "choice" 35, 21, ["accept", "offer"], false, core_21⟩
def u_17 : UD := ⟨mkD "accepted" 29, 17, ["accept", "offer"], false, core_17⟩
def u_24 : UD := ⟨mkD "without_choice" 38, 24, ["accept", "offer", "chosen", "kind"], false, core_24⟩
def u_25 : UD := ⟨mkD "order_of_choices" 39, 25, ["accept", "offer", "chosen", "found"], false, core_25⟩
def u_19 : UD := ⟨mkD "ranked" 31, 19, ["accept", "offer"], false, core_19⟩
def u_10 : UD := ⟨mkD "check_kind" 22, 10, ["value"], false, core_10⟩
def u_14 : UD := ⟨mkD "entry_for" 26, 14, ["accept", "kind"], false, core_14⟩
def u_15 : UD := ⟨mkD "weight_of" 27, 15, ["accept", "kind"], false, core_15⟩
def u_22 : UD := ⟨mkD "check_lists" 36, 22, ["value", "one"], false, core_22⟩
def u_23 : UD := ⟨mkD "choices" 37, 23, ["accepts", "offer", "accept"], false, core_23⟩
def u_30 : UD := ⟨mkD "law" 45, 30, ["_law_script", "_law_kind_here", "_law_place", "_law_parts", "_law_accept", "_law_offer_here", "_law_told", "_law_good", "_law_rest", "_law_entry", "_law_weight", "_law_other"], false, core_30⟩
def us_0 : List UD := []
def us_1 : List UD := u_26 :: us_0
def us_2 : List UD := u_27 :: us_1
def us_3 : List UD := u_28 :: us_2
def us_4 : List UD := u_29 :: us_3
def us_5 : List UD := u_2 :: us_4
def us_6 : List UD := u_4 :: us_5
def us_7 : List UD := u_3 :: us_6
def us_8 : List UD := u_5 :: us_7
def us_9 : List UD := u_1 :: us_8
def us_10 : List UD := u_6 :: us_9
def us_11 : List UD := u_7 :: us_10
def us_12 : List UD := u_9 :: us_11
def us_13 : List UD := u_8 :: us_12
def us_14 : List UD := u_11 :: us_13
def us_15 : List UD := u_12 :: us_14
def us_16 : List UD := u_13 :: us_15
def us_17 : List UD := u_16 :: us_16
def us_18 : List UD := u_18 :: us_17
def us_19 : List UD := u_20 :: us_18
def us_20 : List UD := u_21 :: us_19
def us_21 : List UD := u_17 :: us_20
def us_22 : List UD := u_24 :: us_21
def us_23 : List UD := u_25 :: us_22
def us_24 : List UD := u_19 :: us_23
def us_25 : List UD := u_10 :: us_24
def us_26 : List UD := u_14 :: us_25
def us_27 : List UD := u_15 :: us_26
def us_28 : List UD := u_22 :: us_27
def us_29 : List UD := u_23 :: us_28
def us_30 : List UD := u_30 :: us_29
def md : Md := ⟨[("ANY", .str ⟨#[42]⟩), ("LETTERS", .str ⟨#[97, 98, 99, 100, 101, 102, 103, 104, 105, 106, 107, 108, 109, 110, 111, 112, 113, 114, 115, 116, 117, 118, 119, 120, 121, 122]⟩), ("MAX_ENTRIES", .int 8), ("MAX_LISTS", .int 8), ("MAX_NAME", .int 4), ("MAX_OFFER", .int 6), ("MAX_WEIGHT", .int 1000)], ["all", "bool", "int", "isinstance", "len", "list", "range", "set", "sorted", "str", "tuple"], ["InvalidKind", "InvalidList", "InvalidLists", "InvalidOffer"]⟩
def us : List UD := us_30
def nm0 : List Str := ["AcceptError", "InvalidList", "InvalidKind", "InvalidOffer", "InvalidLists", "MAX_NAME", "MAX_ENTRIES", "MAX_WEIGHT", "MAX_OFFER", "LETTERS", "ANY", "is_int", "is_name", "is_any", "is_kind", "is_range", "is_entry", "is_accept_list", "is_offer", "check_list", "check_kind", "check_offer", "find_entry", "find_weight", "entry_for", "weight_of", "find_accepted", "accepted", "find_ranked", "ranked"]
def nm1 : List Str := ["MAX_LISTS", "find_choice", "choice", "check_lists", "choices", "without_choice", "order_of_choices", "_law_drawn", "_law_kind", "_law_list", "_law_offer"]
def nm : List Str := nm0 ++ nm1
abbrev R : PySem.W.OpenRow := PySem.W.OpenLaw.row PySem.Challenge.rw_acceptlists_k06_whole_choosing
abbrev hk : PySem.W.Hook := He.hookX 4 (faOf md us) (us.map fun u => u.d) [] (lamD us) (exB us)
def ob (s : PySem.W.SharedT) : He.AlX := He.obsX 4 (faOf md us) (us.map fun u => u.d) [] (lamD us) (exB us) (HandSHeadRun.getT s)
theorem ob_eq (s : PySem.W.SharedT) : ob s = hk.obs s.abs := He.obsX_eq (HandSHeadRun.getT_eq s)
theorem chk_1 : chkU md 40 us_0 u_26 = true := by kernel_rfl
theorem chk_2 : chkU md 40 us_1 u_27 = true := by kernel_rfl
theorem chk_3 : chkU md 40 us_2 u_28 = true := by kernel_rfl
theorem chk_4 : chkU md 40 us_3 u_29 = true := by kernel_rfl
theorem chk_5 : chkU md 40 us_4 u_2 = true := by kernel_rfl
theorem chk_6 : chkU md 40 us_5 u_4 = true := by kernel_rfl
theorem chk_7 : chkU md 40 us_6 u_3 = true := by kernel_rfl
theorem chk_8 : chkU md 40 us_7 u_5 = true := by kernel_rfl
theorem chk_9 : chkU md 40 us_8 u_1 = true := by kernel_rfl
theorem chk_10 : chkU md 40 us_9 u_6 = true := by kernel_rfl
theorem chk_11 : chkU md 40 us_10 u_7 = true := by kernel_rfl
theorem chk_12 : chkU md 40 us_11 u_9 = true := by kernel_rfl
theorem chk_13 : chkU md 40 us_12 u_8 = true := by kernel_rfl
theorem chk_14 : chkU md 40 us_13 u_11 = true := by kernel_rfl
theorem chk_15 : chkU md 40 us_14 u_12 = true := by kernel_rfl
theorem chk_16 : chkU md 40 us_15 u_13 = true := by kernel_rfl
theorem chk_17 : chkU md 40 us_16 u_16 = true := by kernel_rfl
theorem chk_18 : chkU md 40 us_17 u_18 = true := by kernel_rfl
theorem chk_19 : chkU md 40 us_18 u_20 = true := by kernel_rfl
theorem chk_20 : chkU md 40 us_19 u_21 = true := by kernel_rfl
theorem chk_21 : chkU md 40 us_20 u_17 = true := by kernel_rfl
theorem chk_22 : chkU md 40 us_21 u_24 = true := by kernel_rfl
theorem chk_23 : chkU md 40 us_22 u_25 = true := by kernel_rfl
theorem chk_24 : chkU md 40 us_23 u_19 = true := by kernel_rfl
theorem chk_25 : chkU md 40 us_24 u_10 = true := by kernel_rfl
theorem chk_26 : chkU md 40 us_25 u_14 = true := by kernel_rfl
theorem chk_27 : chkU md 40 us_26 u_15 = true := by kernel_rfl
theorem chk_28 : chkU md 40 us_27 u_22 = true := by kernel_rfl
theorem chk_29 : chkU md 40 us_28 u_23 = true := by kernel_rfl
theorem chk_30 : chkU md 40 us_29 u_30 = true := by kernel_rfl
theorem chkL_0 : chkL md 40 us_0 = true := rfl
theorem chkL_1 : chkL md 40 us_1 = true := Bool.and_eq_true_iff.mpr ⟨chkL_0, chk_1⟩
theorem chkL_2 : chkL md 40 us_2 = true := Bool.and_eq_true_iff.mpr ⟨chkL_1, chk_2⟩
theorem chkL_3 : chkL md 40 us_3 = true := Bool.and_eq_true_iff.mpr ⟨chkL_2, chk_3⟩
theorem chkL_4 : chkL md 40 us_4 = true := Bool.and_eq_true_iff.mpr ⟨chkL_3, chk_4⟩
theorem chkL_5 : chkL md 40 us_5 = true := Bool.and_eq_true_iff.mpr ⟨chkL_4, chk_5⟩
theorem chkL_6 : chkL md 40 us_6 = true := Bool.and_eq_true_iff.mpr ⟨chkL_5, chk_6⟩
theorem chkL_7 : chkL md 40 us_7 = true := Bool.and_eq_true_iff.mpr ⟨chkL_6, chk_7⟩
theorem chkL_8 : chkL md 40 us_8 = true := Bool.and_eq_true_iff.mpr ⟨chkL_7, chk_8⟩
theorem chkL_9 : chkL md 40 us_9 = true := Bool.and_eq_true_iff.mpr ⟨chkL_8, chk_9⟩
theorem chkL_10 : chkL md 40 us_10 = true := Bool.and_eq_true_iff.mpr ⟨chkL_9, chk_10⟩
theorem chkL_11 : chkL md 40 us_11 = true := Bool.and_eq_true_iff.mpr ⟨chkL_10, chk_11⟩
theorem chkL_12 : chkL md 40 us_12 = true := Bool.and_eq_true_iff.mpr ⟨chkL_11, chk_12⟩
theorem chkL_13 : chkL md 40 us_13 = true := Bool.and_eq_true_iff.mpr ⟨chkL_12, chk_13⟩
theorem chkL_14 : chkL md 40 us_14 = true := Bool.and_eq_true_iff.mpr ⟨chkL_13, chk_14⟩
theorem chkL_15 : chkL md 40 us_15 = true := Bool.and_eq_true_iff.mpr ⟨chkL_14, chk_15⟩
theorem chkL_16 : chkL md 40 us_16 = true := Bool.and_eq_true_iff.mpr ⟨chkL_15, chk_16⟩
theorem chkL_17 : chkL md 40 us_17 = true := Bool.and_eq_true_iff.mpr ⟨chkL_16, chk_17⟩
theorem chkL_18 : chkL md 40 us_18 = true := Bool.and_eq_true_iff.mpr ⟨chkL_17, chk_18⟩
theorem chkL_19 : chkL md 40 us_19 = true := Bool.and_eq_true_iff.mpr ⟨chkL_18, chk_19⟩
theorem chkL_20 : chkL md 40 us_20 = true := Bool.and_eq_true_iff.mpr ⟨chkL_19, chk_20⟩
theorem chkL_21 : chkL md 40 us_21 = true := Bool.and_eq_true_iff.mpr ⟨chkL_20, chk_21⟩
theorem chkL_22 : chkL md 40 us_22 = true := Bool.and_eq_true_iff.mpr ⟨chkL_21, chk_22⟩
theorem chkL_23 : chkL md 40 us_23 = true := Bool.and_eq_true_iff.mpr ⟨chkL_22, chk_23⟩
theorem chkL_24 : chkL md 40 us_24 = true := Bool.and_eq_true_iff.mpr ⟨chkL_23, chk_24⟩
theorem chkL_25 : chkL md 40 us_25 = true := Bool.and_eq_true_iff.mpr ⟨chkL_24, chk_25⟩
theorem chkL_26 : chkL md 40 us_26 = true := Bool.and_eq_true_iff.mpr ⟨chkL_25, chk_26⟩
theorem chkL_27 : chkL md 40 us_27 = true := Bool.and_eq_true_iff.mpr ⟨chkL_26, chk_27⟩
theorem chkL_28 : chkL md 40 us_28 = true := Bool.and_eq_true_iff.mpr ⟨chkL_27, chk_28⟩
theorem chkL_29 : chkL md 40 us_29 = true := Bool.and_eq_true_iff.mpr ⟨chkL_28, chk_29⟩
theorem chkL_30 : chkL md 40 us_30 = true := Bool.and_eq_true_iff.mpr ⟨chkL_29, chk_30⟩
theorem run (w : World) : HandSHeadRun.RunEq R (PySem.W.view R.prog [45]) hk ob 6000 nm w := by
  intro os
  kernel_rfl
end PzLaw
section
open PySem PySem.W PySem.Calls PyProof.Rows
theorem PzLaw.holds_of (good : ∀ ns : List Int, ns.length ≤ 63 → (∀ z ∈ ns, Builtin.Int.intBits z ≤ 1048576) → Pz.gam (fun _ _ => .stuck) 4000 PzLaw.us_30 30 [.d (.list (ns.map .int))] = .ok (.d (.bool true))) : PySem.Challenge.rw_acceptlists_k06_whole_choosing.Holds := by
  w_on; o_law
  refine HandSHeadRun.head_any (r := OpenLaw.row PySem.Challenge.rw_acceptlists_k06_whole_choosing) (q := view (OpenLaw.row PySem.Challenge.rw_acceptlists_k06_whole_choosing).prog [45]) (H := PzLaw.hk) (ob := PzLaw.ob) (M := 6000) (loose := PzLaw.nm) (d := HandSHeadRun.topDef (OpenLaw.row PySem.Challenge.rw_acceptlists_k06_whole_choosing).prog 45) (kwd := []) PzLaw.ob_eq
    (by kernel_rfl) (fun s => by kernel_rfl) PzLaw.run (by kernel_rfl) (by kernel_rfl) (by kernel_rfl) (by rfl) (by first | assumption | decide +kernel) (by decide +kernel) ⟨rfl, rfl, rfl, rfl, rfl, by decide +kernel⟩ ?hw ?hc
  case hw => w_witness2
  case hc =>
    refine LamX.walk_ofTsE (l := PySem.Challenge.rw_acceptlists_k06_whole_choosing) (n := 63) (k := Pz.lev PzLaw.us_30) (x := "_law_script") (CX := fun w => L2.CX (PySem.Challenge.rw_acceptlists_k06_whole_choosing).prog w) rfl (by decide) (by kernel_rfl) ⟨rfl, by decide +kernel, by decide +kernel⟩ ?F (fun w => Pz.cx_end w)
    intro w mg fa h Y G hmg0
    have hmg : mg ("law" : PySem.Str) = some (.ref fa) := by
      have e : (HandSHeadRun.topDef (OpenLaw.row PySem.Challenge.rw_acceptlists_k06_whole_choosing).prog 45).name = ("law" : PySem.Str) := by kernel_rfl
      rw [← e]
      exact hmg0
    exact Pz.law_at (Nf := 4000) (Δ := fun _ _ => .stuck) Y G hmg PzLaw.chkL_30 (by decide +kernel) (by kernel_rfl) (by decide) good
end
namespace PzLaw
open PySem Pz
abbrev dy : Dyn := fun _ _ => .stuck
theorem f_26 : F26' 1000 (gam dy 4000 us_30 26) := m26 
theorem f_27 : F27 (gam dy 4000 us_30 27) := m27 (show F26' 1000 (gam dy 4000 us_1 26) from f_26)
theorem f_28 : F28 (gam dy 4000 us_30 28) := m28 (show F26' 1000 (gam dy 4000 us_2 26) from f_26) (show F27 (gam dy 4000 us_2 27) from f_27)
theorem f_29 : F29 (gam dy 4000 us_30 29) := m29 (show F26' 1000 (gam dy 4000 us_3 26) from f_26) (show F27 (gam dy 4000 us_3 27) from f_27)
theorem f_2 : F2 (gam dy 4000 us_30 2) := m2 
theorem f_4 : F4 (gam dy 4000 us_30 4) := m4 (show F2 (gam dy 4000 us_5 2) from f_2)
theorem f_3 : F3 (gam dy 4000 us_30 3) := m3 
theorem f_5 : F5 (gam dy 4000 us_30 5) := m5 (show F2 (gam dy 4000 us_7 2) from f_2) (show F3 (gam dy 4000 us_7 3) from f_3) (show F4 (gam dy 4000 us_7 4) from f_4)
theorem f_1 : F1 (gam dy 4000 us_30 1) := m1 
theorem f_6 : F6 (gam dy 4000 us_30 6) := m6 (show F1 (gam dy 4000 us_9 1) from f_1) (show F5 (gam dy 4000 us_9 5) from f_5)
theorem f_7 : F7 (gam dy 4000 us_30 7) := m7 (show F6 (gam dy 4000 us_10 6) from f_6)
theorem f_9 : F9 (gam dy 4000 us_30 9) := m9 (show F7 (gam dy 4000 us_11 7) from f_7)
theorem f_8 : F8 (gam dy 4000 us_30 8) := m8 (show F4 (gam dy 4000 us_12 4) from f_4)
theorem f_11 : F11 (gam dy 4000 us_30 11) := m11 (show F8 (gam dy 4000 us_13 8) from f_8)
theorem f_12 : F12 (gam dy 4000 us_30 12) := m12 
theorem f_13 : F13 (gam dy 4000 us_30 13) := m13 (show F12 (gam dy 4000 us_15 12) from f_12)
theorem f_16 : F16 (gam dy 4000 us_30 16) := m16 (show F13 (gam dy 4000 us_16 13) from f_13)
theorem f_18 : F18 (gam dy 4000 us_30 18) := m18 (show F13 (gam dy 4000 us_17 13) from f_13) (show F16 (gam dy 4000 us_17 16) from f_16)
theorem f_20 : F20 (gam dy 4000 us_30 20) := m20 (show F18 (gam dy 4000 us_18 18) from f_18)
theorem f_21 : F21 (gam dy 4000 us_30 21) := m21 (show F9 (gam dy 4000 us_19 9) from f_9) (show F11 (gam dy 4000 us_19 11) from f_11) (show F20 (gam dy 4000 us_19 20) from f_20)
theorem f_17 : F17 (gam dy 4000 us_30 17) := m17 (show F9 (gam dy 4000 us_20 9) from f_9) (show F11 (gam dy 4000 us_20 11) from f_11) (show F16 (gam dy 4000 us_20 16) from f_16)
theorem f_24 : F24 (gam dy 4000 us_30 24) := m24 (show F21 (gam dy 4000 us_21 21) from f_21)
theorem f_25 : F25 (gam dy 4000 us_30 25) := m25 (show F20 (gam dy 4000 us_22 20) from f_20) (show F21 (gam dy 4000 us_22 21) from f_21) (show F24 (gam dy 4000 us_22 24) from f_24)
theorem f_19 : F19 (gam dy 4000 us_30 19) := m19 (show F9 (gam dy 4000 us_23 9) from f_9) (show F11 (gam dy 4000 us_23 11) from f_11) (show F18 (gam dy 4000 us_23 18) from f_18)
theorem f_10 : F10 (gam dy 4000 us_30 10) := m10 (show F4 (gam dy 4000 us_24 4) from f_4)
theorem f_14 : F14 (gam dy 4000 us_30 14) := m14 (show F9 (gam dy 4000 us_25 9) from f_9) (show F10 (gam dy 4000 us_25 10) from f_10) (show F12 (gam dy 4000 us_25 12) from f_12)
theorem f_15 : F15 (gam dy 4000 us_30 15) := m15 (show F9 (gam dy 4000 us_26 9) from f_9) (show F10 (gam dy 4000 us_26 10) from f_10) (show F13 (gam dy 4000 us_26 13) from f_13)
theorem f_22 : F22 (gam dy 4000 us_30 22) := m22 (show F7 (gam dy 4000 us_27 7) from f_7)
theorem f_23 : F23 (gam dy 4000 us_30 23) := m23 (show F22 (gam dy 4000 us_28 22) from f_22) (show F11 (gam dy 4000 us_28 11) from f_11) (show F20 (gam dy 4000 us_28 20) from f_20)
theorem k06 : K06 (gam dy 4000 us_29) := ⟨f_14, f_15, f_17, f_19, f_21, f_23, f_24, f_25, f_26, f_28, f_29⟩
theorem good (ns : List Int) (hl : ns.length ≤ 63) (_ : ∀ z ∈ ns, Builtin.Int.intBits z ≤ 1048576) : gam (fun _ _ => .stuck) 4000 us_30 30 [.d (.list (ns.map .int))] = .ok (.d (.bool true)) := m30 (N := 4000) k06 hl
end PzLaw
theorem PySem.Challenge.cw_acceptlists_k06_whole_choosing_holds : PySem.Challenge.rw_acceptlists_k06_whole_choosing.Holds := by
  exact PzLaw.holds_of PzLaw.good
