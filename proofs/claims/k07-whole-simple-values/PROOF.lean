import PyProof.Rows.All
import Wide.All
import OpenK.AllK
import Wide.FinOn
import HandS.ForMost
import HandS.TupMul
import HandS.IsInst
import HandS.Style
import HandS.Wide
import HandS.Walk
import PySem.Challenge.RW_schemabridge_k07_whole_simple_values
set_option Elab.async false
set_option linter.all false
set_option maxRecDepth 100000
set_option maxHeartbeats 4000000
namespace Sb
open PySem L2

/-! ## data, slots, the invariant -/
/-- data: what never changes -/
inductive D where
  | non | bl (b : Bool) | int (i : Int) | str (s : Str) | tup (ds : List D)
/-- what a slot holds: data; a list, a dict that nobody changes; the draws; two lists of ints; a list, a dict of this frame's own -/
inductive SV where
  | d (x : D) | r (ds : List D) | n (kvs : List (Str × Int)) | w | p (xs ys : List Int) | own (ds : List D) | ownm (kvs : List (Str × Int))
def SV.isOwn : SV → Bool
  | .own _ => true
  | .ownm _ => true
  | _ => false
abbrev S := List Int
abbrev Env := List (Option SV)

mutual
inductive Rep (K : PySem.W.Frag) (Z : Hp) : V → D → Prop
  | non : Rep K Z .non .non
  | bl (b : Bool) : Rep K Z (.bl b) (.bl b)
  | int (i : Int) : Rep K Z (.int i) (.int i)
  | str (x : Str) : Rep K Z (.str x) (.str x)
  | tup {a : Addr} {vs : List V} {ds : List D} : SqT K Z a vs → RepL K Z vs ds → Rep K Z (.ref a) (.tup ds)
inductive RepL (K : PySem.W.Frag) (Z : Hp) : List V → List D → Prop
  | nil : RepL K Z [] []
  | cons {v : V} {vs : List V} {d : D} {ds : List D} : Rep K Z v d → RepL K Z vs ds → RepL K Z (v :: vs) (d :: ds)
end

theorem seqT {K : PySem.W.Frag} {H H' : Hp} {a : Addr} {xs : List V} (e : Same H H') (h : SqT K H a xs) : SqT K H' a xs := by
  rcases h with (h | ⟨o, h⟩) | h
  · exact .inl (.inl (e _ _ h))
  · exact .inl (.inr ⟨o, e _ _ h⟩)
  · exact .inr h

mutual
theorem Rep.mono {K : PySem.W.Frag} {Z Z' : Hp} (e : ∀ a xs, SqT K Z a xs → SqT K Z' a xs) {v : V} {d : D} : Rep K Z v d → Rep K Z' v d
  | .non => .non
  | .bl b => .bl b
  | .int i => .int i
  | .str x => .str x
  | .tup h r => .tup (e _ _ h) (RepL.mono e r)
theorem RepL.mono {K : PySem.W.Frag} {Z Z' : Hp} (e : ∀ a xs, SqT K Z a xs → SqT K Z' a xs) {vs : List V} {ds : List D} : RepL K Z vs ds → RepL K Z' vs ds
  | .nil => .nil
  | .cons h r => .cons (Rep.mono e h) (RepL.mono e r)
end
theorem Rep.same {K : PySem.W.Frag} {Z Z' : Hp} (e : Same Z Z') {v : V} {d : D} (h : Rep K Z v d) : Rep K Z' v d := h.mono fun _ _ => seqT e
theorem RepL.same {K : PySem.W.Frag} {Z Z' : Hp} (e : Same Z Z') {vs : List V} {ds : List D} (h : RepL K Z vs ds) : RepL K Z' vs ds := h.mono fun _ _ => seqT e
theorem RepL.length {K : PySem.W.Frag} {Z : Hp} : ∀ {vs : List V} {ds : List D}, RepL K Z vs ds → vs.length = ds.length
  | _, _, .nil => rfl
  | _, _, .cons _ r => by rw [List.length_cons, List.length_cons, RepL.length r]
theorem RepL.append {K : PySem.W.Frag} {Z : Hp} : ∀ {vs ws : List V} {ds es : List D}, RepL K Z vs ds → RepL K Z ws es → RepL K Z (vs ++ ws) (ds ++ es)
  | _, _, _, _, .nil, q => q
  | _, _, _, _, .cons h r, q => .cons h (RepL.append r q)
theorem RepL.get {K : PySem.W.Frag} {Z : Hp} : ∀ {vs : List V} {ds : List D} {i : Nat} {d : D}, RepL K Z vs ds → ds[i]? = some d → ∃ v, vs[i]? = some v ∧ Rep K Z v d
  | _, _, _, _, .nil, h => by simp at h
  | _, _, 0, d, .cons h r, e => by simp at e; subst e; exact ⟨_, rfl, h⟩
  | _, _, i + 1, d, .cons h r, e => by
    obtain ⟨v, e1, e2⟩ := RepL.get (i := i) (d := d) r (by simpa using e)
    exact ⟨v, by simpa using e1, e2⟩
theorem RepL.getV {K : PySem.W.Frag} {Z : Hp} : ∀ {vs : List V} {ds : List D} {i : Nat} {v : V}, RepL K Z vs ds → vs[i]? = some v → ∃ d, ds[i]? = some d ∧ Rep K Z v d
  | _, _, _, _, .nil, h => by simp at h
  | _, _, 0, d, .cons h r, e => by simp at e; subst e; exact ⟨_, rfl, h⟩
  | _, _, i + 1, d, .cons h r, e => by
    obtain ⟨v, e1, e2⟩ := RepL.getV (i := i) (v := d) r (by simpa using e)
    exact ⟨v, by simpa using e1, e2⟩
theorem RepL.take {K : PySem.W.Frag} {Z : Hp} : ∀ {vs : List V} {ds : List D} (n : Nat), RepL K Z vs ds → RepL K Z (vs.take n) (ds.take n)
  | _, _, 0, _ => .nil
  | _, _, _ + 1, .nil => .nil
  | _, _, n + 1, .cons h r => .cons h (RepL.take n r)
theorem RepL.drop {K : PySem.W.Frag} {Z : Hp} : ∀ {vs : List V} {ds : List D} (n : Nat), RepL K Z vs ds → RepL K Z (vs.drop n) (ds.drop n)
  | _, _, 0, h => h
  | _, _, _ + 1, .nil => .nil
  | _, _, n + 1, .cons h r => RepL.drop n r
theorem RepL.flat {K : PySem.W.Frag} {Z : Hp} {vs : List V} {ds : List D} (h : RepL K Z vs ds) : ∀ n : Nat, RepL K Z (List.replicate n vs).flatten (List.replicate n ds).flatten
  | 0 => .nil
  | n + 1 => by
    rw [List.replicate_succ, List.replicate_succ, List.flatten_cons, List.flatten_cons]
    exact h.append (h.flat n)
theorem RepL.ints {K : PySem.W.Frag} {Z : Hp} : ∀ (ns : List Int), RepL K Z (ns.map V.int) (ns.map D.int)
  | [] => .nil
  | n :: ns => .cons (.int n) (RepL.ints ns)

def encK (kvs : List (Str × Int)) : List (Key × V) := kvs.map fun p => (Sum.inr p.1, V.int p.2)

/-- the draws: their address, the row's address, the row -/
structure Wd where
  da : Addr
  ra : Addr
  row : List Int
def wl : Option Wd → List Addr
  | none => []
  | some w => [w.da]
/-- the heap without some addresses -/
def hid (A : List Addr) (H : Hp) : Hp := fun a => if a ∈ A then none else H a
theorem hid_in {A : List Addr} {H : Hp} {a : Addr} (h : a ∈ A) : hid A H a = none := if_pos h
theorem hid_out {A : List Addr} {H : Hp} {a : Addr} (h : a ∉ A) : hid A H a = H a := if_neg h
theorem hid_some {A : List Addr} {H : Hp} {a : Addr} {o : HO} (h : hid A H a = some o) : a ∉ A ∧ H a = some o := by
  unfold hid at h
  by_cases q : a ∈ A
  · rw [if_pos q] at h; cases h
  · rw [if_neg q] at h; exact ⟨q, h⟩
theorem hid_mk {A : List Addr} {H : Hp} {a : Addr} {o : HO} (q : a ∉ A) (h : H a = some o) : hid A H a = some o := by rw [hid_out q]; exact h
theorem hid_sub {A B : List Addr} {H : Hp} (h : ∀ a ∈ B, a ∈ A) : Same (hid A H) (hid B H) := fun a o e => by
  obtain ⟨q, e⟩ := hid_some e
  exact hid_mk (fun z => q (h a z)) e

def RepSV (W : Option Wd) (K : PySem.W.Frag) (Z : Hp) (v : V) : SV → Prop
  | .d x => Rep K Z v x
  | .r ds => ∃ a vs, v = .ref a ∧ SqL K Z a vs ∧ RepL K Z vs ds
  | .n kvs => ∃ a, v = .ref a ∧ Z a = some (.dK (encK kvs))
  | .w => ∃ w, W = some w ∧ v = .ref w.da
  | .p xs ys => ∃ a x y, v = .ref a ∧ Z a = some (.lst [.ref x, .ref y]) ∧ Z x = some (.lst (xs.map V.int)) ∧ Z y = some (.lst (ys.map V.int))
  | .own _ => False
  | .ownm _ => False
theorem RepSV.same {W : Option Wd} {K : PySem.W.Frag} {Z Z' : Hp} (e : Same Z Z') {v : V} : ∀ {sv : SV}, RepSV W K Z v sv → RepSV W K Z' v sv
  | .d x, h => Rep.same e h
  | .r ds, ⟨a, vs, h1, h2, h3⟩ => ⟨a, vs, h1, e.seq h2, h3.same e⟩
  | .n kvs, ⟨a, h1, h2⟩ => ⟨a, h1, e _ _ h2⟩
  | .w, h => h
  | .p xs ys, ⟨a, x, y, h1, h2, h3, h4⟩ => ⟨a, x, y, h1, e _ _ h2, e _ _ h3, e _ _ h4⟩
  | .own _, h => h.elim
  | .ownm _, h => h.elim

/-- the draws as they stand: s is what is left of the row -/
def World (W : Option Wd) (H : Hp) (s : S) : Prop :=
  ∀ w, W = some w → ∃ pos : Nat, H w.da = some (.lst [.int (pos : Int), .ref w.ra]) ∧ H w.ra = some (.lst (w.row.map V.int)) ∧ s = w.row.drop pos
/-- all but the draws stays -/
def Step (W : Option Wd) (H H' : Hp) : Prop := Same (hid (wl W) H) (hid (wl W) H')
theorem Step.refl (W : Option Wd) (H : Hp) : Step W H H := Same.refl _
theorem Step.trans {W : Option Wd} {H H1 H2 : Hp} (a : Step W H H1) (b : Step W H1 H2) : Step W H H2 := Same.trans a b
theorem Step.at {W : Option Wd} {H H' : Hp} (e : Step W H H') {a : Addr} {o : HO} (n : a ∉ wl W) (h : H a = some o) : H' a = some o := (hid_some (e a o (hid_mk n h))).2
theorem Step.hid {W : Option Wd} {H H' : Hp} (e : Step W H H') (O : List Addr) : Same (hid (wl W ++ O) H) (hid (wl W ++ O) H') := fun a o h => by
  obtain ⟨q, h⟩ := hid_some h
  exact hid_mk q (e.at (fun z => q (List.mem_append_left _ z)) h)
theorem hid_wl {W : Option Wd} {O : List Addr} {H : Hp} : Same (hid (wl W ++ O) H) (hid (wl W) H) := hid_sub fun _ h => List.mem_append_left _ h
theorem Step.of_same {W : Option Wd} {H H' : Hp} (e : Same H H') : Step W H H' := fun a o h => by
  obtain ⟨q, h⟩ := hid_some h
  exact hid_mk q (e _ _ h)
theorem same_new {H : Hp} {p : Addr} {o : HO} (h : H p = none) : Same H (upd H p o) := fun b x e => by
  rw [upd_ne (ne_of_none e h)]
  exact e
theorem Step.new {W : Option Wd} {H : Hp} {p : Addr} {o : HO} (h : H p = none) : Step W H (upd H p o) := Step.of_same (same_new h)
theorem World.same {W : Option Wd} {H H' : Hp} {s : S} (w : World W H s) (e : Same H H') : World W H' s := fun x hx => by
  obtain ⟨pos, h1, h2, h3⟩ := w x hx
  exact ⟨pos, e _ _ h1, e _ _ h2, h3⟩
theorem World.new {W : Option Wd} {H : Hp} {s : S} {p : Addr} {o : HO} (w : World W H s) (h : H p = none) : World W (upd H p o) s := w.same (same_new h)
theorem World.wl {W : Option Wd} {H : Hp} {s : S} (w : World W H s) {a : Addr} (h : a ∈ wl W) : ∃ o, H a = some o := by
  cases W with
  | none => cases h
  | some x =>
    obtain ⟨pos, h1, _⟩ := w x rfl
    have e : a = x.da := by simpa [Sb.wl] using h
    subst e
    exact ⟨_, h1⟩
theorem World.notIn {W : Option Wd} {H : Hp} {s : S} (w : World W H s) {a : Addr} (h : H a = none) : a ∉ Sb.wl W := fun z => by
  obtain ⟨o, e⟩ := w.wl z
  rw [h] at e; cases e

def SlotOk (W : Option Wd) (K : PySem.W.Frag) (O : List Addr) (H : Hp) (v : V) : SV → Prop
  | .own ds => ∃ a vs, v = .ref a ∧ a ∈ O ∧ H a = some (.lst vs) ∧ RepL K (hid (wl W ++ O) H) vs ds
  | .ownm kvs => ∃ a, v = .ref a ∧ a ∈ O ∧ H a = some (.dK (encK kvs))
  | sv => RepSV W K (hid (wl W ++ O) H) v sv
theorem SlotOk.of {W : Option Wd} {K : PySem.W.Frag} {O : List Addr} {H : Hp} {v : V} : ∀ {sv : SV}, RepSV W K (hid (wl W ++ O) H) v sv → SlotOk W K O H v sv
  | .d _, h => h
  | .r _, h => h
  | .n _, h => h
  | .w, h => h
  | .p _ _, h => h
  | .own _, h => h.elim
  | .ownm _, h => h.elim
theorem SlotOk.ro {W : Option Wd} {K : PySem.W.Frag} {O : List Addr} {H : Hp} {v : V} : ∀ {sv : SV}, sv.isOwn = false → SlotOk W K O H v sv → RepSV W K (hid (wl W ++ O) H) v sv
  | .d _, _, h => h
  | .r _, _, h => h
  | .n _, _, h => h
  | .w, _, h => h
  | .p _ _, _, h => h
  | .own _, e, _ => by cases e
  | .ownm _, e, _ => by cases e

/-- THE INVARIANT of a frame: W its draws, H0 the heap at its entry, O its own lists' and dicts' addresses -/
structure Ok (W : Option Wd) (K : PySem.W.Frag) (H0 : Hp) (O : List Addr) (H : Hp) (σ : L2.St) (ρ : Env) (s : S) : Prop where
  wd : World W H s
  step : Step W H0 H
  own0 : ∀ a ∈ O, H0 a = none
  ownW : ∀ w, W = some w → w.da ∉ O ∧ w.ra ∉ O
  ownC : ∀ a ∈ O, (∃ vs, H a = some (.lst vs)) ∨ ∃ kvs, H a = some (.dK kvs)
  len : σ.length = ρ.length
  slot : ∀ (i : Nat) (sv : SV), ρ[i]? = some (some sv) → ∃ v, σ[i]? = some (some v) ∧ SlotOk W K O H v sv
  dis : ∀ (i j : Nat) (si sj : SV) (a : Addr), i ≠ j → ρ[i]? = some (some si) → ρ[j]? = some (some sj) → si.isOwn = true → sj.isOwn = true → σ[i]? = some (some (.ref a)) → ¬ σ[j]? = some (some (.ref a))
section
variable {W : Option Wd} {K : PySem.W.Frag} {H0 H H' : Hp} {O O' : List Addr} {σ : L2.St} {ρ : Env} {s s' : S} {v : V}
theorem Ok.ownNot (k : Ok W K H0 O H σ ρ s) {a : Addr} (h : a ∈ O) : a ∉ wl W := fun z => by
  cases W with
  | none => cases z
  | some w =>
    have e : a = w.da := by simpa [wl] using z
    subst e
    exact (k.ownW w rfl).1 h
theorem Ok.ownAt (k : Ok W K H0 O H σ ρ s) {a : Addr} (h : a ∈ O) : ∃ o, H a = some o := by
  rcases k.ownC a h with ⟨_, e⟩ | ⟨_, e⟩ <;> exact ⟨_, e⟩
theorem Ok.fresh (k : Ok W K H0 O H σ ρ s) {a : Addr} (h : H a = none) : H0 a = none ∧ a ∉ wl W ∧ a ∉ O := by
  have n := k.wd.notIn h
  refine ⟨?_, n, fun z => ?_⟩
  · cases q : H0 a with
    | none => rfl
    | some o => rw [k.step.at n q] at h; cases h
  · obtain ⟨o, e⟩ := k.ownAt z
    rw [h] at e; cases e
/-- the heap moves on below an expression -/
theorem Ok.move (k : Ok W K H0 O H σ ρ s) (e : Step W H H') (w : World W H' s') : Ok W K H0 O H' σ ρ s' where
  wd := w
  step := k.step.trans e
  own0 := k.own0
  ownW := k.ownW
  ownC := fun a h => by
    rcases k.ownC a h with ⟨vs, q⟩ | ⟨kvs, q⟩
    · exact .inl ⟨vs, e.at (k.ownNot h) q⟩
    · exact .inr ⟨kvs, e.at (k.ownNot h) q⟩
  len := k.len
  slot := fun i sv h => by
    obtain ⟨v, h1, h2⟩ := k.slot i sv h
    refine ⟨v, h1, ?_⟩
    cases sv with
    | own ds =>
      obtain ⟨a, vs, q1, q2, q3, q4⟩ := h2
      exact ⟨a, vs, q1, q2, e.at (k.ownNot q2) q3, q4.same (e.hid O)⟩
    | ownm kvs =>
      obtain ⟨a, q1, q2, q3⟩ := h2
      exact ⟨a, q1, q2, e.at (k.ownNot q2) q3⟩
    | _ => exact SlotOk.of (RepSV.same (e.hid O) (SlotOk.ro rfl h2))
  dis := k.dis
/-- tuples are no own lists: what is data stays so where these are hidden -/
theorem sqT_hide (hc : ∀ a ∈ O, (∃ vs, H a = some (.lst vs)) ∨ ∃ kvs, H a = some (.dK kvs)) {a : Addr} {xs : List V} (h : SqT K (hid (wl W) H) a xs) : SqT K (hid (wl W ++ O) H) a xs := by
  have go : ∀ o, hid (wl W) H a = some o → (∀ vs, o ≠ .lst vs) → (∀ kvs, o ≠ .dK kvs) → hid (wl W ++ O) H a = some o := fun o e n1 n2 => by
    obtain ⟨q, e⟩ := hid_some e
    refine hid_mk (fun z => ?_) e
    rcases List.mem_append.mp z with z | z
    · exact q z
    · rcases hc a z with ⟨vs, r⟩ | ⟨kvs, r⟩
      · rw [e] at r; exact n1 vs (Option.some.inj r)
      · rw [e] at r; exact n2 kvs (Option.some.inj r)
  rcases h with (h | ⟨o, h⟩) | h
  · exact .inl (.inl (go _ h (fun _ z => nomatch z) (fun _ z => nomatch z)))
  · exact .inl (.inr ⟨o, go _ h (fun _ z => nomatch z) (fun _ z => nomatch z)⟩)
  · exact .inr h
theorem Ok.hide (k : Ok W K H0 O H σ ρ s) {d : D} (h : Rep K (hid (wl W) H) v d) : Rep K (hid (wl W ++ O) H) v d := h.mono fun _ _ => sqT_hide k.ownC
theorem Ok.hideL (k : Ok W K H0 O H σ ρ s) {vs : List V} {ds : List D} (h : RepL K (hid (wl W) H) vs ds) : RepL K (hid (wl W ++ O) H) vs ds := h.mono fun _ _ => sqT_hide k.ownC
/-- a slot is stored -/
theorem Ok.set (k : Ok W K H0 O H σ ρ s) {sv : SV} (r : RepSV W K (hid (wl W ++ O) H) v sv) (i : Nat) : Ok W K H0 O H (σ.set i (some v)) (ρ.set i (some sv)) s where
  wd := k.wd
  step := k.step
  own0 := k.own0
  ownW := k.ownW
  ownC := k.ownC
  len := by rw [List.length_set, List.length_set]; exact k.len
  slot := fun j sw h => by
    by_cases e : i = j
    · subst e
      by_cases hl : i < ρ.length
      · rw [List.getElem?_set_self hl] at h
        cases h
        exact ⟨v, List.getElem?_set_self (by rw [k.len]; exact hl), .of r⟩
      · rw [List.getElem?_eq_none (by rw [List.length_set]; omega)] at h; cases h
    · rw [List.getElem?_set_ne e] at h ⊢
      exact k.slot j sw h
  dis := fun a b sa sb x ne ha hb oa ob h1 h2 => by
    have no : sv.isOwn = false := by cases sv <;> first | rfl | exact r.elim
    have key : ∀ {c : Nat} {sc : SV}, (ρ.set i (some sv))[c]? = some (some sc) → sc.isOwn = true → i ≠ c ∧ ρ[c]? = some (some sc) := fun {c sc} hc oc => by
      by_cases e : i = c
      · subst e
        by_cases hl : i < ρ.length
        · rw [List.getElem?_set_self hl] at hc
          cases hc
          rw [no] at oc; cases oc
        · rw [List.getElem?_eq_none (by rw [List.length_set]; omega)] at hc; cases hc
      · rw [List.getElem?_set_ne e] at hc
        exact ⟨e, hc⟩
    obtain ⟨e1, h1'⟩ := key ha oa
    obtain ⟨e2, h2'⟩ := key hb ob
    rw [List.getElem?_set_ne e1] at h1
    rw [List.getElem?_set_ne e2] at h2
    exact k.dis a b sa sb x ne h1' h2' oa ob h1 h2
/-- a new object becomes the frame's own -/
theorem Ok.newOwn (k : Ok W K H0 O H σ ρ s) {p : Addr} {o : HO} (h : H p = none) (ho : (∃ vs, o = .lst vs) ∨ ∃ kvs, o = .dK kvs) : Ok W K H0 (p :: O) (upd H p o) σ ρ s := by
  obtain ⟨f1, f2, f3⟩ := k.fresh h
  have hs : Same (hid (wl W ++ O) H) (hid (wl W ++ p :: O) (upd H p o)) := fun a u e => by
    obtain ⟨q, e⟩ := hid_some e
    have ne : a ≠ p := ne_of_none e h
    refine hid_mk (fun z => ?_) (by rw [upd_ne ne]; exact e)
    rcases List.mem_append.mp z with z | z
    · exact q (List.mem_append_left _ z)
    · rcases List.mem_cons.mp z with z | z
      · exact ne z
      · exact q (List.mem_append_right _ z)
  refine ⟨k.wd.new h, k.step.trans (Step.new h), fun a ha => ?_, fun w hw => ?_, fun a ha => ?_, k.len, fun i sv hi => ?_, k.dis⟩
  · rcases List.mem_cons.mp ha with z | z
    · subst z; exact f1
    · exact k.own0 a z
  · obtain ⟨pos, h1, h2, _⟩ := k.wd w hw
    obtain ⟨n1, n2⟩ := k.ownW w hw
    refine ⟨fun z => ?_, fun z => ?_⟩
    · rcases List.mem_cons.mp z with z | z
      · rw [z, h] at h1; cases h1
      · exact n1 z
    · rcases List.mem_cons.mp z with z | z
      · rw [z, h] at h2; cases h2
      · exact n2 z
  · rcases List.mem_cons.mp ha with z | z
    · subst z
      rcases ho with ⟨vs, e⟩ | ⟨kvs, e⟩
      · subst e; exact .inl ⟨vs, upd_same⟩
      · subst e; exact .inr ⟨kvs, upd_same⟩
    · have ne : a ≠ p := fun e => f3 (e ▸ z)
      rw [upd_ne ne]
      exact k.ownC a z
  · obtain ⟨v, h1, h2⟩ := k.slot i sv hi
    refine ⟨v, h1, ?_⟩
    cases sv with
    | own ds =>
      obtain ⟨a, vs, q1, q2, q3, q4⟩ := h2
      exact ⟨a, vs, q1, List.mem_cons_of_mem _ q2, by rw [upd_ne (ne_of_none q3 h)]; exact q3, q4.same hs⟩
    | ownm kvs =>
      obtain ⟨a, q1, q2, q3⟩ := h2
      exact ⟨a, q1, List.mem_cons_of_mem _ q2, by rw [upd_ne (ne_of_none q3 h)]; exact q3⟩
    | _ => exact SlotOk.of (RepSV.same hs (SlotOk.ro rfl h2))
theorem hid_upd {A : List Addr} {H : Hp} {a : Addr} {o : HO} (h : a ∈ A) : hid A (upd H a o) = hid A H := by
  funext b
  unfold hid
  by_cases q : b ∈ A
  · rw [if_pos q, if_pos q]
  · rw [if_neg q, if_neg q, upd_ne (fun e : b = a => q (by rw [e]; exact h))]
/-- a slot comes to hold an own object at p that no slot held -/
theorem Ok.setOwn (k : Ok W K H0 O H σ ρ s) {p : Addr} {sv : SV} (hp : p ∈ O) (hsv : SlotOk W K O H (.ref p) sv) (no : ∀ (j : Nat) (sj : SV), ρ[j]? = some (some sj) → sj.isOwn = true → ¬ σ[j]? = some (some (.ref p))) (i : Nat) :
    Ok W K H0 O H (σ.set i (some (.ref p))) (ρ.set i (some sv)) s where
  wd := k.wd
  step := k.step
  own0 := k.own0
  ownW := k.ownW
  ownC := k.ownC
  len := by rw [List.length_set, List.length_set]; exact k.len
  slot := fun j sw h => by
    by_cases e : i = j
    · subst e
      by_cases hl : i < ρ.length
      · rw [List.getElem?_set_self hl] at h
        cases h
        exact ⟨.ref p, List.getElem?_set_self (by rw [k.len]; exact hl), hsv⟩
      · rw [List.getElem?_eq_none (by rw [List.length_set]; omega)] at h; cases h
    · rw [List.getElem?_set_ne e] at h ⊢
      exact k.slot j sw h
  dis := fun a b sa sb x ne ha hb oa ob h1 h2 => by
    have at_ : ∀ {c : Nat} {sc : SV}, (ρ.set i (some sv))[c]? = some (some sc) → i ≠ c → ρ[c]? = some (some sc) := fun {c sc} hc e => by
      rw [List.getElem?_set_ne e] at hc; exact hc
    have lt : ∀ {c : Nat} {sc : SV}, (ρ.set i (some sv))[c]? = some (some sc) → c < σ.length := fun {c sc} hc => by
      have := (List.getElem?_eq_some_iff.mp hc).1
      rw [List.length_set] at this
      rw [k.len]; exact this
    by_cases ea : i = a
    · subst ea
      rw [List.getElem?_set_self (lt ha)] at h1
      have eb : i ≠ b := ne
      rw [List.getElem?_set_ne eb] at h2
      cases h1
      exact no b sb (at_ hb eb) ob h2
    · rw [List.getElem?_set_ne ea] at h1
      by_cases eb : i = b
      · subst eb
        rw [List.getElem?_set_self (lt hb)] at h2
        cases h2
        exact no a sa (at_ ha ea) oa h1
      · rw [List.getElem?_set_ne eb] at h2
        exact k.dis a b sa sb x ne (at_ ha ea) (at_ hb eb) oa ob h1 h2
/-- the own object of slot i is changed -/
theorem Ok.mutOwn (k : Ok W K H0 O H σ ρ s) {i : Nat} {si sv : SV} {p : Addr} {o : HO} (hi : ρ[i]? = some (some si)) (oi : si.isOwn = true) (hσ : σ[i]? = some (some (.ref p))) (hp : p ∈ O)
    (ho : (∃ vs, o = .lst vs) ∨ ∃ kvs, o = .dK kvs) (hsv : SlotOk W K O (upd H p o) (.ref p) sv) (osv : sv.isOwn = true) : Ok W K H0 O (upd H p o) σ (ρ.set i (some sv)) s := by
  have hh : hid (wl W ++ O) (upd H p o) = hid (wl W ++ O) H := hid_upd (List.mem_append_right _ hp)
  have hil : i < ρ.length := (List.getElem?_eq_some_iff.mp hi).1
  have key : ∀ {c : Nat} {sc : SV}, (ρ.set i (some sv))[c]? = some (some sc) → sc.isOwn = true → ∃ sc', ρ[c]? = some (some sc') ∧ sc'.isOwn = true := fun {c sc} hc oc => by
    by_cases e : i = c
    · subst e; exact ⟨si, hi, oi⟩
    · rw [List.getElem?_set_ne e] at hc; exact ⟨sc, hc, oc⟩
  refine ⟨fun w hw => ?_, fun a u e => ?_, k.own0, k.ownW, fun a ha => ?_, by rw [List.length_set]; exact k.len, fun j sw h => ?_, fun a b sa sb x ne ha hb oa ob h1 h2 => ?_⟩
  · obtain ⟨pos, h1, h2, h3⟩ := k.wd w hw
    obtain ⟨n1, n2⟩ := k.ownW w hw
    exact ⟨pos, by rw [upd_ne (fun e => n1 (by rw [e]; exact hp))]; exact h1, by rw [upd_ne (fun e => n2 (by rw [e]; exact hp))]; exact h2, h3⟩
  · obtain ⟨q, e⟩ := hid_some e
    have ne : a ≠ p := fun z => by rw [z, k.own0 p hp] at e; cases e
    exact hid_mk q (by rw [upd_ne ne]; exact k.step.at q e)
  · by_cases e : a = p
    · subst e
      rcases ho with ⟨vs, e⟩ | ⟨kvs, e⟩
      · subst e; exact .inl ⟨vs, upd_same⟩
      · subst e; exact .inr ⟨kvs, upd_same⟩
    · rw [upd_ne e]; exact k.ownC a ha
  · by_cases e : i = j
    · subst e
      rw [List.getElem?_set_self hil] at h
      cases h
      exact ⟨.ref p, hσ, hsv⟩
    · rw [List.getElem?_set_ne e] at h
      obtain ⟨v, h1, h2⟩ := k.slot j sw h
      refine ⟨v, h1, ?_⟩
      have ndis : sw.isOwn = true → v ≠ .ref p := fun ow z => by
        rw [z] at h1
        exact k.dis i j si sw p e hi h oi ow hσ h1
      cases sw with
      | own ds =>
        obtain ⟨a, vs, q1, q2, q3, q4⟩ := h2
        have ne : a ≠ p := fun z => ndis rfl (by rw [q1, z])
        exact ⟨a, vs, q1, q2, by rw [upd_ne ne]; exact q3, by rw [hh]; exact q4⟩
      | ownm kvs =>
        obtain ⟨a, q1, q2, q3⟩ := h2
        have ne : a ≠ p := fun z => ndis rfl (by rw [q1, z])
        exact ⟨a, q1, q2, by rw [upd_ne ne]; exact q3⟩
      | _ => exact SlotOk.of (by rw [hh]; exact SlotOk.ro rfl h2)
  · obtain ⟨sa', ha', oa'⟩ := key ha oa
    obtain ⟨sb', hb', ob'⟩ := key hb ob
    exact k.dis a b sa' sb' x ne ha' hb' oa' ob' h1 h2
/-- an own object that no slot holds is changed (a comprehension's list) -/
theorem Ok.mutFree (k : Ok W K H0 O H σ ρ s) {p : Addr} {o : HO} (hp : p ∈ O) (no : ∀ (j : Nat) (sj : SV), ρ[j]? = some (some sj) → sj.isOwn = true → ¬ σ[j]? = some (some (.ref p))) (ho : (∃ vs, o = .lst vs) ∨ ∃ kvs, o = .dK kvs) : Ok W K H0 O (upd H p o) σ ρ s := by
  have hh : hid (wl W ++ O) (upd H p o) = hid (wl W ++ O) H := hid_upd (List.mem_append_right _ hp)
  refine ⟨fun w hw => ?_, fun a u e => ?_, k.own0, k.ownW, fun a ha => ?_, k.len, fun j sw h => ?_, k.dis⟩
  · obtain ⟨pos, h1, h2, h3⟩ := k.wd w hw
    obtain ⟨n1, n2⟩ := k.ownW w hw
    exact ⟨pos, by rw [upd_ne (fun e => n1 (by rw [e]; exact hp))]; exact h1, by rw [upd_ne (fun e => n2 (by rw [e]; exact hp))]; exact h2, h3⟩
  · obtain ⟨q, e⟩ := hid_some e
    have ne : a ≠ p := fun z => by rw [z, k.own0 p hp] at e; cases e
    exact hid_mk q (by rw [upd_ne ne]; exact k.step.at q e)
  · by_cases e : a = p
    · subst e
      rcases ho with ⟨vs, e⟩ | ⟨kvs, e⟩
      · subst e; exact .inl ⟨vs, upd_same⟩
      · subst e; exact .inr ⟨kvs, upd_same⟩
    · rw [upd_ne e]; exact k.ownC a ha
  · obtain ⟨v, h1, h2⟩ := k.slot j sw h
    refine ⟨v, h1, ?_⟩
    have ndis : sw.isOwn = true → v ≠ .ref p := fun ow z => no j sw h ow (by rw [z] at h1; exact h1)
    cases sw with
    | own ds =>
      obtain ⟨a, vs, q1, q2, q3, q4⟩ := h2
      have ne : a ≠ p := fun z => ndis rfl (by rw [q1, z])
      exact ⟨a, vs, q1, q2, by rw [upd_ne ne]; exact q3, by rw [hh]; exact q4⟩
    | ownm kvs =>
      obtain ⟨a, q1, q2, q3⟩ := h2
      have ne : a ≠ p := fun z => ndis rfl (by rw [q1, z])
      exact ⟨a, q1, q2, by rw [upd_ne ne]; exact q3⟩
    | _ => exact SlotOk.of (by rw [hh]; exact SlotOk.ro rfl h2)
/-- slots forgotten -/
theorem Ok.forget (k : Ok W K H0 O H σ ρ s) {σ' : L2.St} {ρ' : Env} (hl : σ'.length = ρ'.length) (h : ∀ (i : Nat) (sv : SV), ρ'[i]? = some (some sv) → ρ[i]? = some (some sv) ∧ σ'[i]? = σ[i]?) : Ok W K H0 O H σ' ρ' s :=
  ⟨k.wd, k.step, k.own0, k.ownW, k.ownC, hl, fun i sv e => by
    obtain ⟨e1, e2⟩ := h i sv e
    rw [e2]; exact k.slot i sv e1, fun i j si sj a ne hi hj oi oj h1 h2 => by
    obtain ⟨e1, e2⟩ := h i si hi
    obtain ⟨e3, e4⟩ := h j sj hj
    rw [e2] at h1; rw [e4] at h2
    exact k.dis i j si sj a ne e1 e3 oi oj h1 h2⟩
end
end Sb

set_option Elab.async false
set_option linter.all false
set_option maxRecDepth 100000
set_option maxHeartbeats 4000000
namespace Sb
open PySem L2

/-! ## the plain forms of expressions, and the readings that say: the code computes them -/
abbrev EF := Env → S → Option (SV × S)
abbrev BF := Env → S → Option (Bool × S)
abbrev LF := Env → S → Option (List D × S)
abbrev FM := List SV → S → Option (SV × S)

def tD (K : PySem.W.Frag) (F : EF) : TE := fun σ H Q => ∃ W H0 O ρ s sv s', Ok W K H0 O H σ ρ s ∧ F ρ s = some (sv, s') ∧ ∀ v H', Step W H H' → World W H' s' → RepSV W K (hid (wl W ++ O) H') v sv → Q v H'
/-- the same where a list of the frame's own may be handed on, to be read -/
def tO (K : PySem.W.Frag) (F : EF) : TE := fun σ H Q => ∃ W H0 O ρ s sv s', Ok W K H0 O H σ ρ s ∧ F ρ s = some (sv, s') ∧ ∀ v H', Step W H H' → World W H' s' → RepSV W K (hid (wl W) H') v sv → Q v H'
def tB (K : PySem.W.Frag) (F : BF) : TT := fun σ H Q => ∃ W H0 O ρ s b s', Ok W K H0 O H σ ρ s ∧ F ρ s = some (b, s') ∧ ∀ H', Step W H H' → World W H' s' → Q b H'
/-- a new list -/
def tL (K : PySem.W.Frag) (F : LF) : TE := fun σ H Q => ∃ W H0 O ρ s ds s', Ok W K H0 O H σ ρ s ∧ F ρ s = some (ds, s') ∧ ∀ a vs H', Step W H H' → World W H' s' → H a = none → H' a = some (.lst vs) → RepL K (hid (wl W ++ O) H') vs ds → Q (.ref a) H'
def aAll : List EF → Env → S → Option (List SV × S)
  | [], _, s => some ([], s)
  | F :: Fs, ρ, s => (F ρ s).bind fun p => (aAll Fs ρ p.2).map fun q => (p.1 :: q.1, q.2)
def tAs (K : PySem.W.Frag) (Fs : List EF) : TA := fun σ H Q => ∃ W H0 O ρ s svs s', Ok W K H0 O H σ ρ s ∧ aAll Fs ρ s = some (svs, s') ∧ ∀ vs H', Step W H H' → World W H' s' → Paired (RepSV W K (hid (wl W) H')) vs svs → Q vs H'

section
variable {X : Cx} {e : Expr} {es : List Expr}
theorem PE.imp {t t' : TE} (h : PE X e t) (i : ∀ σ H Q, t' σ H Q → t σ H Q) : PE X e t' := ⟨fun pins s σ H Q I hw => h.run pins s σ H Q I (i _ _ _ hw)⟩
theorem PT.imp {t t' : TT} (h : PT X e t) (i : ∀ σ H Q, t' σ H Q → t σ H Q) : PT X e t' := ⟨fun pins s σ H Q I hw => h.run pins s σ H Q I (i _ _ _ hw)⟩
theorem PW.imp {t t' : TT} (h : PW X e t) (i : ∀ σ H Q, t' σ H Q → t σ H Q) : PW X e t' := ⟨fun w pins s σ H Q I hw => h.run w pins s σ H Q I (i _ _ _ hw)⟩
theorem PA.imp {t t' : TA} (h : PA X es t) (i : ∀ σ H Q, t' σ H Q → t σ H Q) : PA X es t' := ⟨fun p pins s σ H Q I hw => h.run p pins s σ H Q I (i _ _ _ hw)⟩
end

section
variable {K : PySem.W.Frag} {W : Option Wd} {H0 H : Hp} {O : List Addr} {σ : L2.St} {ρ : Env} {s s' : S} {sv : SV}
theorem tD.go {F : EF} {R : VK} (k : Ok W K H0 O H σ ρ s) (h : F ρ s = some (sv, s')) (c : ∀ v H', Step W H H' → Ok W K H0 O H' σ ρ s' → RepSV W K (hid (wl W ++ O) H') v sv → R v H') : tD K F σ H R :=
  ⟨W, H0, O, ρ, s, sv, s', k, h, fun v H' e w r => c v H' e (k.move e w) r⟩
theorem tO.go {F : EF} {R : VK} (k : Ok W K H0 O H σ ρ s) (h : F ρ s = some (sv, s')) (c : ∀ v H', Step W H H' → Ok W K H0 O H' σ ρ s' → RepSV W K (hid (wl W) H') v sv → R v H') : tO K F σ H R :=
  ⟨W, H0, O, ρ, s, sv, s', k, h, fun v H' e w r => c v H' e (k.move e w) r⟩
theorem tB.go {F : BF} {b : Bool} {R : Bool → Hp → Prop} (k : Ok W K H0 O H σ ρ s) (h : F ρ s = some (b, s')) (c : ∀ H', Step W H H' → Ok W K H0 O H' σ ρ s' → R b H') : tB K F σ H R :=
  ⟨W, H0, O, ρ, s, b, s', k, h, fun H' e w => c H' e (k.move e w)⟩
theorem tAs.go {Fs : List EF} {svs : List SV} {R : List V → Hp → Prop} (k : Ok W K H0 O H σ ρ s) (h : aAll Fs ρ s = some (svs, s')) (c : ∀ vs H', Step W H H' → Ok W K H0 O H' σ ρ s' → Paired (RepSV W K (hid (wl W) H')) vs svs → R vs H') : tAs K Fs σ H R :=
  ⟨W, H0, O, ρ, s, svs, s', k, h, fun v H' e w r => c v H' e (k.move e w) r⟩
theorem tL.go {F : LF} {ds : List D} {R : VK} (k : Ok W K H0 O H σ ρ s) (h : F ρ s = some (ds, s')) (c : ∀ a vs H', Step W H H' → Ok W K H0 O H' σ ρ s' → H a = none → H' a = some (.lst vs) → RepL K (hid (wl W ++ O) H') vs ds → R (.ref a) H') : tL K F σ H R :=
  ⟨W, H0, O, ρ, s, ds, s', k, h, fun a vs H' e w n q r => c a vs H' e (k.move e w) n q r⟩
theorem Step.wide {W : Option Wd} {H H' : Hp} (e : Step W H H') : Same (Sb.hid (wl W) H) (Sb.hid (wl W) H') := e
end

/-! ### names, constants -/
def dVar (i : Nat) : EF := fun ρ s => match ρ[i]? with
  | some (some sv) => if sv.isOwn then none else some (sv, s)
  | _ => none
def oView : SV → SV
  | .own ds => .r ds
  | .ownm kvs => .n kvs
  | sv => sv
def oVar (i : Nat) : EF := fun ρ s => match ρ[i]? with
  | some (some sv) => some (oView sv, s)
  | _ => none
def dC (d : D) : EF := fun _ s => some (.d d, s)

section
variable {X : Cx} {pos : Pos}
theorem de_var (i : Nat) {x : Str} (hN : X.N[i]? = some x := by rfl) (hv : Vis X.env.scope x := by first | exact Or.inl rfl | exact Or.inr (Or.inl rfl) | exact Or.inr (Or.inr rfl)) (hd : (x == ("__debug__" : Str)) = false := by decide)
    (hcd : (x == ("__classdict__" : Str)) = false := by decide) : PE X (.Name x pos) (tD X.K (dVar i)) := PE.imp (pe_var hN hv hd hcd) fun σ H Q ⟨W, H0, O, ρ, s, sv, s', k, h, c⟩ => by
  unfold dVar at h
  split at h
  · rename_i sv' hi
    split at h
    · cases h
    · rename_i ho
      have e := Option.some.inj h
      obtain ⟨v, h1, h2⟩ := k.slot i sv' hi
      have e1 : sv' = sv := congrArg Prod.fst e
      have e2 : s = s' := congrArg Prod.snd e
      subst e1; subst e2
      exact ⟨v, h1, c v H (Step.refl _ _) k.wd (SlotOk.ro (by simpa using ho) h2)⟩
  · cases h
theorem do_var (i : Nat) {x : Str} (hN : X.N[i]? = some x := by rfl) (hv : Vis X.env.scope x := by first | exact Or.inl rfl | exact Or.inr (Or.inl rfl) | exact Or.inr (Or.inr rfl)) (hd : (x == ("__debug__" : Str)) = false := by decide)
    (hcd : (x == ("__classdict__" : Str)) = false := by decide) : PE X (.Name x pos) (tO X.K (oVar i)) := PE.imp (pe_var hN hv hd hcd) fun σ H Q ⟨W, H0, O, ρ, s, sv, s', k, h, c⟩ => by
  unfold oVar at h
  split at h
  · rename_i sv' hi
    have e := Option.some.inj h
    obtain ⟨v, h1, h2⟩ := k.slot i sv' hi
    have e1 : oView sv' = sv := congrArg Prod.fst e
    have e2 : s = s' := congrArg Prod.snd e
    subst e1; subst e2
    refine ⟨v, h1, c v H (Step.refl _ _) k.wd ?_⟩
    cases sv' with
    | own ds =>
      obtain ⟨a, vs, q1, q2, q3, q4⟩ := h2
      exact ⟨a, vs, q1, SqL.of (hid_mk (k.ownNot q2) q3), q4.same hid_wl⟩
    | ownm kvs =>
      obtain ⟨a, q1, q2, q3⟩ := h2
      exact ⟨a, q1, hid_mk (k.ownNot q2) q3⟩
    | d _ => exact RepSV.same hid_wl (SlotOk.ro (sv := .d _) rfl h2)
    | r _ => exact RepSV.same hid_wl (SlotOk.ro (sv := .r _) rfl h2)
    | n _ => exact RepSV.same hid_wl (SlotOk.ro (sv := .n _) rfl h2)
    | w => exact RepSV.same hid_wl (SlotOk.ro (sv := .w) rfl h2)
    | p _ _ => exact RepSV.same hid_wl (SlotOk.ro (sv := .p _ _) rfl h2)
  · cases h
theorem do_d {e : Expr} {F : EF} (h : PE X e (tD X.K F)) : PE X e (tO X.K F) := PE.imp h fun σ H Q ⟨W, H0, O, ρ, s, sv, s', k, h, c⟩ =>
  ⟨W, H0, O, ρ, s, sv, s', k, h, fun v H' e w r => c v H' e w (r.same hid_wl)⟩
theorem rd_c {K : PySem.W.Frag} {v : V} {d : D} (hr : ∀ Z, Rep K Z v d) {σ : L2.St} {H : Hp} {Q : VK} : tD K (dC d) σ H Q → tC v σ H Q := fun ⟨W, H0, O, ρ, s, sv, s', k, h, c⟩ => by
  have e := Option.some.inj h
  have e1 : SV.d d = sv := congrArg Prod.fst e
  have e2 : s = s' := congrArg Prod.snd e
  subst e1; subst e2
  exact c v H (Step.refl _ _) k.wd (hr _)
theorem de_int {i : Int} {j : Nat} : PE X (.Constant (.int i) j pos) (tD X.K (dC (.int i))) := PE.imp pe_int fun _ _ _ => rd_c fun _ => .int i
theorem de_bl {b : Bool} {j : Nat} : PE X (.Constant (.bool b) j pos) (tD X.K (dC (.bl b))) := PE.imp pe_bl fun _ _ _ => rd_c fun _ => .bl b
theorem de_non {j : Nat} : PE X (.Constant .none j pos) (tD X.K (dC .non)) := PE.imp pe_non fun _ _ _ => rd_c fun _ => .non
theorem de_str {x : Str} {j : Nat} : PE X (.Constant (.str x) j pos) (tD X.K (dC (.str x))) := PE.imp pe_str fun _ _ _ => rd_c fun _ => .str x
theorem de_glob {x : Str} {v : V} {u : Value} {d : D} (hm : X.mg x = some u) (r : RelV v u) (hr : ∀ Z, Rep X.K Z v d) (hg : Gl X x := by rfl) (hd : (x == ("__debug__" : Str)) = false := by decide) : PE X (.Name x pos) (tD X.K (dC d)) :=
  PE.imp (pe_glob hg hm r hd) fun _ _ _ => rd_c hr
end

/-! ### argument lists -/
section
variable {X : Cx} {e : Expr} {es : List Expr}
theorem Rep.sameP {K : PySem.W.Frag} {W : Option Wd} {Z Z' : Hp} (e : Same Z Z') : ∀ {vs : List V} {svs : List SV}, Paired (RepSV W K Z) vs svs → Paired (RepSV W K Z') vs svs
  | _, _, .nil => .nil
  | _, _, .cons h t => .cons (h.same e) (Rep.sameP e t)
theorem as_nil : PA X [] (tAs X.K []) := PA.imp pa_nil fun σ H Q ⟨W, H0, O, ρ, s, svs, s', k, h, c⟩ => by
  have e := Option.some.inj h
  have e1 : ([] : List SV) = svs := congrArg Prod.fst e
  have e2 : s = s' := congrArg Prod.snd e
  subst e1; subst e2
  exact c [] H (Step.refl _ _) k.wd .nil
theorem as_cons {F : EF} {Fs : List EF} (he : PE X e (tO X.K F)) (hr : PA X es (tAs X.K Fs)) (hs : starEach (e :: es) X.env = (false, eval e X.env) :: starEach es X.env := by rfl) : PA X (e :: es) (tAs X.K (F :: Fs)) :=
  PA.imp (pa_cons he hr hs) fun σ H Q ⟨W, H0, O, ρ, s, svs, s', k, h, c⟩ => by
    unfold aAll at h
    obtain ⟨⟨v1, s1⟩, h1, h⟩ := Option.bind_eq_some_iff.mp h
    obtain ⟨⟨vs, s2⟩, h2, h⟩ := Option.map_eq_some_iff.mp h
    have e1 : v1 :: vs = svs := congrArg Prod.fst h
    have e2 : s2 = s' := congrArg Prod.snd h
    subst e1; subst e2
    refine tO.go k h1 fun x H1 st1 k1 r1 => tAs.go k1 h2 fun xs H2 st2 k2 r2 => ?_
    exact c _ _ (st1.trans st2) k2.wd (.cons (r1.same st2) r2)
theorem aAll_length : ∀ {Fs : List EF} {ρ : Env} {s s' : S} {svs : List SV}, aAll Fs ρ s = some (svs, s') → svs.length = Fs.length
  | [], _, _, _, _, h => by
    cases Option.some.inj h
    rfl
  | F :: Fs, ρ, s, s', svs, h => by
    unfold aAll at h
    obtain ⟨⟨v1, s1⟩, h1, h⟩ := Option.bind_eq_some_iff.mp h
    obtain ⟨⟨vs, s2⟩, h2, h⟩ := Option.map_eq_some_iff.mp h
    have e1 : v1 :: vs = svs := congrArg Prod.fst h
    subst e1
    rw [List.length_cons, List.length_cons, aAll_length h2]
end

/-! ### operators on data -/
def lift1 (f : D → Option D) : SV → Option D
  | .d x => f x
  | _ => none
def lift2 (f : D → D → Option D) : SV → SV → Option D
  | .d x, .d y => f x y
  | _, _ => none
def d1 (f : D → Option D) (a : EF) : EF := fun ρ s => (a ρ s).bind fun p => (lift1 f p.1).map fun z => (.d z, p.2)
def d2 (f : D → D → Option D) (a b : EF) : EF := fun ρ s => (a ρ s).bind fun p => (b ρ p.2).bind fun q => (lift2 f p.1 q.1).map fun z => (.d z, q.2)
theorem lift1_inv {f : D → Option D} {a : SV} {z : D} (h : lift1 f a = some z) : ∃ x, a = .d x ∧ f x = some z := by
  cases a with
  | d x => exact ⟨x, rfl, h⟩
  | _ => cases h
theorem lift2_inv {f : D → D → Option D} {a b : SV} {z : D} (h : lift2 f a b = some z) : ∃ x y, a = .d x ∧ b = .d y ∧ f x y = some z := by
  cases a with
  | d x => cases b with
    | d y => exact ⟨x, y, rfl, rfl, h⟩
    | _ => cases h
  | _ => cases b <;> cases h
theorem d1_inv {f : D → Option D} {a : EF} {ρ : Env} {s s' : S} {sv : SV} (h : d1 f a ρ s = some (sv, s')) : ∃ x z, a ρ s = some (.d x, s') ∧ f x = some z ∧ sv = .d z := by
  obtain ⟨⟨v1, s1⟩, h1, g1⟩ := Option.bind_eq_some_iff.mp h
  obtain ⟨z, h2, g2⟩ := Option.map_eq_some_iff.mp g1
  obtain ⟨x, e1, h3⟩ := lift1_inv h2
  cases g2
  cases e1
  exact ⟨x, z, h1, h3, rfl⟩
theorem d2_inv {f : D → D → Option D} {a b : EF} {ρ : Env} {s s' : S} {sv : SV} (h : d2 f a b ρ s = some (sv, s')) : ∃ x y z s1, a ρ s = some (.d x, s1) ∧ b ρ s1 = some (.d y, s') ∧ f x y = some z ∧ sv = .d z := by
  obtain ⟨⟨v1, s1⟩, h1, g1⟩ := Option.bind_eq_some_iff.mp h
  obtain ⟨⟨v2, s2⟩, h2, g2⟩ := Option.bind_eq_some_iff.mp g1
  obtain ⟨z, h3, g3⟩ := Option.map_eq_some_iff.mp g2
  obtain ⟨x, y, e1, e2, h4⟩ := lift2_inv h3
  cases g3
  cases e1
  cases e2
  exact ⟨x, y, z, s1, h1, h2, h4, rfl⟩

/-- the operator r does what f says, its answer scalar -/
def OpD (K : PySem.W.Frag) (r : R2) (f : D → D → Option D) : Prop :=
  ∀ (Z H : Hp) (x y z : D) (vx vy : V) (Q : VK), (∀ a xs, SqT K Z a xs → SqT K H a xs) → f x y = some z → Rep K Z vx x → Rep K Z vy y → (∀ v, (∀ Z', Rep K Z' v z) → Q v H) → r vx vy H Q
def UnD (K : PySem.W.Frag) (r : V → Hp → VK → Prop) (f : D → Option D) : Prop :=
  ∀ (Z H : Hp) (x z : D) (vx : V) (Q : VK), (∀ a xs, SqT K Z a xs → SqT K H a xs) → f x = some z → Rep K Z vx x → (∀ v, (∀ Z', Rep K Z' v z) → Q v H) → r vx H Q
theorem sqT_unhid {K : PySem.W.Frag} {A : List Addr} {H : Hp} (a : Addr) (xs : List V) (h : SqT K (hid A H) a xs) : SqT K H a xs := by
  rcases h with (h | ⟨o, h⟩) | h
  · exact .inl (.inl (hid_some h).2)
  · exact .inl (.inr ⟨o, (hid_some h).2⟩)
  · exact .inr h
theorem sqL_unhid {K : PySem.W.Frag} {A : List Addr} {H : Hp} {a : Addr} {xs : List V} (h : SqL K (hid A H) a xs) : SqL K H a xs := by
  rcases h with (h | ⟨o, h⟩) | h
  · exact .inl (.inl (hid_some h).2)
  · exact .inl (.inr ⟨o, (hid_some h).2⟩)
  · exact .inr h
theorem rd_op {K : PySem.W.Frag} {r : R2} {f : D → D → Option D} (hr : OpD K r f) {a b : EF} {σ : L2.St} {H : Hp} {Q : VK} : tD K (d2 f a b) σ H Q → tOp r (tD K a) (tD K b) σ H Q := fun ⟨W, H0, O, ρ, s, sv, s', k, h, c⟩ => by
  obtain ⟨x, y, z, s1, h1, h2, h3, rfl⟩ := d2_inv h
  refine tD.go k h1 fun vx H1 st1 k1 r1 => tD.go k1 h2 fun vy H2 st2 k2 r2 => ?_
  exact hr _ H2 x y z vx vy Q (fun _ _ => sqT_unhid _ _) h3 (Rep.same (st2.hid O) r1) r2 fun v hv => c v H2 (st1.trans st2) k2.wd (hv _)
theorem rd_un {K : PySem.W.Frag} {r : V → Hp → VK → Prop} {f : D → Option D} (hr : UnD K r f) {a : EF} {σ : L2.St} {H : Hp} {Q : VK} : tD K (d1 f a) σ H Q → tUn r (tD K a) σ H Q := fun ⟨W, H0, O, ρ, s, sv, s', k, h, c⟩ => by
  obtain ⟨x, z, h1, h3, rfl⟩ := d1_inv h
  refine tD.go k h1 fun vx H1 st1 k1 r1 => ?_
  exact hr _ H1 x z vx Q (fun _ _ => sqT_unhid _ _) h3 r1 fun v hv => c v H1 st1 k1.wd (hv _)

/-- ints -/
def fI (C : Int → Int → Bool) (g : Int → Int → D) : D → D → Option D
  | .int i, .int j => if C i j = true then some (g i j) else none
  | _, _ => none
def Scal : D → V → Prop
  | .non, v => v = .non
  | .bl b, v => v = .bl b
  | .int i, v => v = .int i
  | .str x, v => v = .str x
  | .tup _, _ => False
theorem Scal.rep {K : PySem.W.Frag} {Z : Hp} {d : D} {v : V} (h : Scal d v) : Rep K Z v d := by
  cases d with
  | non => cases h; exact .non
  | bl b => cases h; exact .bl b
  | int i => cases h; exact .int i
  | str x => cases h; exact .str x
  | tup ds => exact h.elim
theorem Rep.int_inv {K : PySem.W.Frag} {Z : Hp} {v : V} {i : Int} (h : Rep K Z v (.int i)) : v = .int i := by cases h; rfl
theorem Rep.str_inv {K : PySem.W.Frag} {Z : Hp} {v : V} {i : Str} (h : Rep K Z v (.str i)) : v = .str i := by cases h; rfl
theorem Rep.bl_inv {K : PySem.W.Frag} {Z : Hp} {v : V} {i : Bool} (h : Rep K Z v (.bl i)) : v = .bl i := by cases h; rfl
theorem Rep.non_inv {K : PySem.W.Frag} {Z : Hp} {v : V} (h : Rep K Z v .non) : v = .non := by cases h; rfl
theorem Rep.tup_inv {K : PySem.W.Frag} {Z : Hp} {v : V} {ds : List D} (h : Rep K Z v (.tup ds)) : ∃ a vs, v = .ref a ∧ SqT K Z a vs ∧ RepL K Z vs ds := by
  cases h with
  | tup h r => exact ⟨_, _, rfl, h, r⟩
theorem fI_inv {C : Int → Int → Bool} {g : Int → Int → D} {x y z : D} (h : fI C g x y = some z) : ∃ i j, x = .int i ∧ y = .int j ∧ C i j = true ∧ z = g i j := by
  cases x with
  | int i => cases y with
    | int j =>
      unfold fI at h
      simp only at h
      split at h
      · rename_i hc
        exact ⟨i, j, rfl, rfl, hc, (Option.some.inj h).symm⟩
      · cases h
    | _ => cases h
  | _ => cases y <;> cases h
theorem opd_rI {K : PySem.W.Frag} {P : Int → Int → Prop} {C : Int → Int → Bool} {g : Int → Int → V} {g' : Int → Int → D} (hP : ∀ i j, C i j = true → P i j) (hg : ∀ i j, Scal (g' i j) (g i j)) : OpD K (rI P g) (fI C g') := fun Z H x y z vx vy Q _ h rx ry q => by
  obtain ⟨i, j, rfl, rfl, hc, rfl⟩ := fI_inv h
  exact ⟨i, j, rx.int_inv, ry.int_inv, hP i j hc, q _ fun _ => (hg i j).rep⟩
theorem opd_rI0 {K : PySem.W.Frag} {g : Int → Int → V} {g' : Int → Int → D} (hg : ∀ i j, Scal (g' i j) (g i j)) : OpD K (rI0 g) (fI (fun _ _ => true) g') := fun Z H x y z vx vy Q _ h rx ry q => by
  obtain ⟨i, j, rfl, rfl, _, rfl⟩ := fI_inv h
  exact ⟨i, j, rx.int_inv, ry.int_inv, q _ fun _ => (hg i j).rep⟩
abbrev fAdd : D → D → Option D := fI (fun _ _ => true) fun i j => .int (i + j)
abbrev fSub : D → D → Option D := fI (fun _ _ => true) fun i j => .int (i - j)
abbrev fMul : D → D → Option D := fI (fun _ j => decide (-(2 ^ 64) < j ∧ j < 2 ^ 64)) fun i j => .int (i * j)
abbrev fDiv : D → D → Option D := fI (fun _ j => decide (0 < j ∧ j < 1073741824)) fun i j => .int (i / j)
abbrev fMod : D → D → Option D := fI (fun _ j => decide (0 < j)) fun i j => .int (i % j)
abbrev fPow : D → D → Option D := fI (fun i j => decide (0 ≤ j ∧ j ≤ 1000000 ∧ i.natAbs < 2 ^ 64)) fun i j => .int (i ^ j.toNat)
abbrev fLt : D → D → Option D := fI (fun _ _ => true) fun i j => .bl (decide (i < j))
abbrev fLe : D → D → Option D := fI (fun _ _ => true) fun i j => .bl (decide (i ≤ j))
abbrev fGt : D → D → Option D := fI (fun _ _ => true) fun i j => .bl (decide (j < i))
abbrev fGe : D → D → Option D := fI (fun _ _ => true) fun i j => .bl (decide (j ≤ i))
def fNeg : D → Option D
  | .int i => some (.int (-i))
  | _ => none
/-- scalars of one kind compared -/
def fEq : D → D → Option D
  | .int i, .int j => some (.bl (decide (i = j)))
  | .bl i, .bl j => some (.bl (decide (i = j)))
  | .str i, .str j => some (.bl (decide (i = j)))
  | _, _ => none
def fNe : D → D → Option D
  | .int i, .int j => some (.bl (!decide (i = j)))
  | .bl i, .bl j => some (.bl (!decide (i = j)))
  | .str i, .str j => some (.bl (!decide (i = j)))
  | _, _ => none
def fIsN : D → Option D
  | .non => some (.bl true)
  | _ => some (.bl false)
def fNotTrue : D → Option D
  | .bl b => some (.bl (!b))
  | _ => none
def fCat : D → D → Option D
  | .str x, .str y => if x.length + y.length ≤ 100000 then some (.str (x ++ y)) else none
  | _, _ => none
theorem opd_eq {K : PySem.W.Frag} : OpD K rEq fEq := fun Z H x y z vx vy Q _ h rx ry q => by
  cases x <;> cases y <;> first | cases h | skip
  · rw [rx.bl_inv, ry.bl_inv]
    refine ⟨rfl, ?_⟩
    have := q (.bl (decide (_ = _))) fun _ => .bl _
    simpa [V.bl.injEq] using this
  · rw [rx.int_inv, ry.int_inv]
    refine ⟨rfl, ?_⟩
    have := q (.bl (decide (_ = _))) fun _ => .bl _
    simpa [V.int.injEq] using this
  · rw [rx.str_inv, ry.str_inv]
    refine ⟨rfl, ?_⟩
    have := q (.bl (decide (_ = _))) fun _ => .bl _
    simpa [V.str.injEq] using this
theorem opd_ne {K : PySem.W.Frag} : OpD K rNe fNe := fun Z H x y z vx vy Q _ h rx ry q => by
  cases x <;> cases y <;> first | cases h | skip
  · rw [rx.bl_inv, ry.bl_inv]
    refine ⟨rfl, ?_⟩
    have := q (.bl (!decide (_ = _))) fun _ => .bl _
    simpa [V.bl.injEq] using this
  · rw [rx.int_inv, ry.int_inv]
    refine ⟨rfl, ?_⟩
    have := q (.bl (!decide (_ = _))) fun _ => .bl _
    simpa [V.int.injEq] using this
  · rw [rx.str_inv, ry.str_inv]
    refine ⟨rfl, ?_⟩
    have := q (.bl (!decide (_ = _))) fun _ => .bl _
    simpa [V.str.injEq] using this

section
variable {X : Cx} {a b c : Expr} {A B C : EF} {pos : Pos}
theorem de_add (ha : PE X a (tD X.K A)) (hb : PE X b (tD X.K B)) : PE X (.BinOp a .Add b pos) (tD X.K (d2 fAdd A B)) := PE.imp (pe_op op_add ha hb) fun _ _ _ => rd_op (opd_rI0 fun _ _ => by exact rfl)
theorem de_sub (ha : PE X a (tD X.K A)) (hb : PE X b (tD X.K B)) : PE X (.BinOp a .Sub b pos) (tD X.K (d2 fSub A B)) := PE.imp (pe_op op_sub ha hb) fun _ _ _ => rd_op (opd_rI0 fun _ _ => by exact rfl)
theorem de_mul (ha : PE X a (tD X.K A)) (hb : PE X b (tD X.K B)) : PE X (.BinOp a .Mult b pos) (tD X.K (d2 fMul A B)) := PE.imp (pe_op op_mul ha hb) fun _ _ _ => rd_op (opd_rI (fun _ _ h => .inr (of_decide_eq_true h)) fun _ _ => by exact rfl)
theorem de_div (ha : PE X a (tD X.K A)) (hb : PE X b (tD X.K B)) : PE X (.BinOp a .FloorDiv b pos) (tD X.K (d2 fDiv A B)) := PE.imp (pe_op op_fdiv ha hb) fun _ _ _ => rd_op (opd_rI (fun _ _ h => of_decide_eq_true h) fun _ _ => by exact rfl)
theorem de_mod (ha : PE X a (tD X.K A)) (hb : PE X b (tD X.K B)) : PE X (.BinOp a .Mod b pos) (tD X.K (d2 fMod A B)) := PE.imp (pe_op op_mod ha hb) fun _ _ _ => rd_op (opd_rI (fun _ _ h => of_decide_eq_true h) fun _ _ => by exact rfl)
theorem de_pow (ha : PE X a (tD X.K A)) (hb : PE X b (tD X.K B)) : PE X (.BinOp a .Pow b pos) (tD X.K (d2 fPow A B)) := PE.imp (pe_op op_pow ha hb) fun _ _ _ => rd_op (opd_rI (fun _ _ h => of_decide_eq_true h) fun _ _ => by exact rfl)
theorem de_neg (ha : PE X a (tD X.K A)) : PE X (.UnaryOp .USub a pos) (tD X.K (d1 fNeg A)) := PE.imp (pe_un un_neg ha) fun _ _ _ => rd_un fun Z H x z vx Q _ h rx q => by
  cases x with
  | int i =>
    cases Option.some.inj h
    exact ⟨i, rx.int_inv, q _ fun _ => .int _⟩
  | _ => cases h
theorem de_cat (ha : PE X a (tD X.K A)) (hb : PE X b (tD X.K B)) : PE X (.BinOp a .Add b pos) (tD X.K (d2 fCat A B)) := PE.imp (pe_op op_add_str ha hb) fun _ _ _ => rd_op fun Z H x y z vx vy Q _ h rx ry q => by
  cases x with
  | str x => cases y with
    | str y =>
      unfold fCat at h
      simp only at h
      split at h
      · rename_i hl
        cases Option.some.inj h
        exact ⟨x, y, rx.str_inv, ry.str_inv, Nat.le_trans hl (by decide), q _ fun _ => .str _⟩
      · cases h
    | _ => cases h
  | _ => cases y <;> cases h
/-- comparisons, as values -/
theorem de_cmp {op : CmpOp} {r : R2} {f : D → D → Option D} (ho : OpR X (compareOp op) r) (hf : OpD X.K r f) (ha : PE X a (tD X.K A)) (hb : PE X b (tD X.K B)) (hm : behindInMarks op b = false) : PE X (.Compare a [op] [b] pos) (tD X.K (d2 f A B)) :=
  PE.imp (pe_cmpR ho ha hb hm) fun _ _ _ => rd_op hf
/-- .. as tests -/
def asB : Option (SV × S) → Option (Bool × S)
  | some (.d (.bl b), s) => some (b, s)
  | _ => none
def bOf (F : EF) : BF := fun ρ s => asB (F ρ s)
theorem asB_inv {o : Option (SV × S)} {b : Bool} {s : S} (h : asB o = some (b, s)) : o = some (.d (.bl b), s) := by
  unfold asB at h
  split at h
  · have e := Option.some.inj h
    have e1 := congrArg Prod.fst e
    have e2 := congrArg Prod.snd e
    simp only at e1 e2
    subst e1; subst e2
    rfl
  · cases h
theorem rd_test {K : PySem.W.Frag} {F : EF} {σ : L2.St} {H : Hp} {Q : Bool → Hp → Prop} : Sb.tB K (bOf F) σ H Q → tD K F σ H fun x H' => ∃ k, x = .bl k ∧ Q k H' := fun ⟨W, H0, O, ρ, s, b, s', k, h, c⟩ =>
  ⟨W, H0, O, ρ, s, .d (.bl b), s', k, asB_inv h, fun v H' e w r => ⟨b, Rep.bl_inv r, c H' e w⟩⟩
theorem dt_cmp {op : CmpOp} {r : R2} {f : D → D → Option D} (ho : OpR X (compareOp op) r) (hf : OpD X.K r f) (ha : PE X a (tD X.K A)) (hb : PE X b (tD X.K B)) (hm : behindInMarks op b = false) : PT X (.Compare a [op] [b] pos) (Sb.tB X.K (bOf (d2 f A B))) :=
  PT.imp (pt_cmpR ho ha hb hm) fun _ _ _ h => rd_op hf (rd_test h)
theorem de_lt (ha : PE X a (tD X.K A)) (hb : PE X b (tD X.K B)) : PE X (.Compare a [.Lt] [b] pos) (tD X.K (d2 fLt A B)) := de_cmp op_lt (opd_rI0 fun _ _ => by exact rfl) ha hb (nomark _)
theorem de_le (ha : PE X a (tD X.K A)) (hb : PE X b (tD X.K B)) : PE X (.Compare a [.LtE] [b] pos) (tD X.K (d2 fLe A B)) := de_cmp op_le (opd_rI0 fun _ _ => by exact rfl) ha hb (nomark _)
theorem de_gt (ha : PE X a (tD X.K A)) (hb : PE X b (tD X.K B)) : PE X (.Compare a [.Gt] [b] pos) (tD X.K (d2 fGt A B)) := de_cmp op_gt (opd_rI0 fun _ _ => by exact rfl) ha hb (nomark _)
theorem de_ge (ha : PE X a (tD X.K A)) (hb : PE X b (tD X.K B)) : PE X (.Compare a [.GtE] [b] pos) (tD X.K (d2 fGe A B)) := de_cmp op_ge (opd_rI0 fun _ _ => by exact rfl) ha hb (nomark _)
theorem de_eq (ha : PE X a (tD X.K A)) (hb : PE X b (tD X.K B)) : PE X (.Compare a [.Eq] [b] pos) (tD X.K (d2 fEq A B)) := de_cmp op_eq opd_eq ha hb (nomark _)
theorem de_ne (ha : PE X a (tD X.K A)) (hb : PE X b (tD X.K B)) : PE X (.Compare a [.NotEq] [b] pos) (tD X.K (d2 fNe A B)) := de_cmp op_ne opd_ne ha hb (nomark _)
theorem dt_lt (ha : PE X a (tD X.K A)) (hb : PE X b (tD X.K B)) : PT X (.Compare a [.Lt] [b] pos) (Sb.tB X.K (bOf (d2 fLt A B))) := dt_cmp op_lt (opd_rI0 fun _ _ => by exact rfl) ha hb (nomark _)
theorem dt_le (ha : PE X a (tD X.K A)) (hb : PE X b (tD X.K B)) : PT X (.Compare a [.LtE] [b] pos) (Sb.tB X.K (bOf (d2 fLe A B))) := dt_cmp op_le (opd_rI0 fun _ _ => by exact rfl) ha hb (nomark _)
theorem dt_gt (ha : PE X a (tD X.K A)) (hb : PE X b (tD X.K B)) : PT X (.Compare a [.Gt] [b] pos) (Sb.tB X.K (bOf (d2 fGt A B))) := dt_cmp op_gt (opd_rI0 fun _ _ => by exact rfl) ha hb (nomark _)
theorem dt_ge (ha : PE X a (tD X.K A)) (hb : PE X b (tD X.K B)) : PT X (.Compare a [.GtE] [b] pos) (Sb.tB X.K (bOf (d2 fGe A B))) := dt_cmp op_ge (opd_rI0 fun _ _ => by exact rfl) ha hb (nomark _)
theorem dt_eq (ha : PE X a (tD X.K A)) (hb : PE X b (tD X.K B)) : PT X (.Compare a [.Eq] [b] pos) (Sb.tB X.K (bOf (d2 fEq A B))) := dt_cmp op_eq opd_eq ha hb (nomark _)
theorem dt_ne (ha : PE X a (tD X.K A)) (hb : PE X b (tD X.K B)) : PT X (.Compare a [.NotEq] [b] pos) (Sb.tB X.K (bOf (d2 fNe A B))) := dt_cmp op_ne opd_ne ha hb (nomark _)
/-- is None -/
theorem rd_isN {K : PySem.W.Frag} {A : EF} {σ : L2.St} {H : Hp} {Q : VK} : tD K (d1 fIsN A) σ H Q → tOp (fun x y H Q => y = .non ∧ Q (.bl (decide (x = .non))) H) (tD K A) (tC .non) σ H Q := fun ⟨W, H0, O, ρ, s, sv, s', k, h, c⟩ => by
  obtain ⟨x, z, h1, h3, rfl⟩ := d1_inv h
  refine tD.go k h1 fun vx H1 st1 k1 r1 => ⟨rfl, ?_⟩
  have fin : ∀ q, z = .bl q → decide (vx = V.non) = q → Q (.bl (decide (vx = V.non))) H1 := fun q e1 e2 => by
    rw [e2]
    exact c _ _ st1 k1.wd (by rw [e1]; exact Rep.bl q)
  cases x with
  | non => exact fin true (Option.some.inj h3).symm (by rw [Rep.non_inv r1]; rfl)
  | bl b => exact fin false (Option.some.inj h3).symm (by rw [Rep.bl_inv r1]; rfl)
  | int b => exact fin false (Option.some.inj h3).symm (by rw [Rep.int_inv r1]; rfl)
  | str b => exact fin false (Option.some.inj h3).symm (by rw [Rep.str_inv r1]; rfl)
  | tup ds =>
    obtain ⟨a, vs, e, _⟩ := Rep.tup_inv r1
    exact fin false (Option.some.inj h3).symm (by rw [e]; rfl)
theorem de_isN {j : Nat} {pos' : Pos} (ha : PE X a (tD X.K A)) : PE X (.Compare a [.Is] [.Constant .none j pos'] pos) (tD X.K (d1 fIsN A)) := PE.imp (pe_cmpR op_isN ha pe_non (nomark _)) fun _ _ _ => rd_isN
theorem dt_isN {j : Nat} {pos' : Pos} (ha : PE X a (tD X.K A)) : PT X (.Compare a [.Is] [.Constant .none j pos'] pos) (Sb.tB X.K (bOf (d1 fIsN A))) := PT.imp (pt_cmpR op_isN ha pe_non (nomark _)) fun _ _ _ h => rd_isN (rd_test h)
/-- is not True, of a bool -/
theorem dt_notTrue {j : Nat} {pos' : Pos} (ha : PE X a (tD X.K A)) : PT X (.Compare a [.IsNot] [.Constant (.bool true) j pos'] pos) (Sb.tB X.K (bOf (d1 fNotTrue A))) := PT.imp (pt_cmpR op_notBl ha pe_bl (nomark _)) fun σ H Q h => by
  obtain ⟨W, H0, O, ρ, s, sv, s', k, h, c⟩ := rd_test h
  obtain ⟨x, z, h1, h3, rfl⟩ := d1_inv h
  refine tD.go k h1 fun vx H1 st1 k1 r1 => ?_
  cases x with
  | bl b =>
    cases Option.some.inj h3
    refine ⟨b, true, Rep.bl_inv r1, rfl, ?_⟩
    have := c (.bl (!b)) _ st1 k1.wd (Rep.bl _)
    cases b <;> exact this
  | _ => cases h3
/-- a <= b <= c -/
def dChain (f g : D → D → Option D) (a b c : EF) : EF := fun ρ s => (a ρ s).bind fun p => (b ρ p.2).bind fun q => (lift2 f p.1 q.1).bind fun z => match z with
  | .bl true => (c ρ q.2).bind fun r => (lift2 g q.1 r.1).map fun z => (.d z, r.2)
  | .bl false => some (.d (.bl false), q.2)
  | _ => none
theorem rd_chain {K : PySem.W.Frag} {r r' : R2} {f g : D → D → Option D} (hf : OpD K r f) (hg : OpD K r' g) {a b c : EF} {σ : L2.St} {H : Hp} {Q : VK} : tD K (dChain f g a b c) σ H Q → tChain r r' (tD K a) (tD K b) (tD K c) σ H Q := fun ⟨W, H0, O, ρ, s, sv, s', k, h, q⟩ => by
  obtain ⟨⟨v1, s1⟩, h1, h⟩ := Option.bind_eq_some_iff.mp h
  obtain ⟨⟨v2, s2⟩, h2, h⟩ := Option.bind_eq_some_iff.mp h
  obtain ⟨z, h3, h⟩ := Option.bind_eq_some_iff.mp h
  obtain ⟨x, y, rfl, rfl, h4⟩ := lift2_inv h3
  refine tD.go k h1 fun vx H1 st1 k1 r1 => tD.go k1 h2 fun vy H2 st2 k2 r2 => ?_
  refine hf _ H2 x y z vx vy _ (fun _ _ => sqT_unhid _ _) h4 (Rep.same (st2.hid O) r1) r2 fun v hv => ?_
  cases z with
  | bl k =>
    refine ⟨k, Rep.bl_inv (K := K) (hv (fun _ => none)), ?_⟩
    cases k with
    | true =>
      refine iteT ?_
      obtain ⟨⟨v3, s3⟩, h5, h⟩ := Option.bind_eq_some_iff.mp h
      obtain ⟨z', h6, h⟩ := Option.map_eq_some_iff.mp h
      obtain ⟨y', w, e1, rfl, h7⟩ := lift2_inv h6
      cases e1
      have e1 : SV.d z' = sv := congrArg Prod.fst h
      have e2 : s3 = s' := congrArg Prod.snd h
      subst e1; subst e2
      refine tD.go k2 h5 fun vz H3 st3 k3 r3 => ?_
      exact hg _ H3 y w z' vy vz Q (fun _ _ => sqT_unhid _ _) h7 (Rep.same (st3.hid O) r2) r3 fun v hv => q v H3 ((st1.trans st2).trans st3) k3.wd (hv _)
    | false =>
      refine iteF ?_
      have e := Option.some.inj h
      have e1 : SV.d (.bl false) = sv := congrArg Prod.fst e
      have e2 : s2 = s' := congrArg Prod.snd e
      subst e1; subst e2
      exact q _ H2 (st1.trans st2) k2.wd (Rep.bl false)
  | _ => cases h
theorem de_le2 (ha : PE X a (tD X.K A)) (hb : PE X b (tD X.K B)) (hc : PE X c (tD X.K C)) (hm : lastMarks [CmpOp.LtE, CmpOp.LtE] [b, c] = false := by rfl) : PE X (.Compare a [.LtE, .LtE] [b, c] pos) (tD X.K (dChain fLe fLe A B C)) := PE.imp (pe_chain op_le op_le ha hb hc hm) fun _ _ _ => rd_chain (opd_rI0 fun _ _ => by exact rfl) (opd_rI0 fun _ _ => by exact rfl)
theorem dt_le2 (ha : PE X a (tD X.K A)) (hb : PE X b (tD X.K B)) (hc : PE X c (tD X.K C)) (hm : lastMarks [CmpOp.LtE, CmpOp.LtE] [b, c] = false := by rfl) : PT X (.Compare a [.LtE, .LtE] [b, c] pos) (Sb.tB X.K (bOf (dChain fLe fLe A B C))) := PT.imp (pt_chain op_le op_le ha hb hc hm) fun _ _ _ h => rd_chain (opd_rI0 fun _ _ => by exact rfl) (opd_rI0 fun _ _ => by exact rfl) (rd_test h)
end

/-! ### and, or, not -/
def dAnd (a b : EF) : EF := fun ρ s => (asB (a ρ s)).bind fun p => if p.1 = true then b ρ p.2 else some (.d (.bl false), p.2)
def dOr (a b : EF) : EF := fun ρ s => (asB (a ρ s)).bind fun p => if p.1 = true then some (.d (.bl true), p.2) else b ρ p.2
def dNot (a : EF) : EF := fun ρ s => (asB (a ρ s)).map fun p => (.d (.bl (!p.1)), p.2)
def bAnd (a b : BF) : BF := fun ρ s => (a ρ s).bind fun p => if p.1 = true then b ρ p.2 else some (false, p.2)
def bOr (a b : BF) : BF := fun ρ s => (a ρ s).bind fun p => if p.1 = true then some (true, p.2) else b ρ p.2
def bNot (a : BF) : BF := fun ρ s => (a ρ s).map fun p => (!p.1, p.2)
section
variable {X : Cx} {a b : Expr} {rest : List Expr} {A B : EF} {P R : BF} {pos : Pos}
theorem de_one {op : BoolOp} (h : PE X a (tD X.K A)) : PE X (.BoolOp op [a] pos) (tD X.K A) := pe_one h
theorem de_and (ha : PE X a (tD X.K A)) (hb : PE X (.BoolOp .And (b :: rest) pos) (tD X.K B)) : PE X (.BoolOp .And (a :: b :: rest) pos) (tD X.K (dAnd A B)) := PE.imp (pe_and ha hb) fun σ H Q ⟨W, H0, O, ρ, s, sv, s', k, h, c⟩ => by
  obtain ⟨⟨p, s1⟩, h1, h⟩ := Option.bind_eq_some_iff.mp h
  refine tD.go k (asB_inv h1) fun v H1 st1 k1 r1 => ⟨p, Rep.bl_inv r1, ?_⟩
  cases p with
  | true =>
    refine iteT ?_
    have h : B ρ s1 = some (sv, s') := h
    exact tD.go k1 h fun v H2 st2 k2 r2 => c v H2 (st1.trans st2) k2.wd r2
  | false =>
    refine iteF ?_
    have e : (SV.d (.bl false), s1) = (sv, s') := Option.some.inj h
    cases e
    exact c _ H1 st1 k1.wd (Rep.bl false)
theorem de_or (ha : PE X a (tD X.K A)) (hb : PE X (.BoolOp .Or (b :: rest) pos) (tD X.K B)) : PE X (.BoolOp .Or (a :: b :: rest) pos) (tD X.K (dOr A B)) := PE.imp (pe_or ha hb) fun σ H Q ⟨W, H0, O, ρ, s, sv, s', k, h, c⟩ => by
  obtain ⟨⟨p, s1⟩, h1, h⟩ := Option.bind_eq_some_iff.mp h
  refine tD.go k (asB_inv h1) fun v H1 st1 k1 r1 => ⟨p, Rep.bl_inv r1, ?_⟩
  cases p with
  | true =>
    refine iteT ?_
    have e : (SV.d (.bl true), s1) = (sv, s') := Option.some.inj h
    cases e
    exact c _ H1 st1 k1.wd (Rep.bl true)
  | false =>
    refine iteF ?_
    have h : B ρ s1 = some (sv, s') := h
    exact tD.go k1 h fun v H2 st2 k2 r2 => c v H2 (st1.trans st2) k2.wd r2
theorem de_not (ha : PE X a (tD X.K A)) : PE X (.UnaryOp .Not a pos) (tD X.K (dNot A)) := PE.imp (pe_not ha) fun σ H Q ⟨W, H0, O, ρ, s, sv, s', k, h, c⟩ => by
  obtain ⟨⟨p, s1⟩, h1, h⟩ := Option.map_eq_some_iff.mp h
  cases h
  exact tD.go k (asB_inv h1) fun v H1 st1 k1 r1 => ⟨p, Rep.bl_inv r1, c _ H1 st1 k1.wd (Rep.bl _)⟩
theorem dt_val (h : PE X a (tD X.K A)) (he : ∀ whole, isTrue a X.env whole = (do let v ← whole; standAt a.pos; holding [v] (truthy v)) := by intro _; rfl) : PT X a (Sb.tB X.K (bOf A)) := PT.imp (pt_val h he) fun _ _ _ h => rd_test h
theorem dw_and1 (ha : PT X a (Sb.tB X.K P)) : PW X (.BoolOp .And [a] pos) (Sb.tB X.K P) := pw_and1 ha
theorem dw_or1 (ha : PT X a (Sb.tB X.K P)) : PW X (.BoolOp .Or [a] pos) (Sb.tB X.K P) := pw_or1 ha
theorem dw_and (ha : PT X a (Sb.tB X.K P)) (hb : PW X (.BoolOp .And (b :: rest) pos) (Sb.tB X.K R)) : PW X (.BoolOp .And (a :: b :: rest) pos) (Sb.tB X.K (bAnd P R)) := PW.imp (pw_and ha hb) fun σ H Q ⟨W, H0, O, ρ, s, sv, s', k, h, c⟩ => by
  obtain ⟨⟨p, s1⟩, h1, h⟩ := Option.bind_eq_some_iff.mp h
  refine tB.go k h1 fun H1 st1 k1 => ?_
  cases p with
  | true =>
    refine iteT ?_
    have h : R ρ s1 = some (sv, s') := h
    exact tB.go k1 h fun H2 st2 k2 => c H2 (st1.trans st2) k2.wd
  | false =>
    refine iteF ?_
    have e : (false, s1) = (sv, s') := Option.some.inj h
    cases e
    exact c H1 st1 k1.wd
theorem dw_or (ha : PT X a (Sb.tB X.K P)) (hb : PW X (.BoolOp .Or (b :: rest) pos) (Sb.tB X.K R)) : PW X (.BoolOp .Or (a :: b :: rest) pos) (Sb.tB X.K (bOr P R)) := PW.imp (pw_or ha hb) fun σ H Q ⟨W, H0, O, ρ, s, sv, s', k, h, c⟩ => by
  obtain ⟨⟨p, s1⟩, h1, h⟩ := Option.bind_eq_some_iff.mp h
  refine tB.go k h1 fun H1 st1 k1 => ?_
  cases p with
  | true =>
    refine iteT ?_
    have e : (true, s1) = (sv, s') := Option.some.inj h
    cases e
    exact c H1 st1 k1.wd
  | false =>
    refine iteF ?_
    have h : R ρ s1 = some (sv, s') := h
    exact tB.go k1 h fun H2 st2 k2 => c H2 (st1.trans st2) k2.wd
theorem dt_w (h : PW X a (Sb.tB X.K P)) : PT X a (Sb.tB X.K P) := h.pt
theorem dt_not (ha : PT X a (Sb.tB X.K P)) : PT X (.UnaryOp .Not a pos) (Sb.tB X.K (bNot P)) := PT.imp (pt_not ha) fun σ H Q ⟨W, H0, O, ρ, s, sv, s', k, h, c⟩ => by
  obtain ⟨⟨p, s1⟩, h1, h⟩ := Option.map_eq_some_iff.mp h
  cases h
  exact tB.go k h1 fun H1 st1 k1 => c H1 st1 k1.wd
end
end Sb

set_option Elab.async false
set_option linter.all false
set_option maxRecDepth 100000
set_option maxHeartbeats 4000000
namespace Sb
open PySem L2

/-! ### items, membership, dicts -/
def ixD (o : SV) (k : Int) : Option D :=
  if 0 ≤ k then match o with
    | .d (.tup ds) => ds[k.toNat]?
    | .r ds => ds[k.toNat]?
    | .d (.str z) => if z.length ≤ 100000 then (z.cps.toList[k.toNat]?).map fun c => .str ⟨#[c]⟩ else none
    | _ => none
  else none
def dIx (o i : EF) : EF := fun ρ s => (o ρ s).bind fun p => (i ρ p.2).bind fun q => match q.1 with
  | .d (.int k) => (ixD p.1 k).map fun z => (.d z, q.2)
  | _ => none
/-- one of the two lists -/
def dIxP (a : EF) (k : Int) : EF := fun ρ s => (a ρ s).bind fun p => match p.1 with
  | .p xs ys => if k = 0 then some (.r (xs.map D.int), p.2) else if k = 1 then some (.r (ys.map D.int), p.2) else none
  | _ => none
theorem str_len (z : Str) : z.cps.toList.length = z.length := by simp [Str.length]
section
variable {X : Cx} {a b : Expr} {A B O I : EF} {pos : Pos}
theorem de_ix (ha : PE X a (tO X.K O)) (hb : PE X b (tD X.K I)) (hs : PlainIx b := by intro _ _; rfl) : PE X (.Subscript a b pos) (tD X.K (dIx O I)) := PE.imp (pe_ix ix_seq ha hb hs) fun σ H Q ⟨W, H0, O', ρ, s, sv, s', k, h, c⟩ => by
  obtain ⟨⟨v1, s1⟩, h1, g1⟩ := Option.bind_eq_some_iff.mp h
  obtain ⟨⟨v2, s2⟩, h2, g2⟩ := Option.bind_eq_some_iff.mp g1
  refine tO.go k h1 fun vx H1 st1 k1 r1 => tD.go k1 h2 fun vy H2 st2 k2 r2 => ?_
  have r1' := RepSV.same (W := W) st2 r1
  cases v2 with
  | d y => cases y with
    | int i =>
      obtain ⟨z, h3, g3⟩ := Option.map_eq_some_iff.mp g2
      cases g3
      have ey := Rep.int_inv r2
      unfold ixD at h3
      split at h3
      · rename_i hi
        have ei : i = ((i.toNat : Nat) : Int) := by omega
        have fin : ∀ v, Rep X.K (hid (wl W) H2) v z → Q v H2 := fun v hv => c v H2 (st1.trans st2) k2.wd (k2.hide hv)
        cases v1 with
        | d x => cases x with
          | tup ds =>
            obtain ⟨p, vs, e, hq, hl⟩ := Rep.tup_inv r1'
            obtain ⟨v, hv, rv⟩ := hl.get h3
            refine .inr (.inl ⟨p, vs, i, v, e, ey, sqT_unhid _ _ hq, ?_, fin v rv⟩)
            rw [ei]; exact atI_nat hv
          | str w =>
            simp only at h3
            split at h3
            · rename_i hz
              obtain ⟨cc, h4, h5⟩ := Option.map_eq_some_iff.mp h3
              cases h5
              refine .inr (.inr ⟨w, i, cc, Rep.str_inv r1', ey, Nat.le_trans hz (by decide), ?_, fin _ (.str _)⟩)
              rw [ei]; exact atI_nat h4
            · cases h3
          | _ => cases h3
        | r ds =>
          obtain ⟨p, vs, e, hq, hl⟩ := r1'
          obtain ⟨v, hv, rv⟩ := hl.get h3
          refine .inl ⟨p, vs, i, v, e, ey, sqL_unhid hq, ?_, fin v rv⟩
          rw [ei]; exact atI_nat hv
        | _ => cases h3
      · cases h3
    | _ => cases g2
  | _ => cases g2
theorem de_ixP {i : Int} {j : Nat} {pos' : Pos} (ha : PE X a (tD X.K A)) (hs : PlainIx (.Constant (.int i) j pos') := by intro _ _; rfl) : PE X (.Subscript a (.Constant (.int i) j pos') pos) (tD X.K (dIxP A i)) := PE.imp (pe_ix ix_list ha pe_int hs) fun σ H Q ⟨W, H0, O', ρ, s, sv, s', k, h, c⟩ => by
  obtain ⟨⟨v1, s1⟩, h1, g1⟩ := Option.bind_eq_some_iff.mp h
  refine tD.go k h1 fun vx H1 st1 k1 r1 => ?_
  cases v1 with
  | p xs ys =>
    obtain ⟨p, x, y, e, q1, q2, q3⟩ := r1
    simp only at g1
    split at g1
    · rename_i hi
      cases g1
      subst hi
      exact ⟨p, _, 0, .ref x, e, rfl, SqL.of (hid_some q1).2, atI_nat (j := 0) rfl, c _ _ st1 k1.wd ⟨x, _, rfl, SqL.of q2, RepL.ints xs⟩⟩
    · split at g1
      · rename_i hi
        cases g1
        subst hi
        exact ⟨p, _, 1, .ref y, e, rfl, SqL.of (hid_some q1).2, atI_nat (j := 1) rfl, c _ _ st1 k1.wd ⟨y, _, rfl, SqL.of q3, RepL.ints ys⟩⟩
      · cases g1
  | _ => cases g1
end

/-- flat data -/
def flatD : D → Option V
  | .non => some .non
  | .bl b => some (.bl b)
  | .int i => some (.int i)
  | .str x => some (.str x)
  | .tup _ => none
def flatL : List D → Option (List V)
  | [] => some []
  | d :: ds => (flatD d).bind fun v => (flatL ds).map fun vs => v :: vs
theorem flatD_rep {K : PySem.W.Frag} {Z : Hp} {d : D} {v u : V} (h : flatD d = some v) (r : Rep K Z u d) : u = v ∧ flatV v = true := by
  cases d with
  | non => cases h; exact ⟨Rep.non_inv r, rfl⟩
  | bl b => cases h; exact ⟨Rep.bl_inv r, rfl⟩
  | int b => cases h; exact ⟨Rep.int_inv r, rfl⟩
  | str b => cases h; exact ⟨Rep.str_inv r, rfl⟩
  | tup _ => cases h
theorem flatL_rep {K : PySem.W.Frag} {Z : Hp} : ∀ {ds : List D} {vs us : List V}, flatL ds = some vs → RepL K Z us ds → us = vs ∧ vs.all flatV = true
  | [], vs, us, h, r => by
    cases r
    cases h
    exact ⟨rfl, rfl⟩
  | d :: ds, vs, us, h, r => by
    cases r with
    | cons r1 r2 =>
      obtain ⟨v, h1, g1⟩ := Option.bind_eq_some_iff.mp h
      obtain ⟨ws, h2, g2⟩ := Option.map_eq_some_iff.mp g1
      cases g2
      obtain ⟨e1, f1⟩ := flatD_rep h1 r1
      obtain ⟨e2, f2⟩ := flatL_rep h2 r2
      subst e1; subst e2
      exact ⟨rfl, by rw [List.all_cons, f1, f2]; rfl⟩
def itemsOf : SV → Option (List D)
  | .d (.tup ds) => some ds
  | .r ds => some ds
  | _ => none
def inD (neg : Bool) (x : D) (ys : List D) : Option D := (flatD x).bind fun v => (flatL ys).map fun vs => .bl (if neg then !inV v vs else inV v vs)
def dIn (neg : Bool) (a o : EF) : EF := fun ρ s => (a ρ s).bind fun p => (o ρ p.2).bind fun q => match p.1 with
  | .d x => (itemsOf q.1).bind fun ys => (inD neg x ys).map fun z => (.d z, q.2)
  | _ => none
theorem itemsOf_rep {W : Option Wd} {K : PySem.W.Frag} {Z : Hp} {sv : SV} {ds : List D} {v : V} (h : itemsOf sv = some ds) (r : RepSV W K Z v sv) : ∃ a vs, v = .ref a ∧ (SqL K Z a vs ∨ SqT K Z a vs) ∧ RepL K Z vs ds := by
  cases sv with
  | d x => cases x with
    | tup es =>
      cases h
      obtain ⟨a, vs, e, q, l⟩ := Rep.tup_inv r
      exact ⟨a, vs, e, .inr q, l⟩
    | _ => cases h
  | r es =>
    cases h
    obtain ⟨a, vs, e, q, l⟩ := r
    exact ⟨a, vs, e, .inl q, l⟩
  | _ => cases h
def lookS (kvs : List (Str × Int)) (n : Str) : Option Int := (kvs.find? fun p => decide (p.1 = n)).map (·.2)
def putS (kvs : List (Str × Int)) (n : Str) (i : Int) : List (Str × Int) := if (kvs.any fun p => decide (p.1 = n)) = true then kvs.map fun p => if p.1 = n then (p.1, i) else p else kvs ++ [(n, i)]
theorem look_enc (n : Str) : ∀ kvs : List (Str × Int), valV (encK kvs) (Sum.inr n : Key) = (lookS kvs n).map V.int
  | [] => rfl
  | p :: r => by
    by_cases e : p.1 = n
    · have h1 : valV (encK (p :: r)) (Sum.inr n : Key) = some (V.int p.2) := valV_pos (p := ((Sum.inr p.1 : Key), V.int p.2)) (by rw [e])
      rw [h1]
      simp [lookS, List.find?_cons, e]
    · have h1 : valV (encK (p :: r)) (Sum.inr n : Key) = valV (encK r) (Sum.inr n) := valV_neg (p := ((Sum.inr p.1 : Key), V.int p.2)) (fun z => e (Sum.inr.inj z))
      rw [h1, look_enc n r]
      simp [lookS, List.find?_cons, e]
theorem put_enc (kvs : List (Str × Int)) (n : Str) (i : Int) : putK (encK kvs) (Sum.inr n : Key) (V.int i) = encK (putS kvs n i) := by
  have ha : ((encK kvs).any fun kv => decide (kv.1 = (Sum.inr n : Key))) = kvs.any fun p => decide (p.1 = n) := by
    unfold encK
    rw [List.any_map]
    congr 1
    funext p
    simp
  unfold putK putS
  rw [ha]
  split
  · unfold encK
    rw [List.map_map, List.map_map]
    congr 1
    funext p
    show (if (Sum.inr p.1 : Key) = Sum.inr n then ((Sum.inr p.1 : Key), V.int i) else ((Sum.inr p.1 : Key), V.int p.2)) = _
    by_cases e : p.1 = n
    · simp [e]
    · simp [e]
  · unfold encK
    rw [List.map_append]
    rfl
theorem putS_len (kvs : List (Str × Int)) (n : Str) (i : Int) : (putS kvs n i).length ≤ kvs.length + 1 := by
  unfold putS
  split
  · rw [List.length_map]; omega
  · rw [List.length_append]; exact Nat.le_refl _
def inK (neg : Bool) (x o : SV) : Option D := match x, o with
  | .d (.str n), .n kvs => some (.bl (if neg then !(lookS kvs n).isSome else (lookS kvs n).isSome))
  | _, _ => none
def dInK (neg : Bool) (a o : EF) : EF := fun ρ s => (a ρ s).bind fun p => (o ρ p.2).bind fun q => (inK neg p.1 q.1).map fun z => (.d z, q.2)
def dGetK (o a : EF) : EF := fun ρ s => (o ρ s).bind fun p => (a ρ p.2).bind fun q => match p.1, q.1 with
  | .n kvs, .d (.str n) => (lookS kvs n).map fun z => (.d (.int z), q.2)
  | _, _ => none
section
variable {X : Cx} {a b : Expr} {A B O I : EF} {pos : Pos}
theorem rd_in {K : PySem.W.Frag} {neg : Bool} {σ : L2.St} {H : Hp} {Q : VK} : tD K (dIn neg A O) σ H Q → tOp (rIn K neg) (tD K A) (tO K O) σ H Q := fun ⟨W, H0, O', ρ, s, sv, s', k, h, c⟩ => by
  obtain ⟨⟨v1, s1⟩, h1, g1⟩ := Option.bind_eq_some_iff.mp h
  obtain ⟨⟨v2, s2⟩, h2, g2⟩ := Option.bind_eq_some_iff.mp g1
  refine tD.go k h1 fun vx H1 st1 k1 r1 => tO.go k1 h2 fun vy H2 st2 k2 r2 => ?_
  cases v1 with
  | d x =>
    obtain ⟨ys, h3, g3⟩ := Option.bind_eq_some_iff.mp g2
    obtain ⟨z, h4, g4⟩ := Option.map_eq_some_iff.mp g3
    cases g4
    obtain ⟨u, h5, g5⟩ := Option.bind_eq_some_iff.mp h4
    obtain ⟨us, h6, g6⟩ := Option.map_eq_some_iff.mp g5
    cases g6
    obtain ⟨p, vs, e, q, l⟩ := itemsOf_rep h3 r2
    obtain ⟨e1, f1⟩ := flatD_rep h5 r1
    obtain ⟨e2, f2⟩ := flatL_rep h6 l
    subst e1; subst e2
    refine ⟨p, vs, e, ?_, f1, f2, c _ H2 (st1.trans st2) k2.wd (Rep.bl _)⟩
    rcases q with q | q
    · exact .inl (sqL_unhid q)
    · exact .inr (sqT_unhid _ _ q)
  | _ => cases g2
theorem de_in (ha : PE X a (tD X.K A)) (hb : PE X b (tO X.K O)) (hm : behindInMarks .In b = false := by rfl) : PE X (.Compare a [.In] [b] pos) (tD X.K (dIn false A O)) := PE.imp (pe_cmpR op_in_seq ha hb hm) fun _ _ _ => rd_in
theorem de_notIn (ha : PE X a (tD X.K A)) (hb : PE X b (tO X.K O)) (hm : behindInMarks .NotIn b = false := by rfl) : PE X (.Compare a [.NotIn] [b] pos) (tD X.K (dIn true A O)) := PE.imp (pe_cmpR op_notIn_seq ha hb hm) fun _ _ _ => rd_in
theorem dt_in (ha : PE X a (tD X.K A)) (hb : PE X b (tO X.K O)) (hm : behindInMarks .In b = false := by rfl) : PT X (.Compare a [.In] [b] pos) (Sb.tB X.K (bOf (dIn false A O))) := PT.imp (pt_cmpR op_in_seq ha hb hm) fun _ _ _ h => rd_in (rd_test h)
theorem dt_notIn (ha : PE X a (tD X.K A)) (hb : PE X b (tO X.K O)) (hm : behindInMarks .NotIn b = false := by rfl) : PT X (.Compare a [.NotIn] [b] pos) (Sb.tB X.K (bOf (dIn true A O))) := PT.imp (pt_cmpR op_notIn_seq ha hb hm) fun _ _ _ h => rd_in (rd_test h)
theorem inK_inv {neg : Bool} {x o : SV} {z : D} (h : inK neg x o = some z) : ∃ n kvs, x = .d (.str n) ∧ o = .n kvs ∧ z = .bl (if neg then !(lookS kvs n).isSome else (lookS kvs n).isSome) := by
  unfold inK at h
  split at h
  · cases h
    exact ⟨_, _, rfl, rfl, rfl⟩
  · cases h
theorem rd_inK {K : PySem.W.Frag} {neg : Bool} {σ : L2.St} {H : Hp} {Q : VK} : tD K (dInK neg A O) σ H Q → tD K A σ H fun y H1 => tO K O σ H1 fun x H2 => ∃ a o, x = .ref a ∧ DGet H2 a y o ∧ Q (.bl (if neg then !o.isSome else o.isSome)) H2 := fun ⟨W, H0, O', ρ, s, sv, s', k, h, c⟩ => by
  obtain ⟨⟨v1, s1⟩, h1, g1⟩ := Option.bind_eq_some_iff.mp h
  obtain ⟨⟨v2, s2⟩, h2, g2⟩ := Option.bind_eq_some_iff.mp g1
  obtain ⟨z, h4, g4⟩ := Option.map_eq_some_iff.mp g2
  cases g4
  obtain ⟨n, kvs, e1, e2, e3⟩ := inK_inv h4
  simp only at e1 e2
  subst e1; subst e2; subst e3
  refine tD.go k h1 fun vx H1 st1 k1 r1 => tO.go k1 h2 fun vy H2 st2 k2 r2 => ?_
  obtain ⟨p, e, q⟩ := r2
  have ex := Rep.str_inv r1
  subst ex
  refine ⟨p, _, e, DGet.k (k := Sum.inr n) (hid_some q).2, ?_⟩
  rw [look_enc, Option.isSome_map]
  exact c _ H2 (st1.trans st2) k2.wd (Rep.bl _)
theorem de_inK (hu : X.A.units + 1 < cLine) (ha : PE X a (tD X.K A)) (hb : PE X b (tO X.K O)) (hm : behindInMarks .In b = false := by rfl) : PE X (.Compare a [.In] [b] pos) (tD X.K (dInK false A O)) := PE.imp (pe_cmp (pc_din hu ha hb) hm) fun _ _ _ h => rd_inK h
theorem de_notInK (hu : X.A.units + 1 < cLine) (ha : PE X a (tD X.K A)) (hb : PE X b (tO X.K O)) (hm : behindInMarks .NotIn b = false := by rfl) : PE X (.Compare a [.NotIn] [b] pos) (tD X.K (dInK true A O)) := PE.imp (pe_cmp (pc_dnotin hu ha hb) hm) fun _ _ _ h => rd_inK h
theorem dt_inK (hu : X.A.units + 1 < cLine) (ha : PE X a (tD X.K A)) (hb : PE X b (tO X.K O)) (hm : behindInMarks .In b = false := by rfl) : PT X (.Compare a [.In] [b] pos) (Sb.tB X.K (bOf (dInK false A O))) := PT.imp (pt_cmp (pc_din hu ha hb) hm) fun _ _ _ h => rd_inK (rd_test h)
theorem dt_notInK (hu : X.A.units + 1 < cLine) (ha : PE X a (tD X.K A)) (hb : PE X b (tO X.K O)) (hm : behindInMarks .NotIn b = false := by rfl) : PT X (.Compare a [.NotIn] [b] pos) (Sb.tB X.K (bOf (dInK true A O))) := PT.imp (pt_cmp (pc_dnotin hu ha hb) hm) fun _ _ _ h => rd_inK (rd_test h)
theorem de_getK (hu : X.A.units + 1 < cLine) (ha : PE X a (tO X.K O)) (hb : PE X b (tD X.K B)) (hs : NoSl b := by intro _ _; rfl) : PE X (.Subscript a b pos) (tD X.K (dGetK O B)) := PE.imp (pe_dget hu ha hb hs) fun σ H Q ⟨W, H0, O', ρ, s, sv, s', k, h, c⟩ => by
  obtain ⟨⟨v1, s1⟩, h1, g1⟩ := Option.bind_eq_some_iff.mp h
  obtain ⟨⟨v2, s2⟩, h2, g2⟩ := Option.bind_eq_some_iff.mp g1
  split at g2
  · rename_i kvs n e1 e2
    simp only at e1 e2
    subst e1; subst e2
    obtain ⟨z, h4, g4⟩ := Option.map_eq_some_iff.mp g2
    cases g4
    refine tO.go k h1 fun vx H1 st1 k1 r1 => tD.go k1 h2 fun vy H2 st2 k2 r2 => ?_
    obtain ⟨p, e, q⟩ := RepSV.same (W := W) st2 r1
    have ex := Rep.str_inv r2
    subst ex
    refine ⟨p, .int z, e, ?_, c _ H2 (st1.trans st2) k2.wd (Rep.int _)⟩
    have g := DGet.k (k := Sum.inr n) (hid_some q).2
    rw [look_enc, h4] at g
    exact g
  · cases g2
end

/-! ### built-ins -/
def dBu (f : List SV → Option D) (Fs : List EF) : EF := fun ρ s => (aAll Fs ρ s).bind fun p => (f p.1).map fun z => (.d z, p.2)
def BuD (K : PySem.W.Frag) (r : List V → Hp → VK → Prop) (f : List SV → Option D) : Prop :=
  ∀ (W : Option Wd) (A : List Addr) (H : Hp) (vs : List V) (svs : List SV) (z : D) (Q : VK), f svs = some z → Paired (RepSV W K (hid A H)) vs svs → (∀ v, (∀ Z', Rep K Z' v z) → Q v H) → r vs H Q
theorem rd_bu {K : PySem.W.Frag} {r : List V → Hp → VK → Prop} {f : List SV → Option D} (hr : BuD K r f) {Fs : List EF} {σ : L2.St} {H : Hp} {Q : VK} : tD K (dBu f Fs) σ H Q → tCB r (tAs K Fs) σ H Q := fun ⟨W, H0, O', ρ, s, sv, s', k, h, c⟩ => by
  obtain ⟨⟨svs, s1⟩, h1, g1⟩ := Option.bind_eq_some_iff.mp h
  obtain ⟨z, h2, g2⟩ := Option.map_eq_some_iff.mp g1
  cases g2
  exact tAs.go k h1 fun vs H1 st1 k1 r1 => hr W _ H1 vs svs z Q h2 r1 fun v hv => c v H1 st1 k1.wd (hv _)
def lenD : List SV → Option D
  | [.d (.tup ds)] => some (.int ds.length)
  | [.r ds] => some (.int ds.length)
  | [.d (.str z)] => if z.length ≤ 100000 then some (.int z.length) else none
  | _ => none
def maxD : List SV → Option D
  | [.d (.int i), .d (.int j)] => some (.int (if j > i then j else i))
  | _ => none
def minD : List SV → Option D
  | [.d (.int i), .d (.int j)] => some (.int (if j < i then j else i))
  | _ => none
def intsOf : List D → Option (List Int)
  | [] => some []
  | .int i :: ds => (intsOf ds).map fun l => i :: l
  | _ :: _ => none
def maxL : List Int → Option Int
  | [] => none
  | i :: l => some (l.foldl (fun a b => if b > a then b else a) i)
def maxLD : List SV → Option D
  | [.r ds] => (intsOf ds).bind fun l => (maxL l).map D.int
  | _ => none
def sumLD : List SV → Option D
  | [.r ds] => (intsOf ds).map fun l => .int l.sum
  | _ => none
def absD : List SV → Option D
  | [.d (.int i)] => some (.int (if i < 0 then -i else i))
  | _ => none
def intD : List SV → Option D
  | [.d (.int i)] => some (.int i)
  | [.d (.bl b)] => some (.int (if b then 1 else 0))
  | _ => none
def ordD : List SV → Option D
  | [.d (.str z)] => if z.length = 1 then some (.int (z.cps.getD 0 0 : Nat)) else none
  | _ => none
theorem paired1 {α β : Type} {F : α → β → Prop} {vs : List α} {b : β} (h : Paired F vs [b]) : ∃ v, vs = [v] ∧ F v b := by
  cases h with
  | cons h t => cases t; exact ⟨_, rfl, h⟩
theorem paired2 {α β : Type} {F : α → β → Prop} {vs : List α} {b c : β} (h : Paired F vs [b, c]) : ∃ v w, vs = [v, w] ∧ F v b ∧ F w c := by
  cases h with
  | cons h t => cases t with
    | cons h' t => cases t; exact ⟨_, _, rfl, h, h'⟩
theorem intsOf_rep {K : PySem.W.Frag} {Z : Hp} : ∀ {ds : List D} {l : List Int} {vs : List V}, intsOf ds = some l → RepL K Z vs ds → vs = l.map V.int
  | [], l, vs, h, r => by
    cases r
    cases h
    rfl
  | d :: ds, l, vs, h, r => by
    cases r with
    | cons r1 r2 =>
      cases d with
      | int i =>
        obtain ⟨w, h2, g2⟩ := Option.map_eq_some_iff.mp h
        cases g2
        rw [List.map_cons, ← intsOf_rep h2 r2, Rep.int_inv r1]
      | _ => cases h
theorem foldl_max (l : List Int) : ∀ i : Int, (l.foldl (fun a b => if b > a then b else a) i = i ∨ l.foldl (fun a b => if b > a then b else a) i ∈ l) ∧ i ≤ l.foldl (fun a b => if b > a then b else a) i ∧ ∀ y ∈ l, y ≤ l.foldl (fun a b => if b > a then b else a) i := by
  induction l with
  | nil => intro i; exact ⟨.inl rfl, Int.le_refl _, fun _ h => nomatch h⟩
  | cons a l ih =>
    intro i
    rw [List.foldl_cons]
    obtain ⟨h1, h2, h3⟩ := ih (if a > i then a else i)
    have hi : i ≤ (if a > i then a else i) := by split <;> omega
    have ha : a ≤ (if a > i then a else i) := by split <;> omega
    refine ⟨?_, Int.le_trans hi h2, fun y hy => ?_⟩
    · rcases h1 with h1 | h1
      · rw [h1]
        split
        · exact .inr List.mem_cons_self
        · exact .inl rfl
      · exact .inr (List.mem_cons_of_mem _ h1)
    · rcases List.mem_cons.mp hy with e | e
      · subst e; exact Int.le_trans ha h2
      · exact h3 y e
section
variable {X : Cx} {e a b : Expr} {es : List Expr} {Fs : List EF} {A : EF} {pos p : Pos}
theorem bd_len : BuD X.K (fun xs H Q => (∃ p ys, xs = [.ref p] ∧ (SqL X.K H p ys ∨ SqT X.K H p ys) ∧ Q (.int ys.length) H) ∨ ∃ z, xs = [.str z] ∧ z.length ≤ sizeLine ∧ Q (.int z.length) H) lenD := fun W A H vs svs z Q h r q => by
  unfold lenD at h
  split at h
  · cases h
    obtain ⟨v, rfl, r'⟩ := paired1 r
    obtain ⟨a, us, rfl, h1, h2⟩ := Rep.tup_inv r'
    exact .inl ⟨a, us, rfl, .inr (sqT_unhid _ _ h1), by rw [h2.length]; exact q _ fun _ => .int _⟩
  · cases h
    obtain ⟨v, rfl, r'⟩ := paired1 r
    obtain ⟨a, us, rfl, h1, h2⟩ := r'
    exact .inl ⟨a, us, rfl, .inl (sqL_unhid h1), by rw [h2.length]; exact q _ fun _ => .int _⟩
  · split at h
    · rename_i hz
      cases h
      obtain ⟨v, rfl, r'⟩ := paired1 r
      have e := Rep.str_inv r'
      subst e
      exact .inr ⟨_, rfl, Nat.le_trans hz (by decide), q _ fun _ => .int _⟩
    · cases h
  · cases h
theorem de_len (hm : X.mg "len" = none) (ha : PA X [e] (tAs X.K Fs)) (hg : Gl X "len" := by rfl) (he : starEach [e] X.env = (false, eval e X.env) :: starEach [] X.env := by rfl) : PE X (.Call (.Name "len" p) [e] [] pos) (tD X.K (dBu lenD Fs)) :=
  PE.imp (pe_callB (call_len_seq.or call_len_str) hg hm PySem.boot_len ha (he := he)) fun _ _ _ => rd_bu bd_len
theorem bd_max : BuD X.K (fun xs H Q => ∃ i j, xs = [.int i, .int j] ∧ Q (.int (if j > i then j else i)) H) maxD := fun W A H vs svs z Q h r q => by
  unfold maxD at h
  split at h
  · cases h
    obtain ⟨v, w, rfl, r1, r2⟩ := paired2 r
    exact ⟨_, _, by rw [Rep.int_inv r1, Rep.int_inv r2], q _ fun _ => .int _⟩
  · cases h
theorem bd_min : BuD X.K (fun xs H Q => ∃ i j, xs = [.int i, .int j] ∧ Q (.int (if j < i then j else i)) H) minD := fun W A H vs svs z Q h r q => by
  unfold minD at h
  split at h
  · cases h
    obtain ⟨v, w, rfl, r1, r2⟩ := paired2 r
    exact ⟨_, _, by rw [Rep.int_inv r1, Rep.int_inv r2], q _ fun _ => .int _⟩
  · cases h
theorem de_max2 (hc : X.calm = true) (hm : X.mg "max" = none) (ha : PA X [a, b] (tAs X.K Fs)) (hg : Gl X "max" := by rfl) (he : starEach [a, b] X.env = (false, eval a X.env) :: starEach [b] X.env := by rfl) (hpl : (backTo pos (starEach [b] X.env)).any (·.1) = false := by rfl) : PE X (.Call (.Name "max" p) [a, b] [] pos) (tD X.K (dBu maxD Fs)) :=
  PE.imp (pe_callB (call_max2 hc) hg hm (by decide +kernel) ha (he := he) (hpl := hpl)) fun _ _ _ => rd_bu bd_max
theorem de_min2 (hc : X.calm = true) (hm : X.mg "min" = none) (ha : PA X [a, b] (tAs X.K Fs)) (hg : Gl X "min" := by rfl) (he : starEach [a, b] X.env = (false, eval a X.env) :: starEach [b] X.env := by rfl) (hpl : (backTo pos (starEach [b] X.env)).any (·.1) = false := by rfl) : PE X (.Call (.Name "min" p) [a, b] [] pos) (tD X.K (dBu minD Fs)) :=
  PE.imp (pe_callB (call_min2 hc) hg hm (by decide +kernel) ha (he := he) (hpl := hpl)) fun _ _ _ => rd_bu bd_min
theorem bd_maxL : BuD X.K (rMax X.K) maxLD := fun W A H vs svs z Q h r q => by
  unfold maxLD at h
  split at h
  · obtain ⟨l, h1, g1⟩ := Option.bind_eq_some_iff.mp h
    obtain ⟨m, h2, g2⟩ := Option.map_eq_some_iff.mp g1
    cases g2
    obtain ⟨v, rfl, r'⟩ := paired1 r
    obtain ⟨a, us, rfl, q1, q2⟩ := r'
    have e := intsOf_rep h1 q2
    subst e
    cases l with
    | nil => cases h2
    | cons i l =>
      have e : l.foldl (fun a b => if b > a then b else a) i = m := Option.some.inj h2
      obtain ⟨f1, f2, f3⟩ := foldl_max l i
      rw [e] at f1 f2 f3
      refine ⟨a, i :: l, rfl, sqL_unhid q1, Nat.succ_pos _, fun m' hm hb => ?_⟩
      have h1 : m' ≤ m := by
        rcases List.mem_cons.mp hm with z | z
        · rw [z]; exact f2
        · exact f3 _ z
      have h2 : m ≤ m' := by
        rcases f1 with z | z
        · rw [z]; exact hb i List.mem_cons_self
        · exact hb m (List.mem_cons_of_mem _ z)
      have e' : m' = m := by omega
      rw [e']
      exact q _ fun _ => .int _
  · cases h
theorem bd_sumL : BuD X.K (rSum X.K) sumLD := fun W A H vs svs z Q h r q => by
  unfold sumLD at h
  split at h
  · obtain ⟨l, h1, g1⟩ := Option.map_eq_some_iff.mp h
    cases g1
    obtain ⟨v, rfl, r'⟩ := paired1 r
    obtain ⟨a, us, rfl, q1, q2⟩ := r'
    have e := intsOf_rep h1 q2
    subst e
    exact ⟨a, l, rfl, sqL_unhid q1, q _ fun _ => .int _⟩
  · cases h
theorem de_maxL (hc : X.calm = true) (hm : X.mg "max" = none) (ha : PA X [e] (tAs X.K Fs)) (hg : Gl X "max" := by rfl) (he : starEach [e] X.env = (false, eval e X.env) :: starEach [] X.env := by rfl) : PE X (.Call (.Name "max" p) [e] [] pos) (tD X.K (dBu maxLD Fs)) :=
  PE.imp (pe_callB (cr_max hc) hg hm (by decide +kernel) ha (he := he)) fun _ _ _ => rd_bu bd_maxL
theorem de_sumL (hc : X.calm = true) (hm : X.mg "sum" = none) (ha : PA X [e] (tAs X.K Fs)) (hg : Gl X "sum" := by rfl) (he : starEach [e] X.env = (false, eval e X.env) :: starEach [] X.env := by rfl) : PE X (.Call (.Name "sum" p) [e] [] pos) (tD X.K (dBu sumLD Fs)) :=
  PE.imp (pe_callB (cr_sum hc) hg hm (by decide +kernel) ha (he := he)) fun _ _ _ => rd_bu bd_sumL
theorem de_abs (hm : X.mg "abs" = none) (ha : PA X [e] (tAs X.K Fs)) (hg : Gl X "abs" := by rfl) (he : starEach [e] X.env = (false, eval e X.env) :: starEach [] X.env := by rfl) : PE X (.Call (.Name "abs" p) [e] [] pos) (tD X.K (dBu absD Fs)) :=
  PE.imp (pe_callB call_abs hg hm (by decide +kernel) ha (he := he)) fun _ _ _ => rd_bu fun W A H vs svs z Q h r q => by
    unfold absD at h
    split at h
    · cases h
      obtain ⟨v, rfl, r'⟩ := paired1 r
      exact ⟨_, by rw [Rep.int_inv r'], q _ fun _ => .int _⟩
    · cases h
theorem de_toInt (hm : X.mg "int" = none) (ha : PA X [e] (tAs X.K Fs)) (hg : Gl X "int" := by rfl) (he : starEach [e] X.env = (false, eval e X.env) :: starEach [] X.env := by rfl) : PE X (.Call (.Name "int" p) [e] [] pos) (tD X.K (dBu intD Fs)) :=
  PE.imp (pe_callTy call_int1 hg hm (by decide +kernel) ha (he := he)) fun _ _ _ => rd_bu fun W A H vs svs z Q h r q => by
    unfold intD at h
    split at h
    · cases h
      obtain ⟨v, rfl, r'⟩ := paired1 r
      exact .inl ⟨_, by rw [Rep.int_inv r'], q _ fun _ => .int _⟩
    · cases h
      obtain ⟨v, rfl, r'⟩ := paired1 r
      exact .inr ⟨_, by rw [Rep.bl_inv r'], q _ fun _ => .int _⟩
    · cases h
theorem de_ord (hm : X.mg "ord" = none) (ha : PA X [e] (tAs X.K Fs)) (hg : Gl X "ord" := by rfl) (he : starEach [e] X.env = (false, eval e X.env) :: starEach [] X.env := by rfl) : PE X (.Call (.Name "ord" p) [e] [] pos) (tD X.K (dBu ordD Fs)) :=
  PE.imp (pe_callB call_ord hg hm (by decide +kernel) ha (he := he)) fun _ _ _ => rd_bu fun W A H vs svs z Q h r q => by
    unfold ordD at h
    split at h
    · split at h
      · rename_i hz
        cases h
        obtain ⟨v, rfl, r'⟩ := paired1 r
        exact ⟨_, by rw [Rep.str_inv r'], hz, q _ fun _ => .int _⟩
      · cases h
    · cases h
end

/-! ### isinstance -/
def isiD (T : String) : D → Option Bool
  | .non => kitB "NoneType" T
  | .bl _ => kitB "bool" T
  | .int _ => kitB "int" T
  | .str _ => kitB "str" T
  | .tup _ => kitB "tuple" T
def dIsI (T : String) (a : EF) : EF := d1 (fun x => (isiD T x).map D.bl) a
theorem ty_of {K : PySem.W.Frag} {A : List Addr} {H : Hp} {v : V} {x : D} (r : Rep K (hid A H) v x) : ∃ n : String, TyX K H v (.type n) ∧ ∀ T, isiD T x = kitB n T := by
  cases x with
  | non => rw [Rep.non_inv r]; exact ⟨_, .base .non, fun _ => rfl⟩
  | bl b => rw [Rep.bl_inv r]; exact ⟨_, .base (.bl b), fun _ => rfl⟩
  | int b => rw [Rep.int_inv r]; exact ⟨_, .base (.int b), fun _ => rfl⟩
  | str b => rw [Rep.str_inv r]; exact ⟨_, .base (.str b), fun _ => rfl⟩
  | tup ds =>
    obtain ⟨a, vs, rfl, h, _⟩ := Rep.tup_inv r
    refine ⟨"tuple", ?_, fun _ => rfl⟩
    rcases h with (h | ⟨o, h⟩) | ⟨o, its, n, h1, h2, _⟩
    · exact .base (.tup (hid_some h).2)
    · exact .fTuple (hid_some h).2
    · exact .kTuple h1 h2
section
variable {X : Cx} {a : Expr} {A : EF} {pos p p2 : Pos} {T : Str} {n : String}
theorem de_isi (hm : X.mg "isinstance" = none) (hmT : X.mg T = none) (hT : bootBuiltins T = some (.type n)) (ha : PE X a (tD X.K A)) (hg : Gl X "isinstance" := by rfl) (hgT : Gl X T := by rfl) (hnT : T ≠ "__name__" := by decide) (hdT : (T == ("__debug__" : Str)) = false := by decide)
    (hs1 : starEach [a, .Name T p2] X.env = (false, eval a X.env) :: starEach [.Name T p2] X.env := by rfl) (hs2 : starEach [.Name T p2] X.env = (false, eval (.Name T p2) X.env) :: starEach [] X.env := by rfl) (hpl : (backTo pos (starEach [.Name T p2] X.env)).any (·.1) = false := by rfl) :
    PE X (.Call (.Name "isinstance" p) [a, .Name T p2] [] pos) (tD X.K (dIsI n A)) :=
  PE.imp (pe_callB call_isi hg hm (by decide +kernel) (pa_cons ha (pa_cons (pe_bltn (v := .ty n) hgT hmT hT rfl hnT hdT) pa_nil hs2) hs1) (he := hs1) (hpl := hpl)) fun σ H Q ⟨W, H0, O', ρ, s, sv, s', k, h, c⟩ => by
    obtain ⟨x, z, h1, h3, rfl⟩ := d1_inv h
    obtain ⟨b, h4, h5⟩ := Option.map_eq_some_iff.mp h3
    cases h5
    refine tD.go k h1 fun vx H1 st1 k1 r1 => ?_
    obtain ⟨m, ty, hk⟩ := ty_of r1
    rw [hk n] at h4
    exact ⟨vx, .ty n, .type m, .type n, b, rfl, .ty n, ty, kit_ty h4, c _ H1 st1 k1.wd (Rep.bl b)⟩
end

/-! ### displays, tuple(..), list(..), slices -/
def datas : List SV → Option (List D)
  | [] => some []
  | .d x :: r => (datas r).map fun l => x :: l
  | _ :: _ => none
def dTup (Fs : List EF) : EF := fun ρ s => (aAll Fs ρ s).bind fun p => (datas p.1).map fun ds => (.d (.tup ds), p.2)
def lDisp (Fs : List EF) : LF := fun ρ s => (aAll Fs ρ s).bind fun p => (datas p.1).map fun ds => (ds, p.2)
def dToTup (o : EF) : EF := fun ρ s => (o ρ s).bind fun p => (itemsOf p.1).map fun ds => (.d (.tup ds), p.2)
def lToL (o : EF) : LF := fun ρ s => (o ρ s).bind fun p => (itemsOf p.1).map fun ds => (ds, p.2)
def dOfL (L : LF) : EF := fun ρ s => (L ρ s).map fun p => (.r p.1, p.2)
def lTo (o i : EF) : LF := fun ρ s => (o ρ s).bind fun p => (i ρ p.2).bind fun q => match p.1, q.1 with
  | .r ds, .d (.int k) => if 0 ≤ k then some (ds.take k.toNat, q.2) else none
  | _, _ => none
def lFrom (o i : EF) : LF := fun ρ s => (o ρ s).bind fun p => (i ρ p.2).bind fun q => match p.1, q.1 with
  | .r ds, .d (.int k) => if 0 ≤ k then some (ds.drop k.toNat, q.2) else none
  | _, _ => none
theorem datas_rep {W : Option Wd} {K : PySem.W.Frag} {Z : Hp} : ∀ {svs : List SV} {ds : List D} {vs : List V}, datas svs = some ds → Paired (RepSV W K Z) vs svs → RepL K Z vs ds ∧ ds.length = svs.length
  | [], ds, vs, h, r => by
    cases r
    cases h
    exact ⟨.nil, rfl⟩
  | sv :: svs, ds, vs, h, r => by
    cases r with
    | cons r1 r2 =>
      cases sv with
      | d x =>
        obtain ⟨l, h2, g2⟩ := Option.map_eq_some_iff.mp h
        cases g2
        obtain ⟨q1, q2⟩ := datas_rep h2 r2
        exact ⟨.cons r1 q1, by rw [List.length_cons, List.length_cons, q2]⟩
      | _ => cases h
section
variable {K : PySem.W.Frag} {W : Option Wd} {H0 H : Hp} {O : List Addr} {σ : L2.St} {ρ : Env} {s : S}
/-- a new tuple is laid -/
theorem rep_newTup (k : Ok W K H0 O H σ ρ s) {vs : List V} {ds : List D} (r : RepL K (hid (wl W) H) vs ds) {p : Addr} (hp : H p = none) : Rep K (hid (wl W ++ O) (upd H p (.tup vs))) (.ref p) (.tup ds) := by
  obtain ⟨f1, f2, f3⟩ := k.fresh hp
  refine .tup (SqT.of (hid_mk (fun z => ?_) upd_same)) ((k.hideL r).same ((Step.new hp).hid O))
  rcases List.mem_append.mp z with z | z
  · exact f2 z
  · exact f3 z
end
section
variable {X : Cx} {a b e : Expr} {es : List Expr} {Fs : List EF} {A B O I : EF} {L : LF} {pos p p2 : Pos}
theorem de_tup {x1} (h : PA X es (tAs X.K Fs)) (hl : Fs.length ≤ 1000 := by exact Nat.le_of_ble_eq_true rfl) : PE X (.Tuple es x1 pos) (tD X.K (dTup Fs)) := PE.imp (pe_tup h) fun σ H Q ⟨W, H0, O', ρ, s, sv, s', k, h, c⟩ => by
  obtain ⟨⟨svs, s1⟩, h1, g1⟩ := Option.bind_eq_some_iff.mp h
  obtain ⟨ds, h2, g2⟩ := Option.map_eq_some_iff.mp g1
  cases g2
  refine tAs.go k h1 fun vs H1 st1 k1 r1 => ?_
  obtain ⟨q1, q2⟩ := datas_rep h2 r1
  have e1 : svs.length = Fs.length := aAll_length h1
  have q2' : _ = svs.length := q2
  refine ⟨by rw [q1.length]; exact Nat.le_of_lt (small1000 (by omega)), fun p hp => ?_⟩
  exact c _ _ (st1.trans (Step.new hp)) (k1.wd.new hp) (rep_newTup k1 q1 hp)
theorem dl_disp (h : PA X es (tAs X.K Fs)) (hl : Fs.length ≤ 1000 := by exact Nat.le_of_ble_eq_true rfl) : PE X (.List es pos) (tL X.K (lDisp Fs)) := PE.imp (pe_lst h) fun σ H Q ⟨W, H0, O', ρ, s, sv, s', k, h, c⟩ => by
  obtain ⟨⟨svs, s1⟩, h1, g1⟩ := Option.bind_eq_some_iff.mp h
  obtain ⟨ds, h2, g2⟩ := Option.map_eq_some_iff.mp g1
  cases g2
  refine tAs.go k h1 fun vs H1 st1 k1 r1 => ?_
  obtain ⟨q1, q2⟩ := datas_rep h2 r1
  have e1 : svs.length = Fs.length := aAll_length h1
  have q2' : _ = svs.length := q2
  refine ⟨by rw [q1.length]; exact Nat.le_of_lt (small1000 (by omega)), fun p hp => ?_⟩
  refine c p vs _ (st1.trans (Step.new hp)) (k1.wd.new hp) ?_ upd_same ((k1.hideL q1).same ((Step.new hp).hid O'))
  cases q : H p with
  | none => rfl
  | some o =>
    have nw : p ∉ wl W := k1.wd.notIn hp
    rw [st1.at nw q] at hp; cases hp
theorem back_none {W : Option Wd} {H H1 : Hp} {s : S} (st : Step W H H1) (w : World W H1 s) {p : Addr} (hp : H1 p = none) : H p = none := by
  cases q : H p with
  | none => rfl
  | some o => rw [st.at (w.notIn hp) q] at hp; cases hp
theorem de_ofL (h : PE X e (tL X.K L)) : PE X e (tD X.K (dOfL L)) := PE.imp h fun σ H Q ⟨W, H0, O', ρ, s, sv, s', k, h, c⟩ => by
  obtain ⟨⟨ds, s1⟩, h1, g1⟩ := Option.map_eq_some_iff.mp h
  cases g1
  refine tL.go k h1 fun a vs H1 st1 k1 n q r => c _ H1 st1 k1.wd ⟨a, vs, rfl, SqL.of (hid_mk (fun z => ?_) q), r⟩
  obtain ⟨f1, f2, f3⟩ := k.fresh n
  rcases List.mem_append.mp z with z | z
  · exact f2 z
  · exact f3 z
theorem de_toTup (hm : X.mg "tuple" = none) (ha : PE X a (tO X.K O)) (hg : Gl X "tuple" := by rfl) (he : starEach [a] X.env = (false, eval a X.env) :: starEach [] X.env := by rfl) : PE X (.Call (.Name "tuple" p) [a] [] pos) (tD X.K (dToTup O)) :=
  PE.imp (pe_callTy call_tuple_of hg hm (by decide +kernel) (pa_cons ha pa_nil he) (he := he)) fun σ H Q ⟨W, H0, O', ρ, s, sv, s', k, h, c⟩ => by
    obtain ⟨⟨v1, s1⟩, h1, g1⟩ := Option.bind_eq_some_iff.mp h
    obtain ⟨ds, h2, g2⟩ := Option.map_eq_some_iff.mp g1
    cases g2
    refine tO.go k h1 fun vx H1 st1 k1 r1 => ?_
    obtain ⟨a, vs, e, q, l⟩ := itemsOf_rep h2 r1
    subst e
    refine ⟨a, vs, rfl, ?_⟩
    rcases q with q | q
    · refine .inl ⟨sqL_unhid q, fun p hp => c _ _ (st1.trans (Step.new hp)) (k1.wd.new hp) (rep_newTup k1 l hp)⟩
    · exact .inr ⟨sqT_unhid _ _ q, c _ _ st1 k1.wd (k1.hide (Rep.tup q l))⟩
theorem dl_toL (hm : X.mg "list" = none) (ha : PE X a (tO X.K O)) (hg : Gl X "list" := by rfl) (he : starEach [a] X.env = (false, eval a X.env) :: starEach [] X.env := by rfl) : PE X (.Call (.Name "list" p) [a] [] pos) (tL X.K (lToL O)) :=
  PE.imp (pe_callTy call_list_of hg hm (by decide +kernel) (pa_cons ha pa_nil he) (he := he)) fun σ H Q ⟨W, H0, O', ρ, s, sv, s', k, h, c⟩ => by
    obtain ⟨⟨v1, s1⟩, h1, g1⟩ := Option.bind_eq_some_iff.mp h
    obtain ⟨ds, h2, g2⟩ := Option.map_eq_some_iff.mp g1
    cases g2
    refine tO.go k h1 fun vx H1 st1 k1 r1 => ?_
    obtain ⟨a, vs, e, q, l⟩ := itemsOf_rep h2 r1
    subst e
    refine ⟨a, vs, rfl, ?_, fun p hp => c p vs _ (st1.trans (Step.new hp)) (k1.wd.new hp) (back_none st1 k1.wd hp) upd_same ((k1.hideL l).same ((Step.new hp).hid O'))⟩
    rcases q with q | q
    · exact .inl (sqL_unhid q)
    · exact .inr (sqT_unhid _ _ q)
theorem cut_to {xs : List V} {k : Int} (h : 0 ≤ k) : cutV xs none (some k) = xs.take k.toNat := by
  unfold cutV
  have e : k = ((k.toNat : Nat) : Int) := by omega
  rw [e, HT.sIx_nat, HT.sIx_none, List.drop_zero, Nat.sub_zero, Int.toNat_natCast]
  rcases Nat.le_total k.toNat xs.length with h | h
  · rw [Nat.min_eq_left h]
  · rw [Nat.min_eq_right h, List.take_of_length_le (Nat.le_refl _), List.take_of_length_le h]
theorem cut_from {xs : List V} {k : Int} (h : 0 ≤ k) : cutV xs (some k) none = xs.drop k.toNat := by
  unfold cutV
  have e : k = ((k.toNat : Nat) : Int) := by omega
  rw [e, HT.sIx_nat, HT.sIx_none, Int.toNat_natCast]
  rcases Nat.le_total k.toNat xs.length with h | h
  · rw [Nat.min_eq_left h]
    refine List.take_of_length_le ?_
    rw [List.length_drop]
    exact Nat.le_refl _
  · rw [Nat.min_eq_right h, List.drop_of_length_le (Nat.le_refl _), List.drop_of_length_le h, List.take_nil]
theorem dl_to (ha : PE X a (tO X.K O)) (hb : PE X b (tD X.K B)) : PE X (.Subscript a (.Slice none (some b) none p2) pos) (tL X.K (lTo O B)) := PE.imp (pe_slice sl_list ha po_none (po_some hb)) fun σ H Q ⟨W, H0, O', ρ, s, sv, s', k, h, c⟩ => by
  obtain ⟨⟨v1, s1⟩, h1, g1⟩ := Option.bind_eq_some_iff.mp h
  obtain ⟨⟨v2, s2⟩, h2, g2⟩ := Option.bind_eq_some_iff.mp g1
  split at g2
  · rename_i ds i e1 e2
    simp only at e1 e2
    subst e1; subst e2
    split at g2
    · rename_i hi
      cases g2
      refine tO.go k h1 fun vx H1 st1 k1 r1 => tD.go k1 h2 fun vy H2 st2 k2 r2 => ⟨i, Rep.int_inv r2, ?_⟩
      obtain ⟨a, vs, e, q, l⟩ := RepSV.same (W := W) st2 r1
      subst e
      refine ⟨a, vs, rfl, sqL_unhid q, fun p hp => ?_⟩
      rw [cut_to hi]
      exact c p _ _ ((st1.trans st2).trans (Step.new hp)) (k2.wd.new hp) (back_none (st1.trans st2) k2.wd hp) upd_same (((k2.hideL l).take _).same ((Step.new hp).hid O'))
    · cases g2
  · cases g2
theorem dl_from (ha : PE X a (tO X.K O)) (hb : PE X b (tD X.K B)) : PE X (.Subscript a (.Slice (some b) none none p2) pos) (tL X.K (lFrom O B)) := PE.imp (pe_slice sl_list ha (po_some hb) po_none) fun σ H Q ⟨W, H0, O', ρ, s, sv, s', k, h, c⟩ => by
  obtain ⟨⟨v1, s1⟩, h1, g1⟩ := Option.bind_eq_some_iff.mp h
  obtain ⟨⟨v2, s2⟩, h2, g2⟩ := Option.bind_eq_some_iff.mp g1
  split at g2
  · rename_i ds i e1 e2
    simp only at e1 e2
    subst e1; subst e2
    split at g2
    · rename_i hi
      cases g2
      refine tO.go k h1 fun vx H1 st1 k1 r1 => tD.go k1 h2 fun vy H2 st2 k2 r2 => ⟨i, Rep.int_inv r2, ?_⟩
      obtain ⟨a, vs, e, q, l⟩ := RepSV.same (W := W) st2 r1
      subst e
      refine ⟨a, vs, rfl, sqL_unhid q, fun p hp => ?_⟩
      rw [cut_from hi]
      exact c p _ _ ((st1.trans st2).trans (Step.new hp)) (k2.wd.new hp) (back_none (st1.trans st2) k2.wd hp) upd_same (((k2.hideL l).drop _).same ((Step.new hp).hid O'))
    · cases g2
  · cases g2
end
end Sb

set_option Elab.async false
set_option linter.all false
set_option maxRecDepth 100000
set_option maxHeartbeats 4000000
namespace Sb
open PySem PySem.Spec PyProof.Rows L2

/-! ### a tuple once more, a text some times -/
theorem tuple_mul1 (l : Addr) (items : Array Value) (n : Nat) (dd : Option Addr) (sl : Array (Option Value)) (u : Tok) :
    Meets (Builtin.«tuple.__mul__» ⟨[.ref l, .int 1 u], []⟩) (fun _ R s => s.heap.get? l = some { cls := .type "tuple", dict := dd, data := .seq items n, slots := sl } ∧
      R (.ok (.ret (.ref l))) s) :=
  .of_wp fun prog w A R s h => by
    obtain ⟨hp, g, d, tk, os⟩ := s
    obtain ⟨hl, h⟩ := h
    have f1 := AutoSeq1.idx_int
    wp_walk using wpAny_loadPart' hl
    exact ⟨_, rfl, h⟩
theorem op_repT1 {X : Cx} : OpR X (binaryOp .Mult) (fun x y H Q => ∃ l xs, x = .ref l ∧ y = .int 1 ∧ SqT X.K H l xs ∧ Q (.ref l) H) := by
  intro pins s σ H x y v u Q I rx ry h
  obtain ⟨l, xs, rfl, rfl, hT, q⟩ := h
  cases rx
  obtain ⟨t, rfl⟩ := ry
  obtain ⟨its, r, ⟨⟨cls, dd, data, sl⟩, ho, hc, n, hd⟩, hs⟩ := I.tuple hT
  simp only at hc hd
  subst hc hd
  exact wpAny_binaryOp_repeat_ref (T := "tuple") (U := "int") (by decide) ⟨_, ho, rfl⟩ (fun s' => typeIs_int s' 1 t) noFill_tuple_mul F.fills_int_mul F.slot_int_rmul repeat_tuple F.slot_int_index.lookup
    (call_meets F.slot_int_rmul (typeIs_int s 1 t) F.entry_int_rmul (F.args_int_rmul_2 _ _) (int_rmul_tuple 1 t l its.toArray n dd sl)
      ⟨ho, rfl, ⟨_, ho, rfl⟩, call_meets F.slot_tuple_mul ⟨_, ho, rfl⟩ F.entry_tuple_mul (F.args_tuple_mul_2 _ _) (tuple_mul1 l its.toArray n dd sl t) ⟨ho, ⟨.ref l, H, I, rfl, q⟩⟩⟩)
def repS (x : Str) (n : Nat) : Str := ⟨(List.replicate n x.cps.toList).flatten.toArray⟩
theorem foldl_repA (x : Array Nat) : ∀ (m : Nat) (acc : Array Nat), (List.replicate m x).foldl (fun a b => a ++ b) acc = acc ++ ((List.replicate m x.toList).flatten.toArray)
  | 0, acc => by simp
  | m + 1, acc => by
    rw [List.replicate_succ, List.foldl_cons, foldl_repA x m, List.replicate_succ, List.flatten_cons]
    rw [Array.append_assoc]
    congr 1
    apply Array.toList_inj.mp
    simp
theorem op_mulS {X : Cx} : OpR X (binaryOp .Mult) (fun x y H Q => ∃ (z : Str) (k : Int), x = .str z ∧ y = .int k ∧ 0 ≤ k ∧ k ≤ 1000 ∧ z.length ≤ 1000 ∧ Q (.str (repS z k.toNat)) H) := by
  intro pins s σ H x y v u Q I rx ry h
  obtain ⟨z, k, rfl, rfl, h0, h1, hz, q⟩ := h
  obtain ⟨t, rfl⟩ := rx
  obtain ⟨t', rfl⟩ := ry
  have hb : (z.length : Int) ≤ (2 ^ 63 - 1) / 1000 := by
    have : (9223372036854775 : Int) = (2 ^ 63 - 1) / 1000 := by decide
    omega
  refine P.mul_str (x := z) (n := k) (t := t) (u := t') ?_ (fun h2 h3 => ?_) (fun h2 h3 => ?_) ?_
  · rw [decide_eq_false (by omega), decide_eq_false (by omega)]
    rfl
  · have h4 : (2 ^ 63 - 1 : Int) / 1000 ≤ (2 ^ 63 - 1) / k := by
      rw [Int.le_ediv_iff_mul_le (by omega)]
      have e : (2 ^ 63 - 1 : Int) / 1000 = 9223372036854775 := by decide
      rw [e]
      have : (9223372036854775 : Int) * k ≤ 9223372036854775 * 1000 := Int.mul_le_mul_of_nonneg_left h1 (by decide)
      omega
    omega
  · have h4 : z.length * k.toNat ≤ 1000 * 1000 := Nat.mul_le_mul hz (by omega)
    unfold Builtin.Str.tooLong
    rw [sizeLine_eq]
    exact decide_eq_false (by omega)
  · have fin : ∀ (u : Tok) (s' : Shared), Inv X pins σ H s' → EP X pins σ Q (.str (repS z k.toNat) u) s' := fun u s' I' => ⟨.str (repS z k.toNat), H, I', ⟨u, rfl⟩, q⟩
    split
    · rename_i hk
      have e : repS z k.toNat = Str.empty := by
        have : k.toNat = 0 := by omega
        rw [this]
        rfl
      refine ⟨by decide, ?_⟩
      have := fin s.toks { s with toks := s.toks + 1 } (I.tok _)
      rw [e] at this
      exact this
    · split
      · rename_i hk h2
        have e : repS z k.toNat = z := by
          rw [Bool.or_eq_true] at h2
          rcases h2 with h2 | h2
          · have e1 : k = 1 := by simpa using h2
            rw [e1]
            unfold repS
            simp
          · have e1 : z.cps.toList = [] := by
              have : z.cps.size = 0 := by simpa [Str.length] using h2
              simpa using this
            unfold repS
            rw [e1]
            have e2 : (List.replicate k.toNat ([] : List Nat)).flatten = [] := by
              simp
            rw [e2]
            cases z with
            | mk c =>
              have : c = #[] := by simpa using e1
              rw [this]
        have := fin t s I
        rw [e] at this
        exact this
      · rename_i hk h2
        have e : (⟨(List.replicate k.toNat z.cps).foldl (fun a b => a ++ b) #[]⟩ : Str) = repS z k.toNat := by
          unfold repS
          rw [foldl_repA]
          simp
        refine ⟨?_, ?_⟩
        · show (⟨(List.replicate k.toNat z.cps).foldl (fun a b => a ++ b) #[]⟩ : Str).length ≤ sizeLine
          rw [e]
          unfold repS Str.length
          have h4 : k.toNat * z.length ≤ 1000 * 1000 := Nat.mul_le_mul (by omega) hz
          have h5 : (List.replicate k.toNat z.cps.toList).flatten.length = k.toNat * z.length := by
            simp [List.length_flatten, Str.length]
          simp only [List.size_toArray, h5]
          rw [sizeLine_eq]
          omega
        · have := fin s.toks { s with toks := s.toks + 1 } (I.tok _)
          rw [← e] at this
          exact this
end Sb

set_option Elab.async false
set_option linter.all false
set_option maxRecDepth 100000
set_option maxHeartbeats 4000000
namespace Sb
open PySem PySem.Spec PyProof.Rows L2

/-! ### products of texts and tuples, == (0, None), join -/
def fMulS : D → D → Option D
  | .str z, .int k => if 0 ≤ k ∧ k ≤ 1000 ∧ z.length ≤ 1000 then some (.str (repS z k.toNat)) else none
  | _, _ => none
def fRepT : D → D → Option D
  | .tup ds, .int k => if 1 ≤ k ∧ k ≤ 1000 ∧ ds ≠ [] ∧ ds.length ≤ 1000 then some (.tup (List.replicate k.toNat ds).flatten) else none
  | _, _ => none
def eq0D : D → Bool
  | .int i => i == 0
  | .bl b => (if b then 1 else 0) == (0 : Int)
  | _ => false
def isNonD : D → Bool
  | .non => true
  | _ => false
def fEqU : D → Option D
  | .tup [x, y] => some (.bl (eq0D x && isNonD y))
  | .tup _ => some (.bl false)
  | _ => none
section
variable {X : Cx} {a b e : Expr} {A B O : EF} {pos : Pos}
theorem de_mulS (ha : PE X a (tD X.K A)) (hb : PE X b (tD X.K B)) : PE X (.BinOp a .Mult b pos) (tD X.K (d2 fMulS A B)) := PE.imp (pe_op op_mulS ha hb) fun _ _ _ => rd_op fun Z H x y z vx vy Q _ h rx ry q => by
  unfold fMulS at h
  split at h
  · split at h
    · rename_i hc
      cases h
      exact ⟨_, _, Rep.str_inv rx, Rep.int_inv ry, hc.1, hc.2.1, hc.2.2, q _ fun _ => .str _⟩
    · cases h
  · cases h
theorem de_repT (ha : PE X a (tD X.K A)) (hb : PE X b (tD X.K B)) : PE X (.BinOp a .Mult b pos) (tD X.K (d2 fRepT A B)) := PE.imp (pe_op (op_repT.or op_repT1) ha hb) fun σ H Q ⟨W, H0, O', ρ, s, sv, s', k, h, c⟩ => by
  obtain ⟨x, y, z, s1, h1, h2, h3, rfl⟩ := d2_inv h
  refine tD.go k h1 fun vx H1 st1 k1 r1 => tD.go k1 h2 fun vy H2 st2 k2 r2 => ?_
  unfold fRepT at h3
  split at h3
  · rename_i ds i
    split at h3
    · rename_i hc
      obtain ⟨c1, c2, c3, c4⟩ := hc
      cases h3
      obtain ⟨l, vs, e, q, w⟩ := Rep.tup_inv (Rep.same (st2.hid O') r1)
      have hw := w.length
      have ne : vs ≠ [] := fun z => c3 (by rw [z] at hw; exact List.eq_nil_of_length_eq_zero hw.symm)
      by_cases e1 : i = 1
      · subst e1
        refine .inr ⟨l, vs, e, Rep.int_inv r2, sqT_unhid _ _ q, ?_⟩
        have e2 : (List.replicate (1 : Int).toNat ds).flatten = ds := by
          show (List.replicate 1 ds).flatten = ds
          simp
        refine c _ H2 (st1.trans st2) k2.wd ?_
        show Rep X.K _ _ _
        rw [e2, ← e]
        exact Rep.same (st2.hid O') r1
      · refine .inl ⟨l, i, vs, e, Rep.int_inv r2, sqT_unhid _ _ q, ne, by omega, c2, by omega, fun p hp => ?_⟩
        have w' : RepL X.K (hid (wl W) H2) vs ds := w.same hid_wl
        exact c _ _ ((st1.trans st2).trans (Step.new hp)) (k2.wd.new hp) (rep_newTup k2 (w'.flat _) hp)
    · cases h3
  · cases h3
theorem in1_units {A : Around} (hu : A.units + 64 < cLine) : A.in1.units < cLine := by
  show A.units + 1 < cLine
  omega
theorem eq0_at {A : List Addr} {A' : Around} {pins : List (Addr × Obj)} {σ : L2.St} {H : Hp} {s : Shared} (I : Inv X pins σ H s) (hu : A'.units < cLine) {v : V} {u : Value} {x : D} {t : Tok} (r : Rep X.K (hid A H) v x) (rv : RelV v u) : SeqAt.EqAt A' s u (.int 0 t) (eq0D x) := by
  cases x with
  | non => rw [Rep.non_inv r] at rv; cases (show u = Value.none from rv); exact SeqAt.EqAt.none_int 0 t
  | bl b => rw [Rep.bl_inv r] at rv; cases (show u = Value.bool b from rv); exact SeqAt.EqAt.bool_int b 0 t
  | int i => rw [Rep.int_inv r] at rv; obtain ⟨t', e⟩ := (show ∃ t, u = Value.int i t from rv); cases e; exact SeqAt.EqAt.int_int i t' 0 t
  | str x => rw [Rep.str_inv r] at rv; obtain ⟨t', e⟩ := (show ∃ t, u = Value.str x t from rv); cases e; exact SeqAt.EqAt.str_int x t' 0 t
  | tup ds =>
    obtain ⟨l, vs, e, q, w⟩ := Rep.tup_inv r
    subst e
    cases (show u = Value.ref l from rv)
    obtain ⟨its, _, p, _⟩ := I.tuple (sqT_unhid _ _ q)
    exact SeqAt.EqAt.tuple_int 0 t p hu
theorem eqN_at {A : List Addr} {A' : Around} {pins : List (Addr × Obj)} {σ : L2.St} {H : Hp} {s : Shared} (I : Inv X pins σ H s) (hu : A'.units < cLine) {v : V} {u : Value} {x : D} (r : Rep X.K (hid A H) v x) (rv : RelV v u) : SeqAt.EqAt A' s u .none (isNonD x) := by
  cases x with
  | non => rw [Rep.non_inv r] at rv; cases (show u = Value.none from rv); exact SeqAt.EqAt.same _
  | bl b => rw [Rep.bl_inv r] at rv; cases (show u = Value.bool b from rv); exact SeqAt.EqAt.bool_none b
  | int i => rw [Rep.int_inv r] at rv; obtain ⟨t', e⟩ := (show ∃ t, u = Value.int i t from rv); cases e; exact SeqAt.EqAt.int_none i t'
  | str x => rw [Rep.str_inv r] at rv; obtain ⟨t', e⟩ := (show ∃ t, u = Value.str x t from rv); cases e; exact SeqAt.EqAt.str_none x t'
  | tup ds =>
    obtain ⟨l, vs, e, q, w⟩ := Rep.tup_inv r
    subst e
    cases (show u = Value.ref l from rv)
    obtain ⟨its, _, p, _⟩ := I.tuple (sqT_unhid _ _ q)
    exact SeqAt.EqAt.tuple_none p hu
def eU (ds : List D) : Nat → Bool
  | 0 => (ds[0]?.map eq0D).getD false
  | _ => (ds[1]?.map isNonD).getD false
theorem eU_val : ∀ (ds : List D) (z : D), fEqU (.tup ds) = some z → z = .bl ((List.range (min ds.length 2)).all (eU ds) && ds.length == 2)
  | [], z, h => by cases h; rfl
  | [x0], z, h => by
    cases h
    have : (List.length [x0] == 2) = false := rfl
    rw [this, Bool.and_false]
  | [x0, x1], z, h => by
    cases h
    show _ = D.bl (([0, 1] : List Nat).all (eU [x0, x1]) && true)
    simp [eU]
  | x0 :: x1 :: x2 :: r, z, h => by
    cases h
    have : (List.length (x0 :: x1 :: x2 :: r) == 2) = false := by simp
    rw [this, Bool.and_false]
/-- == of a tuple and a tuple (0, None) -/
def rEqU (K : PySem.W.Frag) : R2 := fun x y H Q => ∃ l b vs ds B z, x = .ref l ∧ y = .ref b ∧ SqT K H b [.int 0, .non] ∧ SqT K H l vs ∧ RepL K (hid B H) vs ds ∧ fEqU (.tup ds) = some z ∧ ∀ v, (∀ Z, Rep K Z v z) → Q v H
theorem op_eqU (hu : X.A.units + 64 < cLine) : OpR X (compareOp .Eq) (rEqU X.K) := by
  intro pins s σ H x y v u Q I rx ry h
  obtain ⟨l, b, vs, ds, B, z, rfl, rfl, hb, hl, w, hz, q⟩ := h
  cases rx
  cases ry
  obtain ⟨its, rl, pl, _⟩ := I.tuple hl
  obtain ⟨jts, rb, pb, _⟩ := I.tuple hb
  have hu1 := in1_units hu
  obtain ⟨u0, u1, e1, ⟨t0, e2⟩, e3⟩ : ∃ u0 u1, jts = [u0, u1] ∧ (∃ t, u0 = Value.int 0 t) ∧ u1 = Value.none := by
    cases rb with
    | cons r1 r2 => cases r2 with
      | cons r3 r4 => cases r4; exact ⟨_, _, rfl, r1, r3⟩
  subst e1; subst e2; subst e3
  have key : ∀ j (h1 : j < its.toArray.size) (h2 : j < (#[Value.int 0 t0, Value.none] : Array Value).size), SeqAt.EqAt X.A.in1 s its.toArray[j] (#[Value.int 0 t0, Value.none] : Array Value)[j] (eU ds j) := fun j h1 h2 => by
    have h1' : j < its.length := by simpa using h1
    have hv : j < vs.length := by rw [rl.length]; exact h1'
    have hd : j < ds.length := by rw [← w.length]; exact hv
    obtain ⟨vv, g1, g2⟩ := w.get (i := j) (d := ds[j]) (by simp [hd])
    obtain ⟨uu, g3, g4⟩ := rl.get g1
    have eu : its.toArray[j] = uu := by
      have : its[j]? = some its[j] := by simp [h1']
      rw [this] at g3
      simpa using Option.some.inj g3
    rw [eu]
    have h2' : j < 2 := h2
    match j, h2' with
    | 0, _ =>
      have ee : eU ds 0 = eq0D ds[0] := by simp [eU, hd]
      rw [ee]
      exact eq0_at I hu1 g2 g4
    | 1, _ =>
      have ee : eU ds 1 = isNonD ds[1] := by simp [eU, hd]
      rw [ee]
      exact eqN_at I hu1 g2 g4
  refine SeqAt.eq_tupleAt pl pb (by omega) key ?_
  have hlen : its.length = ds.length := by rw [← rl.length, w.length]
  have ez := eU_val ds z hz
  have e0 : its.toArray.size = ds.length := by simpa using hlen
  refine ⟨.bl _, H, I, rfl, q _ fun Z => ?_⟩
  rw [ez, e0]
  exact .bl _
theorem rd_eqU {K : PySem.W.Frag} {g : V} (hg : ∃ b, g = .ref b ∧ ∀ Z, SqT K Z b [.int 0, .non]) {σ : L2.St} {H : Hp} {Q : VK} : tD K (d1 fEqU A) σ H Q → tOp (rEqU K) (tD K A) (tC g) σ H Q := fun ⟨W, H0, O', ρ, s, sv, s', k, h, c⟩ => by
  obtain ⟨x, z, h1, h3, rfl⟩ := d1_inv h
  obtain ⟨b, e, hb⟩ := hg
  refine tD.go k h1 fun vx H1 st1 k1 r1 => ?_
  cases x with
  | tup ds =>
    obtain ⟨l, vs, e', q, w⟩ := Rep.tup_inv r1
    exact ⟨l, b, vs, ds, _, z, e', e, hb _, sqT_unhid _ _ q, w, h3, fun v hv => c v H1 st1 k1.wd (hv _)⟩
  | _ => cases h3
theorem dt_eqU {x : Str} {u : Value} {b : Addr} {p2 : Pos} (hu : X.A.units + 64 < cLine) (ha : PE X a (tD X.K A)) (hm : X.mg x = some u) (r : RelV (.ref b) u) (hb : ∀ Z, SqT X.K Z b [.int 0, .non]) (hg : Gl X x := by rfl) (hd : (x == ("__debug__" : Str)) = false := by decide) :
    PT X (.Compare a [.Eq] [.Name x p2] pos) (Sb.tB X.K (bOf (d1 fEqU A))) := PT.imp (pt_cmpR (op_eqU hu) ha (pe_glob hg hm r hd) (nomark _)) fun _ _ _ h => rd_eqU ⟨b, rfl, hb⟩ (rd_test h)
theorem de_unk {x : Str} {u : Value} {b : Addr} {p2 : Pos} (hm : X.mg x = some u) (r : RelV (.ref b) u) (hb : ∀ Z, SqT X.K Z b [.int 0, .non]) (hg : Gl X x := by rfl) (hd : (x == ("__debug__" : Str)) = false := by decide) :
    PE X (.Name x p2) (tD X.K (dC (.tup [.int 0, .non]))) := de_glob hm r (fun Z => .tup (hb Z) (.cons (.int 0) (.cons .non .nil))) hg hd
def strsOf : List D → Option (List Str)
  | [] => some []
  | .str i :: ds => (strsOf ds).map fun l => i :: l
  | _ :: _ => none
theorem strsOf_rep {K : PySem.W.Frag} {Z : Hp} : ∀ {ds : List D} {l : List Str} {vs : List V}, strsOf ds = some l → RepL K Z vs ds → vs = l.map V.str
  | [], l, vs, h, r => by
    cases r
    cases h
    rfl
  | d :: ds, l, vs, h, r => by
    cases r with
    | cons r1 r2 =>
      cases d with
      | str i =>
        obtain ⟨w, h2, g2⟩ := Option.map_eq_some_iff.mp h
        cases g2
        rw [List.map_cons, ← strsOf_rep h2 r2, Rep.str_inv r1]
      | _ => cases h
/-- ''.join(list) -/
def dJoin (o : EF) : EF := fun ρ s => (o ρ s).bind fun p => match p.1 with
  | .r ds => (strsOf ds).bind fun l => if (l.map (·.length)).sum ≤ 100000 then some (.d (.str (Txt.join Str.empty l)), p.2) else none
  | _ => none
theorem de_join {j : Nat} {p1 apos : Pos} (ha : PE X a (tO X.K O)) (hs : starEach [a] X.env = [(false, eval a X.env)] := by rfl) (hbase : attributeBase (.Constant (.str Str.empty) j p1) "join" X.env (eval (.Constant (.str Str.empty) j p1) X.env) = eval (.Constant (.str Str.empty) j p1) X.env := by rfl) (hline : (apos.endLine == pos.line) = true := by rfl) :
    PE X (.Call (.Attribute (.Constant (.str Str.empty) j p1) "join" apos) [a] [] pos) (tD X.K (dJoin O)) := PE.imp (pe_join pe_str ha hs hbase hline) fun σ H Q ⟨W, H0, O', ρ, s, sv, s', k, h, c⟩ => by
  obtain ⟨⟨v1, s1⟩, h1, g1⟩ := Option.bind_eq_some_iff.mp h
  cases v1 with
  | r ds =>
    obtain ⟨l, h2, g2⟩ := Option.bind_eq_some_iff.mp g1
    split at g2
    · rename_i hl
      cases g2
      refine ⟨⟨_, rfl⟩, tO.go k h1 fun vx H1 st1 k1 r1 => ?_⟩
      obtain ⟨p, vs, e, q, w⟩ := r1
      have ev := strsOf_rep h2 w
      subst ev
      refine ⟨Str.empty, p, l, rfl, by rw [e], .inl (sqL_unhid q), ?_, c _ H1 st1 k1.wd (Rep.str _)⟩
      have : (Str.empty).length = 0 := rfl
      rw [this, Nat.mul_zero]
      omega
    · cases g2
  | _ => cases g1
end

/-! ### calls of the program's own defs -/
def RetOk (W : Option Wd) (K : PySem.W.Frag) (H0 H' : Hp) (v : V) : SV → Prop
  | .d x => Rep K (hid (wl W) H') v x
  | .r ds => ∃ a vs, v = .ref a ∧ H0 a = none ∧ a ∉ wl W ∧ H' a = some (.lst vs) ∧ RepL K (hid (wl W) H') vs ds
  | .n kvs => ∃ a, v = .ref a ∧ H0 a = none ∧ a ∉ wl W ∧ H' a = some (.dK (encK kvs))
  | .p xs ys => ∃ a x y, v = .ref a ∧ (H0 a = none ∧ H0 x = none ∧ H0 y = none) ∧ (a ∉ wl W ∧ x ∉ wl W ∧ y ∉ wl W) ∧ H' a = some (.lst [.ref x, .ref y]) ∧ H' x = some (.lst (xs.map V.int)) ∧ H' y = some (.lst (ys.map V.int))
  | _ => False
/-- THE PROMISE of a def of n parameters: what M says -/
def spD (K : PySem.W.Frag) (n : Nat) (M : FM) : Sp := fun vs H Q _ => ∃ W svs s sv s', svs.length = n ∧ M svs s = some (sv, s') ∧ World W H s ∧ Paired (RepSV W K (hid (wl W) H)) vs svs ∧ ∀ v H', Step W H H' → World W H' s' → RetOk W K H H' v sv → Q v H'
structure Callee (P : Program) (w : PySem.World) (K : PySem.W.Frag) (mg : Str → Option Value) (base : Heap) (k : Nat) (x : Str) (n : Nat) (M : FM) : Prop where
  ex : ∃ f fd ps, FnOk P w K mg base CX0 k f fd ps (spD K n M) ∧ mg x = some (.ref f) ∧ PySem.W.keepIn K (.ref f) = true ∧ Binds K fd ps []
theorem Callee.mono {P : Program} {w : PySem.World} {K : PySem.W.Frag} {mg : Str → Option Value} {base : Heap} {j k : Nat} {x : Str} {n : Nat} {M : FM} (c : Callee P w K mg base j x n M) (h : j ≤ k) : Callee P w K mg base k x n M := by
  obtain ⟨f, fd, ps, F, a, b, d⟩ := c.ex
  exact ⟨f, fd, ps, F.mono h, a, b, d⟩
def dCall (M : FM) (Fs : List EF) : EF := fun ρ s => (aAll Fs ρ s).bind fun p => M p.1 p.2
section
variable {K : PySem.W.Frag} {W : Option Wd} {H0 H H' : Hp} {O : List Addr} {σ : L2.St} {ρ : Env} {s s' : S}
theorem Ok.ret (k : Ok W K H0 O H σ ρ s) (k' : Ok W K H0 O H' σ ρ s') {v : V} {sv : SV} (r : RetOk W K H H' v sv) : RepSV W K (hid (wl W ++ O) H') v sv := by
  have no : ∀ {a : Addr}, H a = none → a ∉ wl W → a ∉ wl W ++ O := fun {a} h n z => by
    rcases List.mem_append.mp z with z | z
    · exact n z
    · obtain ⟨o, e⟩ := k.ownAt z
      rw [h] at e; cases e
  cases sv with
  | d x => exact k'.hide r
  | r ds =>
    obtain ⟨a, vs, e, h1, h2, h3, h4⟩ := r
    exact ⟨a, vs, e, SqL.of (hid_mk (no h1 h2) h3), k'.hideL h4⟩
  | n kvs =>
    obtain ⟨a, e, h1, h2, h3⟩ := r
    exact ⟨a, e, hid_mk (no h1 h2) h3⟩
  | p xs ys =>
    obtain ⟨a, x, y, e, ⟨h1, h2, h3⟩, ⟨n1, n2, n3⟩, q1, q2, q3⟩ := r
    exact ⟨a, x, y, e, hid_mk (no h1 n1) q1, hid_mk (no h2 n2) q2, hid_mk (no h3 n3) q3⟩
  | _ => exact r.elim
end
section
variable {X : Cx} {e : Expr} {es : List Expr} {Fs : List EF} {M : FM} {k n : Nat} {x : Str} {p pos : Pos}
theorem de_call (C : Callee X.prog X.w X.K X.mg X.base k x n M) (hr : Room k X.A) (ha : PA X (e :: es) (tAs X.K Fs)) (hn : Fs.length = n := by rfl) (hg : Gl X x := by rfl) (hdb : (x == ("__debug__" : Str)) = false := by decide)
    (he : starEach (e :: es) X.env = (false, eval e X.env) :: starEach es X.env := by rfl) (hpl : (backTo pos (starEach es X.env)).any (·.1) = false := by rfl) : PE X (.Call (.Name x p) (e :: es) [] pos) (tD X.K (dCall M Fs)) := by
  obtain ⟨f, fd, ps, F, hm, hk, hb⟩ := C.ex
  refine PE.imp (pe_call F hr hg hm hk hb .nil pass0 ha hdb he hpl) fun σ H Q ⟨W, H0, O', ρ, s, sv, s', k, h, c⟩ => ?_
  obtain ⟨⟨svs, s1⟩, h1, g1⟩ := Option.bind_eq_some_iff.mp h
  refine tAs.go k h1 fun vs H1 st1 k1 r1 => ⟨W, svs, s1, sv, s', by rw [← hn]; exact aAll_length h1, g1, k1.wd, by rw [List.append_nil]; exact r1, fun v H2 st2 w2 r2 => ?_⟩
  exact c v H2 (st1.trans st2) w2 (k1.ret (k1.move st2 w2) r2)
end
end Sb

set_option Elab.async false
set_option linter.all false
set_option maxRecDepth 100000
set_option maxHeartbeats 4000000
namespace Sb
open PySem PySem.Spec PyProof.Rows L2

/-! ## what is walked -/
def ItW (W : Option Wd) (K : PySem.W.Frag) (O : List Addr) (H : Hp) (J : It) (ds : List D) : Prop :=
  ∃ (vs : List V) (G : Hp → Prop), Walk J ds.length G (YAt vs) ∧ (∀ H', Same (hid (wl W ++ O) H) H' → G H') ∧ RepL K (hid (wl W ++ O) H) vs ds
def tI (K : PySem.W.Frag) (I : LF) : TI := fun σ H R => ∃ W H0 O ρ s ds s', Ok W K H0 O H σ ρ s ∧ I ρ s = some (ds, s') ∧ ∀ J H', Step W H H' → World W H' s' → ItW W K O H' J ds → R J H'
def iTupF (F : EF) : LF := fun ρ s => (F ρ s).bind fun p => match p.1 with
  | .d (.tup ds) => some (ds, p.2)
  | _ => none
def iListF (F : EF) : LF := fun ρ s => (F ρ s).bind fun p => match p.1 with
  | .r ds => some (ds, p.2)
  | _ => none
def iStrF (F : EF) : LF := fun ρ s => (F ρ s).bind fun p => match p.1 with
  | .d (.str z) => some (z.cps.toList.map fun c => .str ⟨#[c]⟩, p.2)
  | _ => none
def rangeD (i j : Int) : List D := (List.range (j - i).toNat).map fun (k : Nat) => D.int (i + (k : Int))
def iRngF (F : EF) : LF := fun ρ s => (F ρ s).bind fun p => match p.1 with
  | .d (.int j) => if -1000000 ≤ j ∧ j ≤ 1000000 then some (rangeD 0 j, p.2) else none
  | _ => none
def iRngF2 (A B : EF) : LF := fun ρ s => (A ρ s).bind fun p => (B ρ p.2).bind fun q => match p.1, q.1 with
  | .d (.int i), .d (.int j) => if -1000000 ≤ i ∧ i ≤ 1000000 ∧ -1000000 ≤ j ∧ j ≤ 1000000 then some (rangeD i j, q.2) else none
  | _, _ => none
section
variable {X : Cx} {tg e a b : Expr} {F A B : EF} {pos p : Pos}
theorem PI.imp {t t' : TI} (h : PI X tg e t) (i : ∀ σ H Q, t' σ H Q → t σ H Q) : PI X tg e t' := ⟨fun pins s σ H Q I hw => h.run pins s σ H Q I (i _ _ _ hw)⟩
theorem rangeD_length (i j : Int) : (rangeD i j).length = (j - i).toNat := by unfold rangeD; rw [List.length_map, List.length_range]
theorem rangeV_rep {K : PySem.W.Frag} {Z : Hp} (i : Int) : ∀ (ks : List Nat), RepL K Z (ks.map fun (k : Nat) => V.int (i + (k : Int))) (ks.map fun (k : Nat) => D.int (i + (k : Int)))
  | [] => .nil
  | k :: ks => .cons (.int _) (rangeV_rep i ks)
theorem itw_range {W : Option Wd} {K : PySem.W.Frag} {O : List Addr} {H : Hp} {i j : Int} : ItW W K O H (Itr i (j - i).toNat) (rangeD i j) := by
  refine ⟨(List.range (j - i).toNat).map fun (k : Nat) => V.int (i + (k : Int)), fun _ => True, ?_, fun _ _ => trivial, rangeV_rep i _⟩
  rw [rangeD_length]
  refine walk_range.mono (fun _ h => h) fun k H x H' hk _ y => ⟨y.1, ?_⟩
  rw [y.2]
  simp [hk]
theorem di_tup (h : PE X e (tD X.K F)) : PI X tg e (tI X.K (iTupF F)) := PI.imp (pi_tup h) fun σ H R ⟨W, H0, O, ρ, s, ds, s', k, h, c⟩ => by
  obtain ⟨⟨v1, s1⟩, h1, g1⟩ := Option.bind_eq_some_iff.mp h
  refine tD.go k h1 fun vx H1 st1 k1 r1 => ?_
  split at g1
  · rename_i es e1
    cases g1
    simp only at e1
    subst e1
    obtain ⟨a, vs, e, q, w⟩ := Rep.tup_inv r1
    refine ⟨a, e, ⟨vs, sqT_unhid _ _ q⟩, c _ H1 st1 k1.wd ⟨vs, _, ?_, fun H' sm => seqT sm q, w⟩⟩
    rw [← w.length]
    exact walk_tup
  · cases g1
theorem di_list (h : PE X e (tD X.K F)) : PI X tg e (tI X.K (iListF F)) := PI.imp (pi_list h) fun σ H R ⟨W, H0, O, ρ, s, ds, s', k, h, c⟩ => by
  obtain ⟨⟨v1, s1⟩, h1, g1⟩ := Option.bind_eq_some_iff.mp h
  refine tD.go k h1 fun vx H1 st1 k1 r1 => ?_
  split at g1
  · rename_i es e1
    cases g1
    simp only at e1
    subst e1
    obtain ⟨a, vs, e, q, w⟩ := r1
    refine ⟨a, e, ⟨vs, sqL_unhid q⟩, c _ H1 st1 k1.wd ⟨vs, _, ?_, fun H' sm => sm.seq q, w⟩⟩
    rw [← w.length]
    exact walk_list
  · cases g1
theorem charV_rep {K : PySem.W.Frag} {Z : Hp} : ∀ (cs : List Nat), RepL K Z (cs.map fun c => V.str ⟨#[c]⟩) (cs.map fun c => D.str ⟨#[c]⟩)
  | [] => .nil
  | c :: cs => .cons (.str _) (charV_rep cs)
theorem di_str (h : PE X e (tD X.K F)) : PI X tg e (tI X.K (iStrF F)) := PI.imp (pi_str h) fun σ H R ⟨W, H0, O, ρ, s, ds, s', k, h, c⟩ => by
  obtain ⟨⟨v1, s1⟩, h1, g1⟩ := Option.bind_eq_some_iff.mp h
  refine tD.go k h1 fun vx H1 st1 k1 r1 => ?_
  split at g1
  · rename_i z e1
    cases g1
    simp only at e1
    subst e1
    refine ⟨z, Rep.str_inv r1, c _ H1 st1 k1.wd ⟨z.cps.toList.map fun c => V.str ⟨#[c]⟩, fun _ => True, ?_, fun _ _ => trivial, charV_rep _⟩⟩
    rw [List.length_map, Array.length_toList]
    refine walk_str.mono (fun _ h => h) fun i H x H' hi _ y => ⟨y.1, ?_⟩
    obtain ⟨cc, hc, hv⟩ := y.2
    rw [hv]
    simp [hc]
  · cases g1
theorem di_range (hm : X.mg "range" = none) (ha : PE X a (tD X.K A)) (hg : Gl X "range" := by rfl) (hs : starEach [a] X.env = [(false, eval a X.env)] := by rfl) : PI X tg (.Call (.Name "range" p) [a] [] pos) (tI X.K (iRngF A)) :=
  PI.imp (pi_range1 hg hm (pa_cons ha pa_nil hs) hs) fun σ H R ⟨W, H0, O, ρ, s, ds, s', k, h, c⟩ => by
    obtain ⟨⟨v1, s1⟩, h1, g1⟩ := Option.bind_eq_some_iff.mp h
    refine tD.go k h1 fun vx H1 st1 k1 r1 => ?_
    split at g1
    · rename_i j e1
      simp only at e1
      subst e1
      split at g1
      · rename_i hj
        cases g1
        refine ⟨j, by rw [Rep.int_inv r1], by omega, by omega, c _ H1 st1 k1.wd ?_⟩
        have := itw_range (W := W) (K := X.K) (O := O) (H := H1) (i := 0) (j := j)
        rw [Int.sub_zero] at this
        exact this
      · cases g1
    · cases g1
theorem di_range2 (hm : X.mg "range" = none) (ha : PE X a (tD X.K A)) (hb : PE X b (tD X.K B)) (hg : Gl X "range" := by rfl) (hs : starEach [a, b] X.env = [(false, eval a X.env), (false, eval b X.env)] := by rfl) (hs2 : starEach [b] X.env = [(false, eval b X.env)] := by rfl) (hs3 : starEach [a, b] X.env = (false, eval a X.env) :: starEach [b] X.env := by rfl) :
    PI X tg (.Call (.Name "range" p) [a, b] [] pos) (tI X.K (iRngF2 A B)) :=
  PI.imp (pi_range2 hg hm (pa_cons ha (pa_cons hb pa_nil hs2) hs3) hs hs2) fun σ H R ⟨W, H0, O, ρ, s, ds, s', k, h, c⟩ => by
    obtain ⟨⟨v1, s1⟩, h1, g1⟩ := Option.bind_eq_some_iff.mp h
    obtain ⟨⟨v2, s2⟩, h2, g2⟩ := Option.bind_eq_some_iff.mp g1
    refine tD.go k h1 fun vx H1 st1 k1 r1 => tD.go k1 h2 fun vy H2 st2 k2 r2 => ?_
    split at g2
    · rename_i i j e1 e2
      simp only at e1 e2
      subst e1; subst e2
      split at g2
      · rename_i hj
        cases g2
        exact ⟨i, j, by rw [Rep.int_inv r1, Rep.int_inv r2], ⟨by omega, by omega, by omega, by omega⟩, c _ H2 (st1.trans st2) k2.wd itw_range⟩
      · cases g2
    · cases g2
end

/-! ## targets -/
inductive Tgt where
  | one (i : Nat) | many (l : List Nat)
def setAll : Env → List Nat → List D → Env
  | ρ, i :: l, d :: ds => setAll (ρ.set i (some (.d d))) l ds
  | ρ, _, _ => ρ
def Tgt.go : Tgt → D → Env → Option Env
  | .one i, d, ρ => some (ρ.set i (some (.d d)))
  | .many l, .tup ds, ρ => if ds.length = l.length then some (setAll ρ l ds) else none
  | .many _, _, _ => none
def Tgt.slots : Tgt → List Nat
  | .one i => [i]
  | .many l => l
def tG (K : PySem.W.Frag) (T : Tgt) : TG := fun v σ H Q => ∃ W H0 O ρ s d ρ', Ok W K H0 O H σ ρ s ∧ Rep K (hid (wl W ++ O) H) v d ∧ T.go d ρ = some ρ' ∧
  ∀ σ', Ok W K H0 O H σ' ρ' s → (∀ i, i ∉ T.slots → σ'[i]? = σ[i]?) → σ'.length = σ.length → Q σ' H
def gsOf : List Nat → TGs
  | [] => gNil
  | i :: l => gCons (gName i) (gsOf l)
section
variable {X : Cx} {tg e : Expr} {es : List Expr} {pos : Pos}
theorem PG.imp {t t' : TG} (h : PG X tg t) (i : ∀ v σ H Q, t' v σ H Q → t v σ H Q) : PG X tg t' := ⟨fun pins s σ H v u Q I r hw => h.run pins s σ H v u Q I r (i _ _ _ _ hw)⟩
theorem dg_one (i : Nat) {x : Str} (hN : X.N.Nodup) (hi : X.N[i]? = some x := by rfl) (hx : Loc X.env.scope x := by first | exact Or.inl rfl | exact Or.inr rfl) (hf : X.fn x = true ∨ X.env.scope.names.lookup x = some .local := by first | exact .inl rfl | exact .inr rfl | assumption) : PG X (.Name x pos) (tG X.K (.one i)) :=
  PG.imp (pg_name hN hi hx hf) fun v σ H Q ⟨W, H0, O, ρ, s, d, ρ', k, r, g, c⟩ => by
    cases g
    refine c _ (k.set (sv := .d d) r i) (fun j hj => ?_) (List.length_set ..)
    rw [List.getElem?_set_ne (fun e => hj (by rw [e]; exact List.mem_singleton.mpr rfl))]
theorem dgs_nil : PGs X [] (gsOf []) := pgs_nil
theorem dgs_cons (i : Nat) {x : Str} {l : List Nat} (hN : X.N.Nodup) (h2 : PGs X es (gsOf l)) (hi : X.N[i]? = some x := by rfl) (hx : Loc X.env.scope x := by first | exact Or.inl rfl | exact Or.inr rfl) (hf : X.fn x = true ∨ X.env.scope.names.lookup x = some .local := by first | exact .inl rfl | exact .inr rfl | assumption)
    (hs : (assignEach (.Name x pos :: es) X.env).map (·.2) = assign (.Name x pos) X.env :: (assignEach es X.env).map (·.2) := by rfl) : PGs X (.Name x pos :: es) (gsOf (i :: l)) := pgs_cons (pg_name hN hi hx hf) h2 hs
theorem gs_go {K : PySem.W.Frag} {W : Option Wd} {H0 H : Hp} {O : List Addr} {s : S} : ∀ (l : List Nat) (vs : List V) (ds : List D) (σ : L2.St) (ρ : Env) (Q : L2.St → Hp → Prop), Ok W K H0 O H σ ρ s → RepL K (hid (wl W ++ O) H) vs ds → ds.length = l.length →
    (∀ σ', Ok W K H0 O H σ' (setAll ρ l ds) s → (∀ i, i ∉ l → σ'[i]? = σ[i]?) → σ'.length = σ.length → Q σ' H) → gsOf l vs σ H Q
  | [], vs, ds, σ, ρ, Q, k, r, e, c => by
    have : ds = [] := List.eq_nil_of_length_eq_zero e
    subst this
    cases r
    exact ⟨rfl, c σ k (fun _ _ => rfl) rfl⟩
  | i :: l, vs, ds, σ, ρ, Q, k, r, e, c => by
    cases r with
    | nil => cases e
    | @cons v vs d ds r1 r2 =>
      refine ⟨v, vs, rfl, gs_go l vs ds (σ.set i (some v)) (ρ.set i (some (.d d))) Q (k.set (sv := .d d) r1 i) r2 (by simpa using e) fun σ' k' f hl => ?_⟩
      refine c σ' k' (fun j hj => ?_) (by rw [hl, List.length_set])
      rw [f j (fun z => hj (List.mem_cons_of_mem _ z)), List.getElem?_set_ne (fun e => hj (by rw [e]; exact List.mem_cons_self))]
theorem dg_many {j : Nat} {l : List Nat} (hc : X.calm = true) (h : PGs X es (gsOf l)) (hn : (assignEach es X.env).length = l.length := by rfl) (hst : (assignEach es X.env).findIdx? (·.1) = none := by rfl) : PG X (.Tuple es j pos) (tG X.K (.many l)) :=
  PG.imp (pg_tup hc h hn hst) fun v σ H Q ⟨W, H0, O, ρ, s, d, ρ', k, r, g, c⟩ => by
    cases d with
    | tup ds =>
      unfold Tgt.go at g
      simp only at g
      split at g
      · rename_i hl
        cases g
        obtain ⟨a, vs, e, q, w⟩ := Rep.tup_inv r
        exact ⟨a, vs, e, sqT_unhid _ _ q, by rw [w.length]; exact hl, gs_go l vs ds σ ρ Q k w hl c⟩
      · cases g
    | _ => cases g
end

/-! ## comprehensions -/
def wipeR (ρ : Env) : List Nat → Env
  | [] => ρ
  | v :: vs => (wipeR ρ vs).set v none
def compD (T : Tgt) (P : BF) (E : EF) (ρ : Env) : List D → S → Option (List D × S)
  | [], s => some ([], s)
  | d :: ds, s => (T.go d ρ).bind fun ρ1 => (P ρ1 s).bind fun p => if p.1 = true then (E ρ1 p.2).bind fun q => match q.1 with
      | .d x => (compD T P E ρ ds q.2).map fun r => (x :: r.1, r.2)
      | _ => none
    else compD T P E ρ ds p.2
def lComp (vs : List Nat) (I : LF) (T : Tgt) (P : BF) (E : EF) : LF := fun ρ s => (I ρ s).bind fun p => if p.1.length ≤ 100000 then compD T P E (wipeR ρ vs) p.1 p.2 else none
def bTrue : BF := fun _ s => some (true, s)
theorem wipeR_length (ρ : Env) : ∀ vs : List Nat, (wipeR ρ vs).length = ρ.length
  | [] => rfl
  | v :: vs => by unfold wipeR; rw [List.length_set, wipeR_length ρ vs]
theorem wipeR_some {ρ : Env} {i : Nat} {sv : SV} : ∀ {vs : List Nat}, (wipeR ρ vs)[i]? = some (some sv) → ρ[i]? = some (some sv) ∧ i ∉ vs
  | [], h => ⟨h, by simp⟩
  | v :: vs, h => by
    unfold wipeR at h
    by_cases hi : v = i
    · subst hi
      by_cases hv : v < (wipeR ρ vs).length
      · rw [List.getElem?_set_self hv] at h; cases h
      · rw [List.getElem?_eq_none (by simpa using hv)] at h; cases h
    · rw [List.getElem?_set_ne hi] at h
      obtain ⟨h1, h2⟩ := wipeR_some h
      exact ⟨h1, by simp only [List.mem_cons, not_or]; exact ⟨fun e => hi e.symm, h2⟩⟩
theorem wipe_in {σ : L2.St} {i : Nat} : ∀ {vs : List Nat}, i ∈ vs → i < σ.length → (wipe σ vs)[i]? = some none
  | v :: vs, h, hl => by
    unfold wipe
    by_cases hi : v = i
    · subst hi
      rw [List.getElem?_set_self (by rw [wipe_length]; exact hl)]
    · rw [List.getElem?_set_ne hi]
      rcases List.mem_cons.mp h with e | e
      · exact absurd e.symm hi
      · exact wipe_in e hl
theorem wipe_eq {σ τ : L2.St} {vs : List Nat} (hl : τ.length = σ.length) (h : ∀ i, i ∉ vs → τ[i]? = σ[i]?) : wipe τ vs = wipe σ vs := by
  refine List.ext_getElem? fun i => ?_
  by_cases hi : i ∈ vs
  · by_cases hb : i < σ.length
    · rw [wipe_in hi hb, wipe_in hi (by rw [hl]; exact hb)]
    · rw [List.getElem?_eq_none (by rw [wipe_length, hl]; omega), List.getElem?_eq_none (by rw [wipe_length]; omega)]
  · rw [wipe_out hi, wipe_out hi, h i hi]
section
variable {K : PySem.W.Frag} {W : Option Wd} {H0 H H' : Hp} {O : List Addr} {σ : L2.St} {ρ : Env} {s s' : S}
theorem Ok.wiped (k : Ok W K H0 O H σ ρ s) (vs : List Nat) : Ok W K H0 O H (wipe σ vs) (wipeR ρ vs) s := k.forget (by rw [wipe_length, wipeR_length, k.len]) fun i sv h => by
  obtain ⟨h1, h2⟩ := wipeR_some h
  exact ⟨h1, wipe_out h2⟩
/-- an object made since H becomes the frame's own -/
theorem Ok.adopt (k : Ok W K H0 O H σ ρ s) (st : Step W H H') (w : World W H' s') {p : Addr} (n : H p = none) (q : (∃ vs, H' p = some (.lst vs)) ∨ ∃ kvs, H' p = some (.dK kvs)) : Ok W K H0 (p :: O) H' σ ρ s' := by
  obtain ⟨f1, f2, f3⟩ := k.fresh n
  have k' := k.move st w
  have hs : Same (hid (wl W ++ O) H) (hid (wl W ++ p :: O) H') := fun a u e => by
    obtain ⟨q, e⟩ := hid_some e
    have ne : a ≠ p := ne_of_none e n
    refine hid_mk (fun z => ?_) (st.at (fun z => q (List.mem_append_left _ z)) e)
    rcases List.mem_append.mp z with z | z
    · exact q (List.mem_append_left _ z)
    · rcases List.mem_cons.mp z with z | z
      · exact ne z
      · exact q (List.mem_append_right _ z)
  refine ⟨w, k'.step, fun a ha => ?_, fun w hw => ?_, fun a ha => ?_, k.len, fun i sv hi => ?_, k.dis⟩
  · rcases List.mem_cons.mp ha with z | z
    · subst z; exact f1
    · exact k.own0 a z
  · obtain ⟨pos, h1, h2, _⟩ := k.wd w hw
    obtain ⟨n1, n2⟩ := k.ownW w hw
    refine ⟨fun z => ?_, fun z => ?_⟩
    · rcases List.mem_cons.mp z with z | z
      · rw [z, n] at h1; cases h1
      · exact n1 z
    · rcases List.mem_cons.mp z with z | z
      · rw [z, n] at h2; cases h2
      · exact n2 z
  · rcases List.mem_cons.mp ha with z | z
    · subst z; exact q
    · exact k'.ownC a z
  · obtain ⟨v, h1, h2⟩ := k.slot i sv hi
    refine ⟨v, h1, ?_⟩
    cases sv with
    | own ds =>
      obtain ⟨a, vs, q1, q2, q3, q4⟩ := h2
      exact ⟨a, vs, q1, List.mem_cons_of_mem _ q2, st.at (k.ownNot q2) q3, q4.same hs⟩
    | ownm kvs =>
      obtain ⟨a, q1, q2, q3⟩ := h2
      exact ⟨a, q1, List.mem_cons_of_mem _ q2, st.at (k.ownNot q2) q3⟩
    | _ => exact SlotOk.of (RepSV.same hs (SlotOk.ro rfl h2))
theorem Ok.notSlot (k : Ok W K H0 O H σ ρ s) {p : Addr} (n : p ∉ O) : ∀ (j : Nat) (sj : SV), ρ[j]? = some (some sj) → sj.isOwn = true → ¬ σ[j]? = some (some (.ref p)) := fun j sj hj oj hs => by
  obtain ⟨v, h1, h2⟩ := k.slot j sj hj
  rw [hs] at h1
  cases h1
  cases sj with
  | own ds =>
    obtain ⟨a, vs, q1, q2, _⟩ := h2
    cases q1
    exact n q2
  | ownm kvs =>
    obtain ⟨a, q1, q2, _⟩ := h2
    cases q1
    exact n q2
  | _ => cases oj
theorem tI.go {I : LF} {ds : List D} {R : It → Hp → Prop} (k : Ok W K H0 O H σ ρ s) (h : I ρ s = some (ds, s')) (c : ∀ J H', Step W H H' → Ok W K H0 O H' σ ρ s' → ItW W K O H' J ds → R J H') : tI K I σ H R :=
  ⟨W, H0, O, ρ, s, ds, s', k, h, fun J H' e w q => c J H' e (k.move e w) q⟩
theorem rd_lc {vs : List Nat} {I : LF} {T : Tgt} {P : BF} {E : EF} (hT : ∀ i ∈ T.slots, i ∈ vs) {Q : VK} : tL K (lComp vs I T P E) σ H Q → tLc (tI K I) (tG K T) (Sb.tB K P) (tD K E) vs σ H Q := fun ⟨W, H0, O, ρ, s, tot, s', k, h, c⟩ => by
  obtain ⟨⟨ds, s1⟩, h1, g1⟩ := Option.bind_eq_some_iff.mp h
  split at g1
  · rename_i hlen
    have hlen : ds.length ≤ 100000 := hlen
    refine tI.go k h1 fun J H1 st1 k1 itw Dd hD => ?_
    obtain ⟨us, G, walk, hG, rep⟩ := itw
    obtain ⟨f1, f2, f3⟩ := k1.fresh hD
    have nd := k1.notSlot f3
    have ndw : ∀ (j : Nat) (sj : SV), (wipeR ρ vs)[j]? = some (some sj) → sj.isOwn = true → ¬ (wipe σ vs)[j]? = some (some (.ref Dd)) := (k1.wiped vs).notSlot f3
    refine lc_it walk (fun i H' => ∃ (av : List V) (ad rest : List D) (si : S), Ok W K H0 (Dd :: O) H' (wipe σ vs) (wipeR ρ vs) si ∧ Step W H1 H' ∧ H' Dd = some (.lst av) ∧ RepL K (hid (wl W ++ Dd :: O) H') av ad ∧ ad.length ≤ i ∧ compD T P E (wipeR ρ vs) (ds.drop i) si = some (rest, s') ∧ ad ++ rest = tot) ?_ ?_ ?_ ?_
    · exact ⟨[], [], tot, s1, (k1.wiped vs).newOwn hD (.inl ⟨_, rfl⟩), Step.new hD, upd_same, .nil, Nat.le_refl _, g1, rfl⟩
    · intro i H' _ ⟨av, ad, rest, si, ki, sti, hDi, ri, _⟩
      refine hG H' fun a o e => ?_
      obtain ⟨q, e⟩ := hid_some e
      exact sti.at (fun z => q (List.mem_append_left _ z)) e
    · intro i x H' H'' hi ⟨av, ad, rest, si, ki, sti, hDi, ri, hl, hc, ht⟩ ⟨eH, hx⟩
      subst eH
      obtain ⟨d, hd, rd⟩ := rep.getV hx
      have hdr : ds.drop i = d :: ds.drop (i + 1) := by
        rw [List.drop_eq_getElem_cons hi]
        have : ds[i] = d := by
          rw [List.getElem?_eq_getElem hi] at hd
          exact Option.some.inj hd
        rw [this]
      rw [hdr] at hc
      unfold compD at hc
      obtain ⟨ρ1, hg, hc⟩ := Option.bind_eq_some_iff.mp hc
      obtain ⟨⟨b, s2⟩, hp, hc⟩ := Option.bind_eq_some_iff.mp hc
      have rx : Rep K (hid (wl W ++ Dd :: O) H'') x d := ki.hide ((rd.same hid_wl).same sti)
      refine ⟨W, H0, Dd :: O, wipeR ρ vs, si, d, ρ1, ki, rx, hg, fun σ2 k2 fr hl2 => ⟨?_, ?_⟩⟩
      · rw [wipe_eq (σ := wipe σ vs) hl2 (fun j hj => fr j fun z => hj (hT j z))]
        refine wipe_eq (wipe_length _ _) fun j hj => wipe_out hj
      · refine tB.go k2 hp fun H3 st3 k3 => ?_
        have kw3 := ki.move st3 k3.wd
        have hD3 : H3 Dd = some (.lst av) := st3.at f2 hDi
        cases b with
        | true =>
          refine iteT ?_
          rw [if_pos rfl] at hc
          obtain ⟨⟨v, s3⟩, he, hc⟩ := Option.bind_eq_some_iff.mp hc
          refine tD.go k3 he fun y H4 st4 k4 r4 => ?_
          have hD4 : H4 Dd = some (.lst av) := st4.at f2 hD3
          cases v with
          | d z =>
            obtain ⟨⟨rest', s4⟩, hr, e4⟩ := Option.map_eq_some_iff.mp hc
            cases e4
            have kw4 := kw3.move st4 k4.wd
            have ra : RepL K (hid (wl W ++ Dd :: O) H4) av ad := ri.same ((st3.trans st4).hid _)
            have hh : hid (wl W ++ Dd :: O) (upd H4 Dd (.lst (av ++ [y]))) = hid (wl W ++ Dd :: O) H4 := hid_upd (List.mem_append_right _ List.mem_cons_self)
            refine ⟨av, hD4, ?_, av ++ [y], ad ++ [z], rest', s3, kw4.mutFree List.mem_cons_self ndw (.inl ⟨_, rfl⟩), ?_, upd_same, ?_, ?_, hr, ?_⟩
            · rw [ra.length]
              exact Nat.lt_of_le_of_lt (show ad.length ≤ 100000 by omega) (by decide)
            · intro a o e
              have ne : a ≠ Dd := fun z => by rw [z, hid_out f2, hD] at e; cases e
              have := ((sti.trans st3).trans st4) a o e
              obtain ⟨q, e'⟩ := hid_some this
              exact hid_mk q (by rw [upd_ne ne]; exact e')
            · rw [hh]
              exact ra.append (.cons r4 .nil)
            · rw [List.length_append]
              exact Nat.succ_le_succ hl
            · rw [List.append_assoc]; exact ht
          | _ => cases hc
        | false =>
          refine iteF ?_
          rw [if_neg Bool.false_ne_true] at hc
          exact ⟨av, ad, rest, s2, kw3, sti.trans st3, hD3, ri.same (st3.hid _), Nat.le_succ_of_le hl, hc, ht⟩
    · intro H' ⟨av, ad, rest, si, ki, sti, hDi, ri, hl, hc, ht⟩
      rw [List.drop_of_length_le (Nat.le_refl _)] at hc
      cases hc
      rw [List.append_nil] at ht
      subst ht
      refine c Dd av H' (st1.trans sti) ki.wd (back_none st1 k1.wd hD) hDi (ri.same (hid_sub fun a ha => ?_))
      rcases List.mem_append.mp ha with z | z
      · exact List.mem_append_left _ z
      · exact List.mem_append_right _ (List.mem_cons_of_mem _ z)
  · cases g1
end
section
variable {X : Cx} {elt tg iter : Expr} {ifs : List Expr} {scope : Scope} {own : List (Str × Nat)} {pos : Pos} {I : LF} {T : Tgt} {P : BF} {E : EF}
theorem PTs.imp {t t' : TT} (h : PTs X ifs t) (i : ∀ σ H Q, t' σ H Q → t σ H Q) : PTs X ifs t' := ⟨fun pins s σ H Q I hw => h.run pins s σ H Q I (i _ _ _ hw)⟩
theorem dts_nil : PTs X [] (Sb.tB X.K bTrue) := PTs.imp pts_nil fun σ H Q ⟨W, H0, O, ρ, s, b, s', k, h, c⟩ => by
  cases h
  exact c H (Step.refl _ _) k.wd
theorem dts_one {e : Expr} (h : PT X e (Sb.tB X.K P)) : PTs X [e] (Sb.tB X.K P) := pts_one h
theorem dl_comp (own : List (Str × Nat)) (hc : X.calm = true) (hN : X.N.Nodup) (hi : PI X tg iter (tI X.K I)) (ok : BlkOk X.N X.env.scope scope own)
    (hg : ∀ (s : Shared) (H : Hp) (C : Addr) (cl : List (Str × Addr)) (fp : List Addr), PG (X.blk s H scope (compEnvC scope cl C X.env) fp) tg (tG X.K T)) (ht : ∀ (s : Shared) (H : Hp) (C : Addr) (cl : List (Str × Addr)) (fp : List Addr), PTs (X.blk s H scope (compEnvC scope cl C X.env) fp) ifs (Sb.tB X.K P))
    (he : ∀ (s : Shared) (H : Hp) (C : Addr) (cl : List (Str × Addr)) (fp : List Addr), PE (X.blk s H scope (compEnvC scope cl C X.env) fp) elt (tD X.K E)) (hT : ∀ i ∈ T.slots, i ∈ own.map (·.2) := by decide) (hs : ∀ x, foldedSetIterable iter X.env x = pure x := by intro _; rfl) :
    PE X (.ListComp elt [⟨tg, iter, ifs, 0⟩] scope pos) (tL X.K (lComp (own.map (·.2)) I T P E)) := PE.imp (pe_lc hc hN hi ok hg ht he hs) fun _ _ _ => rd_lc hT
end
end Sb

set_option Elab.async false
set_option linter.all false
set_option maxRecDepth 100000
set_option maxHeartbeats 4000000
namespace Sb
open PySem PySem.Spec PyProof.Rows L2

/-! ## statements -/
inductive Out where
  | nx (ρ : Env) (s : S) | rt (sv : SV) (s : S)
abbrev SF := Env → S → Option Out
def Keep (W : Option Wd) (O : List Addr) (H : Hp) (O' : List Addr) (H' : Hp) : Prop := Same (hid (wl W ++ O) H) (hid (wl W ++ O') H')
def Post (W : Option Wd) (K : PySem.W.Frag) (H0 : Hp) (O : List Addr) (H : Hp) (Z : Ends) : Out → Prop
  | .nx ρ' s' => ∀ O' H' σ', Ok W K H0 O' H' σ' ρ' s' → Keep W O H O' H' → Z.nx σ' H'
  | .rt sv s' => ∀ v H', Step W H0 H' → World W H' s' → RetOk W K H0 H' v sv → Z.rt v H'
def tS (K : PySem.W.Frag) (G : SF) : TS := fun Z σ H => ∃ W H0 O ρ s o, Ok W K H0 O H σ ρ s ∧ G ρ s = some o ∧ Post W K H0 O H Z o
def sNil : SF := fun ρ s => some (.nx ρ s)
def sSeq (a b : SF) : SF := fun ρ s => (a ρ s).bind fun o => match o with
  | .nx ρ' s' => b ρ' s'
  | .rt v s' => some (.rt v s')
def sSet (i : Nat) (F : EF) : SF := fun ρ s => (F ρ s).map fun p => .nx (ρ.set i (some p.1)) p.2
/-- a list of the frame's own -/
def sOwn (i : Nat) (L : LF) : SF := fun ρ s => (L ρ s).map fun p => .nx (ρ.set i (some (.own p.1))) p.2
def sUnp (l : List Nat) (F : EF) : SF := fun ρ s => (F ρ s).bind fun p => match p.1 with
  | .d x => (Tgt.go (.many l) x ρ).map fun ρ' => .nx ρ' p.2
  | _ => none
def sApp (i : Nat) (F : EF) : SF := fun ρ s => (F ρ s).bind fun p => match ρ[i]?, p.1 with
  | some (some (.own ds)), .d x => if ds.length ≤ 100000 then some (.nx (ρ.set i (some (.own (ds ++ [x])))) p.2) else none
  | _, _ => none
def sExt (i : Nat) (L : LF) : SF := fun ρ s => (L ρ s).bind fun p => match ρ[i]? with
  | some (some (.own ds)) => if ds.length + p.1.length ≤ 100000 then some (.nx (ρ.set i (some (.own (ds ++ p.1)))) p.2) else none
  | _ => none
def sAug (i : Nat) (F : EF) : SF := fun ρ s => match ρ[i]? with
  | some (some (.d x)) => (F ρ s).bind fun p => match p.1 with
    | .d y => (fAdd x y).map fun z => .nx (ρ.set i (some (.d z))) p.2
    | _ => none
  | _ => none
def sDict (i : Nat) : SF := fun ρ s => some (.nx (ρ.set i (some (.ownm []))) s)
def sPut (i : Nat) (A B : EF) : SF := fun ρ s => (B ρ s).bind fun p => (A ρ p.2).bind fun q => match ρ[i]?, q.1, p.1 with
  | some (some (.ownm kvs)), .d (.str n), .d (.int z) => if kvs.length ≤ 100000 then some (.nx (ρ.set i (some (.ownm (putS kvs n z)))) q.2) else none
  | _, _, _ => none
def sIf (P : BF) (a b : SF) : SF := fun ρ s => (P ρ s).bind fun p => if p.1 = true then a ρ p.2 else b ρ p.2
def forD (T : Tgt) (b : SF) : List D → Env → S → Option Out
  | [], ρ, s => some (.nx ρ s)
  | d :: ds, ρ, s => (T.go d ρ).bind fun ρ1 => (b ρ1 s).bind fun o => match o with
    | .nx ρ2 s2 => forD T b ds ρ2 s2
    | .rt v s2 => some (.rt v s2)
def sFor (T : Tgt) (I : LF) (b : SF) : SF := fun ρ s => (I ρ s).bind fun p => forD T b p.1 ρ p.2
def sRet (F : EF) : SF := fun ρ s => (F ρ s).bind fun p => match p.1 with
  | .d x => some (.rt (.d x) p.2)
  | _ => none
def sRetL (L : LF) : SF := fun ρ s => (L ρ s).map fun p => .rt (.r p.1) p.2
def sRetO (i : Nat) : SF := fun ρ s => match ρ[i]? with
  | some (some (.own ds)) => some (.rt (.r ds) s)
  | some (some (.ownm kvs)) => some (.rt (.n kvs) s)
  | _ => none
def sRetP (i j : Nat) : SF := fun ρ s => match ρ[i]?, ρ[j]? with
  | some (some (.own xs)), some (some (.own ys)) => if i = j then none else (intsOf xs).bind fun l => (intsOf ys).map fun m => .rt (.p l m) s
  | _, _ => none

section
variable {X : Cx} {st : Stmt} {sts : List Stmt}
theorem PS.imp {t t' : TS} (h : PS X st t) (i : ∀ Z σ H, t' Z σ H → t Z σ H) : PS X st t' := ⟨fun pins s σ H Z I hw => h.run pins s σ H Z I (i _ _ _ hw)⟩
theorem PSs.imp {t t' : TS} (h : PSs X sts t) (i : ∀ Z σ H, t' Z σ H → t Z σ H) : PSs X sts t' := ⟨fun pins s σ H Z I hw => h.run pins s σ H Z I (i _ _ _ hw)⟩
end
section
variable {K : PySem.W.Frag} {W : Option Wd} {H0 H H' : Hp} {O O' : List Addr} {σ : L2.St} {ρ : Env} {s s' : S} {Z : Ends}
theorem Keep.refl : Keep W O H O H := Same.refl _
theorem Keep.of_step (e : Step W H H') : Keep W O H O H' := e.hid O
theorem Post.next {o : Out} {H1 : Hp} {O1 : List Addr} (p : Post W K H0 O H Z o) (k : Keep W O H O1 H1) : Post W K H0 O1 H1 Z o := by
  cases o with
  | nx ρ' s' => exact fun O' H' σ' ok kp => p O' H' σ' ok (Same.trans k kp)
  | rt sv s' => exact p
theorem tS.go {G : SF} {o : Out} {Z' : Ends} (k : Ok W K H0 O H σ ρ s) (h : G ρ s = some o) (p : Post W K H0 O H Z' o) : tS K G Z' σ H := ⟨W, H0, O, ρ, s, o, k, h, p⟩
theorem Ok.adopt_keep (k : Ok W K H0 O H σ ρ s) (st : Step W H H') {p : Addr} (n : H p = none) : Keep W O H (p :: O) H' := fun a u e => by
  obtain ⟨q, e⟩ := hid_some e
  refine hid_mk (fun z => ?_) (st.at (fun z => q (List.mem_append_left _ z)) e)
  rcases List.mem_append.mp z with z | z
  · exact q (List.mem_append_left _ z)
  · rcases List.mem_cons.mp z with z | z
    · exact ne_of_none e n z
    · exact q (List.mem_append_right _ z)
theorem Keep.upd {p : Addr} {o : HO} (h : p ∈ O) : Keep W O H O (L2.upd H p o) := by
  unfold Keep
  rw [hid_upd (List.mem_append_right _ h)]
  exact Same.refl _
end
section
variable {X : Cx} {st : Stmt} {sts a b : List Stmt} {e e2 : Expr} {es : List Expr} {F A B : EF} {L I : LF} {P : BF} {G G2 : SF} {T : Tgt} {pos pos' pos2 : Pos}
theorem dss_nil : PSs X [] (tS X.K sNil) := PSs.imp pss_nil fun Z σ H ⟨W, H0, O, ρ, s, o, k, h, p⟩ => by
  cases h
  exact p O H σ k Keep.refl
theorem dss_one (h : PS X st (tS X.K G)) : PSs X [st] (tS X.K G) := pss_one h
theorem dss_cons (h1 : PS X st (tS X.K G)) (h2 : PSs X sts (tS X.K G2)) : PSs X (st :: sts) (tS X.K (sSeq G G2)) := PSs.imp (pss_cons h1 h2) fun Z σ H ⟨W, H0, O, ρ, s, o, k, h, p⟩ => by
  obtain ⟨o1, h1, g1⟩ := Option.bind_eq_some_iff.mp h
  refine tS.go k h1 ?_
  cases o1 with
  | nx ρ' s' => exact fun O' H' σ' ok kp => tS.go ok g1 (p.next kp)
  | rt sv s' =>
    cases g1
    exact p
theorem ds_set (i : Nat) {x : Str} (hN : X.N.Nodup) (he : PE X e (tD X.K F)) (hi : X.N[i]? = some x := by rfl) (hx : Loc X.env.scope x := by first | exact Or.inl rfl | exact Or.inr rfl) (hs : swapsWith e (some (.Name x pos')) pos.line X.env = pure false := by rfl) (hf : X.fn x = true ∨ X.env.scope.names.lookup x = some .local := by first | exact .inl rfl | exact .inr rfl | assumption) :
    PS X (.Assign [.Name x pos'] e pos) (tS X.K (sSet i F)) := PS.imp (ps_set hN hi hx he hs hf) fun Z σ H ⟨W, H0, O, ρ, s, o, k, h, p⟩ => by
  obtain ⟨⟨sv, s1⟩, h1, g1⟩ := Option.map_eq_some_iff.mp h
  cases g1
  exact tD.go k h1 fun v H1 st1 k1 r1 => p O H1 _ (k1.set r1 i) (.of_step st1)
theorem rd_own {K : PySem.W.Frag} {i : Nat} {L : LF} {Z : Ends} {σ : L2.St} {H : Hp} : tS K (sOwn i L) Z σ H → tAsg (tL K L) (gName i) Z σ H := fun ⟨W, H0, O, ρ, s, o, k, h, p⟩ => by
  obtain ⟨⟨ds, s1⟩, h1, g1⟩ := Option.map_eq_some_iff.mp h
  cases g1
  refine tL.go k h1 fun a vs H1 st1 k1 n q r => ?_
  have kk := k.adopt st1 k1.wd n (.inl ⟨vs, q⟩)
  have na := (k.fresh n).2.2
  refine p (a :: O) H1 _ (kk.setOwn (sv := .own ds) List.mem_cons_self ⟨a, vs, rfl, List.mem_cons_self, q, kk.hideL (r.same hid_wl)⟩ (fun j sj hj oj hs => ?_) i) (k.adopt_keep st1 n)
  exact k.notSlot na j sj hj oj hs
theorem ds_own (i : Nat) {x : Str} (hN : X.N.Nodup) (he : PE X e (tL X.K L)) (hi : X.N[i]? = some x := by rfl) (hx : Loc X.env.scope x := by first | exact Or.inl rfl | exact Or.inr rfl) (hs : swapsWith e (some (.Name x pos')) pos.line X.env = pure false := by rfl) (hf : X.fn x = true ∨ X.env.scope.names.lookup x = some .local := by first | exact .inl rfl | exact .inr rfl | assumption) :
    PS X (.Assign [.Name x pos'] e pos) (tS X.K (sOwn i L)) := PS.imp (ps_set hN hi hx he hs hf) fun _ _ _ => rd_own
/-- name = [..], read only -/
theorem rd_setL {K : PySem.W.Frag} {i : Nat} {L : LF} {Z : Ends} {σ : L2.St} {H : Hp} : tS K (sSet i (dOfL L)) Z σ H → tAsg (tL K L) (gName i) Z σ H := fun ⟨W, H0, O, ρ, s, o, k, h, p⟩ => by
  obtain ⟨⟨sv, s1⟩, h1, g1⟩ := Option.map_eq_some_iff.mp h
  cases g1
  obtain ⟨⟨ds, s2⟩, h2, g2⟩ := Option.map_eq_some_iff.mp h1
  cases g2
  refine tL.go k h2 fun a vs H1 st1 k1 n q r => p O H1 _ (k1.set (sv := .r ds) ⟨a, vs, rfl, SqL.of (hid_mk (fun z => ?_) q), r⟩ i) (.of_step st1)
  obtain ⟨f1, f2, f3⟩ := k.fresh n
  rcases List.mem_append.mp z with z | z
  · exact f2 z
  · exact f3 z
theorem ds_setL (i : Nat) {x : Str} (hN : X.N.Nodup) (he : PE X e (tL X.K L)) (hi : X.N[i]? = some x := by rfl) (hx : Loc X.env.scope x := by first | exact Or.inl rfl | exact Or.inr rfl) (hs : swapsWith e (some (.Name x pos')) pos.line X.env = pure false := by rfl) (hf : X.fn x = true ∨ X.env.scope.names.lookup x = some .local := by first | exact .inl rfl | exact .inr rfl | assumption) :
    PS X (.Assign [.Name x pos'] e pos) (tS X.K (sSet i (dOfL L))) := PS.imp (ps_set hN hi hx he hs hf) fun _ _ _ => rd_setL
/-- name = [e for ..] -/
theorem ds_setLc (i : Nat) {x : Str} {elt tg iter : Expr} {ifs : List Expr} {scope : Scope} {E : EF} (own : List (Str × Nat)) (hc : X.calm = true) (hN : X.N.Nodup) (hi : PI X tg iter (tI X.K I)) (ok : BlkOk X.N X.env.scope scope own)
    (hg : ∀ (s : Shared) (H : Hp) (C : Addr) (cl : List (Str × Addr)) (fp : List Addr), PG (X.blk s H scope (compEnvC scope cl C X.env) fp) tg (tG X.K T)) (ht : ∀ (s : Shared) (H : Hp) (C : Addr) (cl : List (Str × Addr)) (fp : List Addr), PTs (X.blk s H scope (compEnvC scope cl C X.env) fp) ifs (Sb.tB X.K P))
    (he : ∀ (s : Shared) (H : Hp) (C : Addr) (cl : List (Str × Addr)) (fp : List Addr), PE (X.blk s H scope (compEnvC scope cl C X.env) fp) elt (tD X.K E)) (hy : X.N[i]? = some x := by rfl) (hyl : X.env.scope.names.lookup x = some .local := by rfl)
    (hsw : swapsWith (.ListComp elt [⟨tg, iter, ifs, 0⟩] scope pos2) (some (.Name x pos')) pos.line X.env = pure true := by exact sw_true rfl rfl rfl (by decide +kernel)) (hT : ∀ i ∈ T.slots, i ∈ own.map (·.2) := by decide) (hs : ∀ x, foldedSetIterable iter X.env x = pure x := by intro _; rfl) :
    PS X (.Assign [.Name x pos'] (.ListComp elt [⟨tg, iter, ifs, 0⟩] scope pos2) pos) (tS X.K (sSet i (dOfL (lComp (own.map (·.2)) I T P E)))) :=
  PS.imp (ps_setLc hc hN hy hyl hsw hi ok hg ht he hs) fun Z σ H h => (rd_lc hT (rd_setL h) : tLc _ _ _ _ _ σ H fun x H1 => gName i x σ H1 Z.nx)
theorem ds_unp {l : List Nat} {tg : Expr} (he : PE X e (tD X.K F)) (hg : PG X tg (tG X.K (.many l))) (hs : swapsWithSole [tg] e pos.line X.env = pure false := by rfl) (hw : swappedStores [tg] e X.env = pure none := by rfl)
    (h1 : (assignEach [tg] X.env).map (·.2) = [assign tg X.env] := by rfl) : PS X (.Assign [tg] e pos) (tS X.K (sUnp l F)) := PS.imp (ps_asg he hg hs hw h1) fun Z σ H ⟨W, H0, O, ρ, s, o, k, h, p⟩ => by
  obtain ⟨⟨sv, s1⟩, h1, g1⟩ := Option.bind_eq_some_iff.mp h
  cases sv with
  | d x =>
    obtain ⟨ρ', h2, g2⟩ := Option.map_eq_some_iff.mp g1
    cases g2
    exact tD.go k h1 fun v H1 st1 k1 r1 => ⟨W, H0, O, ρ, s1, x, ρ', k1, r1, h2, fun σ' k' _ _ => p O H1 σ' k' (.of_step st1)⟩
  | _ => cases g1
theorem ds_app (i : Nat) {x : Str} {p1 p2 p3 : Pos} (he : PE X e (tD X.K F)) (hN : X.N[i]? = some x := by rfl) (hv : Vis X.env.scope x := by first | exact Or.inl rfl | exact Or.inr (Or.inl rfl) | exact Or.inr (Or.inr rfl)) (hd : (x == ("__debug__" : Str)) = false := by decide)
    (hcd : (x == ("__classdict__" : Str)) = false := by decide)
    (hbase : attributeBase (.Name x p1) "append" X.env (eval (.Name x p1) X.env) = eval (.Name x p1) X.env := by rfl)
    (hfew : ((backTo p3 (starEach (e :: []) X.env)).all (fun x => !x.1) && (backToKw p3 (keywordEach [] X.env)).all (fun x => x.1.isSome)
      && decide ((e :: ([] : List Expr)).length + ([] : List Keyword).length + (if ([] : List Keyword).isEmpty then 0 else 1) < 30)) = true := by rfl)
    (hline : (p2.endLine == p3.line) = true := by rfl) (hs : starEach (e :: []) X.env = (false, eval e X.env) :: starEach [] X.env := by rfl) (hplain : (backTo p3 (starEach [] X.env)).any (·.1) = false := by rfl)
    (hsw : swapsWith (.Call (.Attribute (.Name x p1) "append" p2) [e] [] p3) none pos.line X.env = pure false := by rfl) :
    PS X (.Expr (.Call (.Attribute (.Name x p1) "append" p2) [e] [] p3) pos) (tS X.K (sApp i F)) :=
  PS.imp (ps_expr (pe_bm PySem.F.plainAttrs_list PySem.F.slot_list_append PySem.F.type_list_append mt_append (pe_var hN hv hd hcd) (pa_cons he pa_nil hs) hbase hfew hline hs hplain) hsw) fun Z σ H ⟨W, H0, O, ρ, s, o, k, h, p⟩ => by
    obtain ⟨⟨sv, s1⟩, h1, g1⟩ := Option.bind_eq_some_iff.mp h
    split at g1
    · rename_i ds y hi e1
      simp only at e1
      subst e1
      split at g1
      · rename_i hl
        cases g1
        obtain ⟨v, q1, q2⟩ := k.slot i _ hi
        obtain ⟨a, vs, e1, m, q3, q4⟩ := q2
        subst e1
        refine ⟨.ref a, q1, .inl ⟨rfl, _, SqL.of q3⟩, tD.go k h1 fun u H1 st1 k1 r1 => ?_⟩
        have q5 : H1 a = some (.lst vs) := st1.at (k.ownNot m) q3
        have q6 := q4.same (st1.hid O)
        refine ⟨a, vs, u, rfl, rfl, q5, ?_, ?_⟩
        · rw [q4.length]
          exact Nat.lt_of_le_of_lt hl (by decide)
        · refine p O _ σ (k1.mutOwn hi rfl q1 m (.inl ⟨_, rfl⟩) ⟨a, _, rfl, m, upd_same, ?_⟩ rfl) (Same.trans (Keep.of_step st1) (Keep.upd m))
          rw [hid_upd (List.mem_append_right _ m)]
          exact q6.append (.cons r1 .nil)
      · cases g1
    · cases g1
theorem ds_ext (i : Nat) {x : Str} {p1 p2 p3 : Pos} (he : PE X e (tL X.K L)) (hN : X.N[i]? = some x := by rfl) (hv : Vis X.env.scope x := by first | exact Or.inl rfl | exact Or.inr (Or.inl rfl) | exact Or.inr (Or.inr rfl)) (hd : (x == ("__debug__" : Str)) = false := by decide)
    (hcd : (x == ("__classdict__" : Str)) = false := by decide)
    (hbase : attributeBase (.Name x p1) "extend" X.env (eval (.Name x p1) X.env) = eval (.Name x p1) X.env := by rfl)
    (hfew : ((backTo p3 (starEach (e :: []) X.env)).all (fun x => !x.1) && (backToKw p3 (keywordEach [] X.env)).all (fun x => x.1.isSome)
      && decide ((e :: ([] : List Expr)).length + ([] : List Keyword).length + (if ([] : List Keyword).isEmpty then 0 else 1) < 30)) = true := by rfl)
    (hline : (p2.endLine == p3.line) = true := by rfl) (hs : starEach (e :: []) X.env = (false, eval e X.env) :: starEach [] X.env := by rfl) (hplain : (backTo p3 (starEach [] X.env)).any (·.1) = false := by rfl)
    (hsw : swapsWith (.Call (.Attribute (.Name x p1) "extend" p2) [e] [] p3) none pos.line X.env = pure false := by rfl) :
    PS X (.Expr (.Call (.Attribute (.Name x p1) "extend" p2) [e] [] p3) pos) (tS X.K (sExt i L)) :=
  PS.imp (ps_expr (pe_bm PySem.F.plainAttrs_list PySem.F.slot_list_extend PySem.F.type_list_extend mt_extend (pe_var hN hv hd hcd) (pa_cons he pa_nil hs) hbase hfew hline hs hplain) hsw) fun Z σ H ⟨W, H0, O, ρ, s, o, k, h, p⟩ => by
    obtain ⟨⟨es, s1⟩, h1, g1⟩ := Option.bind_eq_some_iff.mp h
    split at g1
    · rename_i ds hi
      split at g1
      · rename_i hl
        cases g1
        obtain ⟨v, q1, q2⟩ := k.slot i _ hi
        obtain ⟨a, vs, e1, m, q3, q4⟩ := q2
        subst e1
        refine ⟨.ref a, q1, .inl ⟨rfl, _, SqL.of q3⟩, tL.go k h1 fun b us H1 st1 k1 nb qb rb => ?_⟩
        have q5 : H1 a = some (.lst vs) := st1.at (k.ownNot m) q3
        have q6 := q4.same (st1.hid O)
        refine ⟨a, b, vs, us, rfl, rfl, q5, qb, ?_, ?_⟩
        · rw [q4.length, rb.length]
          exact Nat.le_trans hl (by decide)
        · refine p O _ σ (k1.mutOwn hi rfl q1 m (.inl ⟨_, rfl⟩) ⟨a, _, rfl, m, upd_same, ?_⟩ rfl) (Same.trans (Keep.of_step st1) (Keep.upd m))
          rw [hid_upd (List.mem_append_right _ m)]
          exact q6.append rb
      · cases g1
    · cases g1
theorem ds_aug (i : Nat) {x : Str} (hN : X.N.Nodup) (he : PE X e (tD X.K F)) (hi : X.N[i]? = some x := by rfl) (hx : Loc X.env.scope x := by first | exact Or.inl rfl | exact Or.inr rfl) (hf : X.fn x = true ∨ X.env.scope.names.lookup x = some .local := by first | exact .inl rfl | exact .inr rfl | assumption) :
    PS X (.AugAssign (.Name x pos') .Add e pos) (tS X.K (sAug i F)) := PS.imp (ps_aug hN hi hx he ip_add hf) fun Z σ H ⟨W, H0, O, ρ, s, o, k, h, p⟩ => by
  unfold sAug at h
  split at h
  · rename_i y hi
    obtain ⟨⟨sv, s1⟩, h1, g1⟩ := Option.bind_eq_some_iff.mp h
    cases sv with
    | d z =>
      obtain ⟨t, h2, g2⟩ := Option.map_eq_some_iff.mp g1
      cases g2
      obtain ⟨i1, j1, rfl, rfl, _, rfl⟩ := fI_inv h2
      obtain ⟨v, q1, q2⟩ := k.slot i _ hi
      have e := Rep.int_inv q2
      subst e
      exact ⟨_, q1, tD.go k h1 fun u H1 st1 k1 r1 => ⟨i1, j1, rfl, Rep.int_inv r1, p O H1 _ (k1.set (sv := .d (.int (i1 + j1))) (Rep.int _) i) (.of_step st1)⟩⟩
    | _ => cases g1
  · cases h
theorem ds_dict (i : Nat) {x : Str} {p2 : Pos} (hN : X.N.Nodup) (hi : X.N[i]? = some x := by rfl) (hx : Loc X.env.scope x := by first | exact Or.inl rfl | exact Or.inr rfl) (hs : swapsWith (.Dict [] [] p2) (some (.Name x pos')) pos.line X.env = pure false := by rfl) (hf : X.fn x = true ∨ X.env.scope.names.lookup x = some .local := by first | exact .inl rfl | exact .inr rfl | assumption) :
    PS X (.Assign [.Name x pos'] (.Dict [] [] p2) pos) (tS X.K (sDict i)) := PS.imp (ps_set hN hi hx pe_dnewK hs hf) fun Z σ H ⟨W, H0, O, ρ, s, o, k, h, p⟩ => by
  cases h
  intro a n
  have kk := k.newOwn (o := .dK []) n (.inr ⟨_, rfl⟩)
  have na := (k.fresh n).2.2
  refine p (a :: O) _ _ (kk.setOwn (sv := .ownm []) List.mem_cons_self ⟨a, rfl, List.mem_cons_self, upd_same⟩ (fun j sj hj oj hs => k.notSlot na j sj hj oj hs) i) (k.adopt_keep (Step.new n) n)
theorem ds_put (i : Nat) {x : Str} {p1 : Pos} (hu : X.A.units + 1 < cLine) (ha : PE X e (tD X.K A)) (hb : PE X e2 (tD X.K B)) (hN : X.N[i]? = some x := by rfl) (hv : Vis X.env.scope x := by first | exact Or.inl rfl | exact Or.inr (Or.inl rfl) | exact Or.inr (Or.inr rfl)) (hd : (x == ("__debug__" : Str)) = false := by decide)
    (hcd : (x == ("__classdict__" : Str)) = false := by decide) (hs : swapsWith e2 (some (.Subscript (.Name x p1) e pos')) pos.line X.env = pure false := by rfl) :
    PS X (.Assign [.Subscript (.Name x p1) e pos'] e2 pos) (tS X.K (sPut i A B)) := PS.imp (ps_dput hu (pe_var hN hv hd hcd) ha hb hs) fun Z σ H ⟨W, H0, O, ρ, s, o, k, h, p⟩ => by
  obtain ⟨⟨v1, s1⟩, h1, g1⟩ := Option.bind_eq_some_iff.mp h
  obtain ⟨⟨v2, s2⟩, h2, g2⟩ := Option.bind_eq_some_iff.mp g1
  split at g2
  · rename_i kvs n z hi e1 e2
    simp only at e1 e2
    subst e1; subst e2
    split at g2
    · rename_i hl
      cases g2
      refine tD.go k h1 fun u H1 st1 k1 r1 => ?_
      obtain ⟨v, q1, q2⟩ := k1.slot i _ hi
      obtain ⟨a, e1, m, q3⟩ := q2
      subst e1
      refine ⟨.ref a, q1, tD.go k1 h2 fun y H2 st2 k2 r2 => ?_⟩
      have q5 : H2 a = some (.dK (encK kvs)) := st2.at (k.ownNot m) q3
      have ey := Rep.str_inv r2
      have eu := Rep.int_inv r1
      subst ey; subst eu
      have hl' : (encK kvs).length < sizeLine := by
        unfold encK
        rw [List.length_map]
        exact Nat.lt_of_le_of_lt hl (by decide)
      refine ⟨a, _, rfl, DPut.k (k := Sum.inr n) q5 hl', ?_⟩
      rw [put_enc]
      exact p O _ σ (k2.mutOwn hi rfl q1 m (.inr ⟨_, rfl⟩) ⟨a, rfl, m, upd_same⟩ rfl) (Same.trans (Keep.of_step (st1.trans st2)) (Keep.upd m))
    · cases g2
  · cases g2
theorem ds_if (hc : PT X e (Sb.tB X.K P)) (ha : PSs X a (tS X.K G)) (hb : PSs X b (tS X.K G2)) : PS X (.If e a b pos) (tS X.K (sIf P G G2)) := PS.imp (ps_if hc ha hb) fun Z σ H ⟨W, H0, O, ρ, s, o, k, h, p⟩ => by
  obtain ⟨⟨c, s1⟩, h1, g1⟩ := Option.bind_eq_some_iff.mp h
  refine tB.go k h1 fun H1 st1 k1 => ?_
  cases c with
  | true => exact iteT (tS.go k1 g1 (p.next (.of_step st1)))
  | false => exact iteF (tS.go k1 g1 (p.next (.of_step st1)))
theorem ds_for {tg iter : Expr} {body : List Stmt} (hp : PassesOwn (model X.prog X.w) X.A X.env X.xe) (hc : X.calm = true) (hi : PI X tg iter (tI X.K I)) (hg : PG X tg (tG X.K T)) (hb : PSs X body (tS X.K G)) (hs : ∀ x, foldedSetIterable iter X.env x = pure x := by intro _; rfl) :
    PS X (.For tg iter body [] pos) (tS X.K (sFor T I G)) := PS.imp (ps_for hp hc hi hg hb hs) fun Z σ H ⟨W, H0, O, ρ, s, o, k, h, p⟩ => by
  obtain ⟨⟨ds, s1⟩, h1, g1⟩ := Option.bind_eq_some_iff.mp h
  have g1 : forD T G ds ρ s1 = some o := g1
  refine tI.go k h1 fun J H1 st1 k1 itw => ?_
  obtain ⟨us, Gh, walk, hG, rep⟩ := itw
  refine for_it walk (fun i σ' H' => ∃ O' ρ' s', Ok W X.K H0 O' H' σ' ρ' s' ∧ Keep W O H1 O' H' ∧ forD T G (ds.drop i) ρ' s' = some o) ?_ ?_ ?_ ?_
  · exact ⟨O, ρ, s1, k1, Keep.refl, g1⟩
  · intro i σ' H' _ ⟨O', ρ', s', ok, kp, _⟩
    exact hG H' fun a u e => (hid_some (kp a u e)).2
  · intro i x σ' H' H'' hi ⟨O', ρ', s', ok, kp, hf⟩ ⟨eH, hx⟩
    subst eH
    obtain ⟨d, hd, rd⟩ := rep.getV hx
    have hdr : ds.drop i = d :: ds.drop (i + 1) := by
      rw [List.drop_eq_getElem_cons hi]
      have : ds[i] = d := by
        rw [List.getElem?_eq_getElem hi] at hd
        exact Option.some.inj hd
      rw [this]
    rw [hdr] at hf
    unfold forD at hf
    obtain ⟨ρ1, hg, hf⟩ := Option.bind_eq_some_iff.mp hf
    obtain ⟨o1, hb, hf⟩ := Option.bind_eq_some_iff.mp hf
    refine ⟨W, H0, O', ρ', s', d, ρ1, ok, rd.same kp, hg, fun σ2 k2 _ _ => tS.go k2 hb ?_⟩
    cases o1 with
    | nx ρ2 s2 => exact fun O'' H'' σ'' ok' kp' => ⟨O'', ρ2, s2, ok', Same.trans kp kp', hf⟩
    | rt sv s2 =>
      cases hf
      exact p
  · intro σ' H' ⟨O', ρ', s', ok, kp, hf⟩
    rw [List.drop_of_length_le (Nat.le_refl _)] at hf
    cases hf
    exact p O' H' σ' ok (Same.trans (Keep.of_step st1) kp)
theorem ds_ret (he : PE X e (tD X.K F)) : PS X (.Return (some e) pos) (tS X.K (sRet F)) := PS.imp (ps_ret he) fun Z σ H ⟨W, H0, O, ρ, s, o, k, h, p⟩ => by
  obtain ⟨⟨sv, s1⟩, h1, g1⟩ := Option.bind_eq_some_iff.mp h
  cases sv with
  | d x =>
    cases g1
    exact tD.go k h1 fun v H1 st1 k1 r1 => p v H1 k1.step k1.wd (Rep.same hid_wl r1)
  | _ => cases g1
theorem ds_retL (he : PE X e (tL X.K L)) : PS X (.Return (some e) pos) (tS X.K (sRetL L)) := PS.imp (ps_ret he) fun Z σ H ⟨W, H0, O, ρ, s, o, k, h, p⟩ => by
  obtain ⟨⟨ds, s1⟩, h1, g1⟩ := Option.map_eq_some_iff.mp h
  cases g1
  refine tL.go k h1 fun a vs H1 st1 k1 n q r => ?_
  obtain ⟨f1, f2, f3⟩ := k.fresh n
  exact p _ H1 k1.step k1.wd ⟨a, vs, rfl, f1, f2, q, r.same hid_wl⟩
theorem ds_retO (i : Nat) {x : Str} {p1 : Pos} (hN : X.N[i]? = some x := by rfl) (hv : Vis X.env.scope x := by first | exact Or.inl rfl | exact Or.inr (Or.inl rfl) | exact Or.inr (Or.inr rfl)) (hd : (x == ("__debug__" : Str)) = false := by decide)
    (hcd : (x == ("__classdict__" : Str)) = false := by decide) : PS X (.Return (some (.Name x p1)) pos) (tS X.K (sRetO i)) := PS.imp (ps_ret (pe_var hN hv hd hcd)) fun Z σ H ⟨W, H0, O, ρ, s, o, k, h, p⟩ => by
  unfold sRetO at h
  split at h
  · rename_i ds hi
    cases h
    obtain ⟨v, q1, q2⟩ := k.slot i _ hi
    obtain ⟨a, vs, e1, m, q3, q4⟩ := q2
    exact ⟨v, q1, p v H k.step k.wd ⟨a, vs, e1, k.own0 a m, k.ownNot m, q3, q4.same hid_wl⟩⟩
  · rename_i kvs hi
    cases h
    obtain ⟨v, q1, q2⟩ := k.slot i _ hi
    obtain ⟨a, e1, m, q3⟩ := q2
    exact ⟨v, q1, p v H k.step k.wd ⟨a, e1, k.own0 a m, k.ownNot m, q3⟩⟩
  · cases h
theorem ds_retP (i j : Nat) {x y : Str} {p1 p2 p3 : Pos} (hN : X.N[i]? = some x := by rfl) (hv : Vis X.env.scope x := by first | exact Or.inl rfl | exact Or.inr (Or.inl rfl) | exact Or.inr (Or.inr rfl)) (hN2 : X.N[j]? = some y := by rfl) (hv2 : Vis X.env.scope y := by first | exact Or.inl rfl | exact Or.inr (Or.inl rfl) | exact Or.inr (Or.inr rfl))
    (hd : (x == ("__debug__" : Str)) = false := by decide) (hcd : (x == ("__classdict__" : Str)) = false := by decide) (hd2 : (y == ("__debug__" : Str)) = false := by decide) (hcd2 : (y == ("__classdict__" : Str)) = false := by decide)
    (hs : starEach [.Name x p1, .Name y p2] X.env = (false, eval (.Name x p1) X.env) :: starEach [.Name y p2] X.env := by rfl) (hs2 : starEach [.Name y p2] X.env = (false, eval (.Name y p2) X.env) :: starEach [] X.env := by rfl) :
    PS X (.Return (some (.List [.Name x p1, .Name y p2] p3)) pos) (tS X.K (sRetP i j)) := PS.imp (ps_ret (pe_lst (pa_cons (pe_var hN hv hd hcd) (pa_cons (pe_var hN2 hv2 hd2 hcd2) pa_nil hs2) hs))) fun Z σ H ⟨W, H0, O, ρ, s, o, k, h, p⟩ => by
  unfold sRetP at h
  split at h
  · rename_i xs ys hi hj
    split at h
    · cases h
    · obtain ⟨l, h1, g1⟩ := Option.bind_eq_some_iff.mp h
      obtain ⟨m, h2, g2⟩ := Option.map_eq_some_iff.mp g1
      cases g2
      obtain ⟨v, q1, q2⟩ := k.slot i _ hi
      obtain ⟨a, vs, e1, m1, q3, q4⟩ := q2
      obtain ⟨u, z1, z2⟩ := k.slot j _ hj
      obtain ⟨b, us, e2, m2, z3, z4⟩ := z2
      have i1 := intsOf_rep h1 q4
      have i2 := intsOf_rep h2 z4
      subst e1; subst e2; subst i1; subst i2
      refine ⟨.ref a, q1, .ref b, z1, by show 2 ≤ sizeLine; decide, fun c hc => ?_⟩
      obtain ⟨f1, f2, f3⟩ := k.fresh hc
      exact p _ _ (k.step.trans (Step.new hc)) (k.wd.new hc) ⟨c, a, b, rfl, ⟨f1, k.own0 a m1, k.own0 b m2⟩, ⟨f2, k.ownNot m1, k.ownNot m2⟩, upd_same, by rw [upd_ne (ne_of_none q3 hc)]; exact q3, by rw [upd_ne (ne_of_none z3 hc)]; exact z3⟩
  · cases h
end

/-! ## a def keeps its promise -/
def runM (n np : Nat) (G : SF) : FM := fun svs s => if svs.length = np then (G (svs.map some ++ List.replicate (n - svs.length) none) s).bind fun o => match o with
  | .rt sv s' => some (sv, s')
  | .nx _ s' => some (.d .non, s')
  else none
theorem paired_get {α β : Type} {F : α → β → Prop} : ∀ {vs : List α} {ws : List β} {i : Nat} {w : β}, Paired F vs ws → ws[i]? = some w → ∃ v, vs[i]? = some v ∧ F v w
  | _, _, _, _, .nil, h => by simp at h
  | _, _, 0, _, .cons h t, e => by simp at e; subst e; exact ⟨_, rfl, h⟩
  | _, _, i + 1, w, .cons h t, e => by
    obtain ⟨v, e1, e2⟩ := paired_get (i := i) (w := w) t (by simpa using e)
    exact ⟨v, by simpa using e1, e2⟩
section
variable {P : Program} {w : PySem.World} {K : PySem.W.Frag} {mg : Str → Option Value} {base : Heap}
theorem ok_body {x qual : Str} {st : Stmt} {f : Addr} {fd : FuncData} {N ps : List Str} {k : Nat} {G : SF} (F : Fun K x qual st f fd) (Sc : FnScope N ps (defScope st))
    (hb : ∀ (cdv : Value) (A : Around) (outer : List PySem.Env) (s : Shared) (H : Hp) (E : XK), Room k (A.deeper (envOfC qual (defScope st) s.heap.objs.size f cdv)) → PSs (cxOf CX0 P w K mg base N qual (defScope st) f cdv A outer s H E).nox (defBody st) (tS K G)) :
    FnOk P w K mg base CX0 (k + 1) f fd ps (spD K ps.length (runM N.length ps.length G)) := by
  refine F.ok Sc (fun vs H Q E h => ?_) (fun cdv A outer s H vs Q E hr h => ⟨_, hb cdv A outer s H E hr, ?_⟩)
  · obtain ⟨W, svs, s, sv, s', h1, _, _, h4, _⟩ := h
    rw [h4.length, h1]
  · obtain ⟨W, svs, s0, sv, s', h1, h2, h3, h4, q⟩ := h
    unfold runM at h2
    rw [if_pos h1] at h2
    obtain ⟨o, h5, h6⟩ := Option.bind_eq_some_iff.mp h2
    refine ⟨W, H, [], svs.map some ++ List.replicate (N.length - svs.length) none, s0, o, ⟨h3, Step.refl _ _, fun _ z => (by cases z), fun _ _ => ⟨fun z => (by cases z), fun z => (by cases z)⟩, fun _ z => (by cases z), ?_, fun i sv hi => ?_, fun i j si sj a _ hi _ oi _ _ => ?_⟩, h5, ?_⟩
    · unfold L2.start
      rw [List.length_append, List.length_append, List.length_map, List.length_map, List.length_replicate, List.length_replicate, h4.length]
    · have lt : i < svs.length := by
        rcases Nat.lt_or_ge i svs.length with z | z
        · exact z
        · rw [List.getElem?_append_right (by rw [List.length_map]; exact z)] at hi
          rw [List.getElem?_replicate] at hi
          split at hi <;> cases hi
      rw [List.getElem?_append_left (by rw [List.length_map]; exact lt), List.getElem?_map] at hi
      obtain ⟨sv', e1, e2⟩ := Option.map_eq_some_iff.mp hi
      cases e2
      obtain ⟨v, g1, g2⟩ := paired_get h4 e1
      refine ⟨v, ?_, .of (by rw [List.append_nil]; exact g2)⟩
      unfold L2.start
      rw [List.getElem?_append_left (by rw [List.length_map, h4.length]; exact lt), List.getElem?_map, g1]
      rfl
    · have lt : i < svs.length := by
        rcases Nat.lt_or_ge i svs.length with z | z
        · exact z
        · rw [List.getElem?_append_right (by rw [List.length_map]; exact z)] at hi
          rw [List.getElem?_replicate] at hi
          split at hi <;> cases hi
      rw [List.getElem?_append_left (by rw [List.length_map]; exact lt), List.getElem?_map] at hi
      obtain ⟨sv', e1, e2⟩ := Option.map_eq_some_iff.mp hi
      cases e2
      obtain ⟨v, g1, g2⟩ := paired_get h4 e1
      cases si with
      | own _ => exact g2.elim
      | ownm _ => exact g2.elim
      | _ => cases oi
    · cases o with
      | nx ρ' s1 =>
        cases h6
        intro O' H' σ' ok _
        exact q .non H' ok.step ok.wd Rep.non
      | rt sv1 s1 =>
        cases h6
        intro v H' st w' r
        exact q v H' st w' r
theorem callee_mk {x : Str} {f : Addr} {fd : FuncData} {ps : List Str} {k n : Nat} {M : FM} (F : FnOk P w K mg base CX0 k f fd ps (spD K n M)) (hm : mg x = some (.ref f)) (hk : PySem.W.keepIn K (.ref f) = true) (hb : Binds K fd ps []) : Callee P w K mg base k x n M := ⟨⟨f, fd, ps, F, hm, hk, hb⟩⟩
/-- nothing is promised -/
theorem callee_none {x : Str} {st : Stmt} {f : Addr} {fd : FuncData} {ps : List Str} {k : Nat} (F : Fun K x x st f fd) (hm : mg x = some (.ref f)) (hb : Binds K fd ps []) : Callee P w K mg base k x ps.length (fun _ _ => none) :=
  callee_mk (ps := ps) ⟨fun vs H Q E ⟨_, _, _, _, _, _, h, _⟩ => (by cases h), fun A outer s H args us vs Q E _ _ _ _ ⟨_, _, _, _, _, _, h, _⟩ => (by cases h)⟩ hm F.kp hb
end
end Sb

set_option Elab.async false
set_option linter.all false
set_option maxRecDepth 100000
namespace Sb
open PySem L2
/-! the defs as plain Lean functions (printed by gen.py) -/
def G_is_allowed_code : SF := (sRet (dAnd (dChain fLe fLe (dC (.int 32)) (dVar 0) (dC (.int 126))) (d2 fNe (dVar 0) (dC (.int 37)))))
def G_is_text (M_is_allowed_code : FM) : SF := (sSeq (sIf (bNot (bOf (dIsI "str" (dVar 0))))
    (sRet (dC (.bl false)))
    sNil)
    (sSeq (sFor (.one 1) (iStrF (dVar 0))
    (sIf (bNot (bOf (dCall M_is_allowed_code [(dBu ordD [(oVar 1)])])))
    (sRet (dC (.bl false)))
    sNil))
    (sRet (dC (.bl true)))))
def G_is_leaf_value (M_is_text : FM) : SF := (sSeq (sIf (bOf (d2 fEq (dIx (oVar 0) (dC (.int 0))) (dC (.str "text"))))
    (sRet (dAnd (dCall M_is_text [(oVar 1)]) (dChain fLe fLe (dIx (oVar 0) (dC (.int 1))) (dBu lenD [(oVar 1)]) (dIx (oVar 0) (dC (.int 2))))))
    sNil)
    (sSeq (sIf (bNot (bOf (dIsI "int" (dVar 1))))
    (sRet (dC (.bl false)))
    sNil)
    (sSeq (sIf (bOf (d2 fEq (dIx (oVar 0) (dC (.int 0))) (dC (.str "number"))))
    (sRet (dChain fLe fLe (dIx (oVar 0) (dC (.int 1))) (dVar 1) (dIx (oVar 0) (dC (.int 2)))))
    sNil)
    (sRet (dOr (dIn false (dVar 1) (dIx (oVar 0) (dC (.int 1)))) (dAnd (d2 fEq (dVar 1) (dC (.int 0))) (dIx (oVar 0) (dC (.int 3)))))))))
def G_simple_leaf_value : SF := (sSeq (sIf (bOf (d2 fEq (dIx (oVar 0) (dC (.int 0))) (dC (.str "number"))))
    (sRet (dBu maxD [(dIx (oVar 0) (dC (.int 1))), (dBu minD [(dIx (oVar 0) (dC (.int 2))), (dC (.int 0))])]))
    sNil)
    (sSeq (sIf (bOf (d2 fEq (dIx (oVar 0) (dC (.int 0))) (dC (.str "text"))))
    (sRet (d2 fMulS (dC (.str "a")) (dIx (oVar 0) (dC (.int 1)))))
    sNil)
    (sSeq (sIf (bOf (d2 fGt (dBu lenD [(dIx (oVar 0) (dC (.int 1)))]) (dC (.int 0))))
    (sRet (dIx (dIx (oVar 0) (dC (.int 1))) (dC (.int 0))))
    sNil)
    (sRet (dC (.int 0))))))
def G_is_name : SF := (sRet (dIsI "str" (dVar 0)))
def G_body_of : SF := (sSeq (sFor (.many [2, 3]) (iTupF (dIx (oVar 0) (dC (.int 1))))
    (sIf (bOf (d2 fEq (dVar 2) (dVar 1)))
    (sRet (dVar 3))
    sNil))
    (sRet (dC .non)))
def G_is_known (M_is_name : FM) : SF := (sRet (dOr (dNot (dCall M_is_name [(oVar 0)])) (dInK false (dVar 0) (oVar 1))))
def G_part_depth (M_is_name : FM) : SF := (sSeq (sIf (bOf (dCall M_is_name [(oVar 0)]))
    (sRet (dGetK (oVar 1) (dVar 0)))
    sNil)
    (sRet (dC (.int 0))))
def G_has_value (M_is_known : FM) : SF := (sSeq (sIf (bOf (d2 fEq (dIx (oVar 0) (dC (.int 0))) (dC (.str "list"))))
    (sRet (dOr (d2 fEq (dIx (oVar 0) (dC (.int 2))) (dC (.int 0))) (dCall M_is_known [(dIx (oVar 0) (dC (.int 1))), (oVar 1)])))
    sNil)
    (sSeq (sIf (bOf (d2 fEq (dIx (oVar 0) (dC (.int 0))) (dC (.str "record"))))
    (sSeq (sFor (.many [2, 3, 4, 2]) (iTupF (dIx (oVar 0) (dC (.int 1))))
    (sIf (bAnd (bOf (d2 fEq (dVar 4) (dC (.str "required")))) (bNot (bOf (dCall M_is_known [(oVar 3), (oVar 1)]))))
    (sRet (dC (.bl false)))
    sNil))
    (sRet (dC (.bl true))))
    sNil)
    (sSeq (sIf (bOf (dIx (oVar 0) (dC (.int 3))))
    (sRet (dC (.bl true)))
    sNil)
    (sSeq (sFor (.many [2, 3]) (iTupF (dIx (oVar 0) (dC (.int 1))))
    (sIf (bOf (dCall M_is_known [(oVar 3), (oVar 1)]))
    (sRet (dC (.bl true)))
    sNil))
    (sRet (dC (.bl false)))))))
def G_least_depths (M_has_value : FM) : SF := (sSeq (sDict 1)
    (sSeq (sFor (.one 2) (iRngF2 (dC (.int 1)) (d2 fAdd (dBu lenD [(dIx (oVar 0) (dC (.int 1)))]) (dC (.int 1))))
    (sSeq (sSet 3 (dOfL (lComp [4, 5] (iTupF (dIx (oVar 0) (dC (.int 1)))) (.many [4, 5]) (bAnd (bOf (dInK true (dVar 4) (oVar 1))) (bOf (dCall M_has_value [(oVar 5), (oVar 1)]))) (dVar 4))))
    (sFor (.one 4) (iListF (dVar 3))
    (sPut 1 (dVar 4) (dVar 2)))))
    (sRetO 1)))
def G_simple_case (M_is_known : FM) (M_part_depth : FM) : SF := (sSeq (sSet 2 (dC .non))
    (sSeq (sFor (.one 3) (iTupF (dIx (oVar 0) (dC (.int 1))))
    (sIf (bOf (dCall M_is_known [(dIx (oVar 3) (dC (.int 1))), (oVar 1)]))
    (sIf (bOr (bOf (d1 fIsN (dVar 2))) (bOf (d2 fLt (dCall M_part_depth [(dIx (oVar 3) (dC (.int 1))), (oVar 1)]) (dCall M_part_depth [(dIx (oVar 2) (dC (.int 1))), (oVar 1)]))))
    (sSet 2 (dVar 3))
    sNil)
    sNil))
    (sRet (dVar 2))))
def G_is_list_of (M_is_of : FM) : SF := (sSeq (sIf (bNot (bOf (dChain fLe fLe (dIx (oVar 1) (dC (.int 2))) (dBu lenD [(oVar 2)]) (dIx (oVar 1) (dC (.int 3))))))
    (sRet (dC (.bl false)))
    sNil)
    (sSeq (sFor (.one 3) (iTupF (dVar 2))
    (sIf (bNot (bOf (dCall M_is_of [(oVar 0), (dIx (oVar 1) (dC (.int 1))), (oVar 3)])))
    (sRet (dC (.bl false)))
    sNil))
    (sRet (dC (.bl true)))))
def G_is_entry : SF := (sRet (dAnd (dIsI "tuple" (dVar 0)) (dAnd (d2 fEq (dBu lenD [(oVar 0)]) (dC (.int 2))) (dAnd (dIsI "int" (dIx (oVar 0) (dC (.int 0)))) (d2 fEq (dIx (oVar 0) (dC (.int 0))) (dVar 1))))))
def G_is_record_of (M_is_entry : FM) (M_is_of : FM) : SF := (sSeq (sSet 3 (dC (.int 0)))
    (sSeq (sFor (.many [4, 5, 6, 7]) (iTupF (dIx (oVar 1) (dC (.int 1))))
    (sIf (bAnd (bOf (d2 fLt (dVar 3) (dBu lenD [(oVar 2)]))) (bOf (dCall M_is_entry [(dIx (oVar 2) (dVar 3)), (oVar 4)])))
    (sSeq (sIf (bNot (bOf (dCall M_is_of [(oVar 0), (oVar 5), (dIx (dIx (oVar 2) (dVar 3)) (dC (.int 1)))])))
    (sRet (dC (.bl false)))
    sNil)
    (sAug 3 (dC (.int 1))))
    (sIf (bOf (d2 fNe (dVar 6) (dC (.str "optional"))))
    (sRet (dC (.bl false)))
    sNil)))
    (sRet (d2 fEq (dVar 3) (dBu lenD [(oVar 2)])))))
def G_is_union_of (M_is_entry : FM) (M_is_of : FM) : SF := (sSeq (sIf (bOf (d1 fEqU (dVar 2)))
    (sRet (dIx (oVar 1) (dC (.int 3))))
    sNil)
    (sSeq (sFor (.many [3, 4]) (iTupF (dIx (oVar 1) (dC (.int 1))))
    (sIf (bOf (dCall M_is_entry [(oVar 2), (oVar 3)]))
    (sRet (dCall M_is_of [(oVar 0), (oVar 4), (dIx (oVar 2) (dC (.int 1)))]))
    sNil))
    (sRet (dC (.bl false)))))
def G_is_of (M_is_union_of : FM) (M_is_record_of : FM) (M_is_list_of : FM) (M_body_of : FM) (M_is_name : FM) (M_is_leaf_value : FM) : SF := (sSeq (sIf (bNot (bOf (dCall M_is_name [(oVar 1)])))
    (sRet (dCall M_is_leaf_value [(oVar 1), (oVar 2)]))
    sNil)
    (sSeq (sIf (bNot (bOf (dIsI "tuple" (dVar 2))))
    (sRet (dC (.bl false)))
    sNil)
    (sSeq (sSet 3 (dCall M_body_of [(oVar 0), (oVar 1)]))
    (sSeq (sIf (bOf (d2 fEq (dIx (oVar 3) (dC (.int 0))) (dC (.str "list"))))
    (sRet (dCall M_is_list_of [(oVar 0), (oVar 3), (oVar 2)]))
    sNil)
    (sSeq (sIf (bOf (d2 fEq (dIx (oVar 3) (dC (.int 0))) (dC (.str "record"))))
    (sRet (dCall M_is_record_of [(oVar 0), (oVar 3), (oVar 2)]))
    sNil)
    (sRet (dCall M_is_union_of [(oVar 0), (oVar 3), (oVar 2)])))))))
def G_part_of_id : SF := (sSeq (sFor (.one 2) (iTupF (dIx (oVar 0) (dC (.int 1))))
    (sIf (bOf (d2 fEq (dIx (oVar 2) (dC (.int 0))) (dVar 1)))
    (sRet (dIx (oVar 2) (dC (.int 1))))
    sNil))
    (sRet (dC .non)))
def G_inner_values (M_part_of_id : FM) : SF := (sSeq (sIf (bOf (d2 fEq (dIx (oVar 0) (dC (.int 0))) (dC (.str "list"))))
    (sRetL (lComp [2] (iTupF (dVar 1)) (.one 2) bTrue (dTup [(dIx (oVar 0) (dC (.int 1))), (oVar 2)])))
    sNil)
    (sSeq (sIf (bOf (d2 fEq (dIx (oVar 0) (dC (.int 0))) (dC (.str "record"))))
    (sRetL (lComp [3, 4] (iTupF (dVar 1)) (.many [3, 4]) bTrue (dTup [(dCall M_part_of_id [(oVar 0), (oVar 3)]), (oVar 4)])))
    sNil)
    (sSeq (sIf (bOf (d1 fEqU (dVar 1)))
    (sRetL (lDisp []))
    sNil)
    (sRetL (lDisp [(dTup [(dCall M_part_of_id [(oVar 0), (dIx (oVar 1) (dC (.int 0)))]), (dIx (oVar 1) (dC (.int 1)))])])))))
def G_depth (M_inner_values : FM) (M_body_of : FM) (M_depth : FM) (M_is_name : FM) : SF := (sSeq (sIf (bNot (bOf (dCall M_is_name [(oVar 1)])))
    (sRet (dC (.int 0)))
    sNil)
    (sSeq (sSet 3 (dC (.int 0)))
    (sSeq (sFor (.many [4, 5]) (iListF (dCall M_inner_values [(dCall M_body_of [(oVar 0), (oVar 1)]), (oVar 2)]))
    (sSet 3 (dBu maxD [(oVar 3), (dCall M_depth [(oVar 0), (oVar 4), (oVar 5)])])))
    (sRet (d2 fAdd (dVar 3) (dC (.int 1)))))))
def G_value_count (M_inner_values : FM) (M_body_of : FM) (M_value_count : FM) (M_is_name : FM) : SF := (sSeq (sIf (bNot (bOf (dCall M_is_name [(oVar 1)])))
    (sRet (dC (.int 1)))
    sNil)
    (sSeq (sSet 3 (dC (.int 1)))
    (sSeq (sFor (.many [4, 5]) (iListF (dCall M_inner_values [(dCall M_body_of [(oVar 0), (oVar 1)]), (oVar 2)]))
    (sSet 3 (d2 fAdd (dVar 3) (dCall M_value_count [(oVar 0), (oVar 4), (oVar 5)]))))
    (sRet (dVar 3)))))
def G_simple_record (M_simple_part : FM) : SF := (sSeq (sOwn 3 (lDisp []))
    (sSeq (sFor (.many [4, 5, 6, 7]) (iTupF (dIx (oVar 1) (dC (.int 1))))
    (sIf (bOf (d2 fEq (dVar 6) (dC (.str "required"))))
    (sApp 3 (dTup [(oVar 4), (dCall M_simple_part [(oVar 0), (oVar 5), (oVar 2)])]))
    (sIf (bOf (d2 fEq (dVar 6) (dC (.str "default"))))
    (sApp 3 (dTup [(oVar 4), (oVar 7)]))
    sNil)))
    (sRet (dToTup (oVar 3)))))
def G_simple_part (M_simple_part : FM) (M_simple_case : FM) (M_simple_record : FM) (M_body_of : FM) (M_is_name : FM) (M_simple_leaf_value : FM) : SF := (sSeq (sIf (bNot (bOf (dCall M_is_name [(oVar 1)])))
    (sRet (dCall M_simple_leaf_value [(oVar 1)]))
    sNil)
    (sSeq (sSet 3 (dCall M_body_of [(oVar 0), (oVar 1)]))
    (sSeq (sIf (bOf (d2 fEq (dIx (oVar 3) (dC (.int 0))) (dC (.str "list"))))
    (sSeq (sIf (bOf (d2 fEq (dIx (oVar 3) (dC (.int 2))) (dC (.int 0))))
    (sRet (dTup []))
    sNil)
    (sRet (d2 fRepT (dTup [(dCall M_simple_part [(oVar 0), (dIx (oVar 3) (dC (.int 1))), (oVar 2)])]) (dIx (oVar 3) (dC (.int 2))))))
    sNil)
    (sSeq (sIf (bOf (d2 fEq (dIx (oVar 3) (dC (.int 0))) (dC (.str "record"))))
    (sRet (dCall M_simple_record [(oVar 0), (oVar 3), (oVar 2)]))
    sNil)
    (sSeq (sIf (bOf (dIx (oVar 3) (dC (.int 3))))
    (sRet (dC (.tup [.int 0, .non])))
    sNil)
    (sSeq (sUnp [4, 5] (dCall M_simple_case [(oVar 3), (oVar 2)]))
    (sRet (dTup [(oVar 4), (dCall M_simple_part [(oVar 0), (oVar 5), (oVar 2)])]))))))))
def G_simple_value (M_simple_part : FM) (M_least_depths : FM) : SF := (sRet (dCall M_simple_part [(oVar 0), (oVar 1), (dCall M_least_depths [(oVar 0)])]))
def G_l_cell : SF := (sSeq (sIf (bOf (d2 fLt (dVar 1) (dBu lenD [(oVar 0)])))
    (sRet (dIx (oVar 0) (dVar 1)))
    sNil)
    (sRet (dC (.int 0))))
def G_l_big (M_l_next : FM) : SF := (sSeq (sSet 1 (dC (.int 0)))
    (sSeq (sFor (.one 2) (iRngF (dC (.int 6)))
    (sSet 1 (d2 fAdd (d2 fMul (dVar 1) (dC (.int 1000))) (dCall M_l_next [(oVar 0), (dC (.int 1000))]))))
    (sRet (dVar 1))))
def G_l_char : SF := (sSeq (sSet 1 (dC (.str " !\"#$&'()*+,-./0123456789:;<=>?@ABCDEFGHIJKLMNOPQRSTUVWXYZ[\\]^_`")))
    (sSeq (sSet 1 (d2 fCat (dVar 1) (dC (.str "abcdefghijklmnopqrstuvwxyz{|}~"))))
    (sRet (dIx (oVar 1) (d2 fMod (dBu intD [(oVar 0)]) (dC (.int 94)))))))
def G_l_ids (M_l_next : FM) : SF := (sSeq (sOwn 2 (lDisp []))
    (sSeq (sSet 3 (dC (.int 0)))
    (sSeq (sFor (.one 4) (iRngF (dCall M_l_next [(oVar 0), (d2 fAdd (dVar 1) (dC (.int 1)))]))
    (sSeq (sSet 3 (d2 fAdd (d2 fAdd (dVar 3) (dC (.int 1))) (dCall M_l_next [(oVar 0), (dC (.int 4))])))
    (sApp 2 (dVar 3))))
    (sSeq (sIf (bOf (d2 fEq (dCall M_l_next [(oVar 0), (dC (.int 9))]) (dC (.int 1))))
    (sApp 2 (dC (.int 99)))
    sNil)
    (sRetO 2)))))
def G_l_split (M_l_next : FM) : SF := (sSeq (sOwn 2 (lDisp []))
    (sSeq (sOwn 3 (lDisp []))
    (sSeq (sFor (.one 4) (iListF (dVar 1))
    (sIf (bOf (d2 fEq (dCall M_l_next [(oVar 0), (dC (.int 5))]) (dC (.int 1))))
    (sApp 3 (dVar 4))
    (sApp 2 (dVar 4))))
    (sRetP 2 3))))
def G_l_leaf (M_l_next : FM) (M_l_split : FM) (M_l_ids : FM) : SF := (sSeq (sSet 1 (dCall M_l_next [(oVar 0), (dC (.int 8))]))
    (sSeq (sIf (bOf (d2 fLt (dVar 1) (dC (.int 4))))
    (sSeq (sSet 4 (d2 fSub (dCall M_l_next [(oVar 0), (dC (.int 12))]) (dC (.int 6))))
    (sSeq (sSet 5 (d2 fAdd (dVar 4) (dCall M_l_next [(oVar 0), (dC (.int 9))])))
    (sSeq (sIf (bOf (d2 fEq (dCall M_l_next [(oVar 0), (dC (.int 9))]) (dC (.int 1))))
    (sRet (dTup [(dC (.str "number")), (d1 fNeg (d2 fPow (dC (.int 10)) (dC (.int 15)))), (d2 fPow (dC (.int 10)) (dC (.int 15)))]))
    sNil)
    (sRet (dTup [(dC (.str "number")), (oVar 4), (oVar 5)])))))
    sNil)
    (sSeq (sIf (bOf (d2 fLt (dVar 1) (dC (.int 6))))
    (sSeq (sSet 4 (dCall M_l_next [(oVar 0), (dC (.int 3))]))
    (sSeq (sSet 5 (d2 fAdd (dVar 4) (dCall M_l_next [(oVar 0), (dC (.int 4))])))
    (sSeq (sIf (bOf (d2 fEq (dCall M_l_next [(oVar 0), (dC (.int 9))]) (dC (.int 1))))
    (sSet 5 (dC (.int 40)))
    sNil)
    (sRet (dTup [(dC (.str "text")), (oVar 4), (oVar 5)])))))
    sNil)
    (sSeq (sSet 2 (dCall M_l_split [(oVar 0), (dCall M_l_ids [(oVar 0), (dC (.int 4))])]))
    (sSeq (sSet 3 (dOr (d2 fEq (dCall M_l_next [(oVar 0), (dC (.int 2))]) (dC (.int 1))) (dOr (d2 fGt (dBu lenD [(dIxP (dVar 2) 1)]) (dC (.int 0))) (d2 fEq (dBu lenD [(dIxP (dVar 2) 0)]) (dC (.int 0))))))
    (sRet (dTup [(dC (.str "choice")), (dToTup (dIxP (dVar 2) 0)), (dToTup (dIxP (dVar 2) 1)), (oVar 3)])))))))
def G_l_leaf_value (M_l_next : FM) (M_l_char : FM) (M_l_big : FM) : SF := (sSeq (sIf (bOf (d2 fEq (dIx (oVar 0) (dC (.int 0))) (dC (.str "number"))))
    (sSeq (sSet 3 (dCall M_l_next [(oVar 1), (dC (.int 5))]))
    (sSeq (sIf (bOf (d2 fEq (dVar 3) (dC (.int 1))))
    (sRet (dIx (oVar 0) (dC (.int 1))))
    sNil)
    (sSeq (sIf (bOf (d2 fEq (dVar 3) (dC (.int 2))))
    (sRet (dIx (oVar 0) (dC (.int 2))))
    sNil)
    (sRet (d2 fAdd (dIx (oVar 0) (dC (.int 1))) (d2 fMod (dBu intD [(dCall M_l_big [(oVar 1)])]) (d2 fAdd (d2 fSub (dIx (oVar 0) (dC (.int 2))) (dIx (oVar 0) (dC (.int 1)))) (dC (.int 1)))))))))
    sNil)
    (sSeq (sIf (bOf (d2 fEq (dIx (oVar 0) (dC (.int 0))) (dC (.str "text"))))
    (sSeq (sSet 4 (d2 fAdd (dIx (oVar 0) (dC (.int 1))) (dCall M_l_next [(oVar 1), (d2 fAdd (d2 fSub (dIx (oVar 0) (dC (.int 2))) (dIx (oVar 0) (dC (.int 1)))) (dC (.int 1)))])))
    (sRet (dJoin (dOfL (lComp [5] (iRngF (dVar 4)) (.one 5) bTrue (dCall M_l_char [(dCall M_l_next [(oVar 1), (dC (.int 94))])]))))))
    sNil)
    (sSeq (sOwn 2 (lToL (dIx (oVar 0) (dC (.int 1)))))
    (sSeq (sIf (bOf (dIx (oVar 0) (dC (.int 3))))
    (sApp 2 (dC (.int 0)))
    sNil)
    (sRet (dIx (oVar 2) (dCall M_l_next [(oVar 1), (dBu lenD [(oVar 2)])])))))))
def G_l_part (M_l_leaf : FM) (M_l_next : FM) : SF := (sSeq (sIf (bOf (d2 fEq (dCall M_l_next [(oVar 0), (dC (.int 3))]) (dC (.int 1))))
    (sRet (dIx (oVar 1) (dCall M_l_next [(oVar 0), (dBu lenD [(oVar 1)])])))
    sNil)
    (sRet (dCall M_l_leaf [(oVar 0)])))
def G_l_list_body (M_l_next : FM) (M_l_leaf : FM) : SF := (sSeq (sSet 3 (dC (.int 0)))
    (sSeq (sIf (bOf (d2 fEq (dCall M_l_next [(oVar 0), (dC (.int 2))]) (dC (.int 1))))
    (sSeq (sSet 5 (dIx (oVar 1) (dCall M_l_next [(oVar 0), (dBu lenD [(oVar 1)])])))
    (sIf (bOf (dIn false (dVar 5) (oVar 2)))
    (sSet 3 (dCall M_l_next [(oVar 0), (dC (.int 2))]))
    sNil))
    (sSeq (sSet 5 (dCall M_l_leaf [(oVar 0)]))
    (sSet 3 (dCall M_l_next [(oVar 0), (dC (.int 3))]))))
    (sSeq (sSet 4 (dBu maxD [(dC (.int 1)), (d2 fAdd (dVar 3) (dCall M_l_next [(oVar 0), (dC (.int 4))]))]))
    (sSeq (sIf (bOf (d2 fEq (dCall M_l_next [(oVar 0), (dC (.int 9))]) (dC (.int 1))))
    (sSet 4 (dC (.int 99)))
    sNil)
    (sRet (dTup [(dC (.str "list")), (oVar 5), (oVar 3), (oVar 4)]))))))
def G_l_record_body (M_l_leaf_value : FM) (M_l_next : FM) (M_l_part : FM) (M_l_split : FM) (M_l_ids : FM) : SF := (sSeq (sSet 3 (dCall M_l_split [(oVar 0), (dCall M_l_ids [(oVar 0), (dC (.int 4))])]))
    (sSeq (sOwn 4 (lDisp []))
    (sSeq (sSet 5 (dC (.bl true)))
    (sSeq (sFor (.one 6) (iListF (dIxP (dVar 3) 0))
    (sSeq (sSet 7 (dCall M_l_part [(oVar 0), (oVar 1)]))
    (sSeq (sSet 8 (dCall M_l_next [(oVar 0), (dC (.int 4))]))
    (sIf (bOf (dIsI "str" (dVar 7)))
    (sIf (bAnd (bOf (d2 fNe (dVar 8) (dC (.int 1)))) (bAnd (bOf (dVar 5)) (bOf (dIn false (dVar 7) (oVar 2)))))
    (sSeq (sSet 5 (dC (.bl false)))
    (sApp 4 (dTup [(oVar 6), (oVar 7), (dC (.str "required")), (dC .non)])))
    (sApp 4 (dTup [(oVar 6), (oVar 7), (dC (.str "optional")), (dC .non)])))
    (sIf (bOf (d2 fEq (dVar 8) (dC (.int 1))))
    (sApp 4 (dTup [(oVar 6), (oVar 7), (dC (.str "optional")), (dC .non)]))
    (sIf (bAnd (bOf (d2 fEq (dVar 8) (dC (.int 2)))) (bOf (d2 fNe (dIx (oVar 7) (dC (.int 0))) (dC (.str "choice")))))
    (sApp 4 (dTup [(oVar 6), (oVar 7), (dC (.str "default")), (dCall M_l_leaf_value [(oVar 7), (oVar 0)])]))
    (sApp 4 (dTup [(oVar 6), (oVar 7), (dC (.str "required")), (dC .non)]))))))))
    (sRet (dTup [(dC (.str "record")), (dToTup (oVar 4)), (dToTup (dIxP (dVar 3) 1))]))))))
def G_l_union_body (M_l_next : FM) (M_l_part : FM) (M_l_split : FM) (M_l_ids : FM) : SF := (sSeq (sSet 3 (dCall M_l_split [(oVar 0), (dCall M_l_ids [(oVar 0), (dC (.int 4))])]))
    (sSeq (sSet 4 (dOfL (lComp [7] (iListF (dIxP (dVar 3) 0)) (.one 7) bTrue (dTup [(oVar 7), (dCall M_l_part [(oVar 0), (oVar 1)])]))))
    (sSeq (sSet 5 (dOfL (lComp [8] (iListF (dVar 4)) (.one 8) (bOr (bNot (bOf (dIsI "str" (dIx (oVar 8) (dC (.int 1)))))) (bOf (dIn false (dIx (oVar 8) (dC (.int 1))) (oVar 2)))) (dVar 8))))
    (sSeq (sSet 6 (dOr (d2 fEq (dCall M_l_next [(oVar 0), (dC (.int 2))]) (dC (.int 1))) (dOr (d2 fGt (dBu lenD [(dIxP (dVar 3) 1)]) (dC (.int 0))) (d2 fEq (dBu lenD [(oVar 5)]) (dC (.int 0))))))
    (sRet (dTup [(dC (.str "union")), (dToTup (oVar 4)), (dToTup (dIxP (dVar 3) 1)), (oVar 6)]))))))
def G_l_schema (M_l_next : FM) (M_l_record_body : FM) (M_l_union_body : FM) (M_l_list_body : FM) : SF := (sSeq (sSet 1 (d2 fAdd (dC (.int 1)) (dCall M_l_next [(oVar 0), (dC (.int 4))])))
    (sSeq (sSet 2 (dOfL (lTo (dOfL (lDisp [(dC (.str "a")), (dC (.str "ab")), (dC (.str "b")), (dC (.str "ba"))])) (dVar 1))))
    (sSeq (sOwn 3 (lDisp []))
    (sSeq (sFor (.one 4) (iRngF (dVar 1))
    (sSeq (sSet 5 (dCall M_l_next [(oVar 0), (dC (.int 6))]))
    (sSeq (sSet 6 (dOfL (lFrom (oVar 2) (d2 fAdd (dVar 4) (dC (.int 1))))))
    (sSeq (sIf (bOf (d2 fLt (dVar 5) (dC (.int 3))))
    (sSet 7 (dCall M_l_record_body [(oVar 0), (oVar 2), (oVar 6)]))
    (sIf (bOf (d2 fLt (dVar 5) (dC (.int 5))))
    (sSet 7 (dCall M_l_union_body [(oVar 0), (oVar 2), (oVar 6)]))
    (sSet 7 (dCall M_l_list_body [(oVar 0), (oVar 2), (oVar 6)]))))
    (sApp 3 (dTup [(dIx (oVar 2) (dVar 4)), (oVar 7)]))))))
    (sRet (dTup [(dIx (oVar 2) (dCall M_l_next [(oVar 0), (oVar 1)])), (dToTup (oVar 3))]))))))
def G_l_body_of : SF := (sSeq (sFor (.one 2) (iTupF (dIx (oVar 0) (dC (.int 1))))
    (sIf (bOf (d2 fEq (dIx (oVar 2) (dC (.int 0))) (dVar 1)))
    (sRet (dIx (oVar 2) (dC (.int 1))))
    sNil))
    (sRet (dC .non)))
def G_l_is_known : SF := (sRet (dOr (dNot (dIsI "str" (dVar 0))) (dInK false (dVar 0) (oVar 1))))
def G_l_has_value (M_l_is_known : FM) : SF := (sSeq (sIf (bOf (d2 fEq (dIx (oVar 0) (dC (.int 0))) (dC (.str "list"))))
    (sRet (dOr (d2 fEq (dIx (oVar 0) (dC (.int 2))) (dC (.int 0))) (dCall M_l_is_known [(dIx (oVar 0) (dC (.int 1))), (oVar 1)])))
    sNil)
    (sSeq (sIf (bOf (d2 fEq (dIx (oVar 0) (dC (.int 0))) (dC (.str "record"))))
    (sRet (d2 fEq (dBu lenD [(dOfL (lComp [2] (iTupF (dIx (oVar 0) (dC (.int 1)))) (.one 2) (bAnd (bOf (d2 fEq (dIx (oVar 2) (dC (.int 2))) (dC (.str "required")))) (bNot (bOf (dCall M_l_is_known [(dIx (oVar 2) (dC (.int 1))), (oVar 1)])))) (dVar 2)))]) (dC (.int 0))))
    sNil)
    (sRet (dOr (dIx (oVar 0) (dC (.int 3))) (d2 fGt (dBu lenD [(dOfL (lComp [3] (iTupF (dIx (oVar 0) (dC (.int 1)))) (.one 3) (bOf (dCall M_l_is_known [(dIx (oVar 3) (dC (.int 1))), (oVar 1)])) (dVar 3)))]) (dC (.int 0)))))))
def G_l_depths (M_l_has_value : FM) : SF := (sSeq (sDict 1)
    (sSeq (sFor (.one 2) (iRngF (dBu lenD [(dIx (oVar 0) (dC (.int 1)))]))
    (sSeq (sSet 3 (dOfL (lComp [5] (iTupF (dIx (oVar 0) (dC (.int 1)))) (.one 5) (bAnd (bOf (dInK true (dIx (oVar 5) (dC (.int 0))) (oVar 1))) (bOf (dCall M_l_has_value [(dIx (oVar 5) (dC (.int 1))), (oVar 1)]))) (dIx (oVar 5) (dC (.int 0))))))
    (sFor (.one 4) (iListF (dVar 3))
    (sPut 1 (dVar 4) (d2 fAdd (dVar 2) (dC (.int 1)))))))
    (sRetO 1)))
def G_l_part_depth : SF := (sSeq (sIf (bOf (dIsI "str" (dVar 0)))
    (sRet (dGetK (oVar 1) (dVar 0)))
    sNil)
    (sRet (dC (.int 0))))
def G_l_simple_leaf : SF := (sSeq (sIf (bOf (d2 fEq (dIx (oVar 0) (dC (.int 0))) (dC (.str "number"))))
    (sRet (dBu maxD [(dIx (oVar 0) (dC (.int 1))), (dBu minD [(dIx (oVar 0) (dC (.int 2))), (dC (.int 0))])]))
    sNil)
    (sSeq (sIf (bOf (d2 fEq (dIx (oVar 0) (dC (.int 0))) (dC (.str "text"))))
    (sRet (d2 fMulS (dC (.str "a")) (dIx (oVar 0) (dC (.int 1)))))
    sNil)
    (sSeq (sIf (bOf (d2 fGt (dBu lenD [(dIx (oVar 0) (dC (.int 1)))]) (dC (.int 0))))
    (sRet (dIx (dIx (oVar 0) (dC (.int 1))) (dC (.int 0))))
    sNil)
    (sRet (dC (.int 0))))))
def G_l_simple (M_l_simple : FM) (M_l_is_known : FM) (M_l_part_depth : FM) (M_l_body_of : FM) (M_l_simple_leaf : FM) : SF := (sSeq (sIf (bNot (bOf (dIsI "str" (dVar 1))))
    (sRet (dCall M_l_simple_leaf [(oVar 1)]))
    sNil)
    (sSeq (sSet 3 (dCall M_l_body_of [(oVar 0), (oVar 1)]))
    (sSeq (sIf (bOf (d2 fEq (dIx (oVar 3) (dC (.int 0))) (dC (.str "list"))))
    (sRet (dToTup (dOfL (lComp [8] (iRngF (dIx (oVar 3) (dC (.int 2)))) (.one 8) bTrue (dCall M_l_simple [(oVar 0), (dIx (oVar 3) (dC (.int 1))), (oVar 2)])))))
    sNil)
    (sSeq (sIf (bOf (d2 fEq (dIx (oVar 3) (dC (.int 0))) (dC (.str "record"))))
    (sSeq (sOwn 6 (lDisp []))
    (sSeq (sFor (.one 7) (iTupF (dIx (oVar 3) (dC (.int 1))))
    (sSeq (sIf (bOf (d2 fEq (dIx (oVar 7) (dC (.int 2))) (dC (.str "required"))))
    (sApp 6 (dTup [(dIx (oVar 7) (dC (.int 0))), (dCall M_l_simple [(oVar 0), (dIx (oVar 7) (dC (.int 1))), (oVar 2)])]))
    sNil)
    (sIf (bOf (d2 fEq (dIx (oVar 7) (dC (.int 2))) (dC (.str "default"))))
    (sApp 6 (dTup [(dIx (oVar 7) (dC (.int 0))), (dIx (oVar 7) (dC (.int 3)))]))
    sNil)))
    (sRet (dToTup (oVar 6)))))
    sNil)
    (sSeq (sIf (bOf (dIx (oVar 3) (dC (.int 3))))
    (sRet (dTup [(dC (.int 0)), (dC .non)]))
    sNil)
    (sSeq (sSet 4 (dC .non))
    (sSeq (sFor (.one 5) (iTupF (dIx (oVar 3) (dC (.int 1))))
    (sIf (bOf (dCall M_l_is_known [(dIx (oVar 5) (dC (.int 1))), (oVar 2)]))
    (sIf (bOr (bOf (d1 fIsN (dVar 4))) (bOf (d2 fLt (dCall M_l_part_depth [(dIx (oVar 5) (dC (.int 1))), (oVar 2)]) (dCall M_l_part_depth [(dIx (oVar 4) (dC (.int 1))), (oVar 2)]))))
    (sSet 4 (dVar 5))
    sNil)
    sNil))
    (sRet (dTup [(dIx (oVar 4) (dC (.int 0))), (dCall M_l_simple [(oVar 0), (dIx (oVar 4) (dC (.int 1))), (oVar 2)])])))))))))
def G_l_record_value (M_l_next : FM) (M_l_value : FM) : SF := (sSeq (sOwn 5 (lDisp []))
    (sSeq (sFor (.one 6) (iTupF (dIx (oVar 1) (dC (.int 1))))
    (sIf (bOr (bOf (d2 fNe (dIx (oVar 6) (dC (.int 2))) (dC (.str "optional")))) (bOf (d2 fGt (dCall M_l_next [(oVar 2), (dC (.int 3))]) (dC (.int 0)))))
    (sApp 5 (dTup [(dIx (oVar 6) (dC (.int 0))), (dCall M_l_value [(oVar 0), (dIx (oVar 6) (dC (.int 1))), (oVar 2), (oVar 3), (oVar 4)])]))
    sNil))
    (sRet (dToTup (oVar 5)))))
def G_l_value (M_l_value : FM) (M_l_next : FM) (M_l_record_value : FM) (M_l_body_of : FM) (M_l_simple : FM) (M_l_leaf_value : FM) : SF := (sSeq (sIf (bNot (bOf (dIsI "str" (dVar 1))))
    (sRet (dCall M_l_leaf_value [(oVar 1), (oVar 2)]))
    sNil)
    (sSeq (sIf (bOf (d2 fEq (dVar 4) (dC (.int 0))))
    (sRet (dCall M_l_simple [(oVar 0), (oVar 1), (oVar 3)]))
    sNil)
    (sSeq (sSet 5 (dCall M_l_body_of [(oVar 0), (oVar 1)]))
    (sSeq (sIf (bOf (d2 fEq (dIx (oVar 5) (dC (.int 0))) (dC (.str "record"))))
    (sRet (dCall M_l_record_value [(oVar 0), (oVar 5), (oVar 2), (oVar 3), (d2 fSub (dVar 4) (dC (.int 1)))]))
    sNil)
    (sSeq (sIf (bOf (d2 fEq (dIx (oVar 5) (dC (.int 0))) (dC (.str "list"))))
    (sSeq (sSet 9 (d2 fAdd (dIx (oVar 5) (dC (.int 2))) (dCall M_l_next [(oVar 2), (d2 fAdd (dBu minD [(dC (.int 3)), (d2 fSub (dIx (oVar 5) (dC (.int 3))) (dIx (oVar 5) (dC (.int 2))))]) (dC (.int 1)))])))
    (sRet (dToTup (dOfL (lComp [10] (iRngF (dVar 9)) (.one 10) bTrue (dCall M_l_value [(oVar 0), (dIx (oVar 5) (dC (.int 1))), (oVar 2), (oVar 3), (d2 fSub (dVar 4) (dC (.int 1)))]))))))
    sNil)
    (sSeq (sSet 6 (dBu lenD [(dIx (oVar 5) (dC (.int 1)))]))
    (sSeq (sSet 7 (dCall M_l_next [(oVar 2), (d2 fAdd (dVar 6) (dBu intD [(dIx (oVar 5) (dC (.int 3)))]))]))
    (sSeq (sIf (bOf (d2 fEq (dVar 7) (dVar 6)))
    (sRet (dTup [(dC (.int 0)), (dC .non)]))
    sNil)
    (sSeq (sSet 8 (dIx (dIx (oVar 5) (dC (.int 1))) (dVar 7)))
    (sRet (dTup [(dIx (oVar 8) (dC (.int 0))), (dCall M_l_value [(oVar 0), (dIx (oVar 8) (dC (.int 1))), (oVar 2), (oVar 3), (d2 fSub (dVar 4) (dC (.int 1)))])])))))))))))
def G_l_live : SF := (sSeq (sIf (bOf (d2 fEq (dIx (oVar 0) (dC (.int 0))) (dC (.str "choice"))))
    (sRetL (lToL (dIx (oVar 0) (dC (.int 1)))))
    sNil)
    (sRetL (lComp [1] (iTupF (dIx (oVar 0) (dC (.int 1)))) (.one 1) bTrue (dIx (oVar 1) (dC (.int 0))))))
def G_l_part_of : SF := (sSeq (sFor (.one 2) (iTupF (dIx (oVar 0) (dC (.int 1))))
    (sIf (bOf (d2 fEq (dIx (oVar 2) (dC (.int 0))) (dVar 1)))
    (sRet (dIx (oVar 2) (dC (.int 1))))
    sNil))
    (sRet (dC .non)))
def G_l_same (M_l_same : FM) : SF := (sSeq (sIf (bOf (d1 fIsN (dVar 1)))
    (sRet (d1 fIsN (dVar 0)))
    sNil)
    (sSeq (sIf (bOf (dIsI "tuple" (dVar 1)))
    (sSeq (sIf (bOr (bNot (bOf (dIsI "tuple" (dVar 0)))) (bOf (d2 fNe (dBu lenD [(oVar 0)]) (dBu lenD [(oVar 1)]))))
    (sRet (dC (.bl false)))
    sNil)
    (sSeq (sFor (.one 2) (iRngF (dBu lenD [(oVar 1)]))
    (sIf (bNot (bOf (dCall M_l_same [(dIx (oVar 0) (dVar 2)), (dIx (oVar 1) (dVar 2))])))
    (sRet (dC (.bl false)))
    sNil))
    (sRet (dC (.bl true)))))
    sNil)
    (sSeq (sIf (bOf (dIsI "bool" (dVar 1)))
    (sRet (dAnd (dIsI "bool" (dVar 0)) (d2 fEq (dVar 0) (dVar 1))))
    sNil)
    (sSeq (sIf (bOf (dIsI "int" (dVar 1)))
    (sRet (dAnd (dIsI "int" (dVar 0)) (dAnd (dNot (dIsI "bool" (dVar 0))) (d2 fEq (dVar 0) (dVar 1)))))
    sNil)
    (sRet (dAnd (dIsI "str" (dVar 0)) (d2 fEq (dVar 0) (dVar 1))))))))
def G_l_is_text : SF := (sSeq (sIf (bNot (bOf (dIsI "str" (dVar 0))))
    (sRet (dC (.bl false)))
    sNil)
    (sSeq (sFor (.one 1) (iStrF (dVar 0))
    (sIf (bOr (bOf (d2 fLt (dBu ordD [(oVar 1)]) (dC (.int 32)))) (bOr (bOf (d2 fGt (dBu ordD [(oVar 1)]) (dC (.int 126)))) (bOf (d2 fEq (dBu ordD [(oVar 1)]) (dC (.int 37))))))
    (sRet (dC (.bl false)))
    sNil))
    (sRet (dC (.bl true)))))
def G_l_is_leaf_value (M_l_is_text : FM) : SF := (sSeq (sIf (bOf (d2 fEq (dIx (oVar 0) (dC (.int 0))) (dC (.str "text"))))
    (sRet (dAnd (dCall M_l_is_text [(oVar 1)]) (dAnd (d2 fGe (dBu lenD [(oVar 1)]) (dIx (oVar 0) (dC (.int 1)))) (d2 fLe (dBu lenD [(oVar 1)]) (dIx (oVar 0) (dC (.int 2)))))))
    sNil)
    (sSeq (sIf (bNot (bOf (dIsI "int" (dVar 1))))
    (sRet (dC (.bl false)))
    sNil)
    (sSeq (sIf (bOf (d2 fEq (dIx (oVar 0) (dC (.int 0))) (dC (.str "number"))))
    (sRet (dAnd (d2 fGe (dVar 1) (dIx (oVar 0) (dC (.int 1)))) (d2 fLe (dVar 1) (dIx (oVar 0) (dC (.int 2))))))
    sNil)
    (sRet (dOr (dIn false (dVar 1) (dIx (oVar 0) (dC (.int 1)))) (dAnd (d2 fEq (dVar 1) (dC (.int 0))) (dIx (oVar 0) (dC (.int 3)))))))))
def G_l_is_entry : SF := (sRet (dAnd (dIsI "tuple" (dVar 0)) (dAnd (d2 fEq (dBu lenD [(oVar 0)]) (dC (.int 2))) (dIsI "int" (dIx (oVar 0) (dC (.int 0)))))))
def G_l_is_record_value (M_l_is_of : FM) (M_l_part_of : FM) (M_l_live : FM) (M_l_is_entry : FM) : SF := (sSeq (sSet 3 (dC (.int 0)))
    (sSeq (sOwn 4 (lDisp []))
    (sSeq (sFor (.one 5) (iTupF (dVar 2))
    (sSeq (sIf (bOr (bNot (bOf (dCall M_l_is_entry [(oVar 5)]))) (bOr (bOf (d2 fLe (dIx (oVar 5) (dC (.int 0))) (dVar 3))) (bOf (dIn true (dIx (oVar 5) (dC (.int 0))) (dCall M_l_live [(oVar 1)])))))
    (sRet (dC (.bl false)))
    sNil)
    (sSeq (sSet 3 (dIx (oVar 5) (dC (.int 0))))
    (sSeq (sApp 4 (dVar 3))
    (sIf (bNot (bOf (dCall M_l_is_of [(oVar 0), (dCall M_l_part_of [(oVar 1), (oVar 3)]), (dIx (oVar 5) (dC (.int 1)))])))
    (sRet (dC (.bl false)))
    sNil)))))
    (sRet (d2 fEq (dBu lenD [(dOfL (lComp [6] (iTupF (dIx (oVar 1) (dC (.int 1)))) (.one 6) (bAnd (bOf (d2 fNe (dIx (oVar 6) (dC (.int 2))) (dC (.str "optional")))) (bOf (dIn true (dIx (oVar 6) (dC (.int 0))) (oVar 4)))) (dVar 6)))]) (dC (.int 0)))))))
def G_l_is_of (M_l_is_of : FM) (M_l_part_of : FM) (M_l_live : FM) (M_l_is_entry : FM) (M_l_is_record_value : FM) (M_l_body_of : FM) (M_l_is_leaf_value : FM) : SF := (sSeq (sIf (bNot (bOf (dIsI "str" (dVar 1))))
    (sRet (dCall M_l_is_leaf_value [(oVar 1), (oVar 2)]))
    sNil)
    (sSeq (sIf (bNot (bOf (dIsI "tuple" (dVar 2))))
    (sRet (dC (.bl false)))
    sNil)
    (sSeq (sSet 3 (dCall M_l_body_of [(oVar 0), (oVar 1)]))
    (sSeq (sIf (bOf (d2 fEq (dIx (oVar 3) (dC (.int 0))) (dC (.str "list"))))
    (sSeq (sIf (bOr (bOf (d2 fLt (dBu lenD [(oVar 2)]) (dIx (oVar 3) (dC (.int 2))))) (bOf (d2 fGt (dBu lenD [(oVar 2)]) (dIx (oVar 3) (dC (.int 3))))))
    (sRet (dC (.bl false)))
    sNil)
    (sSeq (sFor (.one 4) (iTupF (dVar 2))
    (sIf (bNot (bOf (dCall M_l_is_of [(oVar 0), (dIx (oVar 3) (dC (.int 1))), (oVar 4)])))
    (sRet (dC (.bl false)))
    sNil))
    (sRet (dC (.bl true)))))
    sNil)
    (sSeq (sIf (bOf (d2 fEq (dIx (oVar 3) (dC (.int 0))) (dC (.str "record"))))
    (sRet (dCall M_l_is_record_value [(oVar 0), (oVar 3), (oVar 2)]))
    sNil)
    (sSeq (sIf (bNot (bOf (dCall M_l_is_entry [(oVar 2)])))
    (sRet (dC (.bl false)))
    sNil)
    (sSeq (sIf (bOf (d2 fEq (dIx (oVar 2) (dC (.int 0))) (dC (.int 0))))
    (sRet (dAnd (d1 fIsN (dIx (oVar 2) (dC (.int 1)))) (dIx (oVar 3) (dC (.int 3)))))
    sNil)
    (sRet (dAnd (dIn false (dIx (oVar 2) (dC (.int 0))) (dCall M_l_live [(oVar 3)])) (dCall M_l_is_of [(oVar 0), (dCall M_l_part_of [(oVar 3), (dIx (oVar 2) (dC (.int 0)))]), (dIx (oVar 2) (dC (.int 1)))]))))))))))
def G_l_depth (M_l_depth : FM) (M_l_part_of : FM) (M_l_body_of : FM) : SF := (sSeq (sIf (bNot (bOf (dIsI "str" (dVar 1))))
    (sRet (dC (.int 0)))
    sNil)
    (sSeq (sSet 3 (dCall M_l_body_of [(oVar 0), (oVar 1)]))
    (sSeq (sOwn 4 (lDisp [(dC (.int 0))]))
    (sSeq (sIf (bOf (d2 fEq (dIx (oVar 3) (dC (.int 0))) (dC (.str "list"))))
    (sExt 4 (lComp [5] (iTupF (dVar 2)) (.one 5) bTrue (dCall M_l_depth [(oVar 0), (dIx (oVar 3) (dC (.int 1))), (oVar 5)])))
    (sIf (bOf (d2 fEq (dIx (oVar 3) (dC (.int 0))) (dC (.str "record"))))
    (sExt 4 (lComp [6] (iTupF (dVar 2)) (.one 6) bTrue (dCall M_l_depth [(oVar 0), (dCall M_l_part_of [(oVar 3), (dIx (oVar 6) (dC (.int 0)))]), (dIx (oVar 6) (dC (.int 1)))])))
    (sIf (bOf (d2 fGt (dIx (oVar 2) (dC (.int 0))) (dC (.int 0))))
    (sApp 4 (dCall M_l_depth [(oVar 0), (dCall M_l_part_of [(oVar 3), (dIx (oVar 2) (dC (.int 0)))]), (dIx (oVar 2) (dC (.int 1)))]))
    sNil)))
    (sRet (d2 fAdd (dC (.int 1)) (dBu maxLD [(oVar 4)])))))))
def G_l_count (M_l_count : FM) (M_l_part_of : FM) (M_l_body_of : FM) : SF := (sSeq (sIf (bNot (bOf (dIsI "str" (dVar 1))))
    (sRet (dC (.int 1)))
    sNil)
    (sSeq (sSet 3 (dCall M_l_body_of [(oVar 0), (oVar 1)]))
    (sSeq (sOwn 4 (lDisp [(dC (.int 1))]))
    (sSeq (sIf (bOf (d2 fEq (dIx (oVar 3) (dC (.int 0))) (dC (.str "list"))))
    (sExt 4 (lComp [5] (iTupF (dVar 2)) (.one 5) bTrue (dCall M_l_count [(oVar 0), (dIx (oVar 3) (dC (.int 1))), (oVar 5)])))
    (sIf (bOf (d2 fEq (dIx (oVar 3) (dC (.int 0))) (dC (.str "record"))))
    (sExt 4 (lComp [6] (iTupF (dVar 2)) (.one 6) bTrue (dCall M_l_count [(oVar 0), (dCall M_l_part_of [(oVar 3), (dIx (oVar 6) (dC (.int 0)))]), (dIx (oVar 6) (dC (.int 1)))])))
    (sIf (bOf (d2 fGt (dIx (oVar 2) (dC (.int 0))) (dC (.int 0))))
    (sApp 4 (dCall M_l_count [(oVar 0), (dCall M_l_part_of [(oVar 3), (dIx (oVar 2) (dC (.int 0)))]), (dIx (oVar 2) (dC (.int 1)))]))
    sNil)))
    (sRet (dBu sumLD [(oVar 4)]))))))
def G_l_is_counted (M_l_same : FM) (M_l_count : FM) (M_value_count : FM) (M_l_depth : FM) (M_depth : FM) : SF := (sSeq (sIf (bNot (bOf (dCall M_l_same [(dCall M_depth [(oVar 0), (oVar 1), (oVar 2)]), (dCall M_l_depth [(oVar 0), (oVar 1), (oVar 2)])])))
    (sRet (dC (.bl false)))
    sNil)
    (sRet (dCall M_l_same [(dCall M_value_count [(oVar 0), (oVar 1), (oVar 2)]), (dCall M_l_count [(oVar 0), (oVar 1), (oVar 2)])])))
end Sb

set_option Elab.async false
set_option linter.all false
set_option maxRecDepth 100000
namespace Sb
open PySem L2
/-- the next draw -/
def M_l_next : FM := fun svs s => match svs, s with
  | [.w, .d (.int _)], [] => some (.d (.int 0), [])
  | [.w, .d (.int m)], x :: r => if 0 < m then some (.d (.int (x % m)), r) else none
  | _, _ => none
def M_is_allowed_code : FM := runM 1 1 (G_is_allowed_code)
def M_is_text : FM := runM 2 1 (G_is_text M_is_allowed_code)
def M_is_leaf_value : FM := runM 2 2 (G_is_leaf_value M_is_text)
def M_simple_leaf_value : FM := runM 1 1 (G_simple_leaf_value)
def M_is_name : FM := runM 1 1 (G_is_name)
def M_body_of : FM := runM 4 2 (G_body_of)
def M_is_known : FM := runM 2 2 (G_is_known M_is_name)
def M_part_depth : FM := runM 2 2 (G_part_depth M_is_name)
def M_has_value : FM := runM 5 2 (G_has_value M_is_known)
def M_least_depths : FM := runM 6 1 (G_least_depths M_has_value)
def M_simple_case : FM := runM 4 2 (G_simple_case M_is_known M_part_depth)
def M_is_entry : FM := runM 2 2 (G_is_entry)
def M_is_list_of (R : FM) : FM := runM 4 3 (G_is_list_of R)
def M_is_record_of (R : FM) : FM := runM 8 3 (G_is_record_of M_is_entry R)
def M_is_union_of (R : FM) : FM := runM 5 3 (G_is_union_of M_is_entry R)
def M_is_of : Nat → FM
  | 0 => fun _ _ => none
  | n + 1 => runM 4 3 (G_is_of (M_is_union_of (M_is_of n)) (M_is_record_of (M_is_of n)) (M_is_list_of (M_is_of n)) M_body_of M_is_name M_is_leaf_value)
def M_part_of_id : FM := runM 3 2 (G_part_of_id)
def M_inner_values : FM := runM 5 2 (G_inner_values M_part_of_id)
def M_depth : Nat → FM
  | 0 => fun _ _ => none
  | n + 1 => runM 6 3 (G_depth M_inner_values M_body_of (M_depth n) M_is_name)
def M_value_count : Nat → FM
  | 0 => fun _ _ => none
  | n + 1 => runM 6 3 (G_value_count M_inner_values M_body_of (M_value_count n) M_is_name)
def M_simple_record (R : FM) : FM := runM 8 3 (G_simple_record R)
def M_simple_part : Nat → FM
  | 0 => fun _ _ => none
  | n + 1 => runM 6 3 (G_simple_part (M_simple_part n) M_simple_case (M_simple_record (M_simple_part n)) M_body_of M_is_name M_simple_leaf_value)
def M_simple_value : FM := runM 2 2 (G_simple_value (M_simple_part 20) M_least_depths)
def M_l_cell : FM := runM 2 2 (G_l_cell)
def M_l_big : FM := runM 3 1 (G_l_big M_l_next)
def M_l_char : FM := runM 2 1 (G_l_char)
def M_l_ids : FM := runM 5 2 (G_l_ids M_l_next)
def M_l_split : FM := runM 5 2 (G_l_split M_l_next)
def M_l_leaf : FM := runM 6 1 (G_l_leaf M_l_next M_l_split M_l_ids)
def M_l_leaf_value : FM := runM 6 2 (G_l_leaf_value M_l_next M_l_char M_l_big)
def M_l_part : FM := runM 2 2 (G_l_part M_l_leaf M_l_next)
def M_l_list_body : FM := runM 6 3 (G_l_list_body M_l_next M_l_leaf)
def M_l_record_body : FM := runM 9 3 (G_l_record_body M_l_leaf_value M_l_next M_l_part M_l_split M_l_ids)
def M_l_union_body : FM := runM 9 3 (G_l_union_body M_l_next M_l_part M_l_split M_l_ids)
def M_l_schema : FM := runM 8 1 (G_l_schema M_l_next M_l_record_body M_l_union_body M_l_list_body)
def M_l_body_of : FM := runM 3 2 (G_l_body_of)
def M_l_is_known : FM := runM 2 2 (G_l_is_known)
def M_l_has_value : FM := runM 4 2 (G_l_has_value M_l_is_known)
def M_l_depths : FM := runM 6 1 (G_l_depths M_l_has_value)
def M_l_part_depth : FM := runM 2 2 (G_l_part_depth)
def M_l_simple_leaf : FM := runM 1 1 (G_l_simple_leaf)
def M_l_simple : Nat → FM
  | 0 => fun _ _ => none
  | n + 1 => runM 9 3 (G_l_simple (M_l_simple n) M_l_is_known M_l_part_depth M_l_body_of M_l_simple_leaf)
def M_l_record_value (R : FM) : FM := runM 7 5 (G_l_record_value M_l_next R)
def M_l_value : Nat → FM
  | 0 => fun _ _ => none
  | n + 1 => runM 11 5 (G_l_value (M_l_value n) M_l_next (M_l_record_value (M_l_value n)) M_l_body_of (M_l_simple 20) M_l_leaf_value)
def M_l_live : FM := runM 2 1 (G_l_live)
def M_l_part_of : FM := runM 3 2 (G_l_part_of)
def M_l_same : Nat → FM
  | 0 => fun _ _ => none
  | n + 1 => runM 3 2 (G_l_same (M_l_same n))
def M_l_is_text : FM := runM 2 1 (G_l_is_text)
def M_l_is_leaf_value : FM := runM 2 2 (G_l_is_leaf_value M_l_is_text)
def M_l_is_entry : FM := runM 1 1 (G_l_is_entry)
def M_l_is_record_value (R : FM) : FM := runM 7 3 (G_l_is_record_value R M_l_part_of M_l_live M_l_is_entry)
def M_l_is_of : Nat → FM
  | 0 => fun _ _ => none
  | n + 1 => runM 5 3 (G_l_is_of (M_l_is_of n) M_l_part_of M_l_live M_l_is_entry (M_l_is_record_value (M_l_is_of n)) M_l_body_of M_l_is_leaf_value)
def M_l_depth : Nat → FM
  | 0 => fun _ _ => none
  | n + 1 => runM 7 3 (G_l_depth (M_l_depth n) M_l_part_of M_l_body_of)
def M_l_count : Nat → FM
  | 0 => fun _ _ => none
  | n + 1 => runM 7 3 (G_l_count (M_l_count n) M_l_part_of M_l_body_of)
def M_l_is_counted : FM := runM 3 3 (G_l_is_counted (M_l_same 20) (M_l_count 20) (M_value_count 20) (M_l_depth 20) (M_depth 20))
/-- law's statements but the first two -/
def G_law (M_l_is_counted : FM) (M_l_leaf_value : FM) (M_l_same : FM) (M_l_simple_leaf : FM) (M_simple_value : FM) (M_l_leaf : FM) (M_l_depth : FM) (M_l_value : FM) (M_l_next : FM) (M_l_count : FM) (M_least_depths : FM) (M_l_simple : FM) (M_is_of : FM) (M_l_is_of : FM) (M_l_depths : FM) : SF := (sSeq (sSet 3 (dCall M_l_depths [(oVar 1)]))
    (sSeq (sSet 4 (dOfL (lComp [9] (iTupF (dIx (oVar 1) (dC (.int 1)))) (.one 9) bTrue (dIx (oVar 9) (dC (.int 0))))))
    (sSeq (sSet 5 (dIx (oVar 4) (dCall M_l_next [(oVar 2), (dBu lenD [(oVar 4)])])))
    (sSeq (sSet 6 (dCall M_simple_value [(oVar 1), (oVar 5)]))
    (sSeq (sIf (bOr (bNot (bOf (dCall M_l_is_of [(oVar 1), (oVar 5), (oVar 6)]))) (bOf (d1 fNotTrue (dCall M_is_of [(oVar 1), (oVar 5), (oVar 6)]))))
    (sRet (dC (.bl false)))
    sNil)
    (sSeq (sIf (bNot (bOf (dCall M_l_same [(oVar 6), (dCall M_l_simple [(oVar 1), (oVar 5), (oVar 3)])])))
    (sRet (dC (.bl false)))
    sNil)
    (sSeq (sIf (bOr (bOf (d2 fNe (dCall M_l_depth [(oVar 1), (oVar 5), (oVar 6)]) (dGetK (dCall M_least_depths [(oVar 1)]) (dVar 5)))) (bOf (d2 fGt (dCall M_l_count [(oVar 1), (oVar 5), (oVar 6)]) (dC (.int 100)))))
    (sRet (dC (.bl false)))
    sNil)
    (sSeq (sSet 7 (dCall M_l_value [(oVar 1), (oVar 5), (oVar 2), (oVar 3), (d2 fAdd (dC (.int 1)) (dCall M_l_next [(oVar 2), (dC (.int 6))]))]))
    (sSeq (sIf (bOf (d2 fLt (dCall M_l_depth [(oVar 1), (oVar 5), (oVar 7)]) (dCall M_l_depth [(oVar 1), (oVar 5), (oVar 6)])))
    (sRet (dC (.bl false)))
    sNil)
    (sSeq (sSet 8 (dCall M_l_leaf [(oVar 2)]))
    (sSeq (sIf (bNot (bOf (dCall M_l_same [(dCall M_simple_value [(oVar 1), (oVar 8)]), (dCall M_l_simple_leaf [(oVar 8)])])))
    (sRet (dC (.bl false)))
    sNil)
    (sSeq (sIf (bNot (bOf (dCall M_l_is_counted [(oVar 1), (oVar 8), (dCall M_l_leaf_value [(oVar 8), (oVar 2)])])))
    (sRet (dC (.bl false)))
    sNil)
    (sRet (dAnd (dCall M_l_is_counted [(oVar 1), (oVar 5), (oVar 6)]) (dCall M_l_is_counted [(oVar 1), (oVar 5), (oVar 7)])))))))))))))))
def G_lawAll : SF := G_law M_l_is_counted M_l_leaf_value (M_l_same 20) M_l_simple_leaf M_simple_value M_l_leaf (M_l_depth 20) (M_l_value 20) M_l_next (M_l_count 20) M_least_depths (M_l_simple 20) (M_is_of 20) (M_l_is_of 20) M_l_depths
end Sb

set_option Elab.async false
set_option linter.all false
set_option maxRecDepth 100000
set_option maxHeartbeats 4000000
namespace Sb
open PySem L2
def topS (i : Nat) : Stmt := PySem.Challenge.pw_schemabridge_k07_whole_simple_values.main.body.getD i (.Pass ⟨0, 0, 0, 0⟩)
/-- the built-ins' names stand free -/
structure Bl (mg : Str → Option Value) : Prop where
  len : mg "len" = none
  isinstance : mg "isinstance" = none
  str_ : mg "str" = none
  int_ : mg "int" = none
  tuple_ : mg "tuple" = none
  bool_ : mg "bool" = none
  list_ : mg "list" = none
  max : mg "max" = none
  min : mg "min" = none
  sum : mg "sum" = none
  abs : mg "abs" = none
  ord : mg "ord" = none
  range : mg "range" = none
end Sb

set_option Elab.async false
set_option linter.all false
set_option maxRecDepth 100000
set_option maxHeartbeats 4000000
namespace Sb
open PySem L2
def N_is_allowed_code : List Str := ["code"]
abbrev s_is_allowed_code : Stmt := topS 2
theorem sc_is_allowed_code : FnScope N_is_allowed_code ["code"] (defScope s_is_allowed_code) := ⟨rfl, rfl, rfl, by decide +kernel, rfl, by decide +kernel, by decide +kernel⟩
theorem ok_is_allowed_code {P : Program} {w : PySem.World} {K : PySem.W.Frag} {mg : Str → Option Value} {base : Heap} {f : Addr} {fd : FuncData} {k : Nat} (F : Fun K "is_allowed_code" "is_allowed_code" s_is_allowed_code f fd) (B : Bl mg) {tP : Tok} (hP : mg "PERCENT" = some (.int 37 tP)) :
    FnOk P w K mg base CX0 (k + 1) f fd ["code"] (spD K 1 (runM 1 1 (G_is_allowed_code))) :=
  ok_body F sc_is_allowed_code fun cdv A outer s H E hr =>
    (dss_one (ds_ret (de_and (de_le2 de_int (de_var 0) de_int) (de_one (de_ne (de_var 0) (de_glob (v := .int 37) hP ⟨_, rfl⟩ (fun _ => .int 37)))))))
def N_is_text : List Str := ["value", "char"]
abbrev s_is_text : Stmt := topS 3
theorem sc_is_text : FnScope N_is_text ["value"] (defScope s_is_text) := ⟨rfl, rfl, rfl, by decide +kernel, rfl, by decide +kernel, by decide +kernel⟩
theorem ok_is_text {P : Program} {w : PySem.World} {K : PySem.W.Frag} {mg : Str → Option Value} {base : Heap} {f : Addr} {fd : FuncData} {k : Nat} {M_is_allowed_code : FM} (F : Fun K "is_text" "is_text" s_is_text f fd) (B : Bl mg) (C_is_allowed_code : Callee P w K mg base k "is_allowed_code" 1 M_is_allowed_code) :
    FnOk P w K mg base CX0 (k + 1) f fd ["value"] (spD K 1 (runM 2 1 (G_is_text M_is_allowed_code))) :=
  ok_body F sc_is_text fun cdv A outer s H E hr =>
    (dss_cons (ds_if (dt_not (dt_val (de_isi B.isinstance B.str_ (by decide +kernel) (de_var 0))))
    (dss_one (ds_ret de_bl))
    dss_nil)
    (dss_cons (ds_for PassesOwn.never rfl (di_str (de_var 0)) (dg_one 1 sc_is_text.nd)
    (dss_one (ds_if (dt_not (dt_val (de_call C_is_allowed_code hr (as_cons (do_d (de_ord B.ord (as_cons (do_var 1) as_nil))) as_nil))))
    (dss_one (ds_ret de_bl))
    dss_nil)))
    (dss_one (ds_ret de_bl))))
def N_is_leaf_value : List Str := ["leaf", "value"]
abbrev s_is_leaf_value : Stmt := topS 4
theorem sc_is_leaf_value : FnScope N_is_leaf_value ["leaf", "value"] (defScope s_is_leaf_value) := ⟨rfl, rfl, rfl, by decide +kernel, rfl, by decide +kernel, by decide +kernel⟩
theorem ok_is_leaf_value {P : Program} {w : PySem.World} {K : PySem.W.Frag} {mg : Str → Option Value} {base : Heap} {f : Addr} {fd : FuncData} {k : Nat} {M_is_text : FM} (F : Fun K "is_leaf_value" "is_leaf_value" s_is_leaf_value f fd) (B : Bl mg) (C_is_text : Callee P w K mg base k "is_text" 1 M_is_text) :
    FnOk P w K mg base CX0 (k + 1) f fd ["leaf", "value"] (spD K 2 (runM 2 2 (G_is_leaf_value M_is_text))) :=
  ok_body F sc_is_leaf_value fun cdv A outer s H E hr =>
    (dss_cons (ds_if (dt_eq (de_ix (do_var 0) de_int) de_str)
    (dss_one (ds_ret (de_and (de_call C_is_text hr (as_cons (do_var 1) as_nil)) (de_one (de_le2 (de_ix (do_var 0) de_int) (de_len B.len (as_cons (do_var 1) as_nil)) (de_ix (do_var 0) de_int))))))
    dss_nil)
    (dss_cons (ds_if (dt_not (dt_val (de_isi B.isinstance B.int_ (by decide +kernel) (de_var 1))))
    (dss_one (ds_ret de_bl))
    dss_nil)
    (dss_cons (ds_if (dt_eq (de_ix (do_var 0) de_int) de_str)
    (dss_one (ds_ret (de_le2 (de_ix (do_var 0) de_int) (de_var 1) (de_ix (do_var 0) de_int))))
    dss_nil)
    (dss_one (ds_ret (de_or (de_in (de_var 1) (do_d (de_ix (do_var 0) de_int))) (de_one (de_and (de_eq (de_var 1) de_int) (de_one (de_ix (do_var 0) de_int))))))))))
def N_simple_leaf_value : List Str := ["leaf"]
abbrev s_simple_leaf_value : Stmt := topS 5
theorem sc_simple_leaf_value : FnScope N_simple_leaf_value ["leaf"] (defScope s_simple_leaf_value) := ⟨rfl, rfl, rfl, by decide +kernel, rfl, by decide +kernel, by decide +kernel⟩
theorem ok_simple_leaf_value {P : Program} {w : PySem.World} {K : PySem.W.Frag} {mg : Str → Option Value} {base : Heap} {f : Addr} {fd : FuncData} {k : Nat} (F : Fun K "simple_leaf_value" "simple_leaf_value" s_simple_leaf_value f fd) (B : Bl mg) :
    FnOk P w K mg base CX0 (k + 1) f fd ["leaf"] (spD K 1 (runM 1 1 (G_simple_leaf_value))) :=
  ok_body F sc_simple_leaf_value fun cdv A outer s H E hr =>
    (dss_cons (ds_if (dt_eq (de_ix (do_var 0) de_int) de_str)
    (dss_one (ds_ret (de_max2 rfl B.max (as_cons (do_d (de_ix (do_var 0) de_int)) (as_cons (do_d (de_min2 rfl B.min (as_cons (do_d (de_ix (do_var 0) de_int)) (as_cons (do_d de_int) as_nil)))) as_nil)))))
    dss_nil)
    (dss_cons (ds_if (dt_eq (de_ix (do_var 0) de_int) de_str)
    (dss_one (ds_ret (de_mulS de_str (de_ix (do_var 0) de_int))))
    dss_nil)
    (dss_cons (ds_if (dt_gt (de_len B.len (as_cons (do_d (de_ix (do_var 0) de_int)) as_nil)) de_int)
    (dss_one (ds_ret (de_ix (do_d (de_ix (do_var 0) de_int)) de_int)))
    dss_nil)
    (dss_one (ds_ret de_int)))))
def N_is_name : List Str := ["part"]
abbrev s_is_name : Stmt := topS 7
theorem sc_is_name : FnScope N_is_name ["part"] (defScope s_is_name) := ⟨rfl, rfl, rfl, by decide +kernel, rfl, by decide +kernel, by decide +kernel⟩
theorem ok_is_name {P : Program} {w : PySem.World} {K : PySem.W.Frag} {mg : Str → Option Value} {base : Heap} {f : Addr} {fd : FuncData} {k : Nat} (F : Fun K "is_name" "is_name" s_is_name f fd) (B : Bl mg) :
    FnOk P w K mg base CX0 (k + 1) f fd ["part"] (spD K 1 (runM 1 1 (G_is_name))) :=
  ok_body F sc_is_name fun cdv A outer s H E hr =>
    (dss_one (ds_ret (de_isi B.isinstance B.str_ (by decide +kernel) (de_var 0))))
def N_body_of : List Str := ["schema", "name", "own", "body"]
abbrev s_body_of : Stmt := topS 8
theorem sc_body_of : FnScope N_body_of ["schema", "name"] (defScope s_body_of) := ⟨rfl, rfl, rfl, by decide +kernel, rfl, by decide +kernel, by decide +kernel⟩
theorem ok_body_of {P : Program} {w : PySem.World} {K : PySem.W.Frag} {mg : Str → Option Value} {base : Heap} {f : Addr} {fd : FuncData} {k : Nat} (F : Fun K "body_of" "body_of" s_body_of f fd) (B : Bl mg) :
    FnOk P w K mg base CX0 (k + 1) f fd ["schema", "name"] (spD K 2 (runM 4 2 (G_body_of))) :=
  ok_body F sc_body_of fun cdv A outer s H E hr =>
    (dss_cons (ds_for PassesOwn.never rfl (di_tup (de_ix (do_var 0) de_int)) (dg_many rfl (dgs_cons 2 sc_body_of.nd (dgs_cons 3 sc_body_of.nd dgs_nil)))
    (dss_one (ds_if (dt_eq (de_var 2) (de_var 1))
    (dss_one (ds_ret (de_var 3)))
    dss_nil)))
    (dss_one (ds_ret de_non)))
def N_is_known : List Str := ["part", "depths"]
abbrev s_is_known : Stmt := topS 9
theorem sc_is_known : FnScope N_is_known ["part", "depths"] (defScope s_is_known) := ⟨rfl, rfl, rfl, by decide +kernel, rfl, by decide +kernel, by decide +kernel⟩
theorem ok_is_known {P : Program} {w : PySem.World} {K : PySem.W.Frag} {mg : Str → Option Value} {base : Heap} {f : Addr} {fd : FuncData} {k : Nat} {M_is_name : FM} (F : Fun K "is_known" "is_known" s_is_known f fd) (B : Bl mg) (C_is_name : Callee P w K mg base k "is_name" 1 M_is_name) :
    FnOk P w K mg base CX0 (k + 1) f fd ["part", "depths"] (spD K 2 (runM 2 2 (G_is_known M_is_name))) :=
  ok_body F sc_is_known fun cdv A outer s H E hr =>
    (dss_one (ds_ret (de_or (de_not (de_call C_is_name hr (as_cons (do_var 0) as_nil))) (de_one (de_inK (hu_of hr) (de_var 0) (do_var 1))))))
def N_part_depth : List Str := ["part", "depths"]
abbrev s_part_depth : Stmt := topS 10
theorem sc_part_depth : FnScope N_part_depth ["part", "depths"] (defScope s_part_depth) := ⟨rfl, rfl, rfl, by decide +kernel, rfl, by decide +kernel, by decide +kernel⟩
theorem ok_part_depth {P : Program} {w : PySem.World} {K : PySem.W.Frag} {mg : Str → Option Value} {base : Heap} {f : Addr} {fd : FuncData} {k : Nat} {M_is_name : FM} (F : Fun K "part_depth" "part_depth" s_part_depth f fd) (B : Bl mg) (C_is_name : Callee P w K mg base k "is_name" 1 M_is_name) :
    FnOk P w K mg base CX0 (k + 1) f fd ["part", "depths"] (spD K 2 (runM 2 2 (G_part_depth M_is_name))) :=
  ok_body F sc_part_depth fun cdv A outer s H E hr =>
    (dss_cons (ds_if (dt_val (de_call C_is_name hr (as_cons (do_var 0) as_nil)))
    (dss_one (ds_ret (de_getK (hu_of hr) (do_var 1) (de_var 0))))
    dss_nil)
    (dss_one (ds_ret de_int)))
def N_has_value : List Str := ["body", "depths", "_", "part", "mode"]
abbrev s_has_value : Stmt := topS 11
theorem sc_has_value : FnScope N_has_value ["body", "depths"] (defScope s_has_value) := ⟨rfl, rfl, rfl, by decide +kernel, rfl, by decide +kernel, by decide +kernel⟩
theorem ok_has_value {P : Program} {w : PySem.World} {K : PySem.W.Frag} {mg : Str → Option Value} {base : Heap} {f : Addr} {fd : FuncData} {k : Nat} {M_is_known : FM} (F : Fun K "has_value" "has_value" s_has_value f fd) (B : Bl mg) (C_is_known : Callee P w K mg base k "is_known" 2 M_is_known) :
    FnOk P w K mg base CX0 (k + 1) f fd ["body", "depths"] (spD K 2 (runM 5 2 (G_has_value M_is_known))) :=
  ok_body F sc_has_value fun cdv A outer s H E hr =>
    (dss_cons (ds_if (dt_eq (de_ix (do_var 0) de_int) de_str)
    (dss_one (ds_ret (de_or (de_eq (de_ix (do_var 0) de_int) de_int) (de_one (de_call C_is_known hr (as_cons (do_d (de_ix (do_var 0) de_int)) (as_cons (do_var 1) as_nil)))))))
    dss_nil)
    (dss_cons (ds_if (dt_eq (de_ix (do_var 0) de_int) de_str)
    (dss_cons (ds_for PassesOwn.never rfl (di_tup (de_ix (do_var 0) de_int)) (dg_many rfl (dgs_cons 2 sc_has_value.nd (dgs_cons 3 sc_has_value.nd (dgs_cons 4 sc_has_value.nd (dgs_cons 2 sc_has_value.nd dgs_nil)))))
    (dss_one (ds_if (dt_w (dw_and (dt_eq (de_var 4) de_str) (dw_and1 (dt_not (dt_val (de_call C_is_known hr (as_cons (do_var 3) (as_cons (do_var 1) as_nil))))))))
    (dss_one (ds_ret de_bl))
    dss_nil)))
    (dss_one (ds_ret de_bl)))
    dss_nil)
    (dss_cons (ds_if (dt_val (de_ix (do_var 0) de_int))
    (dss_one (ds_ret de_bl))
    dss_nil)
    (dss_cons (ds_for PassesOwn.never rfl (di_tup (de_ix (do_var 0) de_int)) (dg_many rfl (dgs_cons 2 sc_has_value.nd (dgs_cons 3 sc_has_value.nd dgs_nil)))
    (dss_one (ds_if (dt_val (de_call C_is_known hr (as_cons (do_var 3) (as_cons (do_var 1) as_nil))))
    (dss_one (ds_ret de_bl))
    dss_nil)))
    (dss_one (ds_ret de_bl))))))
def N_least_depths : List Str := ["schema", "depths", "level", "found", "name", "body"]
abbrev s_least_depths : Stmt := topS 12
theorem sc_least_depths : FnScope N_least_depths ["schema"] (defScope s_least_depths) := ⟨rfl, rfl, rfl, by decide +kernel, rfl, by decide +kernel, by decide +kernel⟩
theorem ok_least_depths {P : Program} {w : PySem.World} {K : PySem.W.Frag} {mg : Str → Option Value} {base : Heap} {f : Addr} {fd : FuncData} {k : Nat} {M_has_value : FM} (F : Fun K "least_depths" "least_depths" s_least_depths f fd) (B : Bl mg) (C_has_value : Callee P w K mg base k "has_value" 2 M_has_value) :
    FnOk P w K mg base CX0 (k + 1) f fd ["schema"] (spD K 1 (runM 6 1 (G_least_depths M_has_value))) :=
  ok_body F sc_least_depths fun cdv A outer s H E hr =>
    (dss_cons (ds_dict 1 sc_least_depths.nd)
    (dss_cons (ds_for PassesOwn.never rfl (di_range2 B.range de_int (de_add (de_len B.len (as_cons (do_d (de_ix (do_var 0) de_int)) as_nil)) de_int)) (dg_one 2 sc_least_depths.nd)
    (dss_cons (ds_setLc 3 [("name", 4), ("body", 5)] rfl sc_least_depths.nd (di_tup (de_ix (do_var 0) de_int)) (blkOk_by (own := [("name", 4), ("body", 5)]) (N := N_least_depths) (sc := defScope s_least_depths) (by decide +kernel)) (fun _ _ _ _ _ => (dg_many rfl (dgs_cons 4 sc_least_depths.nd (dgs_cons 5 sc_least_depths.nd dgs_nil)))) (fun _ _ _ _ _ => (dts_one (dt_w (dw_and (dt_notInK (hu_of hr) (de_var 4) (do_var 1)) (dw_and1 (dt_val (de_call C_has_value hr (as_cons (do_var 5) (as_cons (do_var 1) as_nil))))))))) (fun _ _ _ _ _ => (de_var 4)))
    (dss_one (ds_for PassesOwn.never rfl (di_list (de_var 3)) (dg_one 4 sc_least_depths.nd)
    (dss_one (ds_put 1 (hu_of hr) (de_var 4) (de_var 2)))))))
    (dss_one (ds_retO 1))))
end Sb

set_option Elab.async false
set_option linter.all false
set_option maxRecDepth 100000
set_option maxHeartbeats 4000000
namespace Sb
open PySem L2
def N_simple_case : List Str := ["body", "depths", "best", "case"]
abbrev s_simple_case : Stmt := topS 13
theorem sc_simple_case : FnScope N_simple_case ["body", "depths"] (defScope s_simple_case) := ⟨rfl, rfl, rfl, by decide +kernel, rfl, by decide +kernel, by decide +kernel⟩
theorem ok_simple_case {P : Program} {w : PySem.World} {K : PySem.W.Frag} {mg : Str → Option Value} {base : Heap} {f : Addr} {fd : FuncData} {k : Nat} {M_is_known : FM} {M_part_depth : FM} (F : Fun K "simple_case" "simple_case" s_simple_case f fd) (B : Bl mg) (C_is_known : Callee P w K mg base k "is_known" 2 M_is_known) (C_part_depth : Callee P w K mg base k "part_depth" 2 M_part_depth) :
    FnOk P w K mg base CX0 (k + 1) f fd ["body", "depths"] (spD K 2 (runM 4 2 (G_simple_case M_is_known M_part_depth))) :=
  ok_body F sc_simple_case fun cdv A outer s H E hr =>
    (dss_cons (ds_set 2 sc_simple_case.nd de_non)
    (dss_cons (ds_for PassesOwn.never rfl (di_tup (de_ix (do_var 0) de_int)) (dg_one 3 sc_simple_case.nd)
    (dss_one (ds_if (dt_val (de_call C_is_known hr (as_cons (do_d (de_ix (do_var 3) de_int)) (as_cons (do_var 1) as_nil))))
    (dss_one (ds_if (dt_w (dw_or (dt_isN (de_var 2)) (dw_or1 (dt_lt (de_call C_part_depth hr (as_cons (do_d (de_ix (do_var 3) de_int)) (as_cons (do_var 1) as_nil))) (de_call C_part_depth hr (as_cons (do_d (de_ix (do_var 2) de_int)) (as_cons (do_var 1) as_nil)))))))
    (dss_one (ds_set 2 sc_simple_case.nd (de_var 3)))
    dss_nil))
    dss_nil)))
    (dss_one (ds_ret (de_var 2)))))
def N_is_list_of : List Str := ["schema", "body", "value", "item"]
abbrev s_is_list_of : Stmt := topS 16
theorem sc_is_list_of : FnScope N_is_list_of ["schema", "body", "value"] (defScope s_is_list_of) := ⟨rfl, rfl, rfl, by decide +kernel, rfl, by decide +kernel, by decide +kernel⟩
theorem ok_is_list_of {P : Program} {w : PySem.World} {K : PySem.W.Frag} {mg : Str → Option Value} {base : Heap} {f : Addr} {fd : FuncData} {k : Nat} {M_is_of : FM} (F : Fun K "is_list_of" "is_list_of" s_is_list_of f fd) (B : Bl mg) (C_is_of : Callee P w K mg base k "is_of" 3 M_is_of) :
    FnOk P w K mg base CX0 (k + 1) f fd ["schema", "body", "value"] (spD K 3 (runM 4 3 (G_is_list_of M_is_of))) :=
  ok_body F sc_is_list_of fun cdv A outer s H E hr =>
    (dss_cons (ds_if (dt_not (dt_le2 (de_ix (do_var 1) de_int) (de_len B.len (as_cons (do_var 2) as_nil)) (de_ix (do_var 1) de_int)))
    (dss_one (ds_ret de_bl))
    dss_nil)
    (dss_cons (ds_for PassesOwn.never rfl (di_tup (de_var 2)) (dg_one 3 sc_is_list_of.nd)
    (dss_one (ds_if (dt_not (dt_val (de_call C_is_of hr (as_cons (do_var 0) (as_cons (do_d (de_ix (do_var 1) de_int)) (as_cons (do_var 3) as_nil))))))
    (dss_one (ds_ret de_bl))
    dss_nil)))
    (dss_one (ds_ret de_bl))))
def N_is_entry : List Str := ["entry", "number"]
abbrev s_is_entry : Stmt := topS 17
theorem sc_is_entry : FnScope N_is_entry ["entry", "number"] (defScope s_is_entry) := ⟨rfl, rfl, rfl, by decide +kernel, rfl, by decide +kernel, by decide +kernel⟩
theorem ok_is_entry {P : Program} {w : PySem.World} {K : PySem.W.Frag} {mg : Str → Option Value} {base : Heap} {f : Addr} {fd : FuncData} {k : Nat} (F : Fun K "is_entry" "is_entry" s_is_entry f fd) (B : Bl mg) :
    FnOk P w K mg base CX0 (k + 1) f fd ["entry", "number"] (spD K 2 (runM 2 2 (G_is_entry))) :=
  ok_body F sc_is_entry fun cdv A outer s H E hr =>
    (dss_one (ds_ret (de_and (de_isi B.isinstance B.tuple_ (by decide +kernel) (de_var 0)) (de_and (de_eq (de_len B.len (as_cons (do_var 0) as_nil)) de_int) (de_and (de_isi B.isinstance B.int_ (by decide +kernel) (de_ix (do_var 0) de_int)) (de_one (de_eq (de_ix (do_var 0) de_int) (de_var 1))))))))
def N_is_record_of : List Str := ["schema", "body", "value", "at", "number", "part", "mode", "_"]
abbrev s_is_record_of : Stmt := topS 18
theorem sc_is_record_of : FnScope N_is_record_of ["schema", "body", "value"] (defScope s_is_record_of) := ⟨rfl, rfl, rfl, by decide +kernel, rfl, by decide +kernel, by decide +kernel⟩
theorem ok_is_record_of {P : Program} {w : PySem.World} {K : PySem.W.Frag} {mg : Str → Option Value} {base : Heap} {f : Addr} {fd : FuncData} {k : Nat} {M_is_entry : FM} {M_is_of : FM} (F : Fun K "is_record_of" "is_record_of" s_is_record_of f fd) (B : Bl mg) (C_is_entry : Callee P w K mg base k "is_entry" 2 M_is_entry) (C_is_of : Callee P w K mg base k "is_of" 3 M_is_of) :
    FnOk P w K mg base CX0 (k + 1) f fd ["schema", "body", "value"] (spD K 3 (runM 8 3 (G_is_record_of M_is_entry M_is_of))) :=
  ok_body F sc_is_record_of fun cdv A outer s H E hr =>
    (dss_cons (ds_set 3 sc_is_record_of.nd de_int)
    (dss_cons (ds_for PassesOwn.never rfl (di_tup (de_ix (do_var 1) de_int)) (dg_many rfl (dgs_cons 4 sc_is_record_of.nd (dgs_cons 5 sc_is_record_of.nd (dgs_cons 6 sc_is_record_of.nd (dgs_cons 7 sc_is_record_of.nd dgs_nil)))))
    (dss_one (ds_if (dt_w (dw_and (dt_lt (de_var 3) (de_len B.len (as_cons (do_var 2) as_nil))) (dw_and1 (dt_val (de_call C_is_entry hr (as_cons (do_d (de_ix (do_var 2) (de_var 3))) (as_cons (do_var 4) as_nil)))))))
    (dss_cons (ds_if (dt_not (dt_val (de_call C_is_of hr (as_cons (do_var 0) (as_cons (do_var 5) (as_cons (do_d (de_ix (do_d (de_ix (do_var 2) (de_var 3))) de_int)) as_nil))))))
    (dss_one (ds_ret de_bl))
    dss_nil)
    (dss_one (ds_aug 3 sc_is_record_of.nd de_int)))
    (dss_one (ds_if (dt_ne (de_var 6) de_str)
    (dss_one (ds_ret de_bl))
    dss_nil)))))
    (dss_one (ds_ret (de_eq (de_var 3) (de_len B.len (as_cons (do_var 2) as_nil)))))))
def N_is_union_of : List Str := ["schema", "body", "value", "number", "part"]
abbrev s_is_union_of : Stmt := topS 19
theorem sc_is_union_of : FnScope N_is_union_of ["schema", "body", "value"] (defScope s_is_union_of) := ⟨rfl, rfl, rfl, by decide +kernel, rfl, by decide +kernel, by decide +kernel⟩
theorem ok_is_union_of {P : Program} {w : PySem.World} {K : PySem.W.Frag} {mg : Str → Option Value} {base : Heap} {f : Addr} {fd : FuncData} {k : Nat} {M_is_entry : FM} {M_is_of : FM} (F : Fun K "is_union_of" "is_union_of" s_is_union_of f fd) (B : Bl mg) {b : Addr} (hU : mg "UNKNOWN_CASE" = some (.ref b)) (hUb : ∀ Z, SqT K Z b [.int 0, .non]) (C_is_entry : Callee P w K mg base k "is_entry" 2 M_is_entry) (C_is_of : Callee P w K mg base k "is_of" 3 M_is_of) :
    FnOk P w K mg base CX0 (k + 1) f fd ["schema", "body", "value"] (spD K 3 (runM 5 3 (G_is_union_of M_is_entry M_is_of))) :=
  ok_body F sc_is_union_of fun cdv A outer s H E hr =>
    (dss_cons (ds_if (dt_eqU hr.units (de_var 2) hU rfl hUb)
    (dss_one (ds_ret (de_ix (do_var 1) de_int)))
    dss_nil)
    (dss_cons (ds_for PassesOwn.never rfl (di_tup (de_ix (do_var 1) de_int)) (dg_many rfl (dgs_cons 3 sc_is_union_of.nd (dgs_cons 4 sc_is_union_of.nd dgs_nil)))
    (dss_one (ds_if (dt_val (de_call C_is_entry hr (as_cons (do_var 2) (as_cons (do_var 3) as_nil))))
    (dss_one (ds_ret (de_call C_is_of hr (as_cons (do_var 0) (as_cons (do_var 4) (as_cons (do_d (de_ix (do_var 2) de_int)) as_nil))))))
    dss_nil)))
    (dss_one (ds_ret de_bl))))
def N_is_of : List Str := ["schema", "part", "value", "body"]
abbrev s_is_of : Stmt := topS 20
theorem sc_is_of : FnScope N_is_of ["schema", "part", "value"] (defScope s_is_of) := ⟨rfl, rfl, rfl, by decide +kernel, rfl, by decide +kernel, by decide +kernel⟩
theorem ok_is_of {P : Program} {w : PySem.World} {K : PySem.W.Frag} {mg : Str → Option Value} {base : Heap} {f : Addr} {fd : FuncData} {k : Nat} {M_is_union_of : FM} {M_is_record_of : FM} {M_is_list_of : FM} {M_body_of : FM} {M_is_name : FM} {M_is_leaf_value : FM} (F : Fun K "is_of" "is_of" s_is_of f fd) (B : Bl mg) (C_is_union_of : Callee P w K mg base k "is_union_of" 3 M_is_union_of) (C_is_record_of : Callee P w K mg base k "is_record_of" 3 M_is_record_of) (C_is_list_of : Callee P w K mg base k "is_list_of" 3 M_is_list_of) (C_body_of : Callee P w K mg base k "body_of" 2 M_body_of) (C_is_name : Callee P w K mg base k "is_name" 1 M_is_name) (C_is_leaf_value : Callee P w K mg base k "is_leaf_value" 2 M_is_leaf_value) :
    FnOk P w K mg base CX0 (k + 1) f fd ["schema", "part", "value"] (spD K 3 (runM 4 3 (G_is_of M_is_union_of M_is_record_of M_is_list_of M_body_of M_is_name M_is_leaf_value))) :=
  ok_body F sc_is_of fun cdv A outer s H E hr =>
    (dss_cons (ds_if (dt_not (dt_val (de_call C_is_name hr (as_cons (do_var 1) as_nil))))
    (dss_one (ds_ret (de_call C_is_leaf_value hr (as_cons (do_var 1) (as_cons (do_var 2) as_nil)))))
    dss_nil)
    (dss_cons (ds_if (dt_not (dt_val (de_isi B.isinstance B.tuple_ (by decide +kernel) (de_var 2))))
    (dss_one (ds_ret de_bl))
    dss_nil)
    (dss_cons (ds_set 3 sc_is_of.nd (de_call C_body_of hr (as_cons (do_var 0) (as_cons (do_var 1) as_nil))))
    (dss_cons (ds_if (dt_eq (de_ix (do_var 3) de_int) de_str)
    (dss_one (ds_ret (de_call C_is_list_of hr (as_cons (do_var 0) (as_cons (do_var 3) (as_cons (do_var 2) as_nil))))))
    dss_nil)
    (dss_cons (ds_if (dt_eq (de_ix (do_var 3) de_int) de_str)
    (dss_one (ds_ret (de_call C_is_record_of hr (as_cons (do_var 0) (as_cons (do_var 3) (as_cons (do_var 2) as_nil))))))
    dss_nil)
    (dss_one (ds_ret (de_call C_is_union_of hr (as_cons (do_var 0) (as_cons (do_var 3) (as_cons (do_var 2) as_nil)))))))))))
def N_part_of_id : List Str := ["body", "number", "one"]
abbrev s_part_of_id : Stmt := topS 21
theorem sc_part_of_id : FnScope N_part_of_id ["body", "number"] (defScope s_part_of_id) := ⟨rfl, rfl, rfl, by decide +kernel, rfl, by decide +kernel, by decide +kernel⟩
theorem ok_part_of_id {P : Program} {w : PySem.World} {K : PySem.W.Frag} {mg : Str → Option Value} {base : Heap} {f : Addr} {fd : FuncData} {k : Nat} (F : Fun K "part_of_id" "part_of_id" s_part_of_id f fd) (B : Bl mg) :
    FnOk P w K mg base CX0 (k + 1) f fd ["body", "number"] (spD K 2 (runM 3 2 (G_part_of_id))) :=
  ok_body F sc_part_of_id fun cdv A outer s H E hr =>
    (dss_cons (ds_for PassesOwn.never rfl (di_tup (de_ix (do_var 0) de_int)) (dg_one 2 sc_part_of_id.nd)
    (dss_one (ds_if (dt_eq (de_ix (do_var 2) de_int) (de_var 1))
    (dss_one (ds_ret (de_ix (do_var 2) de_int)))
    dss_nil)))
    (dss_one (ds_ret de_non)))
def N_inner_values : List Str := ["body", "value", "item", "number", "inner"]
abbrev s_inner_values : Stmt := topS 22
theorem sc_inner_values : FnScope N_inner_values ["body", "value"] (defScope s_inner_values) := ⟨rfl, rfl, rfl, by decide +kernel, rfl, by decide +kernel, by decide +kernel⟩
theorem ok_inner_values {P : Program} {w : PySem.World} {K : PySem.W.Frag} {mg : Str → Option Value} {base : Heap} {f : Addr} {fd : FuncData} {k : Nat} {M_part_of_id : FM} (F : Fun K "inner_values" "inner_values" s_inner_values f fd) (B : Bl mg) {b : Addr} (hU : mg "UNKNOWN_CASE" = some (.ref b)) (hUb : ∀ Z, SqT K Z b [.int 0, .non]) (C_part_of_id : Callee P w K mg base k "part_of_id" 2 M_part_of_id) :
    FnOk P w K mg base CX0 (k + 1) f fd ["body", "value"] (spD K 2 (runM 5 2 (G_inner_values M_part_of_id))) :=
  ok_body F sc_inner_values fun cdv A outer s H E hr =>
    (dss_cons (ds_if (dt_eq (de_ix (do_var 0) de_int) de_str)
    (dss_one (ds_retL (dl_comp [("item", 2)] rfl sc_inner_values.nd (di_tup (de_var 1)) (blkOk_by (own := [("item", 2)]) (N := N_inner_values) (sc := defScope s_inner_values) (by decide +kernel)) (fun _ _ _ _ _ => (dg_one 2 sc_inner_values.nd)) (fun _ _ _ _ _ => dts_nil) (fun _ _ _ _ _ => (de_tup (as_cons (do_d (de_ix (do_var 0) de_int)) (as_cons (do_var 2) as_nil)))))))
    dss_nil)
    (dss_cons (ds_if (dt_eq (de_ix (do_var 0) de_int) de_str)
    (dss_one (ds_retL (dl_comp [("number", 3), ("inner", 4)] rfl sc_inner_values.nd (di_tup (de_var 1)) (blkOk_by (own := [("number", 3), ("inner", 4)]) (N := N_inner_values) (sc := defScope s_inner_values) (by decide +kernel)) (fun _ _ _ _ _ => (dg_many rfl (dgs_cons 3 sc_inner_values.nd (dgs_cons 4 sc_inner_values.nd dgs_nil)))) (fun _ _ _ _ _ => dts_nil) (fun _ _ _ _ _ => (de_tup (as_cons (do_d (de_call C_part_of_id hr (as_cons (do_var 0) (as_cons (do_var 3) as_nil)))) (as_cons (do_var 4) as_nil)))))))
    dss_nil)
    (dss_cons (ds_if (dt_eqU hr.units (de_var 1) hU rfl hUb)
    (dss_one (ds_retL (dl_disp as_nil)))
    dss_nil)
    (dss_one (ds_retL (dl_disp (as_cons (do_d (de_tup (as_cons (do_d (de_call C_part_of_id hr (as_cons (do_var 0) (as_cons (do_d (de_ix (do_var 1) de_int)) as_nil)))) (as_cons (do_d (de_ix (do_var 1) de_int)) as_nil)))) as_nil)))))))
def N_depth : List Str := ["schema", "part", "value", "most", "inner_part", "inner"]
abbrev s_depth : Stmt := topS 23
theorem sc_depth : FnScope N_depth ["schema", "part", "value"] (defScope s_depth) := ⟨rfl, rfl, rfl, by decide +kernel, rfl, by decide +kernel, by decide +kernel⟩
theorem ok_depth {P : Program} {w : PySem.World} {K : PySem.W.Frag} {mg : Str → Option Value} {base : Heap} {f : Addr} {fd : FuncData} {k : Nat} {M_inner_values : FM} {M_body_of : FM} {M_depth : FM} {M_is_name : FM} (F : Fun K "depth" "depth" s_depth f fd) (B : Bl mg) (C_inner_values : Callee P w K mg base k "inner_values" 2 M_inner_values) (C_body_of : Callee P w K mg base k "body_of" 2 M_body_of) (C_depth : Callee P w K mg base k "depth" 3 M_depth) (C_is_name : Callee P w K mg base k "is_name" 1 M_is_name) :
    FnOk P w K mg base CX0 (k + 1) f fd ["schema", "part", "value"] (spD K 3 (runM 6 3 (G_depth M_inner_values M_body_of M_depth M_is_name))) :=
  ok_body F sc_depth fun cdv A outer s H E hr =>
    (dss_cons (ds_if (dt_not (dt_val (de_call C_is_name hr (as_cons (do_var 1) as_nil))))
    (dss_one (ds_ret de_int))
    dss_nil)
    (dss_cons (ds_set 3 sc_depth.nd de_int)
    (dss_cons (ds_for PassesOwn.never rfl (di_list (de_call C_inner_values hr (as_cons (do_d (de_call C_body_of hr (as_cons (do_var 0) (as_cons (do_var 1) as_nil)))) (as_cons (do_var 2) as_nil)))) (dg_many rfl (dgs_cons 4 sc_depth.nd (dgs_cons 5 sc_depth.nd dgs_nil)))
    (dss_one (ds_set 3 sc_depth.nd (de_max2 rfl B.max (as_cons (do_var 3) (as_cons (do_d (de_call C_depth hr (as_cons (do_var 0) (as_cons (do_var 4) (as_cons (do_var 5) as_nil))))) as_nil))))))
    (dss_one (ds_ret (de_add (de_var 3) de_int))))))
def N_value_count : List Str := ["schema", "part", "value", "total", "inner_part", "inner"]
abbrev s_value_count : Stmt := topS 24
theorem sc_value_count : FnScope N_value_count ["schema", "part", "value"] (defScope s_value_count) := ⟨rfl, rfl, rfl, by decide +kernel, rfl, by decide +kernel, by decide +kernel⟩
theorem ok_value_count {P : Program} {w : PySem.World} {K : PySem.W.Frag} {mg : Str → Option Value} {base : Heap} {f : Addr} {fd : FuncData} {k : Nat} {M_inner_values : FM} {M_body_of : FM} {M_value_count : FM} {M_is_name : FM} (F : Fun K "value_count" "value_count" s_value_count f fd) (B : Bl mg) (C_inner_values : Callee P w K mg base k "inner_values" 2 M_inner_values) (C_body_of : Callee P w K mg base k "body_of" 2 M_body_of) (C_value_count : Callee P w K mg base k "value_count" 3 M_value_count) (C_is_name : Callee P w K mg base k "is_name" 1 M_is_name) :
    FnOk P w K mg base CX0 (k + 1) f fd ["schema", "part", "value"] (spD K 3 (runM 6 3 (G_value_count M_inner_values M_body_of M_value_count M_is_name))) :=
  ok_body F sc_value_count fun cdv A outer s H E hr =>
    (dss_cons (ds_if (dt_not (dt_val (de_call C_is_name hr (as_cons (do_var 1) as_nil))))
    (dss_one (ds_ret de_int))
    dss_nil)
    (dss_cons (ds_set 3 sc_value_count.nd de_int)
    (dss_cons (ds_for PassesOwn.never rfl (di_list (de_call C_inner_values hr (as_cons (do_d (de_call C_body_of hr (as_cons (do_var 0) (as_cons (do_var 1) as_nil)))) (as_cons (do_var 2) as_nil)))) (dg_many rfl (dgs_cons 4 sc_value_count.nd (dgs_cons 5 sc_value_count.nd dgs_nil)))
    (dss_one (ds_set 3 sc_value_count.nd (de_add (de_var 3) (de_call C_value_count hr (as_cons (do_var 0) (as_cons (do_var 4) (as_cons (do_var 5) as_nil))))))))
    (dss_one (ds_ret (de_var 3))))))
end Sb

set_option Elab.async false
set_option linter.all false
set_option maxRecDepth 100000
set_option maxHeartbeats 4000000
namespace Sb
open PySem L2
def N_simple_record : List Str := ["schema", "body", "depths", "entries", "number", "part", "mode", "default"]
abbrev s_simple_record : Stmt := topS 25
theorem sc_simple_record : FnScope N_simple_record ["schema", "body", "depths"] (defScope s_simple_record) := ⟨rfl, rfl, rfl, by decide +kernel, rfl, by decide +kernel, by decide +kernel⟩
theorem ok_simple_record {P : Program} {w : PySem.World} {K : PySem.W.Frag} {mg : Str → Option Value} {base : Heap} {f : Addr} {fd : FuncData} {k : Nat} {M_simple_part : FM} (F : Fun K "simple_record" "simple_record" s_simple_record f fd) (B : Bl mg) (C_simple_part : Callee P w K mg base k "simple_part" 3 M_simple_part) :
    FnOk P w K mg base CX0 (k + 1) f fd ["schema", "body", "depths"] (spD K 3 (runM 8 3 (G_simple_record M_simple_part))) :=
  ok_body F sc_simple_record fun cdv A outer s H E hr =>
    (dss_cons (ds_own 3 sc_simple_record.nd (dl_disp as_nil))
    (dss_cons (ds_for PassesOwn.never rfl (di_tup (de_ix (do_var 1) de_int)) (dg_many rfl (dgs_cons 4 sc_simple_record.nd (dgs_cons 5 sc_simple_record.nd (dgs_cons 6 sc_simple_record.nd (dgs_cons 7 sc_simple_record.nd dgs_nil)))))
    (dss_one (ds_if (dt_eq (de_var 6) de_str)
    (dss_one (ds_app 3 (de_tup (as_cons (do_var 4) (as_cons (do_d (de_call C_simple_part hr (as_cons (do_var 0) (as_cons (do_var 5) (as_cons (do_var 2) as_nil))))) as_nil)))))
    (dss_one (ds_if (dt_eq (de_var 6) de_str)
    (dss_one (ds_app 3 (de_tup (as_cons (do_var 4) (as_cons (do_var 7) as_nil)))))
    dss_nil)))))
    (dss_one (ds_ret (de_toTup B.tuple_ (do_var 3))))))
def N_simple_part : List Str := ["schema", "part", "depths", "body", "number", "inner"]
abbrev s_simple_part : Stmt := topS 26
theorem sc_simple_part : FnScope N_simple_part ["schema", "part", "depths"] (defScope s_simple_part) := ⟨rfl, rfl, rfl, by decide +kernel, rfl, by decide +kernel, by decide +kernel⟩
theorem ok_simple_part {P : Program} {w : PySem.World} {K : PySem.W.Frag} {mg : Str → Option Value} {base : Heap} {f : Addr} {fd : FuncData} {k : Nat} {M_simple_part : FM} {M_simple_case : FM} {M_simple_record : FM} {M_body_of : FM} {M_is_name : FM} {M_simple_leaf_value : FM} (F : Fun K "simple_part" "simple_part" s_simple_part f fd) (B : Bl mg) {b : Addr} (hU : mg "UNKNOWN_CASE" = some (.ref b)) (hUb : ∀ Z, SqT K Z b [.int 0, .non]) (C_simple_part : Callee P w K mg base k "simple_part" 3 M_simple_part) (C_simple_case : Callee P w K mg base k "simple_case" 2 M_simple_case) (C_simple_record : Callee P w K mg base k "simple_record" 3 M_simple_record) (C_body_of : Callee P w K mg base k "body_of" 2 M_body_of) (C_is_name : Callee P w K mg base k "is_name" 1 M_is_name) (C_simple_leaf_value : Callee P w K mg base k "simple_leaf_value" 1 M_simple_leaf_value) :
    FnOk P w K mg base CX0 (k + 1) f fd ["schema", "part", "depths"] (spD K 3 (runM 6 3 (G_simple_part M_simple_part M_simple_case M_simple_record M_body_of M_is_name M_simple_leaf_value))) :=
  ok_body F sc_simple_part fun cdv A outer s H E hr =>
    (dss_cons (ds_if (dt_not (dt_val (de_call C_is_name hr (as_cons (do_var 1) as_nil))))
    (dss_one (ds_ret (de_call C_simple_leaf_value hr (as_cons (do_var 1) as_nil))))
    dss_nil)
    (dss_cons (ds_set 3 sc_simple_part.nd (de_call C_body_of hr (as_cons (do_var 0) (as_cons (do_var 1) as_nil))))
    (dss_cons (ds_if (dt_eq (de_ix (do_var 3) de_int) de_str)
    (dss_cons (ds_if (dt_eq (de_ix (do_var 3) de_int) de_int)
    (dss_one (ds_ret (de_tup as_nil)))
    dss_nil)
    (dss_one (ds_ret (de_repT (de_tup (as_cons (do_d (de_call C_simple_part hr (as_cons (do_var 0) (as_cons (do_d (de_ix (do_var 3) de_int)) (as_cons (do_var 2) as_nil))))) as_nil)) (de_ix (do_var 3) de_int)))))
    dss_nil)
    (dss_cons (ds_if (dt_eq (de_ix (do_var 3) de_int) de_str)
    (dss_one (ds_ret (de_call C_simple_record hr (as_cons (do_var 0) (as_cons (do_var 3) (as_cons (do_var 2) as_nil))))))
    dss_nil)
    (dss_cons (ds_if (dt_val (de_ix (do_var 3) de_int))
    (dss_one (ds_ret (de_unk hU rfl hUb)))
    dss_nil)
    (dss_cons (ds_unp (de_call C_simple_case hr (as_cons (do_var 3) (as_cons (do_var 2) as_nil))) (dg_many rfl (dgs_cons 4 sc_simple_part.nd (dgs_cons 5 sc_simple_part.nd dgs_nil))))
    (dss_one (ds_ret (de_tup (as_cons (do_var 4) (as_cons (do_d (de_call C_simple_part hr (as_cons (do_var 0) (as_cons (do_var 5) (as_cons (do_var 2) as_nil))))) as_nil)))))))))))
def N_simple_value : List Str := ["schema", "part"]
abbrev s_simple_value : Stmt := topS 27
theorem sc_simple_value : FnScope N_simple_value ["schema", "part"] (defScope s_simple_value) := ⟨rfl, rfl, rfl, by decide +kernel, rfl, by decide +kernel, by decide +kernel⟩
theorem ok_simple_value {P : Program} {w : PySem.World} {K : PySem.W.Frag} {mg : Str → Option Value} {base : Heap} {f : Addr} {fd : FuncData} {k : Nat} {M_simple_part : FM} {M_least_depths : FM} (F : Fun K "simple_value" "simple_value" s_simple_value f fd) (B : Bl mg) (C_simple_part : Callee P w K mg base k "simple_part" 3 M_simple_part) (C_least_depths : Callee P w K mg base k "least_depths" 1 M_least_depths) :
    FnOk P w K mg base CX0 (k + 1) f fd ["schema", "part"] (spD K 2 (runM 2 2 (G_simple_value M_simple_part M_least_depths))) :=
  ok_body F sc_simple_value fun cdv A outer s H E hr =>
    (dss_one (ds_ret (de_call C_simple_part hr (as_cons (do_var 0) (as_cons (do_var 1) (as_cons (do_d (de_call C_least_depths hr (as_cons (do_var 0) as_nil))) as_nil))))))
def N_l_cell : List Str := ["_law_script", "_law_k"]
abbrev s_l_cell : Stmt := topS 29
theorem sc_l_cell : FnScope N_l_cell ["_law_script", "_law_k"] (defScope s_l_cell) := ⟨rfl, rfl, rfl, by decide +kernel, rfl, by decide +kernel, by decide +kernel⟩
theorem ok_l_cell {P : Program} {w : PySem.World} {K : PySem.W.Frag} {mg : Str → Option Value} {base : Heap} {f : Addr} {fd : FuncData} {k : Nat} (F : Fun K "_law_cell" "_law_cell" s_l_cell f fd) (B : Bl mg) :
    FnOk P w K mg base CX0 (k + 1) f fd ["_law_script", "_law_k"] (spD K 2 (runM 2 2 (G_l_cell))) :=
  ok_body F sc_l_cell fun cdv A outer s H E hr =>
    (dss_cons (ds_if (dt_lt (de_var 1) (de_len B.len (as_cons (do_var 0) as_nil)))
    (dss_one (ds_ret (de_ix (do_var 0) (de_var 1))))
    dss_nil)
    (dss_one (ds_ret de_int)))
def N_l_draws : List Str := ["_law_cell_here", "_law_row", "_law_rest", "_law_mixed", "_law_is_great", "_law_k"]
abbrev s_l_draws : Stmt := topS 30
theorem sc_l_draws : FnScope N_l_draws ["_law_cell_here"] (defScope s_l_draws) := ⟨rfl, rfl, rfl, by decide +kernel, rfl, by decide +kernel, by decide +kernel⟩
def N_l_next : List Str := ["_law_draws_here", "_law_many", "_law_at", "_law_row"]
abbrev s_l_next : Stmt := topS 31
theorem sc_l_next : FnScope N_l_next ["_law_draws_here", "_law_many"] (defScope s_l_next) := ⟨rfl, rfl, rfl, by decide +kernel, rfl, by decide +kernel, by decide +kernel⟩
def N_l_big : List Str := ["_law_draws_here", "_law_number", "_law_k"]
abbrev s_l_big : Stmt := topS 32
theorem sc_l_big : FnScope N_l_big ["_law_draws_here"] (defScope s_l_big) := ⟨rfl, rfl, rfl, by decide +kernel, rfl, by decide +kernel, by decide +kernel⟩
theorem ok_l_big {P : Program} {w : PySem.World} {K : PySem.W.Frag} {mg : Str → Option Value} {base : Heap} {f : Addr} {fd : FuncData} {k : Nat} {M_l_next : FM} (F : Fun K "_law_big" "_law_big" s_l_big f fd) (B : Bl mg) (C_l_next : Callee P w K mg base k "_law_next" 2 M_l_next) :
    FnOk P w K mg base CX0 (k + 1) f fd ["_law_draws_here"] (spD K 1 (runM 3 1 (G_l_big M_l_next))) :=
  ok_body F sc_l_big fun cdv A outer s H E hr =>
    (dss_cons (ds_set 1 sc_l_big.nd de_int)
    (dss_cons (ds_for PassesOwn.never rfl (di_range B.range de_int) (dg_one 2 sc_l_big.nd)
    (dss_one (ds_set 1 sc_l_big.nd (de_add (de_mul (de_var 1) de_int) (de_call C_l_next hr (as_cons (do_var 0) (as_cons (do_d de_int) as_nil)))))))
    (dss_one (ds_ret (de_var 1)))))
def N_l_char : List Str := ["_law_k", "_law_chars"]
abbrev s_l_char : Stmt := topS 33
theorem sc_l_char : FnScope N_l_char ["_law_k"] (defScope s_l_char) := ⟨rfl, rfl, rfl, by decide +kernel, rfl, by decide +kernel, by decide +kernel⟩
theorem ok_l_char {P : Program} {w : PySem.World} {K : PySem.W.Frag} {mg : Str → Option Value} {base : Heap} {f : Addr} {fd : FuncData} {k : Nat} (F : Fun K "_law_char" "_law_char" s_l_char f fd) (B : Bl mg) :
    FnOk P w K mg base CX0 (k + 1) f fd ["_law_k"] (spD K 1 (runM 2 1 (G_l_char))) :=
  ok_body F sc_l_char fun cdv A outer s H E hr =>
    (dss_cons (ds_set 1 sc_l_char.nd de_str)
    (dss_cons (ds_set 1 sc_l_char.nd (de_cat (de_var 1) de_str))
    (dss_one (ds_ret (de_ix (do_var 1) (de_mod (de_toInt B.int_ (as_cons (do_var 0) as_nil)) de_int))))))
def N_l_ids : List Str := ["_law_draws_here", "_law_most", "_law_ids_here", "_law_number", "_law_k"]
abbrev s_l_ids : Stmt := topS 34
theorem sc_l_ids : FnScope N_l_ids ["_law_draws_here", "_law_most"] (defScope s_l_ids) := ⟨rfl, rfl, rfl, by decide +kernel, rfl, by decide +kernel, by decide +kernel⟩
theorem ok_l_ids {P : Program} {w : PySem.World} {K : PySem.W.Frag} {mg : Str → Option Value} {base : Heap} {f : Addr} {fd : FuncData} {k : Nat} {M_l_next : FM} (F : Fun K "_law_ids" "_law_ids" s_l_ids f fd) (B : Bl mg) (C_l_next : Callee P w K mg base k "_law_next" 2 M_l_next) :
    FnOk P w K mg base CX0 (k + 1) f fd ["_law_draws_here", "_law_most"] (spD K 2 (runM 5 2 (G_l_ids M_l_next))) :=
  ok_body F sc_l_ids fun cdv A outer s H E hr =>
    (dss_cons (ds_own 2 sc_l_ids.nd (dl_disp as_nil))
    (dss_cons (ds_set 3 sc_l_ids.nd de_int)
    (dss_cons (ds_for PassesOwn.never rfl (di_range B.range (de_call C_l_next hr (as_cons (do_var 0) (as_cons (do_d (de_add (de_var 1) de_int)) as_nil)))) (dg_one 4 sc_l_ids.nd)
    (dss_cons (ds_set 3 sc_l_ids.nd (de_add (de_add (de_var 3) de_int) (de_call C_l_next hr (as_cons (do_var 0) (as_cons (do_d de_int) as_nil)))))
    (dss_one (ds_app 2 (de_var 3)))))
    (dss_cons (ds_if (dt_eq (de_call C_l_next hr (as_cons (do_var 0) (as_cons (do_d de_int) as_nil))) de_int)
    (dss_one (ds_app 2 de_int))
    dss_nil)
    (dss_one (ds_retO 2))))))
def N_l_split : List Str := ["_law_draws_here", "_law_ids_here", "_law_live_here", "_law_retired", "_law_number"]
abbrev s_l_split : Stmt := topS 35
theorem sc_l_split : FnScope N_l_split ["_law_draws_here", "_law_ids_here"] (defScope s_l_split) := ⟨rfl, rfl, rfl, by decide +kernel, rfl, by decide +kernel, by decide +kernel⟩
theorem ok_l_split {P : Program} {w : PySem.World} {K : PySem.W.Frag} {mg : Str → Option Value} {base : Heap} {f : Addr} {fd : FuncData} {k : Nat} {M_l_next : FM} (F : Fun K "_law_split" "_law_split" s_l_split f fd) (B : Bl mg) (C_l_next : Callee P w K mg base k "_law_next" 2 M_l_next) :
    FnOk P w K mg base CX0 (k + 1) f fd ["_law_draws_here", "_law_ids_here"] (spD K 2 (runM 5 2 (G_l_split M_l_next))) :=
  ok_body F sc_l_split fun cdv A outer s H E hr =>
    (dss_cons (ds_own 2 sc_l_split.nd (dl_disp as_nil))
    (dss_cons (ds_own 3 sc_l_split.nd (dl_disp as_nil))
    (dss_cons (ds_for PassesOwn.never rfl (di_list (de_var 1)) (dg_one 4 sc_l_split.nd)
    (dss_one (ds_if (dt_eq (de_call C_l_next hr (as_cons (do_var 0) (as_cons (do_d de_int) as_nil))) de_int)
    (dss_one (ds_app 3 (de_var 4)))
    (dss_one (ds_app 2 (de_var 4))))))
    (dss_one (ds_retP 2 3)))))
end Sb

set_option Elab.async false
set_option linter.all false
set_option maxRecDepth 100000
set_option maxHeartbeats 4000000
namespace Sb
open PySem L2
def N_l_leaf : List Str := ["_law_draws_here", "_law_kind", "_law_parted", "_law_is_open", "_law_low", "_law_high"]
abbrev s_l_leaf : Stmt := topS 36
theorem sc_l_leaf : FnScope N_l_leaf ["_law_draws_here"] (defScope s_l_leaf) := ⟨rfl, rfl, rfl, by decide +kernel, rfl, by decide +kernel, by decide +kernel⟩
theorem ok_l_leaf {P : Program} {w : PySem.World} {K : PySem.W.Frag} {mg : Str → Option Value} {base : Heap} {f : Addr} {fd : FuncData} {k : Nat} {M_l_next : FM} {M_l_split : FM} {M_l_ids : FM} (F : Fun K "_law_leaf" "_law_leaf" s_l_leaf f fd) (B : Bl mg) (C_l_next : Callee P w K mg base k "_law_next" 2 M_l_next) (C_l_split : Callee P w K mg base k "_law_split" 2 M_l_split) (C_l_ids : Callee P w K mg base k "_law_ids" 2 M_l_ids) :
    FnOk P w K mg base CX0 (k + 1) f fd ["_law_draws_here"] (spD K 1 (runM 6 1 (G_l_leaf M_l_next M_l_split M_l_ids))) :=
  ok_body F sc_l_leaf fun cdv A outer s H E hr =>
    (dss_cons (ds_set 1 sc_l_leaf.nd (de_call C_l_next hr (as_cons (do_var 0) (as_cons (do_d de_int) as_nil))))
    (dss_cons (ds_if (dt_lt (de_var 1) de_int)
    (dss_cons (ds_set 4 sc_l_leaf.nd (de_sub (de_call C_l_next hr (as_cons (do_var 0) (as_cons (do_d de_int) as_nil))) de_int))
    (dss_cons (ds_set 5 sc_l_leaf.nd (de_add (de_var 4) (de_call C_l_next hr (as_cons (do_var 0) (as_cons (do_d de_int) as_nil)))))
    (dss_cons (ds_if (dt_eq (de_call C_l_next hr (as_cons (do_var 0) (as_cons (do_d de_int) as_nil))) de_int)
    (dss_one (ds_ret (de_tup (as_cons (do_d de_str) (as_cons (do_d (de_neg (de_pow de_int de_int))) (as_cons (do_d (de_pow de_int de_int)) as_nil))))))
    dss_nil)
    (dss_one (ds_ret (de_tup (as_cons (do_d de_str) (as_cons (do_var 4) (as_cons (do_var 5) as_nil)))))))))
    dss_nil)
    (dss_cons (ds_if (dt_lt (de_var 1) de_int)
    (dss_cons (ds_set 4 sc_l_leaf.nd (de_call C_l_next hr (as_cons (do_var 0) (as_cons (do_d de_int) as_nil))))
    (dss_cons (ds_set 5 sc_l_leaf.nd (de_add (de_var 4) (de_call C_l_next hr (as_cons (do_var 0) (as_cons (do_d de_int) as_nil)))))
    (dss_cons (ds_if (dt_eq (de_call C_l_next hr (as_cons (do_var 0) (as_cons (do_d de_int) as_nil))) de_int)
    (dss_one (ds_set 5 sc_l_leaf.nd de_int))
    dss_nil)
    (dss_one (ds_ret (de_tup (as_cons (do_d de_str) (as_cons (do_var 4) (as_cons (do_var 5) as_nil)))))))))
    dss_nil)
    (dss_cons (ds_set 2 sc_l_leaf.nd (de_call C_l_split hr (as_cons (do_var 0) (as_cons (do_d (de_call C_l_ids hr (as_cons (do_var 0) (as_cons (do_d de_int) as_nil)))) as_nil))))
    (dss_cons (ds_set 3 sc_l_leaf.nd (de_or (de_eq (de_call C_l_next hr (as_cons (do_var 0) (as_cons (do_d de_int) as_nil))) de_int) (de_or (de_gt (de_len B.len (as_cons (do_d (de_ixP (de_var 2))) as_nil)) de_int) (de_one (de_eq (de_len B.len (as_cons (do_d (de_ixP (de_var 2))) as_nil)) de_int)))))
    (dss_one (ds_ret (de_tup (as_cons (do_d de_str) (as_cons (do_d (de_toTup B.tuple_ (do_d (de_ixP (de_var 2))))) (as_cons (do_d (de_toTup B.tuple_ (do_d (de_ixP (de_var 2))))) (as_cons (do_var 3) as_nil))))))))))))
def N_l_leaf_value : List Str := ["_law_leaf_here", "_law_draws_here", "_law_symbols", "_law_pick", "_law_size", "_law_k"]
abbrev s_l_leaf_value : Stmt := topS 37
theorem sc_l_leaf_value : FnScope N_l_leaf_value ["_law_leaf_here", "_law_draws_here"] (defScope s_l_leaf_value) := ⟨rfl, rfl, rfl, by decide +kernel, rfl, by decide +kernel, by decide +kernel⟩
theorem ok_l_leaf_value {P : Program} {w : PySem.World} {K : PySem.W.Frag} {mg : Str → Option Value} {base : Heap} {f : Addr} {fd : FuncData} {k : Nat} {M_l_next : FM} {M_l_char : FM} {M_l_big : FM} (F : Fun K "_law_leaf_value" "_law_leaf_value" s_l_leaf_value f fd) (B : Bl mg) (C_l_next : Callee P w K mg base k "_law_next" 2 M_l_next) (C_l_char : Callee P w K mg base k "_law_char" 1 M_l_char) (C_l_big : Callee P w K mg base k "_law_big" 1 M_l_big) :
    FnOk P w K mg base CX0 (k + 1) f fd ["_law_leaf_here", "_law_draws_here"] (spD K 2 (runM 6 2 (G_l_leaf_value M_l_next M_l_char M_l_big))) :=
  ok_body F sc_l_leaf_value fun cdv A outer s H E hr =>
    (dss_cons (ds_if (dt_eq (de_ix (do_var 0) de_int) de_str)
    (dss_cons (ds_set 3 sc_l_leaf_value.nd (de_call C_l_next hr (as_cons (do_var 1) (as_cons (do_d de_int) as_nil))))
    (dss_cons (ds_if (dt_eq (de_var 3) de_int)
    (dss_one (ds_ret (de_ix (do_var 0) de_int)))
    dss_nil)
    (dss_cons (ds_if (dt_eq (de_var 3) de_int)
    (dss_one (ds_ret (de_ix (do_var 0) de_int)))
    dss_nil)
    (dss_one (ds_ret (de_add (de_ix (do_var 0) de_int) (de_mod (de_toInt B.int_ (as_cons (do_d (de_call C_l_big hr (as_cons (do_var 1) as_nil))) as_nil)) (de_add (de_sub (de_ix (do_var 0) de_int) (de_ix (do_var 0) de_int)) de_int))))))))
    dss_nil)
    (dss_cons (ds_if (dt_eq (de_ix (do_var 0) de_int) de_str)
    (dss_cons (ds_set 4 sc_l_leaf_value.nd (de_add (de_ix (do_var 0) de_int) (de_call C_l_next hr (as_cons (do_var 1) (as_cons (do_d (de_add (de_sub (de_ix (do_var 0) de_int) (de_ix (do_var 0) de_int)) de_int)) as_nil)))))
    (dss_one (ds_ret (de_join (do_d (de_ofL (dl_comp [("_law_k", 5)] rfl sc_l_leaf_value.nd (di_range B.range (de_var 4)) (blkOk_by (own := [("_law_k", 5)]) (N := N_l_leaf_value) (sc := defScope s_l_leaf_value) (by decide +kernel)) (fun _ _ _ _ _ => (dg_one 5 sc_l_leaf_value.nd)) (fun _ _ _ _ _ => dts_nil) (fun _ _ _ _ _ => (de_call C_l_char hr (as_cons (do_d (de_call C_l_next hr (as_cons (do_var 1) (as_cons (do_d de_int) as_nil)))) as_nil))))))))))
    dss_nil)
    (dss_cons (ds_own 2 sc_l_leaf_value.nd (dl_toL B.list_ (do_d (de_ix (do_var 0) de_int))))
    (dss_cons (ds_if (dt_val (de_ix (do_var 0) de_int))
    (dss_one (ds_app 2 de_int))
    dss_nil)
    (dss_one (ds_ret (de_ix (do_var 2) (de_call C_l_next hr (as_cons (do_var 1) (as_cons (do_d (de_len B.len (as_cons (do_var 2) as_nil))) as_nil))))))))))
def N_l_part : List Str := ["_law_draws_here", "_law_names"]
abbrev s_l_part : Stmt := topS 38
theorem sc_l_part : FnScope N_l_part ["_law_draws_here", "_law_names"] (defScope s_l_part) := ⟨rfl, rfl, rfl, by decide +kernel, rfl, by decide +kernel, by decide +kernel⟩
theorem ok_l_part {P : Program} {w : PySem.World} {K : PySem.W.Frag} {mg : Str → Option Value} {base : Heap} {f : Addr} {fd : FuncData} {k : Nat} {M_l_leaf : FM} {M_l_next : FM} (F : Fun K "_law_part" "_law_part" s_l_part f fd) (B : Bl mg) (C_l_leaf : Callee P w K mg base k "_law_leaf" 1 M_l_leaf) (C_l_next : Callee P w K mg base k "_law_next" 2 M_l_next) :
    FnOk P w K mg base CX0 (k + 1) f fd ["_law_draws_here", "_law_names"] (spD K 2 (runM 2 2 (G_l_part M_l_leaf M_l_next))) :=
  ok_body F sc_l_part fun cdv A outer s H E hr =>
    (dss_cons (ds_if (dt_eq (de_call C_l_next hr (as_cons (do_var 0) (as_cons (do_d de_int) as_nil))) de_int)
    (dss_one (ds_ret (de_ix (do_var 1) (de_call C_l_next hr (as_cons (do_var 0) (as_cons (do_d (de_len B.len (as_cons (do_var 1) as_nil))) as_nil))))))
    dss_nil)
    (dss_one (ds_ret (de_call C_l_leaf hr (as_cons (do_var 0) as_nil)))))
def N_l_list_body : List Str := ["_law_draws_here", "_law_names", "_law_later", "_law_low", "_law_high", "_law_part_here"]
abbrev s_l_list_body : Stmt := topS 39
theorem sc_l_list_body : FnScope N_l_list_body ["_law_draws_here", "_law_names", "_law_later"] (defScope s_l_list_body) := ⟨rfl, rfl, rfl, by decide +kernel, rfl, by decide +kernel, by decide +kernel⟩
theorem ok_l_list_body {P : Program} {w : PySem.World} {K : PySem.W.Frag} {mg : Str → Option Value} {base : Heap} {f : Addr} {fd : FuncData} {k : Nat} {M_l_next : FM} {M_l_leaf : FM} (F : Fun K "_law_list_body" "_law_list_body" s_l_list_body f fd) (B : Bl mg) (C_l_next : Callee P w K mg base k "_law_next" 2 M_l_next) (C_l_leaf : Callee P w K mg base k "_law_leaf" 1 M_l_leaf) :
    FnOk P w K mg base CX0 (k + 1) f fd ["_law_draws_here", "_law_names", "_law_later"] (spD K 3 (runM 6 3 (G_l_list_body M_l_next M_l_leaf))) :=
  ok_body F sc_l_list_body fun cdv A outer s H E hr =>
    (dss_cons (ds_set 3 sc_l_list_body.nd de_int)
    (dss_cons (ds_if (dt_eq (de_call C_l_next hr (as_cons (do_var 0) (as_cons (do_d de_int) as_nil))) de_int)
    (dss_cons (ds_set 5 sc_l_list_body.nd (de_ix (do_var 1) (de_call C_l_next hr (as_cons (do_var 0) (as_cons (do_d (de_len B.len (as_cons (do_var 1) as_nil))) as_nil)))))
    (dss_one (ds_if (dt_in (de_var 5) (do_var 2))
    (dss_one (ds_set 3 sc_l_list_body.nd (de_call C_l_next hr (as_cons (do_var 0) (as_cons (do_d de_int) as_nil)))))
    dss_nil)))
    (dss_cons (ds_set 5 sc_l_list_body.nd (de_call C_l_leaf hr (as_cons (do_var 0) as_nil)))
    (dss_one (ds_set 3 sc_l_list_body.nd (de_call C_l_next hr (as_cons (do_var 0) (as_cons (do_d de_int) as_nil)))))))
    (dss_cons (ds_set 4 sc_l_list_body.nd (de_max2 rfl B.max (as_cons (do_d de_int) (as_cons (do_d (de_add (de_var 3) (de_call C_l_next hr (as_cons (do_var 0) (as_cons (do_d de_int) as_nil))))) as_nil))))
    (dss_cons (ds_if (dt_eq (de_call C_l_next hr (as_cons (do_var 0) (as_cons (do_d de_int) as_nil))) de_int)
    (dss_one (ds_set 4 sc_l_list_body.nd de_int))
    dss_nil)
    (dss_one (ds_ret (de_tup (as_cons (do_d de_str) (as_cons (do_var 5) (as_cons (do_var 3) (as_cons (do_var 4) as_nil)))))))))))
def N_l_record_body : List Str := ["_law_draws_here", "_law_names", "_law_later", "_law_parted", "_law_fields", "_law_is_free", "_law_number", "_law_part_here", "_law_pick"]
abbrev s_l_record_body : Stmt := topS 40
theorem sc_l_record_body : FnScope N_l_record_body ["_law_draws_here", "_law_names", "_law_later"] (defScope s_l_record_body) := ⟨rfl, rfl, rfl, by decide +kernel, rfl, by decide +kernel, by decide +kernel⟩
theorem ok_l_record_body {P : Program} {w : PySem.World} {K : PySem.W.Frag} {mg : Str → Option Value} {base : Heap} {f : Addr} {fd : FuncData} {k : Nat} {M_l_leaf_value : FM} {M_l_next : FM} {M_l_part : FM} {M_l_split : FM} {M_l_ids : FM} (F : Fun K "_law_record_body" "_law_record_body" s_l_record_body f fd) (B : Bl mg) (C_l_leaf_value : Callee P w K mg base k "_law_leaf_value" 2 M_l_leaf_value) (C_l_next : Callee P w K mg base k "_law_next" 2 M_l_next) (C_l_part : Callee P w K mg base k "_law_part" 2 M_l_part) (C_l_split : Callee P w K mg base k "_law_split" 2 M_l_split) (C_l_ids : Callee P w K mg base k "_law_ids" 2 M_l_ids) :
    FnOk P w K mg base CX0 (k + 1) f fd ["_law_draws_here", "_law_names", "_law_later"] (spD K 3 (runM 9 3 (G_l_record_body M_l_leaf_value M_l_next M_l_part M_l_split M_l_ids))) :=
  ok_body F sc_l_record_body fun cdv A outer s H E hr =>
    (dss_cons (ds_set 3 sc_l_record_body.nd (de_call C_l_split hr (as_cons (do_var 0) (as_cons (do_d (de_call C_l_ids hr (as_cons (do_var 0) (as_cons (do_d de_int) as_nil)))) as_nil))))
    (dss_cons (ds_own 4 sc_l_record_body.nd (dl_disp as_nil))
    (dss_cons (ds_set 5 sc_l_record_body.nd de_bl)
    (dss_cons (ds_for PassesOwn.never rfl (di_list (de_ixP (de_var 3))) (dg_one 6 sc_l_record_body.nd)
    (dss_cons (ds_set 7 sc_l_record_body.nd (de_call C_l_part hr (as_cons (do_var 0) (as_cons (do_var 1) as_nil))))
    (dss_cons (ds_set 8 sc_l_record_body.nd (de_call C_l_next hr (as_cons (do_var 0) (as_cons (do_d de_int) as_nil))))
    (dss_one (ds_if (dt_val (de_isi B.isinstance B.str_ (by decide +kernel) (de_var 7)))
    (dss_one (ds_if (dt_w (dw_and (dt_ne (de_var 8) de_int) (dw_and (dt_val (de_var 5)) (dw_and1 (dt_in (de_var 7) (do_var 2))))))
    (dss_cons (ds_set 5 sc_l_record_body.nd de_bl)
    (dss_one (ds_app 4 (de_tup (as_cons (do_var 6) (as_cons (do_var 7) (as_cons (do_d de_str) (as_cons (do_d de_non) as_nil))))))))
    (dss_one (ds_app 4 (de_tup (as_cons (do_var 6) (as_cons (do_var 7) (as_cons (do_d de_str) (as_cons (do_d de_non) as_nil)))))))))
    (dss_one (ds_if (dt_eq (de_var 8) de_int)
    (dss_one (ds_app 4 (de_tup (as_cons (do_var 6) (as_cons (do_var 7) (as_cons (do_d de_str) (as_cons (do_d de_non) as_nil)))))))
    (dss_one (ds_if (dt_w (dw_and (dt_eq (de_var 8) de_int) (dw_and1 (dt_ne (de_ix (do_var 7) de_int) de_str))))
    (dss_one (ds_app 4 (de_tup (as_cons (do_var 6) (as_cons (do_var 7) (as_cons (do_d de_str) (as_cons (do_d (de_call C_l_leaf_value hr (as_cons (do_var 7) (as_cons (do_var 0) as_nil)))) as_nil)))))))
    (dss_one (ds_app 4 (de_tup (as_cons (do_var 6) (as_cons (do_var 7) (as_cons (do_d de_str) (as_cons (do_d de_non) as_nil))))))))))))))))
    (dss_one (ds_ret (de_tup (as_cons (do_d de_str) (as_cons (do_d (de_toTup B.tuple_ (do_var 4))) (as_cons (do_d (de_toTup B.tuple_ (do_d (de_ixP (de_var 3))))) as_nil))))))))))
def N_l_union_body : List Str := ["_law_draws_here", "_law_names", "_law_later", "_law_parted", "_law_cases", "_law_safe", "_law_is_open", "_law_number", "_law_case"]
abbrev s_l_union_body : Stmt := topS 41
theorem sc_l_union_body : FnScope N_l_union_body ["_law_draws_here", "_law_names", "_law_later"] (defScope s_l_union_body) := ⟨rfl, rfl, rfl, by decide +kernel, rfl, by decide +kernel, by decide +kernel⟩
theorem ok_l_union_body {P : Program} {w : PySem.World} {K : PySem.W.Frag} {mg : Str → Option Value} {base : Heap} {f : Addr} {fd : FuncData} {k : Nat} {M_l_next : FM} {M_l_part : FM} {M_l_split : FM} {M_l_ids : FM} (F : Fun K "_law_union_body" "_law_union_body" s_l_union_body f fd) (B : Bl mg) (C_l_next : Callee P w K mg base k "_law_next" 2 M_l_next) (C_l_part : Callee P w K mg base k "_law_part" 2 M_l_part) (C_l_split : Callee P w K mg base k "_law_split" 2 M_l_split) (C_l_ids : Callee P w K mg base k "_law_ids" 2 M_l_ids) :
    FnOk P w K mg base CX0 (k + 1) f fd ["_law_draws_here", "_law_names", "_law_later"] (spD K 3 (runM 9 3 (G_l_union_body M_l_next M_l_part M_l_split M_l_ids))) :=
  ok_body F sc_l_union_body fun cdv A outer s H E hr =>
    (dss_cons (ds_set 3 sc_l_union_body.nd (de_call C_l_split hr (as_cons (do_var 0) (as_cons (do_d (de_call C_l_ids hr (as_cons (do_var 0) (as_cons (do_d de_int) as_nil)))) as_nil))))
    (dss_cons (ds_setLc 4 [("_law_number", 7)] rfl sc_l_union_body.nd (di_list (de_ixP (de_var 3))) (blkOk_by (own := [("_law_number", 7)]) (N := N_l_union_body) (sc := defScope s_l_union_body) (by decide +kernel)) (fun _ _ _ _ _ => (dg_one 7 sc_l_union_body.nd)) (fun _ _ _ _ _ => dts_nil) (fun _ _ _ _ _ => (de_tup (as_cons (do_var 7) (as_cons (do_d (de_call C_l_part hr (as_cons (do_var 0) (as_cons (do_var 1) as_nil)))) as_nil)))))
    (dss_cons (ds_setLc 5 [("_law_case", 8)] rfl sc_l_union_body.nd (di_list (de_var 4)) (blkOk_by (own := [("_law_case", 8)]) (N := N_l_union_body) (sc := defScope s_l_union_body) (by decide +kernel)) (fun _ _ _ _ _ => (dg_one 8 sc_l_union_body.nd)) (fun _ _ _ _ _ => (dts_one (dt_w (dw_or (dt_not (dt_val (de_isi B.isinstance B.str_ (by decide +kernel) (de_ix (do_var 8) de_int)))) (dw_or1 (dt_in (de_ix (do_var 8) de_int) (do_var 2))))))) (fun _ _ _ _ _ => (de_var 8)))
    (dss_cons (ds_set 6 sc_l_union_body.nd (de_or (de_eq (de_call C_l_next hr (as_cons (do_var 0) (as_cons (do_d de_int) as_nil))) de_int) (de_or (de_gt (de_len B.len (as_cons (do_d (de_ixP (de_var 3))) as_nil)) de_int) (de_one (de_eq (de_len B.len (as_cons (do_var 5) as_nil)) de_int)))))
    (dss_one (ds_ret (de_tup (as_cons (do_d de_str) (as_cons (do_d (de_toTup B.tuple_ (do_var 4))) (as_cons (do_d (de_toTup B.tuple_ (do_d (de_ixP (de_var 3))))) (as_cons (do_var 6) as_nil)))))))))))
def N_l_schema : List Str := ["_law_draws_here", "_law_count_here", "_law_names", "_law_definitions", "_law_k", "_law_kind", "_law_later", "_law_body"]
abbrev s_l_schema : Stmt := topS 42
theorem sc_l_schema : FnScope N_l_schema ["_law_draws_here"] (defScope s_l_schema) := ⟨rfl, rfl, rfl, by decide +kernel, rfl, by decide +kernel, by decide +kernel⟩
theorem ok_l_schema {P : Program} {w : PySem.World} {K : PySem.W.Frag} {mg : Str → Option Value} {base : Heap} {f : Addr} {fd : FuncData} {k : Nat} {M_l_next : FM} {M_l_record_body : FM} {M_l_union_body : FM} {M_l_list_body : FM} (F : Fun K "_law_schema" "_law_schema" s_l_schema f fd) (B : Bl mg) (C_l_next : Callee P w K mg base k "_law_next" 2 M_l_next) (C_l_record_body : Callee P w K mg base k "_law_record_body" 3 M_l_record_body) (C_l_union_body : Callee P w K mg base k "_law_union_body" 3 M_l_union_body) (C_l_list_body : Callee P w K mg base k "_law_list_body" 3 M_l_list_body) :
    FnOk P w K mg base CX0 (k + 1) f fd ["_law_draws_here"] (spD K 1 (runM 8 1 (G_l_schema M_l_next M_l_record_body M_l_union_body M_l_list_body))) :=
  ok_body F sc_l_schema fun cdv A outer s H E hr =>
    (dss_cons (ds_set 1 sc_l_schema.nd (de_add de_int (de_call C_l_next hr (as_cons (do_var 0) (as_cons (do_d de_int) as_nil)))))
    (dss_cons (ds_setL 2 sc_l_schema.nd (dl_to (do_d (de_ofL (dl_disp (as_cons (do_d de_str) (as_cons (do_d de_str) (as_cons (do_d de_str) (as_cons (do_d de_str) as_nil))))))) (de_var 1)))
    (dss_cons (ds_own 3 sc_l_schema.nd (dl_disp as_nil))
    (dss_cons (ds_for PassesOwn.never rfl (di_range B.range (de_var 1)) (dg_one 4 sc_l_schema.nd)
    (dss_cons (ds_set 5 sc_l_schema.nd (de_call C_l_next hr (as_cons (do_var 0) (as_cons (do_d de_int) as_nil))))
    (dss_cons (ds_setL 6 sc_l_schema.nd (dl_from (do_var 2) (de_add (de_var 4) de_int)))
    (dss_cons (ds_if (dt_lt (de_var 5) de_int)
    (dss_one (ds_set 7 sc_l_schema.nd (de_call C_l_record_body hr (as_cons (do_var 0) (as_cons (do_var 2) (as_cons (do_var 6) as_nil))))))
    (dss_one (ds_if (dt_lt (de_var 5) de_int)
    (dss_one (ds_set 7 sc_l_schema.nd (de_call C_l_union_body hr (as_cons (do_var 0) (as_cons (do_var 2) (as_cons (do_var 6) as_nil))))))
    (dss_one (ds_set 7 sc_l_schema.nd (de_call C_l_list_body hr (as_cons (do_var 0) (as_cons (do_var 2) (as_cons (do_var 6) as_nil)))))))))
    (dss_one (ds_app 3 (de_tup (as_cons (do_d (de_ix (do_var 2) (de_var 4))) (as_cons (do_var 7) as_nil)))))))))
    (dss_one (ds_ret (de_tup (as_cons (do_d (de_ix (do_var 2) (de_call C_l_next hr (as_cons (do_var 0) (as_cons (do_var 1) as_nil))))) (as_cons (do_d (de_toTup B.tuple_ (do_var 3))) as_nil)))))))))
def N_l_body_of : List Str := ["_law_schema_here", "_law_name", "_law_definition"]
abbrev s_l_body_of : Stmt := topS 43
theorem sc_l_body_of : FnScope N_l_body_of ["_law_schema_here", "_law_name"] (defScope s_l_body_of) := ⟨rfl, rfl, rfl, by decide +kernel, rfl, by decide +kernel, by decide +kernel⟩
theorem ok_l_body_of {P : Program} {w : PySem.World} {K : PySem.W.Frag} {mg : Str → Option Value} {base : Heap} {f : Addr} {fd : FuncData} {k : Nat} (F : Fun K "_law_body_of" "_law_body_of" s_l_body_of f fd) (B : Bl mg) :
    FnOk P w K mg base CX0 (k + 1) f fd ["_law_schema_here", "_law_name"] (spD K 2 (runM 3 2 (G_l_body_of))) :=
  ok_body F sc_l_body_of fun cdv A outer s H E hr =>
    (dss_cons (ds_for PassesOwn.never rfl (di_tup (de_ix (do_var 0) de_int)) (dg_one 2 sc_l_body_of.nd)
    (dss_one (ds_if (dt_eq (de_ix (do_var 2) de_int) (de_var 1))
    (dss_one (ds_ret (de_ix (do_var 2) de_int)))
    dss_nil)))
    (dss_one (ds_ret de_non)))
def N_l_is_known : List Str := ["_law_part_here", "_law_depths_here"]
abbrev s_l_is_known : Stmt := topS 44
theorem sc_l_is_known : FnScope N_l_is_known ["_law_part_here", "_law_depths_here"] (defScope s_l_is_known) := ⟨rfl, rfl, rfl, by decide +kernel, rfl, by decide +kernel, by decide +kernel⟩
theorem ok_l_is_known {P : Program} {w : PySem.World} {K : PySem.W.Frag} {mg : Str → Option Value} {base : Heap} {f : Addr} {fd : FuncData} {k : Nat} (F : Fun K "_law_is_known" "_law_is_known" s_l_is_known f fd) (B : Bl mg) :
    FnOk P w K mg base CX0 (k + 1) f fd ["_law_part_here", "_law_depths_here"] (spD K 2 (runM 2 2 (G_l_is_known))) :=
  ok_body F sc_l_is_known fun cdv A outer s H E hr =>
    (dss_one (ds_ret (de_or (de_not (de_isi B.isinstance B.str_ (by decide +kernel) (de_var 0))) (de_one (de_inK (hu_of hr) (de_var 0) (do_var 1))))))
def N_l_has_value : List Str := ["_law_body", "_law_depths_here", "_law_field", "_law_case"]
abbrev s_l_has_value : Stmt := topS 45
theorem sc_l_has_value : FnScope N_l_has_value ["_law_body", "_law_depths_here"] (defScope s_l_has_value) := ⟨rfl, rfl, rfl, by decide +kernel, rfl, by decide +kernel, by decide +kernel⟩
theorem ok_l_has_value {P : Program} {w : PySem.World} {K : PySem.W.Frag} {mg : Str → Option Value} {base : Heap} {f : Addr} {fd : FuncData} {k : Nat} {M_l_is_known : FM} (F : Fun K "_law_has_value" "_law_has_value" s_l_has_value f fd) (B : Bl mg) (C_l_is_known : Callee P w K mg base k "_law_is_known" 2 M_l_is_known) :
    FnOk P w K mg base CX0 (k + 1) f fd ["_law_body", "_law_depths_here"] (spD K 2 (runM 4 2 (G_l_has_value M_l_is_known))) :=
  ok_body F sc_l_has_value fun cdv A outer s H E hr =>
    (dss_cons (ds_if (dt_eq (de_ix (do_var 0) de_int) de_str)
    (dss_one (ds_ret (de_or (de_eq (de_ix (do_var 0) de_int) de_int) (de_one (de_call C_l_is_known hr (as_cons (do_d (de_ix (do_var 0) de_int)) (as_cons (do_var 1) as_nil)))))))
    dss_nil)
    (dss_cons (ds_if (dt_eq (de_ix (do_var 0) de_int) de_str)
    (dss_one (ds_ret (de_eq (de_len B.len (as_cons (do_d (de_ofL (dl_comp [("_law_field", 2)] rfl sc_l_has_value.nd (di_tup (de_ix (do_var 0) de_int)) (blkOk_by (own := [("_law_field", 2)]) (N := N_l_has_value) (sc := defScope s_l_has_value) (by decide +kernel)) (fun _ _ _ _ _ => (dg_one 2 sc_l_has_value.nd)) (fun _ _ _ _ _ => (dts_one (dt_w (dw_and (dt_eq (de_ix (do_var 2) de_int) de_str) (dw_and1 (dt_not (dt_val (de_call C_l_is_known hr (as_cons (do_d (de_ix (do_var 2) de_int)) (as_cons (do_var 1) as_nil)))))))))) (fun _ _ _ _ _ => (de_var 2))))) as_nil)) de_int)))
    dss_nil)
    (dss_one (ds_ret (de_or (de_ix (do_var 0) de_int) (de_one (de_gt (de_len B.len (as_cons (do_d (de_ofL (dl_comp [("_law_case", 3)] rfl sc_l_has_value.nd (di_tup (de_ix (do_var 0) de_int)) (blkOk_by (own := [("_law_case", 3)]) (N := N_l_has_value) (sc := defScope s_l_has_value) (by decide +kernel)) (fun _ _ _ _ _ => (dg_one 3 sc_l_has_value.nd)) (fun _ _ _ _ _ => (dts_one (dt_val (de_call C_l_is_known hr (as_cons (do_d (de_ix (do_var 3) de_int)) (as_cons (do_var 1) as_nil)))))) (fun _ _ _ _ _ => (de_var 3))))) as_nil)) de_int)))))))
end Sb

set_option Elab.async false
set_option linter.all false
set_option maxRecDepth 100000
set_option maxHeartbeats 4000000
namespace Sb
open PySem L2
def N_l_depths : List Str := ["_law_schema_here", "_law_depths_here", "_law_level", "_law_found", "_law_name", "_law_one"]
abbrev s_l_depths : Stmt := topS 46
theorem sc_l_depths : FnScope N_l_depths ["_law_schema_here"] (defScope s_l_depths) := ⟨rfl, rfl, rfl, by decide +kernel, rfl, by decide +kernel, by decide +kernel⟩
theorem ok_l_depths {P : Program} {w : PySem.World} {K : PySem.W.Frag} {mg : Str → Option Value} {base : Heap} {f : Addr} {fd : FuncData} {k : Nat} {M_l_has_value : FM} (F : Fun K "_law_depths" "_law_depths" s_l_depths f fd) (B : Bl mg) (C_l_has_value : Callee P w K mg base k "_law_has_value" 2 M_l_has_value) :
    FnOk P w K mg base CX0 (k + 1) f fd ["_law_schema_here"] (spD K 1 (runM 6 1 (G_l_depths M_l_has_value))) :=
  ok_body F sc_l_depths fun cdv A outer s H E hr =>
    (dss_cons (ds_dict 1 sc_l_depths.nd)
    (dss_cons (ds_for PassesOwn.never rfl (di_range B.range (de_len B.len (as_cons (do_d (de_ix (do_var 0) de_int)) as_nil))) (dg_one 2 sc_l_depths.nd)
    (dss_cons (ds_setLc 3 [("_law_one", 5)] rfl sc_l_depths.nd (di_tup (de_ix (do_var 0) de_int)) (blkOk_by (own := [("_law_one", 5)]) (N := N_l_depths) (sc := defScope s_l_depths) (by decide +kernel)) (fun _ _ _ _ _ => (dg_one 5 sc_l_depths.nd)) (fun _ _ _ _ _ => (dts_one (dt_w (dw_and (dt_notInK (hu_of hr) (de_ix (do_var 5) de_int) (do_var 1)) (dw_and1 (dt_val (de_call C_l_has_value hr (as_cons (do_d (de_ix (do_var 5) de_int)) (as_cons (do_var 1) as_nil))))))))) (fun _ _ _ _ _ => (de_ix (do_var 5) de_int)))
    (dss_one (ds_for PassesOwn.never rfl (di_list (de_var 3)) (dg_one 4 sc_l_depths.nd)
    (dss_one (ds_put 1 (hu_of hr) (de_var 4) (de_add (de_var 2) de_int)))))))
    (dss_one (ds_retO 1))))
def N_l_part_depth : List Str := ["_law_part_here", "_law_depths_here"]
abbrev s_l_part_depth : Stmt := topS 47
theorem sc_l_part_depth : FnScope N_l_part_depth ["_law_part_here", "_law_depths_here"] (defScope s_l_part_depth) := ⟨rfl, rfl, rfl, by decide +kernel, rfl, by decide +kernel, by decide +kernel⟩
theorem ok_l_part_depth {P : Program} {w : PySem.World} {K : PySem.W.Frag} {mg : Str → Option Value} {base : Heap} {f : Addr} {fd : FuncData} {k : Nat} (F : Fun K "_law_part_depth" "_law_part_depth" s_l_part_depth f fd) (B : Bl mg) :
    FnOk P w K mg base CX0 (k + 1) f fd ["_law_part_here", "_law_depths_here"] (spD K 2 (runM 2 2 (G_l_part_depth))) :=
  ok_body F sc_l_part_depth fun cdv A outer s H E hr =>
    (dss_cons (ds_if (dt_val (de_isi B.isinstance B.str_ (by decide +kernel) (de_var 0)))
    (dss_one (ds_ret (de_getK (hu_of hr) (do_var 1) (de_var 0))))
    dss_nil)
    (dss_one (ds_ret de_int)))
def N_l_simple_leaf : List Str := ["_law_leaf_here"]
abbrev s_l_simple_leaf : Stmt := topS 48
theorem sc_l_simple_leaf : FnScope N_l_simple_leaf ["_law_leaf_here"] (defScope s_l_simple_leaf) := ⟨rfl, rfl, rfl, by decide +kernel, rfl, by decide +kernel, by decide +kernel⟩
theorem ok_l_simple_leaf {P : Program} {w : PySem.World} {K : PySem.W.Frag} {mg : Str → Option Value} {base : Heap} {f : Addr} {fd : FuncData} {k : Nat} (F : Fun K "_law_simple_leaf" "_law_simple_leaf" s_l_simple_leaf f fd) (B : Bl mg) :
    FnOk P w K mg base CX0 (k + 1) f fd ["_law_leaf_here"] (spD K 1 (runM 1 1 (G_l_simple_leaf))) :=
  ok_body F sc_l_simple_leaf fun cdv A outer s H E hr =>
    (dss_cons (ds_if (dt_eq (de_ix (do_var 0) de_int) de_str)
    (dss_one (ds_ret (de_max2 rfl B.max (as_cons (do_d (de_ix (do_var 0) de_int)) (as_cons (do_d (de_min2 rfl B.min (as_cons (do_d (de_ix (do_var 0) de_int)) (as_cons (do_d de_int) as_nil)))) as_nil)))))
    dss_nil)
    (dss_cons (ds_if (dt_eq (de_ix (do_var 0) de_int) de_str)
    (dss_one (ds_ret (de_mulS de_str (de_ix (do_var 0) de_int))))
    dss_nil)
    (dss_cons (ds_if (dt_gt (de_len B.len (as_cons (do_d (de_ix (do_var 0) de_int)) as_nil)) de_int)
    (dss_one (ds_ret (de_ix (do_d (de_ix (do_var 0) de_int)) de_int)))
    dss_nil)
    (dss_one (ds_ret de_int)))))
def N_l_simple : List Str := ["_law_schema_here", "_law_part_here", "_law_depths_here", "_law_body", "_law_best", "_law_case", "_law_entries", "_law_field", "_law_k"]
abbrev s_l_simple : Stmt := topS 49
theorem sc_l_simple : FnScope N_l_simple ["_law_schema_here", "_law_part_here", "_law_depths_here"] (defScope s_l_simple) := ⟨rfl, rfl, rfl, by decide +kernel, rfl, by decide +kernel, by decide +kernel⟩
theorem ok_l_simple {P : Program} {w : PySem.World} {K : PySem.W.Frag} {mg : Str → Option Value} {base : Heap} {f : Addr} {fd : FuncData} {k : Nat} {M_l_simple : FM} {M_l_is_known : FM} {M_l_part_depth : FM} {M_l_body_of : FM} {M_l_simple_leaf : FM} (F : Fun K "_law_simple" "_law_simple" s_l_simple f fd) (B : Bl mg) (C_l_simple : Callee P w K mg base k "_law_simple" 3 M_l_simple) (C_l_is_known : Callee P w K mg base k "_law_is_known" 2 M_l_is_known) (C_l_part_depth : Callee P w K mg base k "_law_part_depth" 2 M_l_part_depth) (C_l_body_of : Callee P w K mg base k "_law_body_of" 2 M_l_body_of) (C_l_simple_leaf : Callee P w K mg base k "_law_simple_leaf" 1 M_l_simple_leaf) :
    FnOk P w K mg base CX0 (k + 1) f fd ["_law_schema_here", "_law_part_here", "_law_depths_here"] (spD K 3 (runM 9 3 (G_l_simple M_l_simple M_l_is_known M_l_part_depth M_l_body_of M_l_simple_leaf))) :=
  ok_body F sc_l_simple fun cdv A outer s H E hr =>
    (dss_cons (ds_if (dt_not (dt_val (de_isi B.isinstance B.str_ (by decide +kernel) (de_var 1))))
    (dss_one (ds_ret (de_call C_l_simple_leaf hr (as_cons (do_var 1) as_nil))))
    dss_nil)
    (dss_cons (ds_set 3 sc_l_simple.nd (de_call C_l_body_of hr (as_cons (do_var 0) (as_cons (do_var 1) as_nil))))
    (dss_cons (ds_if (dt_eq (de_ix (do_var 3) de_int) de_str)
    (dss_one (ds_ret (de_toTup B.tuple_ (do_d (de_ofL (dl_comp [("_law_k", 8)] rfl sc_l_simple.nd (di_range B.range (de_ix (do_var 3) de_int)) (blkOk_by (own := [("_law_k", 8)]) (N := N_l_simple) (sc := defScope s_l_simple) (by decide +kernel)) (fun _ _ _ _ _ => (dg_one 8 sc_l_simple.nd)) (fun _ _ _ _ _ => dts_nil) (fun _ _ _ _ _ => (de_call C_l_simple hr (as_cons (do_var 0) (as_cons (do_d (de_ix (do_var 3) de_int)) (as_cons (do_var 2) as_nil)))))))))))
    dss_nil)
    (dss_cons (ds_if (dt_eq (de_ix (do_var 3) de_int) de_str)
    (dss_cons (ds_own 6 sc_l_simple.nd (dl_disp as_nil))
    (dss_cons (ds_for PassesOwn.never rfl (di_tup (de_ix (do_var 3) de_int)) (dg_one 7 sc_l_simple.nd)
    (dss_cons (ds_if (dt_eq (de_ix (do_var 7) de_int) de_str)
    (dss_one (ds_app 6 (de_tup (as_cons (do_d (de_ix (do_var 7) de_int)) (as_cons (do_d (de_call C_l_simple hr (as_cons (do_var 0) (as_cons (do_d (de_ix (do_var 7) de_int)) (as_cons (do_var 2) as_nil))))) as_nil)))))
    dss_nil)
    (dss_one (ds_if (dt_eq (de_ix (do_var 7) de_int) de_str)
    (dss_one (ds_app 6 (de_tup (as_cons (do_d (de_ix (do_var 7) de_int)) (as_cons (do_d (de_ix (do_var 7) de_int)) as_nil)))))
    dss_nil))))
    (dss_one (ds_ret (de_toTup B.tuple_ (do_var 6))))))
    dss_nil)
    (dss_cons (ds_if (dt_val (de_ix (do_var 3) de_int))
    (dss_one (ds_ret (de_tup (as_cons (do_d de_int) (as_cons (do_d de_non) as_nil)))))
    dss_nil)
    (dss_cons (ds_set 4 sc_l_simple.nd de_non)
    (dss_cons (ds_for PassesOwn.never rfl (di_tup (de_ix (do_var 3) de_int)) (dg_one 5 sc_l_simple.nd)
    (dss_one (ds_if (dt_val (de_call C_l_is_known hr (as_cons (do_d (de_ix (do_var 5) de_int)) (as_cons (do_var 2) as_nil))))
    (dss_one (ds_if (dt_w (dw_or (dt_isN (de_var 4)) (dw_or1 (dt_lt (de_call C_l_part_depth hr (as_cons (do_d (de_ix (do_var 5) de_int)) (as_cons (do_var 2) as_nil))) (de_call C_l_part_depth hr (as_cons (do_d (de_ix (do_var 4) de_int)) (as_cons (do_var 2) as_nil)))))))
    (dss_one (ds_set 4 sc_l_simple.nd (de_var 5)))
    dss_nil))
    dss_nil)))
    (dss_one (ds_ret (de_tup (as_cons (do_d (de_ix (do_var 4) de_int)) (as_cons (do_d (de_call C_l_simple hr (as_cons (do_var 0) (as_cons (do_d (de_ix (do_var 4) de_int)) (as_cons (do_var 2) as_nil))))) as_nil))))))))))))
def N_l_record_value : List Str := ["_law_schema_here", "_law_body", "_law_draws_here", "_law_depths_here", "_law_left", "_law_entries", "_law_field"]
abbrev s_l_record_value : Stmt := topS 50
theorem sc_l_record_value : FnScope N_l_record_value ["_law_schema_here", "_law_body", "_law_draws_here", "_law_depths_here", "_law_left"] (defScope s_l_record_value) := ⟨rfl, rfl, rfl, by decide +kernel, rfl, by decide +kernel, by decide +kernel⟩
theorem ok_l_record_value {P : Program} {w : PySem.World} {K : PySem.W.Frag} {mg : Str → Option Value} {base : Heap} {f : Addr} {fd : FuncData} {k : Nat} {M_l_next : FM} {M_l_value : FM} (F : Fun K "_law_record_value" "_law_record_value" s_l_record_value f fd) (B : Bl mg) (C_l_next : Callee P w K mg base k "_law_next" 2 M_l_next) (C_l_value : Callee P w K mg base k "_law_value" 5 M_l_value) :
    FnOk P w K mg base CX0 (k + 1) f fd ["_law_schema_here", "_law_body", "_law_draws_here", "_law_depths_here", "_law_left"] (spD K 5 (runM 7 5 (G_l_record_value M_l_next M_l_value))) :=
  ok_body F sc_l_record_value fun cdv A outer s H E hr =>
    (dss_cons (ds_own 5 sc_l_record_value.nd (dl_disp as_nil))
    (dss_cons (ds_for PassesOwn.never rfl (di_tup (de_ix (do_var 1) de_int)) (dg_one 6 sc_l_record_value.nd)
    (dss_one (ds_if (dt_w (dw_or (dt_ne (de_ix (do_var 6) de_int) de_str) (dw_or1 (dt_gt (de_call C_l_next hr (as_cons (do_var 2) (as_cons (do_d de_int) as_nil))) de_int))))
    (dss_one (ds_app 5 (de_tup (as_cons (do_d (de_ix (do_var 6) de_int)) (as_cons (do_d (de_call C_l_value hr (as_cons (do_var 0) (as_cons (do_d (de_ix (do_var 6) de_int)) (as_cons (do_var 2) (as_cons (do_var 3) (as_cons (do_var 4) as_nil))))))) as_nil)))))
    dss_nil)))
    (dss_one (ds_ret (de_toTup B.tuple_ (do_var 5))))))
def N_l_value : List Str := ["_law_schema_here", "_law_part_here", "_law_draws_here", "_law_depths_here", "_law_left", "_law_body", "_law_many", "_law_pick", "_law_case", "_law_count_here", "_law_k"]
abbrev s_l_value : Stmt := topS 51
theorem sc_l_value : FnScope N_l_value ["_law_schema_here", "_law_part_here", "_law_draws_here", "_law_depths_here", "_law_left"] (defScope s_l_value) := ⟨rfl, rfl, rfl, by decide +kernel, rfl, by decide +kernel, by decide +kernel⟩
theorem ok_l_value {P : Program} {w : PySem.World} {K : PySem.W.Frag} {mg : Str → Option Value} {base : Heap} {f : Addr} {fd : FuncData} {k : Nat} {M_l_value : FM} {M_l_next : FM} {M_l_record_value : FM} {M_l_body_of : FM} {M_l_simple : FM} {M_l_leaf_value : FM} (F : Fun K "_law_value" "_law_value" s_l_value f fd) (B : Bl mg) (C_l_value : Callee P w K mg base k "_law_value" 5 M_l_value) (C_l_next : Callee P w K mg base k "_law_next" 2 M_l_next) (C_l_record_value : Callee P w K mg base k "_law_record_value" 5 M_l_record_value) (C_l_body_of : Callee P w K mg base k "_law_body_of" 2 M_l_body_of) (C_l_simple : Callee P w K mg base k "_law_simple" 3 M_l_simple) (C_l_leaf_value : Callee P w K mg base k "_law_leaf_value" 2 M_l_leaf_value) :
    FnOk P w K mg base CX0 (k + 1) f fd ["_law_schema_here", "_law_part_here", "_law_draws_here", "_law_depths_here", "_law_left"] (spD K 5 (runM 11 5 (G_l_value M_l_value M_l_next M_l_record_value M_l_body_of M_l_simple M_l_leaf_value))) :=
  ok_body F sc_l_value fun cdv A outer s H E hr =>
    (dss_cons (ds_if (dt_not (dt_val (de_isi B.isinstance B.str_ (by decide +kernel) (de_var 1))))
    (dss_one (ds_ret (de_call C_l_leaf_value hr (as_cons (do_var 1) (as_cons (do_var 2) as_nil)))))
    dss_nil)
    (dss_cons (ds_if (dt_eq (de_var 4) de_int)
    (dss_one (ds_ret (de_call C_l_simple hr (as_cons (do_var 0) (as_cons (do_var 1) (as_cons (do_var 3) as_nil))))))
    dss_nil)
    (dss_cons (ds_set 5 sc_l_value.nd (de_call C_l_body_of hr (as_cons (do_var 0) (as_cons (do_var 1) as_nil))))
    (dss_cons (ds_if (dt_eq (de_ix (do_var 5) de_int) de_str)
    (dss_one (ds_ret (de_call C_l_record_value hr (as_cons (do_var 0) (as_cons (do_var 5) (as_cons (do_var 2) (as_cons (do_var 3) (as_cons (do_d (de_sub (de_var 4) de_int)) as_nil))))))))
    dss_nil)
    (dss_cons (ds_if (dt_eq (de_ix (do_var 5) de_int) de_str)
    (dss_cons (ds_set 9 sc_l_value.nd (de_add (de_ix (do_var 5) de_int) (de_call C_l_next hr (as_cons (do_var 2) (as_cons (do_d (de_add (de_min2 rfl B.min (as_cons (do_d de_int) (as_cons (do_d (de_sub (de_ix (do_var 5) de_int) (de_ix (do_var 5) de_int))) as_nil))) de_int)) as_nil)))))
    (dss_one (ds_ret (de_toTup B.tuple_ (do_d (de_ofL (dl_comp [("_law_k", 10)] rfl sc_l_value.nd (di_range B.range (de_var 9)) (blkOk_by (own := [("_law_k", 10)]) (N := N_l_value) (sc := defScope s_l_value) (by decide +kernel)) (fun _ _ _ _ _ => (dg_one 10 sc_l_value.nd)) (fun _ _ _ _ _ => dts_nil) (fun _ _ _ _ _ => (de_call C_l_value hr (as_cons (do_var 0) (as_cons (do_d (de_ix (do_var 5) de_int)) (as_cons (do_var 2) (as_cons (do_var 3) (as_cons (do_d (de_sub (de_var 4) de_int)) as_nil))))))))))))))
    dss_nil)
    (dss_cons (ds_set 6 sc_l_value.nd (de_len B.len (as_cons (do_d (de_ix (do_var 5) de_int)) as_nil)))
    (dss_cons (ds_set 7 sc_l_value.nd (de_call C_l_next hr (as_cons (do_var 2) (as_cons (do_d (de_add (de_var 6) (de_toInt B.int_ (as_cons (do_d (de_ix (do_var 5) de_int)) as_nil)))) as_nil))))
    (dss_cons (ds_if (dt_eq (de_var 7) (de_var 6))
    (dss_one (ds_ret (de_tup (as_cons (do_d de_int) (as_cons (do_d de_non) as_nil)))))
    dss_nil)
    (dss_cons (ds_set 8 sc_l_value.nd (de_ix (do_d (de_ix (do_var 5) de_int)) (de_var 7)))
    (dss_one (ds_ret (de_tup (as_cons (do_d (de_ix (do_var 8) de_int)) (as_cons (do_d (de_call C_l_value hr (as_cons (do_var 0) (as_cons (do_d (de_ix (do_var 8) de_int)) (as_cons (do_var 2) (as_cons (do_var 3) (as_cons (do_d (de_sub (de_var 4) de_int)) as_nil))))))) as_nil))))))))))))))
def N_l_live : List Str := ["_law_body", "_law_one"]
abbrev s_l_live : Stmt := topS 52
theorem sc_l_live : FnScope N_l_live ["_law_body"] (defScope s_l_live) := ⟨rfl, rfl, rfl, by decide +kernel, rfl, by decide +kernel, by decide +kernel⟩
theorem ok_l_live {P : Program} {w : PySem.World} {K : PySem.W.Frag} {mg : Str → Option Value} {base : Heap} {f : Addr} {fd : FuncData} {k : Nat} (F : Fun K "_law_live" "_law_live" s_l_live f fd) (B : Bl mg) :
    FnOk P w K mg base CX0 (k + 1) f fd ["_law_body"] (spD K 1 (runM 2 1 (G_l_live))) :=
  ok_body F sc_l_live fun cdv A outer s H E hr =>
    (dss_cons (ds_if (dt_eq (de_ix (do_var 0) de_int) de_str)
    (dss_one (ds_retL (dl_toL B.list_ (do_d (de_ix (do_var 0) de_int)))))
    dss_nil)
    (dss_one (ds_retL (dl_comp [("_law_one", 1)] rfl sc_l_live.nd (di_tup (de_ix (do_var 0) de_int)) (blkOk_by (own := [("_law_one", 1)]) (N := N_l_live) (sc := defScope s_l_live) (by decide +kernel)) (fun _ _ _ _ _ => (dg_one 1 sc_l_live.nd)) (fun _ _ _ _ _ => dts_nil) (fun _ _ _ _ _ => (de_ix (do_var 1) de_int))))))
def N_l_part_of : List Str := ["_law_body", "_law_number", "_law_one"]
abbrev s_l_part_of : Stmt := topS 53
theorem sc_l_part_of : FnScope N_l_part_of ["_law_body", "_law_number"] (defScope s_l_part_of) := ⟨rfl, rfl, rfl, by decide +kernel, rfl, by decide +kernel, by decide +kernel⟩
theorem ok_l_part_of {P : Program} {w : PySem.World} {K : PySem.W.Frag} {mg : Str → Option Value} {base : Heap} {f : Addr} {fd : FuncData} {k : Nat} (F : Fun K "_law_part_of" "_law_part_of" s_l_part_of f fd) (B : Bl mg) :
    FnOk P w K mg base CX0 (k + 1) f fd ["_law_body", "_law_number"] (spD K 2 (runM 3 2 (G_l_part_of))) :=
  ok_body F sc_l_part_of fun cdv A outer s H E hr =>
    (dss_cons (ds_for PassesOwn.never rfl (di_tup (de_ix (do_var 0) de_int)) (dg_one 2 sc_l_part_of.nd)
    (dss_one (ds_if (dt_eq (de_ix (do_var 2) de_int) (de_var 1))
    (dss_one (ds_ret (de_ix (do_var 2) de_int)))
    dss_nil)))
    (dss_one (ds_ret de_non)))
def N_l_same : List Str := ["_law_actual", "_law_expected", "_law_k"]
abbrev s_l_same : Stmt := topS 54
theorem sc_l_same : FnScope N_l_same ["_law_actual", "_law_expected"] (defScope s_l_same) := ⟨rfl, rfl, rfl, by decide +kernel, rfl, by decide +kernel, by decide +kernel⟩
theorem ok_l_same {P : Program} {w : PySem.World} {K : PySem.W.Frag} {mg : Str → Option Value} {base : Heap} {f : Addr} {fd : FuncData} {k : Nat} {M_l_same : FM} (F : Fun K "_law_same" "_law_same" s_l_same f fd) (B : Bl mg) (C_l_same : Callee P w K mg base k "_law_same" 2 M_l_same) :
    FnOk P w K mg base CX0 (k + 1) f fd ["_law_actual", "_law_expected"] (spD K 2 (runM 3 2 (G_l_same M_l_same))) :=
  ok_body F sc_l_same fun cdv A outer s H E hr =>
    (dss_cons (ds_if (dt_isN (de_var 1))
    (dss_one (ds_ret (de_isN (de_var 0))))
    dss_nil)
    (dss_cons (ds_if (dt_val (de_isi B.isinstance B.tuple_ (by decide +kernel) (de_var 1)))
    (dss_cons (ds_if (dt_w (dw_or (dt_not (dt_val (de_isi B.isinstance B.tuple_ (by decide +kernel) (de_var 0)))) (dw_or1 (dt_ne (de_len B.len (as_cons (do_var 0) as_nil)) (de_len B.len (as_cons (do_var 1) as_nil))))))
    (dss_one (ds_ret de_bl))
    dss_nil)
    (dss_cons (ds_for PassesOwn.never rfl (di_range B.range (de_len B.len (as_cons (do_var 1) as_nil))) (dg_one 2 sc_l_same.nd)
    (dss_one (ds_if (dt_not (dt_val (de_call C_l_same hr (as_cons (do_d (de_ix (do_var 0) (de_var 2))) (as_cons (do_d (de_ix (do_var 1) (de_var 2))) as_nil)))))
    (dss_one (ds_ret de_bl))
    dss_nil)))
    (dss_one (ds_ret de_bl))))
    dss_nil)
    (dss_cons (ds_if (dt_val (de_isi B.isinstance B.bool_ (by decide +kernel) (de_var 1)))
    (dss_one (ds_ret (de_and (de_isi B.isinstance B.bool_ (by decide +kernel) (de_var 0)) (de_one (de_eq (de_var 0) (de_var 1))))))
    dss_nil)
    (dss_cons (ds_if (dt_val (de_isi B.isinstance B.int_ (by decide +kernel) (de_var 1)))
    (dss_one (ds_ret (de_and (de_isi B.isinstance B.int_ (by decide +kernel) (de_var 0)) (de_and (de_not (de_isi B.isinstance B.bool_ (by decide +kernel) (de_var 0))) (de_one (de_eq (de_var 0) (de_var 1)))))))
    dss_nil)
    (dss_one (ds_ret (de_and (de_isi B.isinstance B.str_ (by decide +kernel) (de_var 0)) (de_one (de_eq (de_var 0) (de_var 1))))))))))
def N_l_is_text : List Str := ["_law_value_here", "_law_char_here"]
abbrev s_l_is_text : Stmt := topS 55
theorem sc_l_is_text : FnScope N_l_is_text ["_law_value_here"] (defScope s_l_is_text) := ⟨rfl, rfl, rfl, by decide +kernel, rfl, by decide +kernel, by decide +kernel⟩
theorem ok_l_is_text {P : Program} {w : PySem.World} {K : PySem.W.Frag} {mg : Str → Option Value} {base : Heap} {f : Addr} {fd : FuncData} {k : Nat} (F : Fun K "_law_is_text" "_law_is_text" s_l_is_text f fd) (B : Bl mg) :
    FnOk P w K mg base CX0 (k + 1) f fd ["_law_value_here"] (spD K 1 (runM 2 1 (G_l_is_text))) :=
  ok_body F sc_l_is_text fun cdv A outer s H E hr =>
    (dss_cons (ds_if (dt_not (dt_val (de_isi B.isinstance B.str_ (by decide +kernel) (de_var 0))))
    (dss_one (ds_ret de_bl))
    dss_nil)
    (dss_cons (ds_for PassesOwn.never rfl (di_str (de_var 0)) (dg_one 1 sc_l_is_text.nd)
    (dss_one (ds_if (dt_w (dw_or (dt_lt (de_ord B.ord (as_cons (do_var 1) as_nil)) de_int) (dw_or (dt_gt (de_ord B.ord (as_cons (do_var 1) as_nil)) de_int) (dw_or1 (dt_eq (de_ord B.ord (as_cons (do_var 1) as_nil)) de_int)))))
    (dss_one (ds_ret de_bl))
    dss_nil)))
    (dss_one (ds_ret de_bl))))
end Sb

set_option Elab.async false
set_option linter.all false
set_option maxRecDepth 100000
set_option maxHeartbeats 4000000
namespace Sb
open PySem L2
def N_l_is_leaf_value : List Str := ["_law_leaf_here", "_law_value_here"]
abbrev s_l_is_leaf_value : Stmt := topS 56
theorem sc_l_is_leaf_value : FnScope N_l_is_leaf_value ["_law_leaf_here", "_law_value_here"] (defScope s_l_is_leaf_value) := ⟨rfl, rfl, rfl, by decide +kernel, rfl, by decide +kernel, by decide +kernel⟩
theorem ok_l_is_leaf_value {P : Program} {w : PySem.World} {K : PySem.W.Frag} {mg : Str → Option Value} {base : Heap} {f : Addr} {fd : FuncData} {k : Nat} {M_l_is_text : FM} (F : Fun K "_law_is_leaf_value" "_law_is_leaf_value" s_l_is_leaf_value f fd) (B : Bl mg) (C_l_is_text : Callee P w K mg base k "_law_is_text" 1 M_l_is_text) :
    FnOk P w K mg base CX0 (k + 1) f fd ["_law_leaf_here", "_law_value_here"] (spD K 2 (runM 2 2 (G_l_is_leaf_value M_l_is_text))) :=
  ok_body F sc_l_is_leaf_value fun cdv A outer s H E hr =>
    (dss_cons (ds_if (dt_eq (de_ix (do_var 0) de_int) de_str)
    (dss_one (ds_ret (de_and (de_call C_l_is_text hr (as_cons (do_var 1) as_nil)) (de_and (de_ge (de_len B.len (as_cons (do_var 1) as_nil)) (de_ix (do_var 0) de_int)) (de_one (de_le (de_len B.len (as_cons (do_var 1) as_nil)) (de_ix (do_var 0) de_int)))))))
    dss_nil)
    (dss_cons (ds_if (dt_not (dt_val (de_isi B.isinstance B.int_ (by decide +kernel) (de_var 1))))
    (dss_one (ds_ret de_bl))
    dss_nil)
    (dss_cons (ds_if (dt_eq (de_ix (do_var 0) de_int) de_str)
    (dss_one (ds_ret (de_and (de_ge (de_var 1) (de_ix (do_var 0) de_int)) (de_one (de_le (de_var 1) (de_ix (do_var 0) de_int))))))
    dss_nil)
    (dss_one (ds_ret (de_or (de_in (de_var 1) (do_d (de_ix (do_var 0) de_int))) (de_one (de_and (de_eq (de_var 1) de_int) (de_one (de_ix (do_var 0) de_int))))))))))
def N_l_is_entry : List Str := ["_law_entry"]
abbrev s_l_is_entry : Stmt := topS 57
theorem sc_l_is_entry : FnScope N_l_is_entry ["_law_entry"] (defScope s_l_is_entry) := ⟨rfl, rfl, rfl, by decide +kernel, rfl, by decide +kernel, by decide +kernel⟩
theorem ok_l_is_entry {P : Program} {w : PySem.World} {K : PySem.W.Frag} {mg : Str → Option Value} {base : Heap} {f : Addr} {fd : FuncData} {k : Nat} (F : Fun K "_law_is_entry" "_law_is_entry" s_l_is_entry f fd) (B : Bl mg) :
    FnOk P w K mg base CX0 (k + 1) f fd ["_law_entry"] (spD K 1 (runM 1 1 (G_l_is_entry))) :=
  ok_body F sc_l_is_entry fun cdv A outer s H E hr =>
    (dss_one (ds_ret (de_and (de_isi B.isinstance B.tuple_ (by decide +kernel) (de_var 0)) (de_and (de_eq (de_len B.len (as_cons (do_var 0) as_nil)) de_int) (de_one (de_isi B.isinstance B.int_ (by decide +kernel) (de_ix (do_var 0) de_int)))))))
def N_l_is_record_value : List Str := ["_law_schema_here", "_law_body", "_law_value_here", "_law_last", "_law_ids_here", "_law_entry", "_law_field"]
abbrev s_l_is_record_value : Stmt := topS 58
theorem sc_l_is_record_value : FnScope N_l_is_record_value ["_law_schema_here", "_law_body", "_law_value_here"] (defScope s_l_is_record_value) := ⟨rfl, rfl, rfl, by decide +kernel, rfl, by decide +kernel, by decide +kernel⟩
theorem ok_l_is_record_value {P : Program} {w : PySem.World} {K : PySem.W.Frag} {mg : Str → Option Value} {base : Heap} {f : Addr} {fd : FuncData} {k : Nat} {M_l_is_of : FM} {M_l_part_of : FM} {M_l_live : FM} {M_l_is_entry : FM} (F : Fun K "_law_is_record_value" "_law_is_record_value" s_l_is_record_value f fd) (B : Bl mg) (C_l_is_of : Callee P w K mg base k "_law_is_of" 3 M_l_is_of) (C_l_part_of : Callee P w K mg base k "_law_part_of" 2 M_l_part_of) (C_l_live : Callee P w K mg base k "_law_live" 1 M_l_live) (C_l_is_entry : Callee P w K mg base k "_law_is_entry" 1 M_l_is_entry) :
    FnOk P w K mg base CX0 (k + 1) f fd ["_law_schema_here", "_law_body", "_law_value_here"] (spD K 3 (runM 7 3 (G_l_is_record_value M_l_is_of M_l_part_of M_l_live M_l_is_entry))) :=
  ok_body F sc_l_is_record_value fun cdv A outer s H E hr =>
    (dss_cons (ds_set 3 sc_l_is_record_value.nd de_int)
    (dss_cons (ds_own 4 sc_l_is_record_value.nd (dl_disp as_nil))
    (dss_cons (ds_for PassesOwn.never rfl (di_tup (de_var 2)) (dg_one 5 sc_l_is_record_value.nd)
    (dss_cons (ds_if (dt_w (dw_or (dt_not (dt_val (de_call C_l_is_entry hr (as_cons (do_var 5) as_nil)))) (dw_or (dt_le (de_ix (do_var 5) de_int) (de_var 3)) (dw_or1 (dt_notIn (de_ix (do_var 5) de_int) (do_d (de_call C_l_live hr (as_cons (do_var 1) as_nil))))))))
    (dss_one (ds_ret de_bl))
    dss_nil)
    (dss_cons (ds_set 3 sc_l_is_record_value.nd (de_ix (do_var 5) de_int))
    (dss_cons (ds_app 4 (de_var 3))
    (dss_one (ds_if (dt_not (dt_val (de_call C_l_is_of hr (as_cons (do_var 0) (as_cons (do_d (de_call C_l_part_of hr (as_cons (do_var 1) (as_cons (do_var 3) as_nil)))) (as_cons (do_d (de_ix (do_var 5) de_int)) as_nil))))))
    (dss_one (ds_ret de_bl))
    dss_nil))))))
    (dss_one (ds_ret (de_eq (de_len B.len (as_cons (do_d (de_ofL (dl_comp [("_law_field", 6)] rfl sc_l_is_record_value.nd (di_tup (de_ix (do_var 1) de_int)) (blkOk_by (own := [("_law_field", 6)]) (N := N_l_is_record_value) (sc := defScope s_l_is_record_value) (by decide +kernel)) (fun _ _ _ _ _ => (dg_one 6 sc_l_is_record_value.nd)) (fun _ _ _ _ _ => (dts_one (dt_w (dw_and (dt_ne (de_ix (do_var 6) de_int) de_str) (dw_and1 (dt_notIn (de_ix (do_var 6) de_int) (do_var 4))))))) (fun _ _ _ _ _ => (de_var 6))))) as_nil)) de_int))))))
def N_l_is_of : List Str := ["_law_schema_here", "_law_part_here", "_law_value_here", "_law_body", "_law_item"]
abbrev s_l_is_of : Stmt := topS 59
theorem sc_l_is_of : FnScope N_l_is_of ["_law_schema_here", "_law_part_here", "_law_value_here"] (defScope s_l_is_of) := ⟨rfl, rfl, rfl, by decide +kernel, rfl, by decide +kernel, by decide +kernel⟩
theorem ok_l_is_of {P : Program} {w : PySem.World} {K : PySem.W.Frag} {mg : Str → Option Value} {base : Heap} {f : Addr} {fd : FuncData} {k : Nat} {M_l_is_of : FM} {M_l_part_of : FM} {M_l_live : FM} {M_l_is_entry : FM} {M_l_is_record_value : FM} {M_l_body_of : FM} {M_l_is_leaf_value : FM} (F : Fun K "_law_is_of" "_law_is_of" s_l_is_of f fd) (B : Bl mg) (C_l_is_of : Callee P w K mg base k "_law_is_of" 3 M_l_is_of) (C_l_part_of : Callee P w K mg base k "_law_part_of" 2 M_l_part_of) (C_l_live : Callee P w K mg base k "_law_live" 1 M_l_live) (C_l_is_entry : Callee P w K mg base k "_law_is_entry" 1 M_l_is_entry) (C_l_is_record_value : Callee P w K mg base k "_law_is_record_value" 3 M_l_is_record_value) (C_l_body_of : Callee P w K mg base k "_law_body_of" 2 M_l_body_of) (C_l_is_leaf_value : Callee P w K mg base k "_law_is_leaf_value" 2 M_l_is_leaf_value) :
    FnOk P w K mg base CX0 (k + 1) f fd ["_law_schema_here", "_law_part_here", "_law_value_here"] (spD K 3 (runM 5 3 (G_l_is_of M_l_is_of M_l_part_of M_l_live M_l_is_entry M_l_is_record_value M_l_body_of M_l_is_leaf_value))) :=
  ok_body F sc_l_is_of fun cdv A outer s H E hr =>
    (dss_cons (ds_if (dt_not (dt_val (de_isi B.isinstance B.str_ (by decide +kernel) (de_var 1))))
    (dss_one (ds_ret (de_call C_l_is_leaf_value hr (as_cons (do_var 1) (as_cons (do_var 2) as_nil)))))
    dss_nil)
    (dss_cons (ds_if (dt_not (dt_val (de_isi B.isinstance B.tuple_ (by decide +kernel) (de_var 2))))
    (dss_one (ds_ret de_bl))
    dss_nil)
    (dss_cons (ds_set 3 sc_l_is_of.nd (de_call C_l_body_of hr (as_cons (do_var 0) (as_cons (do_var 1) as_nil))))
    (dss_cons (ds_if (dt_eq (de_ix (do_var 3) de_int) de_str)
    (dss_cons (ds_if (dt_w (dw_or (dt_lt (de_len B.len (as_cons (do_var 2) as_nil)) (de_ix (do_var 3) de_int)) (dw_or1 (dt_gt (de_len B.len (as_cons (do_var 2) as_nil)) (de_ix (do_var 3) de_int)))))
    (dss_one (ds_ret de_bl))
    dss_nil)
    (dss_cons (ds_for PassesOwn.never rfl (di_tup (de_var 2)) (dg_one 4 sc_l_is_of.nd)
    (dss_one (ds_if (dt_not (dt_val (de_call C_l_is_of hr (as_cons (do_var 0) (as_cons (do_d (de_ix (do_var 3) de_int)) (as_cons (do_var 4) as_nil))))))
    (dss_one (ds_ret de_bl))
    dss_nil)))
    (dss_one (ds_ret de_bl))))
    dss_nil)
    (dss_cons (ds_if (dt_eq (de_ix (do_var 3) de_int) de_str)
    (dss_one (ds_ret (de_call C_l_is_record_value hr (as_cons (do_var 0) (as_cons (do_var 3) (as_cons (do_var 2) as_nil))))))
    dss_nil)
    (dss_cons (ds_if (dt_not (dt_val (de_call C_l_is_entry hr (as_cons (do_var 2) as_nil))))
    (dss_one (ds_ret de_bl))
    dss_nil)
    (dss_cons (ds_if (dt_eq (de_ix (do_var 2) de_int) de_int)
    (dss_one (ds_ret (de_and (de_isN (de_ix (do_var 2) de_int)) (de_one (de_ix (do_var 3) de_int)))))
    dss_nil)
    (dss_one (ds_ret (de_and (de_in (de_ix (do_var 2) de_int) (do_d (de_call C_l_live hr (as_cons (do_var 3) as_nil)))) (de_one (de_call C_l_is_of hr (as_cons (do_var 0) (as_cons (do_d (de_call C_l_part_of hr (as_cons (do_var 3) (as_cons (do_d (de_ix (do_var 2) de_int)) as_nil)))) (as_cons (do_d (de_ix (do_var 2) de_int)) as_nil)))))))))))))))
def N_l_depth : List Str := ["_law_schema_here", "_law_part_here", "_law_value_here", "_law_body", "_law_depths_here", "_law_item", "_law_entry"]
abbrev s_l_depth : Stmt := topS 60
theorem sc_l_depth : FnScope N_l_depth ["_law_schema_here", "_law_part_here", "_law_value_here"] (defScope s_l_depth) := ⟨rfl, rfl, rfl, by decide +kernel, rfl, by decide +kernel, by decide +kernel⟩
theorem ok_l_depth {P : Program} {w : PySem.World} {K : PySem.W.Frag} {mg : Str → Option Value} {base : Heap} {f : Addr} {fd : FuncData} {k : Nat} {M_l_depth : FM} {M_l_part_of : FM} {M_l_body_of : FM} (F : Fun K "_law_depth" "_law_depth" s_l_depth f fd) (B : Bl mg) (C_l_depth : Callee P w K mg base k "_law_depth" 3 M_l_depth) (C_l_part_of : Callee P w K mg base k "_law_part_of" 2 M_l_part_of) (C_l_body_of : Callee P w K mg base k "_law_body_of" 2 M_l_body_of) :
    FnOk P w K mg base CX0 (k + 1) f fd ["_law_schema_here", "_law_part_here", "_law_value_here"] (spD K 3 (runM 7 3 (G_l_depth M_l_depth M_l_part_of M_l_body_of))) :=
  ok_body F sc_l_depth fun cdv A outer s H E hr =>
    (dss_cons (ds_if (dt_not (dt_val (de_isi B.isinstance B.str_ (by decide +kernel) (de_var 1))))
    (dss_one (ds_ret de_int))
    dss_nil)
    (dss_cons (ds_set 3 sc_l_depth.nd (de_call C_l_body_of hr (as_cons (do_var 0) (as_cons (do_var 1) as_nil))))
    (dss_cons (ds_own 4 sc_l_depth.nd (dl_disp (as_cons (do_d de_int) as_nil)))
    (dss_cons (ds_if (dt_eq (de_ix (do_var 3) de_int) de_str)
    (dss_one (ds_ext 4 (dl_comp [("_law_item", 5)] rfl sc_l_depth.nd (di_tup (de_var 2)) (blkOk_by (own := [("_law_item", 5)]) (N := N_l_depth) (sc := defScope s_l_depth) (by decide +kernel)) (fun _ _ _ _ _ => (dg_one 5 sc_l_depth.nd)) (fun _ _ _ _ _ => dts_nil) (fun _ _ _ _ _ => (de_call C_l_depth hr (as_cons (do_var 0) (as_cons (do_d (de_ix (do_var 3) de_int)) (as_cons (do_var 5) as_nil))))))))
    (dss_one (ds_if (dt_eq (de_ix (do_var 3) de_int) de_str)
    (dss_one (ds_ext 4 (dl_comp [("_law_entry", 6)] rfl sc_l_depth.nd (di_tup (de_var 2)) (blkOk_by (own := [("_law_entry", 6)]) (N := N_l_depth) (sc := defScope s_l_depth) (by decide +kernel)) (fun _ _ _ _ _ => (dg_one 6 sc_l_depth.nd)) (fun _ _ _ _ _ => dts_nil) (fun _ _ _ _ _ => (de_call C_l_depth hr (as_cons (do_var 0) (as_cons (do_d (de_call C_l_part_of hr (as_cons (do_var 3) (as_cons (do_d (de_ix (do_var 6) de_int)) as_nil)))) (as_cons (do_d (de_ix (do_var 6) de_int)) as_nil))))))))
    (dss_one (ds_if (dt_gt (de_ix (do_var 2) de_int) de_int)
    (dss_one (ds_app 4 (de_call C_l_depth hr (as_cons (do_var 0) (as_cons (do_d (de_call C_l_part_of hr (as_cons (do_var 3) (as_cons (do_d (de_ix (do_var 2) de_int)) as_nil)))) (as_cons (do_d (de_ix (do_var 2) de_int)) as_nil))))))
    dss_nil)))))
    (dss_one (ds_ret (de_add de_int (de_maxL rfl B.max (as_cons (do_var 4) as_nil)))))))))
def N_l_count : List Str := ["_law_schema_here", "_law_part_here", "_law_value_here", "_law_body", "_law_counts", "_law_item", "_law_entry"]
abbrev s_l_count : Stmt := topS 61
theorem sc_l_count : FnScope N_l_count ["_law_schema_here", "_law_part_here", "_law_value_here"] (defScope s_l_count) := ⟨rfl, rfl, rfl, by decide +kernel, rfl, by decide +kernel, by decide +kernel⟩
theorem ok_l_count {P : Program} {w : PySem.World} {K : PySem.W.Frag} {mg : Str → Option Value} {base : Heap} {f : Addr} {fd : FuncData} {k : Nat} {M_l_count : FM} {M_l_part_of : FM} {M_l_body_of : FM} (F : Fun K "_law_count" "_law_count" s_l_count f fd) (B : Bl mg) (C_l_count : Callee P w K mg base k "_law_count" 3 M_l_count) (C_l_part_of : Callee P w K mg base k "_law_part_of" 2 M_l_part_of) (C_l_body_of : Callee P w K mg base k "_law_body_of" 2 M_l_body_of) :
    FnOk P w K mg base CX0 (k + 1) f fd ["_law_schema_here", "_law_part_here", "_law_value_here"] (spD K 3 (runM 7 3 (G_l_count M_l_count M_l_part_of M_l_body_of))) :=
  ok_body F sc_l_count fun cdv A outer s H E hr =>
    (dss_cons (ds_if (dt_not (dt_val (de_isi B.isinstance B.str_ (by decide +kernel) (de_var 1))))
    (dss_one (ds_ret de_int))
    dss_nil)
    (dss_cons (ds_set 3 sc_l_count.nd (de_call C_l_body_of hr (as_cons (do_var 0) (as_cons (do_var 1) as_nil))))
    (dss_cons (ds_own 4 sc_l_count.nd (dl_disp (as_cons (do_d de_int) as_nil)))
    (dss_cons (ds_if (dt_eq (de_ix (do_var 3) de_int) de_str)
    (dss_one (ds_ext 4 (dl_comp [("_law_item", 5)] rfl sc_l_count.nd (di_tup (de_var 2)) (blkOk_by (own := [("_law_item", 5)]) (N := N_l_count) (sc := defScope s_l_count) (by decide +kernel)) (fun _ _ _ _ _ => (dg_one 5 sc_l_count.nd)) (fun _ _ _ _ _ => dts_nil) (fun _ _ _ _ _ => (de_call C_l_count hr (as_cons (do_var 0) (as_cons (do_d (de_ix (do_var 3) de_int)) (as_cons (do_var 5) as_nil))))))))
    (dss_one (ds_if (dt_eq (de_ix (do_var 3) de_int) de_str)
    (dss_one (ds_ext 4 (dl_comp [("_law_entry", 6)] rfl sc_l_count.nd (di_tup (de_var 2)) (blkOk_by (own := [("_law_entry", 6)]) (N := N_l_count) (sc := defScope s_l_count) (by decide +kernel)) (fun _ _ _ _ _ => (dg_one 6 sc_l_count.nd)) (fun _ _ _ _ _ => dts_nil) (fun _ _ _ _ _ => (de_call C_l_count hr (as_cons (do_var 0) (as_cons (do_d (de_call C_l_part_of hr (as_cons (do_var 3) (as_cons (do_d (de_ix (do_var 6) de_int)) as_nil)))) (as_cons (do_d (de_ix (do_var 6) de_int)) as_nil))))))))
    (dss_one (ds_if (dt_gt (de_ix (do_var 2) de_int) de_int)
    (dss_one (ds_app 4 (de_call C_l_count hr (as_cons (do_var 0) (as_cons (do_d (de_call C_l_part_of hr (as_cons (do_var 3) (as_cons (do_d (de_ix (do_var 2) de_int)) as_nil)))) (as_cons (do_d (de_ix (do_var 2) de_int)) as_nil))))))
    dss_nil)))))
    (dss_one (ds_ret (de_sumL rfl B.sum (as_cons (do_var 4) as_nil))))))))
def N_l_is_counted : List Str := ["_law_schema_here", "_law_part_here", "_law_value_here"]
abbrev s_l_is_counted : Stmt := topS 62
theorem sc_l_is_counted : FnScope N_l_is_counted ["_law_schema_here", "_law_part_here", "_law_value_here"] (defScope s_l_is_counted) := ⟨rfl, rfl, rfl, by decide +kernel, rfl, by decide +kernel, by decide +kernel⟩
theorem ok_l_is_counted {P : Program} {w : PySem.World} {K : PySem.W.Frag} {mg : Str → Option Value} {base : Heap} {f : Addr} {fd : FuncData} {k : Nat} {M_l_same : FM} {M_l_count : FM} {M_value_count : FM} {M_l_depth : FM} {M_depth : FM} (F : Fun K "_law_is_counted" "_law_is_counted" s_l_is_counted f fd) (B : Bl mg) (C_l_same : Callee P w K mg base k "_law_same" 2 M_l_same) (C_l_count : Callee P w K mg base k "_law_count" 3 M_l_count) (C_value_count : Callee P w K mg base k "value_count" 3 M_value_count) (C_l_depth : Callee P w K mg base k "_law_depth" 3 M_l_depth) (C_depth : Callee P w K mg base k "depth" 3 M_depth) :
    FnOk P w K mg base CX0 (k + 1) f fd ["_law_schema_here", "_law_part_here", "_law_value_here"] (spD K 3 (runM 3 3 (G_l_is_counted M_l_same M_l_count M_value_count M_l_depth M_depth))) :=
  ok_body F sc_l_is_counted fun cdv A outer s H E hr =>
    (dss_cons (ds_if (dt_not (dt_val (de_call C_l_same hr (as_cons (do_d (de_call C_depth hr (as_cons (do_var 0) (as_cons (do_var 1) (as_cons (do_var 2) as_nil))))) (as_cons (do_d (de_call C_l_depth hr (as_cons (do_var 0) (as_cons (do_var 1) (as_cons (do_var 2) as_nil))))) as_nil)))))
    (dss_one (ds_ret de_bl))
    dss_nil)
    (dss_one (ds_ret (de_call C_l_same hr (as_cons (do_d (de_call C_value_count hr (as_cons (do_var 0) (as_cons (do_var 1) (as_cons (do_var 2) as_nil))))) (as_cons (do_d (de_call C_l_count hr (as_cons (do_var 0) (as_cons (do_var 1) (as_cons (do_var 2) as_nil))))) as_nil))))))
def N_law : List Str := ["_law_script", "_law_schema_here", "_law_draws_here", "_law_depths_here", "_law_names", "_law_name", "_law_simple_here", "_law_value_here", "_law_leaf_here", "_law_definition"]
abbrev s_law : Stmt := topS 63
theorem sc_law : FnScope N_law ["_law_script"] (defScope s_law) := ⟨rfl, rfl, rfl, by decide +kernel, rfl, by decide +kernel, by decide +kernel⟩
end Sb

set_option Elab.async false
set_option linter.all false
set_option maxRecDepth 100000
set_option maxHeartbeats 4000000
namespace Sb
open PySem PySem.Spec PyProof.Rows L2
/-! ## by hand: the next draw -/
theorem next_inv {svs : List SV} {s s' : S} {sv : SV} (h : M_l_next svs s = some (sv, s')) : ∃ m : Int, svs = [.w, .d (.int m)] ∧ ((s = [] ∧ sv = .d (.int 0) ∧ s' = []) ∨ ∃ x r, s = x :: r ∧ 0 < m ∧ sv = .d (.int (x % m)) ∧ s' = r) := by
  unfold M_l_next at h
  split at h
  · cases h
    exact ⟨_, rfl, .inl ⟨rfl, rfl, rfl⟩⟩
  · split at h
    · rename_i hm
      cases h
      exact ⟨_, rfl, .inr ⟨_, _, rfl, hm, rfl, rfl⟩⟩
    · cases h
  · cases h
theorem ok_l_next {P : Program} {w : PySem.World} {K : PySem.W.Frag} {mg : Str → Option Value} {base : Heap} {f : Addr} {fd : FuncData} {k : Nat} (F : Fun K "_law_next" "_law_next" s_l_next f fd) (B : Bl mg) :
    FnOk P w K mg base CX0 (k + 1) f fd ["_law_draws_here", "_law_many"] (spD K 2 M_l_next) := by
  refine F.ok sc_l_next (fun vs H Q E h => ?_) (fun cdv A outer s H vs Q E hr h => ?_)
  · obtain ⟨W, svs, s, sv, s', h1, _, _, h4, _⟩ := h
    rw [h4.length, h1]
    rfl
  obtain ⟨W, svs, s0, sv, s', h1, h2, h3, h4, q⟩ := h
  obtain ⟨m, e1, hs⟩ := next_inv h2
  subst e1
  obtain ⟨v1, v2, e2, r1, r2⟩ := paired2 h4
  subst e2
  obtain ⟨wd, eW, ev⟩ := r1
  subst ev
  have ev2 : v2 = .int m := Rep.int_inv r2
  subst ev2
  subst eW
  obtain ⟨pos, g1, g2, g3⟩ := h3 wd rfl
  refine ⟨_, pss_cons (ps_set (i := 2) sc_l_next.nd rfl (Or.inl rfl) (pe_ix ix_list (pv 0) pe_int (fun _ _ => rfl)))
    (pss_cons (ps_asg (pe_op op_add (pv 2) pe_int) (pg_sub (pv 0) pe_int set_list))
    (pss_cons (ps_set (i := 3) sc_l_next.nd rfl (Or.inl rfl) (pe_ix ix_list (pv 0) pe_int (fun _ _ => rfl)))
    (pss_cons (ps_if (pt_cmpR op_ge (pv 2) (pe_callB call_len_seq (by rfl) B.len PySem.boot_len (pa_cons (pv 3) pa_nil)) (nomark _)) (pss_one (ps_ret pe_int)) pss_nil)
    (pss_one (ps_ret (pe_op op_mod (pe_callTy call_int1 (by rfl) B.int_ (by decide +kernel) (pa_cons (pe_ix ix_list (pv 3) (pv 2) (fun _ _ => rfl)) pa_nil)) (pv 1))))))), ?_⟩
  have nra : wd.ra ≠ wd.da := fun z => by
    rw [z, g1] at g2
    have := Option.some.inj g2
    injection this with this
    cases hr : wd.row with
    | nil => rw [hr] at this; cases this
    | cons a r =>
      rw [hr] at this
      cases r with
      | nil => cases this
      | cons b r => cases r <;> cases this
  refine ⟨.ref wd.da, rfl, wd.da, _, 0, .int pos, rfl, rfl, SqL.of g1, atI_nat (j := 0) rfl, ?_⟩
  refine ⟨.int pos, rfl, pos, 1, rfl, rfl, .ref wd.da, rfl, wd.da, _, 0, 0, rfl, rfl, g1, rfl, ?_⟩
  have hA : (upd H wd.da (.lst [.int ((pos : Int) + 1), .ref wd.ra])) wd.da = some (.lst [.int ((pos : Int) + 1), .ref wd.ra]) := upd_same
  have hR : (upd H wd.da (.lst [.int ((pos : Int) + 1), .ref wd.ra])) wd.ra = some (.lst (wd.row.map V.int)) := by rw [upd_ne nra]; exact g2
  have hS : Step (some wd) H (upd H wd.da (.lst [.int ((pos : Int) + 1), .ref wd.ra])) := fun a o e => by
    obtain ⟨q, e⟩ := hid_some e
    exact hid_mk q (by rw [upd_ne (fun z => q (by rw [z]; exact List.mem_singleton.mpr rfl))]; exact e)
  have hW : ∀ s1, s1 = wd.row.drop (pos + 1) → World (some wd) (upd H wd.da (.lst [.int ((pos : Int) + 1), .ref wd.ra])) s1 := fun s1 e1 w' hw => by
    cases hw
    exact ⟨pos + 1, hA, hR, e1⟩
  refine ⟨.ref wd.da, rfl, wd.da, _, 1, .ref wd.ra, rfl, rfl, SqL.of hA, atI_nat (j := 1) rfl, ?_⟩
  refine ⟨.int pos, rfl, .ref wd.ra, rfl, wd.ra, _, rfl, .inl (SqL.of hR), pos, _, rfl, rfl, _, rfl, ?_⟩
  refine ite2 (fun c => ?_) (fun c => ?_)
  · have c' : (((wd.row.map V.int).length : Nat) : Int) ≤ (pos : Int) := of_decide_eq_true c
    rw [List.length_map] at c'
    have e0 : s0 = [] := by rw [g3]; exact List.drop_of_length_le (by omega)
    rcases hs with ⟨_, e3, e4⟩ | ⟨x, r, e3, _⟩
    · subst e3; subst e4
      exact q _ _ hS (hW _ (by rw [List.drop_of_length_le (by omega)])) (Rep.int 0)
    · rw [e0] at e3; cases e3
  · have c' : ¬ (((wd.row.map V.int).length : Nat) : Int) ≤ (pos : Int) := of_decide_eq_false (Bool.eq_false_iff.mpr c)
    rw [List.length_map] at c'
    have lt : pos < wd.row.length := by omega
    have e0 : s0 = wd.row[pos] :: wd.row.drop (pos + 1) := by rw [g3]; exact List.drop_eq_getElem_cons lt
    rcases hs with ⟨e3, _⟩ | ⟨x, r, e3, hm, e4, e5⟩
    · rw [e0] at e3; cases e3
    · rw [e0] at e3
      injection e3 with e6 e7
      subst e4; subst e5; subst e6; subst e7
      refine ⟨.ref wd.ra, rfl, .int pos, rfl, wd.ra, _, pos, .int wd.row[pos], rfl, rfl, SqL.of hR, atI_nat (j := pos) (by simp [lt]), .inl ⟨wd.row[pos], rfl, .int m, rfl, _, m, rfl, rfl, hm, ?_⟩⟩
      exact q _ _ hS (hW _ rfl) (Rep.int _)
end Sb

set_option Elab.async false
set_option linter.all false
set_option maxRecDepth 100000
set_option maxHeartbeats 4000000
namespace Sb
open PySem PySem.Spec PyProof.Rows L2
/-! ## by hand: the row of draws -/
def tSu (K : PySem.W.Frag) (G : SF) (u : TS) : TS := fun Z σ H => ∃ W H0 O ρ s ρ' s', Ok W K H0 O H σ ρ s ∧ G ρ s = some (.nx ρ' s') ∧ ∀ O' H' σ', Ok W K H0 O' H' σ' ρ' s' → Keep W O H O' H' → u Z σ' H'
section
variable {X : Cx} {st : Stmt} {sts : List Stmt} {G G2 : SF} {u : TS}
theorem dsu_last (h1 : PS X st (tS X.K G)) (h2 : PSs X sts u) : PSs X (st :: sts) (tSu X.K G u) := PSs.imp (pss_cons h1 h2) fun Z σ H ⟨W, H0, O, ρ, s, ρ', s', k, h, p⟩ => tS.go k h p
theorem dsu_cons (h1 : PS X st (tS X.K G)) (h2 : PSs X sts (tSu X.K G2 u)) : PSs X (st :: sts) (tSu X.K (sSeq G G2) u) := PSs.imp (pss_cons h1 h2) fun Z σ H ⟨W, H0, O, ρ, s, ρ', s', k, h, p⟩ => by
  obtain ⟨o1, h1, g1⟩ := Option.bind_eq_some_iff.mp h
  refine tS.go k h1 ?_
  cases o1 with
  | nx ρ1 s1 => exact fun O' H' σ' ok kp => ⟨W, H0, O', ρ1, s1, ρ', s', ok, g1, fun O'' H'' σ'' ok' kp' => p O'' H'' σ'' ok' (Same.trans kp kp')⟩
  | rt sv s' => cases g1
end
def G_draws : SF := sSeq (sOwn 1 (lDisp [])) (sSeq (sSet 2 (dBu absD [(oVar 0)])) (sSeq (sSet 3 (d2 fMod (dBu intD [(oVar 2)]) (dC (.int 2147483647)))) (sSeq (sSet 4 (d2 fGe (dVar 2) (d2 fPow (dC (.int 10)) (dC (.int 18)))))
  (sFor (.one 5) (iRngF (dC (.int 160)))
    (sIf (bAnd (bOf (dVar 4)) (bOf (d2 fGt (dVar 2) (dC (.int 0)))))
    (sSeq (sApp 1 (d2 fMod (dBu intD [(oVar 2)]) (dC (.int 1000))))
    (sSet 2 (d2 fDiv (dVar 2) (dC (.int 1000)))))
    (sSeq (sSet 3 (d2 fMod (dBu intD [(d2 fAdd (d2 fMul (dVar 3) (dC (.int 48271))) (dC (.int 7919)))]) (dC (.int 2147483647))))
    (sApp 1 (d2 fDiv (dVar 3) (dC (.int 65536))))))))))
theorem loop_draws (c r m : Int) (g : Bool) (s : S) : ∀ (ds : List D) (l : List Int) (r m : Int) (x : Option SV), l.length + ds.length ≤ 1000 → ∃ (l' : List Int) (r' m' : Int) (x' : Option SV), forD (.one 5)
    (sIf (bAnd (bOf (dVar 4)) (bOf (d2 fGt (dVar 2) (dC (.int 0)))))
    (sSeq (sApp 1 (d2 fMod (dBu intD [(oVar 2)]) (dC (.int 1000))))
    (sSet 2 (d2 fDiv (dVar 2) (dC (.int 1000)))))
    (sSeq (sSet 3 (d2 fMod (dBu intD [(d2 fAdd (d2 fMul (dVar 3) (dC (.int 48271))) (dC (.int 7919)))]) (dC (.int 2147483647))))
    (sApp 1 (d2 fDiv (dVar 3) (dC (.int 65536)))))) ds [some (.d (.int c)), some (.own (l.map D.int)), some (.d (.int r)), some (.d (.int m)), some (.d (.bl g)), x] s = some (.nx [some (.d (.int c)), some (.own (l'.map D.int)), some (.d (.int r')), some (.d (.int m')), some (.d (.bl g)), x'] s) := by
  intro ds
  induction ds with
  | nil => intro l r m x _; exact ⟨l, r, m, x, rfl⟩
  | cons d ds ih =>
    intro l r m x hl
    rw [List.length_cons] at hl
    by_cases hc : g = true ∧ 0 < r
    · obtain ⟨l', r', m', x', e⟩ := ih (l ++ [r % 1000]) (r / 1000) m (some (.d d)) (by rw [List.length_append]; simp; omega)
      refine ⟨l', r', m', x', ?_⟩
      rw [← e]
      have hll : l.length ≤ 100000 := by omega
      simp [forD, Tgt.go, sIf, bAnd, bOf, asB, dVar, SV.isOwn, d2, lift2, fI, dC, hc.1, hc.2, sSeq, sApp, dBu, aAll, oVar, oView, intD, sSet, hll]
    · obtain ⟨l', r', m', x', e⟩ := ih (l ++ [((m * 48271 + 7919) % 2147483647) / 65536]) r ((m * 48271 + 7919) % 2147483647) (some (.d d)) (by rw [List.length_append]; simp; omega)
      refine ⟨l', r', m', x', ?_⟩
      rw [← e]
      have hll : l.length ≤ 100000 := by omega
      cases g with
      | true =>
        have h2 : ¬ 0 < r := fun z => hc ⟨rfl, z⟩
        simp [forD, Tgt.go, sIf, bAnd, bOf, asB, dVar, SV.isOwn, d2, lift2, fI, dC, h2, sSeq, sApp, dBu, aAll, oVar, oView, intD, sSet, hll]
      | false =>
        simp [forD, Tgt.go, sIf, bAnd, bOf, asB, dVar, SV.isOwn, d2, lift2, fI, dC, sSeq, sApp, dBu, aAll, oVar, oView, intD, sSet, hll]
theorem sSeq_nx {a b : SF} {ρ ρ' : Env} {s s' : S} (h : a ρ s = some (.nx ρ' s')) : sSeq a b ρ s = b ρ' s' := by
  unfold sSeq
  rw [h]
  rfl
theorem sFor_of {T : Tgt} {I : LF} {b : SF} {ρ : Env} {s s' : S} {ds : List D} (h : I ρ s = some (ds, s')) : sFor T I b ρ s = forD T b ds ρ s' := by
  unfold sFor
  rw [h]
  rfl
theorem draws_plain (c : Int) (s : S) : ∃ (l : List Int) (ρ' : Env), G_draws [some (.d (.int c)), none, none, none, none, none] s = some (.nx ρ' s) ∧ ρ'[1]? = some (some (.own (l.map D.int))) := by
  obtain ⟨a, ha⟩ : ∃ a : Int, a = if c < 0 then -c else c := ⟨_, rfl⟩
  obtain ⟨g, hg⟩ : ∃ g : Bool, g = decide ((1000000000000000000 : Int) ≤ a) := ⟨_, rfl⟩
  obtain ⟨l, r, m, x, e⟩ := loop_draws c 0 0 g s (rangeD 0 160) [] a (a % 2147483647) none (by rw [rangeD_length]; decide)
  refine ⟨l, [some (.d (.int c)), some (.own (l.map D.int)), some (.d (.int r)), some (.d (.int m)), some (.d (.bl g)), x], ?_, rfl⟩
  have h1 : sOwn 1 (lDisp []) [some (.d (.int c)), none, none, none, none, none] s = some (.nx [some (.d (.int c)), some (.own []), none, none, none, none] s) := rfl
  have h2 : sSet 2 (dBu absD [(oVar 0)]) [some (.d (.int c)), some (.own []), none, none, none, none] s = some (.nx [some (.d (.int c)), some (.own []), some (.d (.int a)), none, none, none] s) := by
    rw [ha]
    rfl
  have h3 : sSet 3 (d2 fMod (dBu intD [(oVar 2)]) (dC (.int 2147483647))) [some (.d (.int c)), some (.own []), some (.d (.int a)), none, none, none] s = some (.nx [some (.d (.int c)), some (.own []), some (.d (.int a)), some (.d (.int (a % 2147483647))), none, none] s) := by
    simp [sSet, d2, lift2, fI, dC, dBu, aAll, oVar, oView, intD]
  have h4 : sSet 4 (d2 fGe (dVar 2) (d2 fPow (dC (.int 10)) (dC (.int 18)))) [some (.d (.int c)), some (.own []), some (.d (.int a)), some (.d (.int (a % 2147483647))), none, none] s = some (.nx [some (.d (.int c)), some (.own []), some (.d (.int a)), some (.d (.int (a % 2147483647))), some (.d (.bl g)), none] s) := by
    rw [hg]
    simp [sSet, d2, lift2, fI, dC, dVar, SV.isOwn]
  have h5 : iRngF (dC (.int 160)) [some (.d (.int c)), some (.own []), some (.d (.int a)), some (.d (.int (a % 2147483647))), some (.d (.bl g)), none] s = some (rangeD 0 160, s) := by
    simp [iRngF, dC]
  unfold G_draws
  rw [sSeq_nx h1, sSeq_nx h2, sSeq_nx h3, sSeq_nx h4, sFor_of h5]
  exact e
def spDraws : Sp := fun vs H Q _ => ∃ c : Int, vs = [.int c] ∧ ∀ (da ra : Addr) (row : List Int) (H' : Hp), H da = none → H ra = none → Same H H' → H' da = some (.lst [.int 0, .ref ra]) → H' ra = some (.lst (row.map V.int)) → Q (.ref da) H'
theorem hid_nil (H : Hp) : hid [] H = H := by
  funext a
  exact hid_out (fun z => nomatch z)
theorem ok_l_draws {P : Program} {w : PySem.World} {K : PySem.W.Frag} {mg : Str → Option Value} {base : Heap} {f : Addr} {fd : FuncData} {k : Nat} (F : Fun K "_law_draws" "_law_draws" s_l_draws f fd) (B : Bl mg) :
    FnOk P w K mg base CX0 (k + 1) f fd ["_law_cell_here"] spDraws := by
  refine F.ok sc_l_draws (fun vs H Q E h => ?_) (fun cdv A outer s H vs Q E hr h => ?_)
  · obtain ⟨c, rfl, _⟩ := h
    rfl
  obtain ⟨c, rfl, q⟩ := h
  refine ⟨tSu _ G_draws _, dsu_cons (ds_own 1 sc_l_draws.nd (dl_disp as_nil)) (dsu_cons (ds_set 2 sc_l_draws.nd (de_abs B.abs (as_cons (do_var 0) as_nil))) (dsu_cons (ds_set 3 sc_l_draws.nd (de_mod (de_toInt B.int_ (as_cons (do_var 2) as_nil)) de_int)) (dsu_cons (ds_set 4 sc_l_draws.nd (de_ge (de_var 2) (de_pow de_int de_int)))
    (dsu_last (ds_for PassesOwn.never rfl (di_range B.range de_int) (dg_one 5 sc_l_draws.nd)
    (dss_one (ds_if (dt_w (dw_and (dt_val (de_var 4)) (dw_and1 (dt_gt (de_var 2) de_int))))
    (dss_cons (ds_app 1 (de_mod (de_toInt B.int_ (as_cons (do_var 2) as_nil)) de_int))
    (dss_one (ds_set 2 sc_l_draws.nd (de_div (de_var 2) de_int))))
    (dss_cons (ds_set 3 sc_l_draws.nd (de_mod (de_toInt B.int_ (as_cons (do_d (de_add (de_mul (de_var 3) de_int) de_int)) as_nil)) de_int))
    (dss_one (ds_app 1 (de_div (de_var 3) de_int)))))))
    (pss_one (ps_ret (pe_lst (pa_cons pe_int (pa_cons (pv 1) pa_nil))))))))), ?_⟩
  obtain ⟨l, ρ', h1, h2⟩ := draws_plain c []
  refine ⟨none, H, [], [some (.d (.int c)), none, none, none, none, none], [], ρ', [], ⟨fun w hw => (by cases hw), Step.refl _ _, fun _ z => (by cases z), fun w hw => (by cases hw), fun _ z => (by cases z), rfl, fun i sv hi => ?_, fun i j si sj a _ hi _ oi _ _ => ?_⟩, h1, fun O' H' σ' ok kp => ?_⟩
  · match i, hi with
    | 0, hi => cases hi; exact ⟨_, rfl, Rep.int c⟩
    | 1, hi => cases hi
    | 2, hi => cases hi
    | 3, hi => cases hi
    | 4, hi => cases hi
    | 5, hi => cases hi
    | i + 6, hi => simp at hi
  · match i, hi with
    | 0, hi => cases hi; cases oi
    | 1, hi => cases hi
    | 2, hi => cases hi
    | 3, hi => cases hi
    | 4, hi => cases hi
    | 5, hi => cases hi
    | i + 6, hi => simp at hi
  · obtain ⟨v, q1, q2⟩ := ok.slot 1 _ h2
    obtain ⟨ra, vs, e, m, q3, q4⟩ := q2
    subst e
    have e := intsOf_rep (l := l) (ds := l.map D.int) ?_ q4
    · subst e
      refine ⟨.ref ra, q1, by show 2 ≤ sizeLine; decide, fun p hp => ?_⟩
      obtain ⟨f1, f2, f3⟩ := ok.fresh hp
      have hs : Same H H' := fun a o e => ok.step.at (fun z => nomatch z) e
      refine q p ra l _ f1 (ok.own0 ra m) (hs.trans (same_new hp)) upd_same ?_
      rw [upd_ne (ne_of_none q3 hp)]
      exact q3
    · clear q4 h2
      induction l with
      | nil => rfl
      | cons i l ih =>
        show (intsOf (l.map D.int)).map _ = _
        rw [ih]
        rfl
end Sb

set_option Elab.async false
set_option linter.all false
set_option maxRecDepth 100000
set_option maxHeartbeats 4000000
namespace Sb
open PySem PySem.Spec PyProof.Rows L2
/-- a def as the top leaves it -/
structure Has (K : PySem.W.Frag) (mg : Str → Option Value) (x : Str) (st : Stmt) (ps : List Str) : Prop where
  ex : ∃ f fd, mg x = some (.ref f) ∧ Fun K x x st f fd ∧ Binds K fd ps []
theorem has_mk {K : PySem.W.Frag} {h : Heap} {mg : Str → Option Value} {x : Str} {st : Stmt} {f : Addr} {oc : Value} {od an : Option Addr} {osl : Array (Option Value)} {kV doc pm cdv ct : Value} {ps : List Str} (X : K.In h) (G : h.Ns mainGlobals mg)
    (hb : ∀ (kV doc pm : Value) (an : Option Addr) (cdv ct : Value) (us : List Value), us.length = ps.length → bindArgs (PySem.W.fnOf x x (defArgs st) (defBody st) (defScope st) .none kV doc pm an cdv ct) ⟨us, []⟩ = pure (ps.zip us))
    (a : PySem.W.nsIn K mainGlobals x = some (some (.ref f))) (l : K.lookup f = some ⟨oc, od, .func (PySem.W.fnOf x x (defArgs st) (defBody st) (defScope st) .none kV doc pm an cdv ct), osl⟩) (c : PySem.W.codeIn K cdv x = true) (k : PySem.W.keepIn K (.ref f) = true) : Has K mg x st ps :=
  ⟨f, _, PySem.W.mg_of X G a, fun_mk (st := st) l c k, (fun_mk (st := st) l c k).binds hb⟩
theorem b_is_allowed_code : ∀ (kV doc pm : Value) (an : Option Addr) (cdv ct : Value) (us : List Value), us.length = (["code"] : List Str).length → bindArgs (PySem.W.fnOf "is_allowed_code" "is_allowed_code" (defArgs s_is_allowed_code) (defBody s_is_allowed_code) (defScope s_is_allowed_code) .none kV doc pm an cdv ct) ⟨us, []⟩ = pure ((["code"] : List Str).zip us) := fun _ _ _ _ _ _ us hl => match us, hl with | [_], _ => rfl
theorem b_is_text : ∀ (kV doc pm : Value) (an : Option Addr) (cdv ct : Value) (us : List Value), us.length = (["value"] : List Str).length → bindArgs (PySem.W.fnOf "is_text" "is_text" (defArgs s_is_text) (defBody s_is_text) (defScope s_is_text) .none kV doc pm an cdv ct) ⟨us, []⟩ = pure ((["value"] : List Str).zip us) := fun _ _ _ _ _ _ us hl => match us, hl with | [_], _ => rfl
theorem b_is_leaf_value : ∀ (kV doc pm : Value) (an : Option Addr) (cdv ct : Value) (us : List Value), us.length = (["leaf", "value"] : List Str).length → bindArgs (PySem.W.fnOf "is_leaf_value" "is_leaf_value" (defArgs s_is_leaf_value) (defBody s_is_leaf_value) (defScope s_is_leaf_value) .none kV doc pm an cdv ct) ⟨us, []⟩ = pure ((["leaf", "value"] : List Str).zip us) := fun _ _ _ _ _ _ us hl => match us, hl with | [_, _], _ => rfl
theorem b_simple_leaf_value : ∀ (kV doc pm : Value) (an : Option Addr) (cdv ct : Value) (us : List Value), us.length = (["leaf"] : List Str).length → bindArgs (PySem.W.fnOf "simple_leaf_value" "simple_leaf_value" (defArgs s_simple_leaf_value) (defBody s_simple_leaf_value) (defScope s_simple_leaf_value) .none kV doc pm an cdv ct) ⟨us, []⟩ = pure ((["leaf"] : List Str).zip us) := fun _ _ _ _ _ _ us hl => match us, hl with | [_], _ => rfl
theorem b_is_name : ∀ (kV doc pm : Value) (an : Option Addr) (cdv ct : Value) (us : List Value), us.length = (["part"] : List Str).length → bindArgs (PySem.W.fnOf "is_name" "is_name" (defArgs s_is_name) (defBody s_is_name) (defScope s_is_name) .none kV doc pm an cdv ct) ⟨us, []⟩ = pure ((["part"] : List Str).zip us) := fun _ _ _ _ _ _ us hl => match us, hl with | [_], _ => rfl
theorem b_body_of : ∀ (kV doc pm : Value) (an : Option Addr) (cdv ct : Value) (us : List Value), us.length = (["schema", "name"] : List Str).length → bindArgs (PySem.W.fnOf "body_of" "body_of" (defArgs s_body_of) (defBody s_body_of) (defScope s_body_of) .none kV doc pm an cdv ct) ⟨us, []⟩ = pure ((["schema", "name"] : List Str).zip us) := fun _ _ _ _ _ _ us hl => match us, hl with | [_, _], _ => rfl
theorem b_is_known : ∀ (kV doc pm : Value) (an : Option Addr) (cdv ct : Value) (us : List Value), us.length = (["part", "depths"] : List Str).length → bindArgs (PySem.W.fnOf "is_known" "is_known" (defArgs s_is_known) (defBody s_is_known) (defScope s_is_known) .none kV doc pm an cdv ct) ⟨us, []⟩ = pure ((["part", "depths"] : List Str).zip us) := fun _ _ _ _ _ _ us hl => match us, hl with | [_, _], _ => rfl
theorem b_part_depth : ∀ (kV doc pm : Value) (an : Option Addr) (cdv ct : Value) (us : List Value), us.length = (["part", "depths"] : List Str).length → bindArgs (PySem.W.fnOf "part_depth" "part_depth" (defArgs s_part_depth) (defBody s_part_depth) (defScope s_part_depth) .none kV doc pm an cdv ct) ⟨us, []⟩ = pure ((["part", "depths"] : List Str).zip us) := fun _ _ _ _ _ _ us hl => match us, hl with | [_, _], _ => rfl
theorem b_has_value : ∀ (kV doc pm : Value) (an : Option Addr) (cdv ct : Value) (us : List Value), us.length = (["body", "depths"] : List Str).length → bindArgs (PySem.W.fnOf "has_value" "has_value" (defArgs s_has_value) (defBody s_has_value) (defScope s_has_value) .none kV doc pm an cdv ct) ⟨us, []⟩ = pure ((["body", "depths"] : List Str).zip us) := fun _ _ _ _ _ _ us hl => match us, hl with | [_, _], _ => rfl
theorem b_least_depths : ∀ (kV doc pm : Value) (an : Option Addr) (cdv ct : Value) (us : List Value), us.length = (["schema"] : List Str).length → bindArgs (PySem.W.fnOf "least_depths" "least_depths" (defArgs s_least_depths) (defBody s_least_depths) (defScope s_least_depths) .none kV doc pm an cdv ct) ⟨us, []⟩ = pure ((["schema"] : List Str).zip us) := fun _ _ _ _ _ _ us hl => match us, hl with | [_], _ => rfl
theorem b_simple_case : ∀ (kV doc pm : Value) (an : Option Addr) (cdv ct : Value) (us : List Value), us.length = (["body", "depths"] : List Str).length → bindArgs (PySem.W.fnOf "simple_case" "simple_case" (defArgs s_simple_case) (defBody s_simple_case) (defScope s_simple_case) .none kV doc pm an cdv ct) ⟨us, []⟩ = pure ((["body", "depths"] : List Str).zip us) := fun _ _ _ _ _ _ us hl => match us, hl with | [_, _], _ => rfl
theorem b_is_list_of : ∀ (kV doc pm : Value) (an : Option Addr) (cdv ct : Value) (us : List Value), us.length = (["schema", "body", "value"] : List Str).length → bindArgs (PySem.W.fnOf "is_list_of" "is_list_of" (defArgs s_is_list_of) (defBody s_is_list_of) (defScope s_is_list_of) .none kV doc pm an cdv ct) ⟨us, []⟩ = pure ((["schema", "body", "value"] : List Str).zip us) := fun _ _ _ _ _ _ us hl => match us, hl with | [_, _, _], _ => rfl
theorem b_is_entry : ∀ (kV doc pm : Value) (an : Option Addr) (cdv ct : Value) (us : List Value), us.length = (["entry", "number"] : List Str).length → bindArgs (PySem.W.fnOf "is_entry" "is_entry" (defArgs s_is_entry) (defBody s_is_entry) (defScope s_is_entry) .none kV doc pm an cdv ct) ⟨us, []⟩ = pure ((["entry", "number"] : List Str).zip us) := fun _ _ _ _ _ _ us hl => match us, hl with | [_, _], _ => rfl
theorem b_is_record_of : ∀ (kV doc pm : Value) (an : Option Addr) (cdv ct : Value) (us : List Value), us.length = (["schema", "body", "value"] : List Str).length → bindArgs (PySem.W.fnOf "is_record_of" "is_record_of" (defArgs s_is_record_of) (defBody s_is_record_of) (defScope s_is_record_of) .none kV doc pm an cdv ct) ⟨us, []⟩ = pure ((["schema", "body", "value"] : List Str).zip us) := fun _ _ _ _ _ _ us hl => match us, hl with | [_, _, _], _ => rfl
theorem b_is_union_of : ∀ (kV doc pm : Value) (an : Option Addr) (cdv ct : Value) (us : List Value), us.length = (["schema", "body", "value"] : List Str).length → bindArgs (PySem.W.fnOf "is_union_of" "is_union_of" (defArgs s_is_union_of) (defBody s_is_union_of) (defScope s_is_union_of) .none kV doc pm an cdv ct) ⟨us, []⟩ = pure ((["schema", "body", "value"] : List Str).zip us) := fun _ _ _ _ _ _ us hl => match us, hl with | [_, _, _], _ => rfl
theorem b_is_of : ∀ (kV doc pm : Value) (an : Option Addr) (cdv ct : Value) (us : List Value), us.length = (["schema", "part", "value"] : List Str).length → bindArgs (PySem.W.fnOf "is_of" "is_of" (defArgs s_is_of) (defBody s_is_of) (defScope s_is_of) .none kV doc pm an cdv ct) ⟨us, []⟩ = pure ((["schema", "part", "value"] : List Str).zip us) := fun _ _ _ _ _ _ us hl => match us, hl with | [_, _, _], _ => rfl
theorem b_part_of_id : ∀ (kV doc pm : Value) (an : Option Addr) (cdv ct : Value) (us : List Value), us.length = (["body", "number"] : List Str).length → bindArgs (PySem.W.fnOf "part_of_id" "part_of_id" (defArgs s_part_of_id) (defBody s_part_of_id) (defScope s_part_of_id) .none kV doc pm an cdv ct) ⟨us, []⟩ = pure ((["body", "number"] : List Str).zip us) := fun _ _ _ _ _ _ us hl => match us, hl with | [_, _], _ => rfl
theorem b_inner_values : ∀ (kV doc pm : Value) (an : Option Addr) (cdv ct : Value) (us : List Value), us.length = (["body", "value"] : List Str).length → bindArgs (PySem.W.fnOf "inner_values" "inner_values" (defArgs s_inner_values) (defBody s_inner_values) (defScope s_inner_values) .none kV doc pm an cdv ct) ⟨us, []⟩ = pure ((["body", "value"] : List Str).zip us) := fun _ _ _ _ _ _ us hl => match us, hl with | [_, _], _ => rfl
theorem b_depth : ∀ (kV doc pm : Value) (an : Option Addr) (cdv ct : Value) (us : List Value), us.length = (["schema", "part", "value"] : List Str).length → bindArgs (PySem.W.fnOf "depth" "depth" (defArgs s_depth) (defBody s_depth) (defScope s_depth) .none kV doc pm an cdv ct) ⟨us, []⟩ = pure ((["schema", "part", "value"] : List Str).zip us) := fun _ _ _ _ _ _ us hl => match us, hl with | [_, _, _], _ => rfl
theorem b_value_count : ∀ (kV doc pm : Value) (an : Option Addr) (cdv ct : Value) (us : List Value), us.length = (["schema", "part", "value"] : List Str).length → bindArgs (PySem.W.fnOf "value_count" "value_count" (defArgs s_value_count) (defBody s_value_count) (defScope s_value_count) .none kV doc pm an cdv ct) ⟨us, []⟩ = pure ((["schema", "part", "value"] : List Str).zip us) := fun _ _ _ _ _ _ us hl => match us, hl with | [_, _, _], _ => rfl
theorem b_simple_record : ∀ (kV doc pm : Value) (an : Option Addr) (cdv ct : Value) (us : List Value), us.length = (["schema", "body", "depths"] : List Str).length → bindArgs (PySem.W.fnOf "simple_record" "simple_record" (defArgs s_simple_record) (defBody s_simple_record) (defScope s_simple_record) .none kV doc pm an cdv ct) ⟨us, []⟩ = pure ((["schema", "body", "depths"] : List Str).zip us) := fun _ _ _ _ _ _ us hl => match us, hl with | [_, _, _], _ => rfl
theorem b_simple_part : ∀ (kV doc pm : Value) (an : Option Addr) (cdv ct : Value) (us : List Value), us.length = (["schema", "part", "depths"] : List Str).length → bindArgs (PySem.W.fnOf "simple_part" "simple_part" (defArgs s_simple_part) (defBody s_simple_part) (defScope s_simple_part) .none kV doc pm an cdv ct) ⟨us, []⟩ = pure ((["schema", "part", "depths"] : List Str).zip us) := fun _ _ _ _ _ _ us hl => match us, hl with | [_, _, _], _ => rfl
theorem b_simple_value : ∀ (kV doc pm : Value) (an : Option Addr) (cdv ct : Value) (us : List Value), us.length = (["schema", "part"] : List Str).length → bindArgs (PySem.W.fnOf "simple_value" "simple_value" (defArgs s_simple_value) (defBody s_simple_value) (defScope s_simple_value) .none kV doc pm an cdv ct) ⟨us, []⟩ = pure ((["schema", "part"] : List Str).zip us) := fun _ _ _ _ _ _ us hl => match us, hl with | [_, _], _ => rfl
theorem b_l_cell : ∀ (kV doc pm : Value) (an : Option Addr) (cdv ct : Value) (us : List Value), us.length = (["_law_script", "_law_k"] : List Str).length → bindArgs (PySem.W.fnOf "_law_cell" "_law_cell" (defArgs s_l_cell) (defBody s_l_cell) (defScope s_l_cell) .none kV doc pm an cdv ct) ⟨us, []⟩ = pure ((["_law_script", "_law_k"] : List Str).zip us) := fun _ _ _ _ _ _ us hl => match us, hl with | [_, _], _ => rfl
theorem b_l_draws : ∀ (kV doc pm : Value) (an : Option Addr) (cdv ct : Value) (us : List Value), us.length = (["_law_cell_here"] : List Str).length → bindArgs (PySem.W.fnOf "_law_draws" "_law_draws" (defArgs s_l_draws) (defBody s_l_draws) (defScope s_l_draws) .none kV doc pm an cdv ct) ⟨us, []⟩ = pure ((["_law_cell_here"] : List Str).zip us) := fun _ _ _ _ _ _ us hl => match us, hl with | [_], _ => rfl
theorem b_l_next : ∀ (kV doc pm : Value) (an : Option Addr) (cdv ct : Value) (us : List Value), us.length = (["_law_draws_here", "_law_many"] : List Str).length → bindArgs (PySem.W.fnOf "_law_next" "_law_next" (defArgs s_l_next) (defBody s_l_next) (defScope s_l_next) .none kV doc pm an cdv ct) ⟨us, []⟩ = pure ((["_law_draws_here", "_law_many"] : List Str).zip us) := fun _ _ _ _ _ _ us hl => match us, hl with | [_, _], _ => rfl
theorem b_l_big : ∀ (kV doc pm : Value) (an : Option Addr) (cdv ct : Value) (us : List Value), us.length = (["_law_draws_here"] : List Str).length → bindArgs (PySem.W.fnOf "_law_big" "_law_big" (defArgs s_l_big) (defBody s_l_big) (defScope s_l_big) .none kV doc pm an cdv ct) ⟨us, []⟩ = pure ((["_law_draws_here"] : List Str).zip us) := fun _ _ _ _ _ _ us hl => match us, hl with | [_], _ => rfl
theorem b_l_char : ∀ (kV doc pm : Value) (an : Option Addr) (cdv ct : Value) (us : List Value), us.length = (["_law_k"] : List Str).length → bindArgs (PySem.W.fnOf "_law_char" "_law_char" (defArgs s_l_char) (defBody s_l_char) (defScope s_l_char) .none kV doc pm an cdv ct) ⟨us, []⟩ = pure ((["_law_k"] : List Str).zip us) := fun _ _ _ _ _ _ us hl => match us, hl with | [_], _ => rfl
theorem b_l_ids : ∀ (kV doc pm : Value) (an : Option Addr) (cdv ct : Value) (us : List Value), us.length = (["_law_draws_here", "_law_most"] : List Str).length → bindArgs (PySem.W.fnOf "_law_ids" "_law_ids" (defArgs s_l_ids) (defBody s_l_ids) (defScope s_l_ids) .none kV doc pm an cdv ct) ⟨us, []⟩ = pure ((["_law_draws_here", "_law_most"] : List Str).zip us) := fun _ _ _ _ _ _ us hl => match us, hl with | [_, _], _ => rfl
theorem b_l_split : ∀ (kV doc pm : Value) (an : Option Addr) (cdv ct : Value) (us : List Value), us.length = (["_law_draws_here", "_law_ids_here"] : List Str).length → bindArgs (PySem.W.fnOf "_law_split" "_law_split" (defArgs s_l_split) (defBody s_l_split) (defScope s_l_split) .none kV doc pm an cdv ct) ⟨us, []⟩ = pure ((["_law_draws_here", "_law_ids_here"] : List Str).zip us) := fun _ _ _ _ _ _ us hl => match us, hl with | [_, _], _ => rfl
theorem b_l_leaf : ∀ (kV doc pm : Value) (an : Option Addr) (cdv ct : Value) (us : List Value), us.length = (["_law_draws_here"] : List Str).length → bindArgs (PySem.W.fnOf "_law_leaf" "_law_leaf" (defArgs s_l_leaf) (defBody s_l_leaf) (defScope s_l_leaf) .none kV doc pm an cdv ct) ⟨us, []⟩ = pure ((["_law_draws_here"] : List Str).zip us) := fun _ _ _ _ _ _ us hl => match us, hl with | [_], _ => rfl
theorem b_l_leaf_value : ∀ (kV doc pm : Value) (an : Option Addr) (cdv ct : Value) (us : List Value), us.length = (["_law_leaf_here", "_law_draws_here"] : List Str).length → bindArgs (PySem.W.fnOf "_law_leaf_value" "_law_leaf_value" (defArgs s_l_leaf_value) (defBody s_l_leaf_value) (defScope s_l_leaf_value) .none kV doc pm an cdv ct) ⟨us, []⟩ = pure ((["_law_leaf_here", "_law_draws_here"] : List Str).zip us) := fun _ _ _ _ _ _ us hl => match us, hl with | [_, _], _ => rfl
theorem b_l_part : ∀ (kV doc pm : Value) (an : Option Addr) (cdv ct : Value) (us : List Value), us.length = (["_law_draws_here", "_law_names"] : List Str).length → bindArgs (PySem.W.fnOf "_law_part" "_law_part" (defArgs s_l_part) (defBody s_l_part) (defScope s_l_part) .none kV doc pm an cdv ct) ⟨us, []⟩ = pure ((["_law_draws_here", "_law_names"] : List Str).zip us) := fun _ _ _ _ _ _ us hl => match us, hl with | [_, _], _ => rfl
theorem b_l_list_body : ∀ (kV doc pm : Value) (an : Option Addr) (cdv ct : Value) (us : List Value), us.length = (["_law_draws_here", "_law_names", "_law_later"] : List Str).length → bindArgs (PySem.W.fnOf "_law_list_body" "_law_list_body" (defArgs s_l_list_body) (defBody s_l_list_body) (defScope s_l_list_body) .none kV doc pm an cdv ct) ⟨us, []⟩ = pure ((["_law_draws_here", "_law_names", "_law_later"] : List Str).zip us) := fun _ _ _ _ _ _ us hl => match us, hl with | [_, _, _], _ => rfl
theorem b_l_record_body : ∀ (kV doc pm : Value) (an : Option Addr) (cdv ct : Value) (us : List Value), us.length = (["_law_draws_here", "_law_names", "_law_later"] : List Str).length → bindArgs (PySem.W.fnOf "_law_record_body" "_law_record_body" (defArgs s_l_record_body) (defBody s_l_record_body) (defScope s_l_record_body) .none kV doc pm an cdv ct) ⟨us, []⟩ = pure ((["_law_draws_here", "_law_names", "_law_later"] : List Str).zip us) := fun _ _ _ _ _ _ us hl => match us, hl with | [_, _, _], _ => rfl
theorem b_l_union_body : ∀ (kV doc pm : Value) (an : Option Addr) (cdv ct : Value) (us : List Value), us.length = (["_law_draws_here", "_law_names", "_law_later"] : List Str).length → bindArgs (PySem.W.fnOf "_law_union_body" "_law_union_body" (defArgs s_l_union_body) (defBody s_l_union_body) (defScope s_l_union_body) .none kV doc pm an cdv ct) ⟨us, []⟩ = pure ((["_law_draws_here", "_law_names", "_law_later"] : List Str).zip us) := fun _ _ _ _ _ _ us hl => match us, hl with | [_, _, _], _ => rfl
theorem b_l_schema : ∀ (kV doc pm : Value) (an : Option Addr) (cdv ct : Value) (us : List Value), us.length = (["_law_draws_here"] : List Str).length → bindArgs (PySem.W.fnOf "_law_schema" "_law_schema" (defArgs s_l_schema) (defBody s_l_schema) (defScope s_l_schema) .none kV doc pm an cdv ct) ⟨us, []⟩ = pure ((["_law_draws_here"] : List Str).zip us) := fun _ _ _ _ _ _ us hl => match us, hl with | [_], _ => rfl
theorem b_l_body_of : ∀ (kV doc pm : Value) (an : Option Addr) (cdv ct : Value) (us : List Value), us.length = (["_law_schema_here", "_law_name"] : List Str).length → bindArgs (PySem.W.fnOf "_law_body_of" "_law_body_of" (defArgs s_l_body_of) (defBody s_l_body_of) (defScope s_l_body_of) .none kV doc pm an cdv ct) ⟨us, []⟩ = pure ((["_law_schema_here", "_law_name"] : List Str).zip us) := fun _ _ _ _ _ _ us hl => match us, hl with | [_, _], _ => rfl
theorem b_l_is_known : ∀ (kV doc pm : Value) (an : Option Addr) (cdv ct : Value) (us : List Value), us.length = (["_law_part_here", "_law_depths_here"] : List Str).length → bindArgs (PySem.W.fnOf "_law_is_known" "_law_is_known" (defArgs s_l_is_known) (defBody s_l_is_known) (defScope s_l_is_known) .none kV doc pm an cdv ct) ⟨us, []⟩ = pure ((["_law_part_here", "_law_depths_here"] : List Str).zip us) := fun _ _ _ _ _ _ us hl => match us, hl with | [_, _], _ => rfl
theorem b_l_has_value : ∀ (kV doc pm : Value) (an : Option Addr) (cdv ct : Value) (us : List Value), us.length = (["_law_body", "_law_depths_here"] : List Str).length → bindArgs (PySem.W.fnOf "_law_has_value" "_law_has_value" (defArgs s_l_has_value) (defBody s_l_has_value) (defScope s_l_has_value) .none kV doc pm an cdv ct) ⟨us, []⟩ = pure ((["_law_body", "_law_depths_here"] : List Str).zip us) := fun _ _ _ _ _ _ us hl => match us, hl with | [_, _], _ => rfl
theorem b_l_depths : ∀ (kV doc pm : Value) (an : Option Addr) (cdv ct : Value) (us : List Value), us.length = (["_law_schema_here"] : List Str).length → bindArgs (PySem.W.fnOf "_law_depths" "_law_depths" (defArgs s_l_depths) (defBody s_l_depths) (defScope s_l_depths) .none kV doc pm an cdv ct) ⟨us, []⟩ = pure ((["_law_schema_here"] : List Str).zip us) := fun _ _ _ _ _ _ us hl => match us, hl with | [_], _ => rfl
theorem b_l_part_depth : ∀ (kV doc pm : Value) (an : Option Addr) (cdv ct : Value) (us : List Value), us.length = (["_law_part_here", "_law_depths_here"] : List Str).length → bindArgs (PySem.W.fnOf "_law_part_depth" "_law_part_depth" (defArgs s_l_part_depth) (defBody s_l_part_depth) (defScope s_l_part_depth) .none kV doc pm an cdv ct) ⟨us, []⟩ = pure ((["_law_part_here", "_law_depths_here"] : List Str).zip us) := fun _ _ _ _ _ _ us hl => match us, hl with | [_, _], _ => rfl
theorem b_l_simple_leaf : ∀ (kV doc pm : Value) (an : Option Addr) (cdv ct : Value) (us : List Value), us.length = (["_law_leaf_here"] : List Str).length → bindArgs (PySem.W.fnOf "_law_simple_leaf" "_law_simple_leaf" (defArgs s_l_simple_leaf) (defBody s_l_simple_leaf) (defScope s_l_simple_leaf) .none kV doc pm an cdv ct) ⟨us, []⟩ = pure ((["_law_leaf_here"] : List Str).zip us) := fun _ _ _ _ _ _ us hl => match us, hl with | [_], _ => rfl
theorem b_l_simple : ∀ (kV doc pm : Value) (an : Option Addr) (cdv ct : Value) (us : List Value), us.length = (["_law_schema_here", "_law_part_here", "_law_depths_here"] : List Str).length → bindArgs (PySem.W.fnOf "_law_simple" "_law_simple" (defArgs s_l_simple) (defBody s_l_simple) (defScope s_l_simple) .none kV doc pm an cdv ct) ⟨us, []⟩ = pure ((["_law_schema_here", "_law_part_here", "_law_depths_here"] : List Str).zip us) := fun _ _ _ _ _ _ us hl => match us, hl with | [_, _, _], _ => rfl
theorem b_l_record_value : ∀ (kV doc pm : Value) (an : Option Addr) (cdv ct : Value) (us : List Value), us.length = (["_law_schema_here", "_law_body", "_law_draws_here", "_law_depths_here", "_law_left"] : List Str).length → bindArgs (PySem.W.fnOf "_law_record_value" "_law_record_value" (defArgs s_l_record_value) (defBody s_l_record_value) (defScope s_l_record_value) .none kV doc pm an cdv ct) ⟨us, []⟩ = pure ((["_law_schema_here", "_law_body", "_law_draws_here", "_law_depths_here", "_law_left"] : List Str).zip us) := fun _ _ _ _ _ _ us hl => match us, hl with | [_, _, _, _, _], _ => rfl
theorem b_l_value : ∀ (kV doc pm : Value) (an : Option Addr) (cdv ct : Value) (us : List Value), us.length = (["_law_schema_here", "_law_part_here", "_law_draws_here", "_law_depths_here", "_law_left"] : List Str).length → bindArgs (PySem.W.fnOf "_law_value" "_law_value" (defArgs s_l_value) (defBody s_l_value) (defScope s_l_value) .none kV doc pm an cdv ct) ⟨us, []⟩ = pure ((["_law_schema_here", "_law_part_here", "_law_draws_here", "_law_depths_here", "_law_left"] : List Str).zip us) := fun _ _ _ _ _ _ us hl => match us, hl with | [_, _, _, _, _], _ => rfl
theorem b_l_live : ∀ (kV doc pm : Value) (an : Option Addr) (cdv ct : Value) (us : List Value), us.length = (["_law_body"] : List Str).length → bindArgs (PySem.W.fnOf "_law_live" "_law_live" (defArgs s_l_live) (defBody s_l_live) (defScope s_l_live) .none kV doc pm an cdv ct) ⟨us, []⟩ = pure ((["_law_body"] : List Str).zip us) := fun _ _ _ _ _ _ us hl => match us, hl with | [_], _ => rfl
theorem b_l_part_of : ∀ (kV doc pm : Value) (an : Option Addr) (cdv ct : Value) (us : List Value), us.length = (["_law_body", "_law_number"] : List Str).length → bindArgs (PySem.W.fnOf "_law_part_of" "_law_part_of" (defArgs s_l_part_of) (defBody s_l_part_of) (defScope s_l_part_of) .none kV doc pm an cdv ct) ⟨us, []⟩ = pure ((["_law_body", "_law_number"] : List Str).zip us) := fun _ _ _ _ _ _ us hl => match us, hl with | [_, _], _ => rfl
theorem b_l_same : ∀ (kV doc pm : Value) (an : Option Addr) (cdv ct : Value) (us : List Value), us.length = (["_law_actual", "_law_expected"] : List Str).length → bindArgs (PySem.W.fnOf "_law_same" "_law_same" (defArgs s_l_same) (defBody s_l_same) (defScope s_l_same) .none kV doc pm an cdv ct) ⟨us, []⟩ = pure ((["_law_actual", "_law_expected"] : List Str).zip us) := fun _ _ _ _ _ _ us hl => match us, hl with | [_, _], _ => rfl
theorem b_l_is_text : ∀ (kV doc pm : Value) (an : Option Addr) (cdv ct : Value) (us : List Value), us.length = (["_law_value_here"] : List Str).length → bindArgs (PySem.W.fnOf "_law_is_text" "_law_is_text" (defArgs s_l_is_text) (defBody s_l_is_text) (defScope s_l_is_text) .none kV doc pm an cdv ct) ⟨us, []⟩ = pure ((["_law_value_here"] : List Str).zip us) := fun _ _ _ _ _ _ us hl => match us, hl with | [_], _ => rfl
theorem b_l_is_leaf_value : ∀ (kV doc pm : Value) (an : Option Addr) (cdv ct : Value) (us : List Value), us.length = (["_law_leaf_here", "_law_value_here"] : List Str).length → bindArgs (PySem.W.fnOf "_law_is_leaf_value" "_law_is_leaf_value" (defArgs s_l_is_leaf_value) (defBody s_l_is_leaf_value) (defScope s_l_is_leaf_value) .none kV doc pm an cdv ct) ⟨us, []⟩ = pure ((["_law_leaf_here", "_law_value_here"] : List Str).zip us) := fun _ _ _ _ _ _ us hl => match us, hl with | [_, _], _ => rfl
theorem b_l_is_entry : ∀ (kV doc pm : Value) (an : Option Addr) (cdv ct : Value) (us : List Value), us.length = (["_law_entry"] : List Str).length → bindArgs (PySem.W.fnOf "_law_is_entry" "_law_is_entry" (defArgs s_l_is_entry) (defBody s_l_is_entry) (defScope s_l_is_entry) .none kV doc pm an cdv ct) ⟨us, []⟩ = pure ((["_law_entry"] : List Str).zip us) := fun _ _ _ _ _ _ us hl => match us, hl with | [_], _ => rfl
theorem b_l_is_record_value : ∀ (kV doc pm : Value) (an : Option Addr) (cdv ct : Value) (us : List Value), us.length = (["_law_schema_here", "_law_body", "_law_value_here"] : List Str).length → bindArgs (PySem.W.fnOf "_law_is_record_value" "_law_is_record_value" (defArgs s_l_is_record_value) (defBody s_l_is_record_value) (defScope s_l_is_record_value) .none kV doc pm an cdv ct) ⟨us, []⟩ = pure ((["_law_schema_here", "_law_body", "_law_value_here"] : List Str).zip us) := fun _ _ _ _ _ _ us hl => match us, hl with | [_, _, _], _ => rfl
theorem b_l_is_of : ∀ (kV doc pm : Value) (an : Option Addr) (cdv ct : Value) (us : List Value), us.length = (["_law_schema_here", "_law_part_here", "_law_value_here"] : List Str).length → bindArgs (PySem.W.fnOf "_law_is_of" "_law_is_of" (defArgs s_l_is_of) (defBody s_l_is_of) (defScope s_l_is_of) .none kV doc pm an cdv ct) ⟨us, []⟩ = pure ((["_law_schema_here", "_law_part_here", "_law_value_here"] : List Str).zip us) := fun _ _ _ _ _ _ us hl => match us, hl with | [_, _, _], _ => rfl
theorem b_l_depth : ∀ (kV doc pm : Value) (an : Option Addr) (cdv ct : Value) (us : List Value), us.length = (["_law_schema_here", "_law_part_here", "_law_value_here"] : List Str).length → bindArgs (PySem.W.fnOf "_law_depth" "_law_depth" (defArgs s_l_depth) (defBody s_l_depth) (defScope s_l_depth) .none kV doc pm an cdv ct) ⟨us, []⟩ = pure ((["_law_schema_here", "_law_part_here", "_law_value_here"] : List Str).zip us) := fun _ _ _ _ _ _ us hl => match us, hl with | [_, _, _], _ => rfl
theorem b_l_count : ∀ (kV doc pm : Value) (an : Option Addr) (cdv ct : Value) (us : List Value), us.length = (["_law_schema_here", "_law_part_here", "_law_value_here"] : List Str).length → bindArgs (PySem.W.fnOf "_law_count" "_law_count" (defArgs s_l_count) (defBody s_l_count) (defScope s_l_count) .none kV doc pm an cdv ct) ⟨us, []⟩ = pure ((["_law_schema_here", "_law_part_here", "_law_value_here"] : List Str).zip us) := fun _ _ _ _ _ _ us hl => match us, hl with | [_, _, _], _ => rfl
theorem b_l_is_counted : ∀ (kV doc pm : Value) (an : Option Addr) (cdv ct : Value) (us : List Value), us.length = (["_law_schema_here", "_law_part_here", "_law_value_here"] : List Str).length → bindArgs (PySem.W.fnOf "_law_is_counted" "_law_is_counted" (defArgs s_l_is_counted) (defBody s_l_is_counted) (defScope s_l_is_counted) .none kV doc pm an cdv ct) ⟨us, []⟩ = pure ((["_law_schema_here", "_law_part_here", "_law_value_here"] : List Str).zip us) := fun _ _ _ _ _ _ us hl => match us, hl with | [_, _, _], _ => rfl
theorem rec_is_of {P : Program} {w : PySem.World} {K : PySem.W.Frag} {mg : Str → Option Value} {base : Heap} {k : Nat} (B : Bl mg) {b : Addr} (hU : mg "UNKNOWN_CASE" = some (.ref b)) (hUb : ∀ Z, SqT K Z b [.int 0, .non]) (H_is_of : Has K mg "is_of" s_is_of ["schema", "part", "value"]) (H_is_list_of : Has K mg "is_list_of" s_is_list_of ["schema", "body", "value"]) (H_is_record_of : Has K mg "is_record_of" s_is_record_of ["schema", "body", "value"]) (H_is_union_of : Has K mg "is_union_of" s_is_union_of ["schema", "body", "value"])
    (C_body_of : Callee P w K mg base k "body_of" 2 M_body_of) (C_is_name : Callee P w K mg base k "is_name" 1 M_is_name) (C_is_leaf_value : Callee P w K mg base k "is_leaf_value" 2 M_is_leaf_value) (C_is_entry : Callee P w K mg base k "is_entry" 2 M_is_entry) : ∀ n : Nat, Callee P w K mg base (k + 2 * n) "is_of" 3 (M_is_of n)
  | 0 => by
    obtain ⟨f, fd, hm, F, hb⟩ := H_is_of
    exact callee_none F hm hb
  | n + 1 => by
    have ih := rec_is_of (P := P) (w := w) (base := base) (k := k) B hU hUb H_is_of H_is_list_of H_is_record_of H_is_union_of C_body_of C_is_name C_is_leaf_value C_is_entry n
    obtain ⟨f0, fd0, hm0, F0, hb0⟩ := H_is_of
    obtain ⟨f1, fd1, hm1, F1, hb1⟩ := H_is_list_of
    obtain ⟨f2, fd2, hm2, F2, hb2⟩ := H_is_record_of
    obtain ⟨f3, fd3, hm3, F3, hb3⟩ := H_is_union_of
    have D_is_list_of : Callee P w K mg base (k + 2 * n + 1) "is_list_of" 3 (M_is_list_of (M_is_of n)) := callee_mk (ok_is_list_of F1 B ih) hm1 F1.kp hb1
    have D_is_record_of : Callee P w K mg base (k + 2 * n + 1) "is_record_of" 3 (M_is_record_of (M_is_of n)) := callee_mk (ok_is_record_of F2 B (C_is_entry.mono (by omega)) ih) hm2 F2.kp hb2
    have D_is_union_of : Callee P w K mg base (k + 2 * n + 1) "is_union_of" 3 (M_is_union_of (M_is_of n)) := callee_mk (ok_is_union_of F3 B hU hUb (C_is_entry.mono (by omega)) ih) hm3 F3.kp hb3
    exact (callee_mk (k := k + 2 * n + 1 + 1) (ok_is_of F0 B D_is_union_of D_is_record_of D_is_list_of (C_body_of.mono (by omega)) (C_is_name.mono (by omega)) (C_is_leaf_value.mono (by omega))) hm0 F0.kp hb0).mono (by omega)
theorem rec_depth {P : Program} {w : PySem.World} {K : PySem.W.Frag} {mg : Str → Option Value} {base : Heap} {k : Nat} (B : Bl mg) (H_depth : Has K mg "depth" s_depth ["schema", "part", "value"])
    (C_inner_values : Callee P w K mg base k "inner_values" 2 M_inner_values) (C_body_of : Callee P w K mg base k "body_of" 2 M_body_of) (C_is_name : Callee P w K mg base k "is_name" 1 M_is_name) : ∀ n : Nat, Callee P w K mg base (k + 2 * n) "depth" 3 (M_depth n)
  | 0 => by
    obtain ⟨f, fd, hm, F, hb⟩ := H_depth
    exact callee_none F hm hb
  | n + 1 => by
    have ih := rec_depth (P := P) (w := w) (base := base) (k := k) B H_depth C_inner_values C_body_of C_is_name n
    obtain ⟨f0, fd0, hm0, F0, hb0⟩ := H_depth
    exact (callee_mk (k := k + 2 * n + 1 + 1) (ok_depth F0 B (C_inner_values.mono (by omega)) (C_body_of.mono (by omega)) (ih.mono (by omega)) (C_is_name.mono (by omega))) hm0 F0.kp hb0).mono (by omega)
theorem rec_value_count {P : Program} {w : PySem.World} {K : PySem.W.Frag} {mg : Str → Option Value} {base : Heap} {k : Nat} (B : Bl mg) (H_value_count : Has K mg "value_count" s_value_count ["schema", "part", "value"])
    (C_inner_values : Callee P w K mg base k "inner_values" 2 M_inner_values) (C_body_of : Callee P w K mg base k "body_of" 2 M_body_of) (C_is_name : Callee P w K mg base k "is_name" 1 M_is_name) : ∀ n : Nat, Callee P w K mg base (k + 2 * n) "value_count" 3 (M_value_count n)
  | 0 => by
    obtain ⟨f, fd, hm, F, hb⟩ := H_value_count
    exact callee_none F hm hb
  | n + 1 => by
    have ih := rec_value_count (P := P) (w := w) (base := base) (k := k) B H_value_count C_inner_values C_body_of C_is_name n
    obtain ⟨f0, fd0, hm0, F0, hb0⟩ := H_value_count
    exact (callee_mk (k := k + 2 * n + 1 + 1) (ok_value_count F0 B (C_inner_values.mono (by omega)) (C_body_of.mono (by omega)) (ih.mono (by omega)) (C_is_name.mono (by omega))) hm0 F0.kp hb0).mono (by omega)
theorem rec_simple_part {P : Program} {w : PySem.World} {K : PySem.W.Frag} {mg : Str → Option Value} {base : Heap} {k : Nat} (B : Bl mg) {b : Addr} (hU : mg "UNKNOWN_CASE" = some (.ref b)) (hUb : ∀ Z, SqT K Z b [.int 0, .non]) (H_simple_part : Has K mg "simple_part" s_simple_part ["schema", "part", "depths"]) (H_simple_record : Has K mg "simple_record" s_simple_record ["schema", "body", "depths"])
    (C_simple_case : Callee P w K mg base k "simple_case" 2 M_simple_case) (C_body_of : Callee P w K mg base k "body_of" 2 M_body_of) (C_is_name : Callee P w K mg base k "is_name" 1 M_is_name) (C_simple_leaf_value : Callee P w K mg base k "simple_leaf_value" 1 M_simple_leaf_value) : ∀ n : Nat, Callee P w K mg base (k + 2 * n) "simple_part" 3 (M_simple_part n)
  | 0 => by
    obtain ⟨f, fd, hm, F, hb⟩ := H_simple_part
    exact callee_none F hm hb
  | n + 1 => by
    have ih := rec_simple_part (P := P) (w := w) (base := base) (k := k) B hU hUb H_simple_part H_simple_record C_simple_case C_body_of C_is_name C_simple_leaf_value n
    obtain ⟨f0, fd0, hm0, F0, hb0⟩ := H_simple_part
    obtain ⟨f1, fd1, hm1, F1, hb1⟩ := H_simple_record
    have D_simple_record : Callee P w K mg base (k + 2 * n + 1) "simple_record" 3 (M_simple_record (M_simple_part n)) := callee_mk (ok_simple_record F1 B ih) hm1 F1.kp hb1
    exact (callee_mk (k := k + 2 * n + 1 + 1) (ok_simple_part F0 B hU hUb (ih.mono (by omega)) (C_simple_case.mono (by omega)) D_simple_record (C_body_of.mono (by omega)) (C_is_name.mono (by omega)) (C_simple_leaf_value.mono (by omega))) hm0 F0.kp hb0).mono (by omega)
theorem rec_l_simple {P : Program} {w : PySem.World} {K : PySem.W.Frag} {mg : Str → Option Value} {base : Heap} {k : Nat} (B : Bl mg) (H_l_simple : Has K mg "_law_simple" s_l_simple ["_law_schema_here", "_law_part_here", "_law_depths_here"])
    (C_l_is_known : Callee P w K mg base k "_law_is_known" 2 M_l_is_known) (C_l_part_depth : Callee P w K mg base k "_law_part_depth" 2 M_l_part_depth) (C_l_body_of : Callee P w K mg base k "_law_body_of" 2 M_l_body_of) (C_l_simple_leaf : Callee P w K mg base k "_law_simple_leaf" 1 M_l_simple_leaf) : ∀ n : Nat, Callee P w K mg base (k + 2 * n) "_law_simple" 3 (M_l_simple n)
  | 0 => by
    obtain ⟨f, fd, hm, F, hb⟩ := H_l_simple
    exact callee_none F hm hb
  | n + 1 => by
    have ih := rec_l_simple (P := P) (w := w) (base := base) (k := k) B H_l_simple C_l_is_known C_l_part_depth C_l_body_of C_l_simple_leaf n
    obtain ⟨f0, fd0, hm0, F0, hb0⟩ := H_l_simple
    exact (callee_mk (k := k + 2 * n + 1 + 1) (ok_l_simple F0 B (ih.mono (by omega)) (C_l_is_known.mono (by omega)) (C_l_part_depth.mono (by omega)) (C_l_body_of.mono (by omega)) (C_l_simple_leaf.mono (by omega))) hm0 F0.kp hb0).mono (by omega)
theorem rec_l_value {P : Program} {w : PySem.World} {K : PySem.W.Frag} {mg : Str → Option Value} {base : Heap} {k : Nat} (B : Bl mg) (H_l_value : Has K mg "_law_value" s_l_value ["_law_schema_here", "_law_part_here", "_law_draws_here", "_law_depths_here", "_law_left"]) (H_l_record_value : Has K mg "_law_record_value" s_l_record_value ["_law_schema_here", "_law_body", "_law_draws_here", "_law_depths_here", "_law_left"])
    (C_l_next : Callee P w K mg base k "_law_next" 2 M_l_next) (C_l_body_of : Callee P w K mg base k "_law_body_of" 2 M_l_body_of) (C_l_simple : Callee P w K mg base k "_law_simple" 3 (M_l_simple 20)) (C_l_leaf_value : Callee P w K mg base k "_law_leaf_value" 2 M_l_leaf_value) : ∀ n : Nat, Callee P w K mg base (k + 2 * n) "_law_value" 5 (M_l_value n)
  | 0 => by
    obtain ⟨f, fd, hm, F, hb⟩ := H_l_value
    exact callee_none F hm hb
  | n + 1 => by
    have ih := rec_l_value (P := P) (w := w) (base := base) (k := k) B H_l_value H_l_record_value C_l_next C_l_body_of C_l_simple C_l_leaf_value n
    obtain ⟨f0, fd0, hm0, F0, hb0⟩ := H_l_value
    obtain ⟨f1, fd1, hm1, F1, hb1⟩ := H_l_record_value
    have D_l_record_value : Callee P w K mg base (k + 2 * n + 1) "_law_record_value" 5 (M_l_record_value (M_l_value n)) := callee_mk (ok_l_record_value F1 B (C_l_next.mono (by omega)) ih) hm1 F1.kp hb1
    exact (callee_mk (k := k + 2 * n + 1 + 1) (ok_l_value F0 B (ih.mono (by omega)) (C_l_next.mono (by omega)) D_l_record_value (C_l_body_of.mono (by omega)) (C_l_simple.mono (by omega)) (C_l_leaf_value.mono (by omega))) hm0 F0.kp hb0).mono (by omega)
theorem rec_l_same {P : Program} {w : PySem.World} {K : PySem.W.Frag} {mg : Str → Option Value} {base : Heap} {k : Nat} (B : Bl mg) (H_l_same : Has K mg "_law_same" s_l_same ["_law_actual", "_law_expected"])
     : ∀ n : Nat, Callee P w K mg base (k + 2 * n) "_law_same" 2 (M_l_same n)
  | 0 => by
    obtain ⟨f, fd, hm, F, hb⟩ := H_l_same
    exact callee_none F hm hb
  | n + 1 => by
    have ih := rec_l_same (P := P) (w := w) (base := base) (k := k) B H_l_same  n
    obtain ⟨f0, fd0, hm0, F0, hb0⟩ := H_l_same
    exact (callee_mk (k := k + 2 * n + 1 + 1) (ok_l_same F0 B (ih.mono (by omega))) hm0 F0.kp hb0).mono (by omega)
theorem rec_l_is_of {P : Program} {w : PySem.World} {K : PySem.W.Frag} {mg : Str → Option Value} {base : Heap} {k : Nat} (B : Bl mg) (H_l_is_of : Has K mg "_law_is_of" s_l_is_of ["_law_schema_here", "_law_part_here", "_law_value_here"]) (H_l_is_record_value : Has K mg "_law_is_record_value" s_l_is_record_value ["_law_schema_here", "_law_body", "_law_value_here"])
    (C_l_part_of : Callee P w K mg base k "_law_part_of" 2 M_l_part_of) (C_l_live : Callee P w K mg base k "_law_live" 1 M_l_live) (C_l_is_entry : Callee P w K mg base k "_law_is_entry" 1 M_l_is_entry) (C_l_body_of : Callee P w K mg base k "_law_body_of" 2 M_l_body_of) (C_l_is_leaf_value : Callee P w K mg base k "_law_is_leaf_value" 2 M_l_is_leaf_value) : ∀ n : Nat, Callee P w K mg base (k + 2 * n) "_law_is_of" 3 (M_l_is_of n)
  | 0 => by
    obtain ⟨f, fd, hm, F, hb⟩ := H_l_is_of
    exact callee_none F hm hb
  | n + 1 => by
    have ih := rec_l_is_of (P := P) (w := w) (base := base) (k := k) B H_l_is_of H_l_is_record_value C_l_part_of C_l_live C_l_is_entry C_l_body_of C_l_is_leaf_value n
    obtain ⟨f0, fd0, hm0, F0, hb0⟩ := H_l_is_of
    obtain ⟨f1, fd1, hm1, F1, hb1⟩ := H_l_is_record_value
    have D_l_is_record_value : Callee P w K mg base (k + 2 * n + 1) "_law_is_record_value" 3 (M_l_is_record_value (M_l_is_of n)) := callee_mk (ok_l_is_record_value F1 B ih (C_l_part_of.mono (by omega)) (C_l_live.mono (by omega)) (C_l_is_entry.mono (by omega))) hm1 F1.kp hb1
    exact (callee_mk (k := k + 2 * n + 1 + 1) (ok_l_is_of F0 B (ih.mono (by omega)) (C_l_part_of.mono (by omega)) (C_l_live.mono (by omega)) (C_l_is_entry.mono (by omega)) D_l_is_record_value (C_l_body_of.mono (by omega)) (C_l_is_leaf_value.mono (by omega))) hm0 F0.kp hb0).mono (by omega)
theorem rec_l_depth {P : Program} {w : PySem.World} {K : PySem.W.Frag} {mg : Str → Option Value} {base : Heap} {k : Nat} (B : Bl mg) (H_l_depth : Has K mg "_law_depth" s_l_depth ["_law_schema_here", "_law_part_here", "_law_value_here"])
    (C_l_part_of : Callee P w K mg base k "_law_part_of" 2 M_l_part_of) (C_l_body_of : Callee P w K mg base k "_law_body_of" 2 M_l_body_of) : ∀ n : Nat, Callee P w K mg base (k + 2 * n) "_law_depth" 3 (M_l_depth n)
  | 0 => by
    obtain ⟨f, fd, hm, F, hb⟩ := H_l_depth
    exact callee_none F hm hb
  | n + 1 => by
    have ih := rec_l_depth (P := P) (w := w) (base := base) (k := k) B H_l_depth C_l_part_of C_l_body_of n
    obtain ⟨f0, fd0, hm0, F0, hb0⟩ := H_l_depth
    exact (callee_mk (k := k + 2 * n + 1 + 1) (ok_l_depth F0 B (ih.mono (by omega)) (C_l_part_of.mono (by omega)) (C_l_body_of.mono (by omega))) hm0 F0.kp hb0).mono (by omega)
theorem rec_l_count {P : Program} {w : PySem.World} {K : PySem.W.Frag} {mg : Str → Option Value} {base : Heap} {k : Nat} (B : Bl mg) (H_l_count : Has K mg "_law_count" s_l_count ["_law_schema_here", "_law_part_here", "_law_value_here"])
    (C_l_part_of : Callee P w K mg base k "_law_part_of" 2 M_l_part_of) (C_l_body_of : Callee P w K mg base k "_law_body_of" 2 M_l_body_of) : ∀ n : Nat, Callee P w K mg base (k + 2 * n) "_law_count" 3 (M_l_count n)
  | 0 => by
    obtain ⟨f, fd, hm, F, hb⟩ := H_l_count
    exact callee_none F hm hb
  | n + 1 => by
    have ih := rec_l_count (P := P) (w := w) (base := base) (k := k) B H_l_count C_l_part_of C_l_body_of n
    obtain ⟨f0, fd0, hm0, F0, hb0⟩ := H_l_count
    exact (callee_mk (k := k + 2 * n + 1 + 1) (ok_l_count F0 B (ih.mono (by omega)) (C_l_part_of.mono (by omega)) (C_l_body_of.mono (by omega))) hm0 F0.kp hb0).mono (by omega)
theorem ok_law_rest {P : Program} {w : PySem.World} {K : PySem.W.Frag} {mg : Str → Option Value} {base : Heap} {f : Addr} {cdv : Value} {A : Around} {outer : List PySem.Env} {s : Shared} {H : Hp} {E : XK} {k : Nat} {M_l_is_counted : FM} {M_l_leaf_value : FM} {M_l_same : FM} {M_l_simple_leaf : FM} {M_simple_value : FM} {M_l_leaf : FM} {M_l_depth : FM} {M_l_value : FM} {M_l_next : FM} {M_l_count : FM} {M_least_depths : FM} {M_l_simple : FM} {M_is_of : FM} {M_l_is_of : FM} {M_l_depths : FM} (B : Bl mg) (C_l_is_counted : Callee P w K mg base k "_law_is_counted" 3 M_l_is_counted) (C_l_leaf_value : Callee P w K mg base k "_law_leaf_value" 2 M_l_leaf_value) (C_l_same : Callee P w K mg base k "_law_same" 2 M_l_same) (C_l_simple_leaf : Callee P w K mg base k "_law_simple_leaf" 1 M_l_simple_leaf) (C_simple_value : Callee P w K mg base k "simple_value" 2 M_simple_value) (C_l_leaf : Callee P w K mg base k "_law_leaf" 1 M_l_leaf) (C_l_depth : Callee P w K mg base k "_law_depth" 3 M_l_depth) (C_l_value : Callee P w K mg base k "_law_value" 5 M_l_value) (C_l_next : Callee P w K mg base k "_law_next" 2 M_l_next) (C_l_count : Callee P w K mg base k "_law_count" 3 M_l_count) (C_least_depths : Callee P w K mg base k "least_depths" 1 M_least_depths) (C_l_simple : Callee P w K mg base k "_law_simple" 3 M_l_simple) (C_is_of : Callee P w K mg base k "is_of" 3 M_is_of) (C_l_is_of : Callee P w K mg base k "_law_is_of" 3 M_l_is_of) (C_l_depths : Callee P w K mg base k "_law_depths" 1 M_l_depths) (hr : Room k (A.deeper (envOfC "law" (defScope s_law) s.heap.objs.size f cdv))) :
    PSs (cxOf CX0 P w K mg base N_law "law" (defScope s_law) f cdv A outer s H E).nox ((defBody s_law).drop 2) (tS K (G_law M_l_is_counted M_l_leaf_value M_l_same M_l_simple_leaf M_simple_value M_l_leaf M_l_depth M_l_value M_l_next M_l_count M_least_depths M_l_simple M_is_of M_l_is_of M_l_depths)) :=
  (dss_cons (ds_set 3 sc_law.nd (de_call C_l_depths hr (as_cons (do_var 1) as_nil)))
    (dss_cons (ds_setLc 4 [("_law_definition", 9)] rfl sc_law.nd (di_tup (de_ix (do_var 1) de_int)) (blkOk_by (own := [("_law_definition", 9)]) (N := N_law) (sc := defScope s_law) (by decide +kernel)) (fun _ _ _ _ _ => (dg_one 9 sc_law.nd)) (fun _ _ _ _ _ => dts_nil) (fun _ _ _ _ _ => (de_ix (do_var 9) de_int)))
    (dss_cons (ds_set 5 sc_law.nd (de_ix (do_var 4) (de_call C_l_next hr (as_cons (do_var 2) (as_cons (do_d (de_len B.len (as_cons (do_var 4) as_nil))) as_nil)))))
    (dss_cons (ds_set 6 sc_law.nd (de_call C_simple_value hr (as_cons (do_var 1) (as_cons (do_var 5) as_nil))))
    (dss_cons (ds_if (dt_w (dw_or (dt_not (dt_val (de_call C_l_is_of hr (as_cons (do_var 1) (as_cons (do_var 5) (as_cons (do_var 6) as_nil)))))) (dw_or1 (dt_notTrue (de_call C_is_of hr (as_cons (do_var 1) (as_cons (do_var 5) (as_cons (do_var 6) as_nil))))))))
    (dss_one (ds_ret de_bl))
    dss_nil)
    (dss_cons (ds_if (dt_not (dt_val (de_call C_l_same hr (as_cons (do_var 6) (as_cons (do_d (de_call C_l_simple hr (as_cons (do_var 1) (as_cons (do_var 5) (as_cons (do_var 3) as_nil))))) as_nil)))))
    (dss_one (ds_ret de_bl))
    dss_nil)
    (dss_cons (ds_if (dt_w (dw_or (dt_ne (de_call C_l_depth hr (as_cons (do_var 1) (as_cons (do_var 5) (as_cons (do_var 6) as_nil)))) (de_getK (hu_of hr) (do_d (de_call C_least_depths hr (as_cons (do_var 1) as_nil))) (de_var 5))) (dw_or1 (dt_gt (de_call C_l_count hr (as_cons (do_var 1) (as_cons (do_var 5) (as_cons (do_var 6) as_nil)))) de_int))))
    (dss_one (ds_ret de_bl))
    dss_nil)
    (dss_cons (ds_set 7 sc_law.nd (de_call C_l_value hr (as_cons (do_var 1) (as_cons (do_var 5) (as_cons (do_var 2) (as_cons (do_var 3) (as_cons (do_d (de_add de_int (de_call C_l_next hr (as_cons (do_var 2) (as_cons (do_d de_int) as_nil))))) as_nil)))))))
    (dss_cons (ds_if (dt_lt (de_call C_l_depth hr (as_cons (do_var 1) (as_cons (do_var 5) (as_cons (do_var 7) as_nil)))) (de_call C_l_depth hr (as_cons (do_var 1) (as_cons (do_var 5) (as_cons (do_var 6) as_nil)))))
    (dss_one (ds_ret de_bl))
    dss_nil)
    (dss_cons (ds_set 8 sc_law.nd (de_call C_l_leaf hr (as_cons (do_var 2) as_nil)))
    (dss_cons (ds_if (dt_not (dt_val (de_call C_l_same hr (as_cons (do_d (de_call C_simple_value hr (as_cons (do_var 1) (as_cons (do_var 8) as_nil)))) (as_cons (do_d (de_call C_l_simple_leaf hr (as_cons (do_var 8) as_nil))) as_nil)))))
    (dss_one (ds_ret de_bl))
    dss_nil)
    (dss_cons (ds_if (dt_not (dt_val (de_call C_l_is_counted hr (as_cons (do_var 1) (as_cons (do_var 8) (as_cons (do_d (de_call C_l_leaf_value hr (as_cons (do_var 8) (as_cons (do_var 2) as_nil)))) as_nil))))))
    (dss_one (ds_ret de_bl))
    dss_nil)
    (dss_one (ds_ret (de_and (de_call C_l_is_counted hr (as_cons (do_var 1) (as_cons (do_var 5) (as_cons (do_var 6) as_nil)))) (de_one (de_call C_l_is_counted hr (as_cons (do_var 1) (as_cons (do_var 5) (as_cons (do_var 7) as_nil))))))))))))))))))))
end Sb

set_option Elab.async false
set_option linter.all false
set_option maxRecDepth 100000
set_option maxHeartbeats 4000000
namespace Sb
open PySem L2
structure All (K : PySem.W.Frag) (mg : Str → Option Value) : Prop where
  H_is_allowed_code : Has K mg "is_allowed_code" s_is_allowed_code ["code"]
  H_is_text : Has K mg "is_text" s_is_text ["value"]
  H_is_leaf_value : Has K mg "is_leaf_value" s_is_leaf_value ["leaf", "value"]
  H_simple_leaf_value : Has K mg "simple_leaf_value" s_simple_leaf_value ["leaf"]
  H_is_name : Has K mg "is_name" s_is_name ["part"]
  H_body_of : Has K mg "body_of" s_body_of ["schema", "name"]
  H_is_known : Has K mg "is_known" s_is_known ["part", "depths"]
  H_part_depth : Has K mg "part_depth" s_part_depth ["part", "depths"]
  H_has_value : Has K mg "has_value" s_has_value ["body", "depths"]
  H_least_depths : Has K mg "least_depths" s_least_depths ["schema"]
  H_simple_case : Has K mg "simple_case" s_simple_case ["body", "depths"]
  H_is_list_of : Has K mg "is_list_of" s_is_list_of ["schema", "body", "value"]
  H_is_entry : Has K mg "is_entry" s_is_entry ["entry", "number"]
  H_is_record_of : Has K mg "is_record_of" s_is_record_of ["schema", "body", "value"]
  H_is_union_of : Has K mg "is_union_of" s_is_union_of ["schema", "body", "value"]
  H_is_of : Has K mg "is_of" s_is_of ["schema", "part", "value"]
  H_part_of_id : Has K mg "part_of_id" s_part_of_id ["body", "number"]
  H_inner_values : Has K mg "inner_values" s_inner_values ["body", "value"]
  H_depth : Has K mg "depth" s_depth ["schema", "part", "value"]
  H_value_count : Has K mg "value_count" s_value_count ["schema", "part", "value"]
  H_simple_record : Has K mg "simple_record" s_simple_record ["schema", "body", "depths"]
  H_simple_part : Has K mg "simple_part" s_simple_part ["schema", "part", "depths"]
  H_simple_value : Has K mg "simple_value" s_simple_value ["schema", "part"]
  H_l_cell : Has K mg "_law_cell" s_l_cell ["_law_script", "_law_k"]
  H_l_draws : Has K mg "_law_draws" s_l_draws ["_law_cell_here"]
  H_l_next : Has K mg "_law_next" s_l_next ["_law_draws_here", "_law_many"]
  H_l_big : Has K mg "_law_big" s_l_big ["_law_draws_here"]
  H_l_char : Has K mg "_law_char" s_l_char ["_law_k"]
  H_l_ids : Has K mg "_law_ids" s_l_ids ["_law_draws_here", "_law_most"]
  H_l_split : Has K mg "_law_split" s_l_split ["_law_draws_here", "_law_ids_here"]
  H_l_leaf : Has K mg "_law_leaf" s_l_leaf ["_law_draws_here"]
  H_l_leaf_value : Has K mg "_law_leaf_value" s_l_leaf_value ["_law_leaf_here", "_law_draws_here"]
  H_l_part : Has K mg "_law_part" s_l_part ["_law_draws_here", "_law_names"]
  H_l_list_body : Has K mg "_law_list_body" s_l_list_body ["_law_draws_here", "_law_names", "_law_later"]
  H_l_record_body : Has K mg "_law_record_body" s_l_record_body ["_law_draws_here", "_law_names", "_law_later"]
  H_l_union_body : Has K mg "_law_union_body" s_l_union_body ["_law_draws_here", "_law_names", "_law_later"]
  H_l_schema : Has K mg "_law_schema" s_l_schema ["_law_draws_here"]
  H_l_body_of : Has K mg "_law_body_of" s_l_body_of ["_law_schema_here", "_law_name"]
  H_l_is_known : Has K mg "_law_is_known" s_l_is_known ["_law_part_here", "_law_depths_here"]
  H_l_has_value : Has K mg "_law_has_value" s_l_has_value ["_law_body", "_law_depths_here"]
  H_l_depths : Has K mg "_law_depths" s_l_depths ["_law_schema_here"]
  H_l_part_depth : Has K mg "_law_part_depth" s_l_part_depth ["_law_part_here", "_law_depths_here"]
  H_l_simple_leaf : Has K mg "_law_simple_leaf" s_l_simple_leaf ["_law_leaf_here"]
  H_l_simple : Has K mg "_law_simple" s_l_simple ["_law_schema_here", "_law_part_here", "_law_depths_here"]
  H_l_record_value : Has K mg "_law_record_value" s_l_record_value ["_law_schema_here", "_law_body", "_law_draws_here", "_law_depths_here", "_law_left"]
  H_l_value : Has K mg "_law_value" s_l_value ["_law_schema_here", "_law_part_here", "_law_draws_here", "_law_depths_here", "_law_left"]
  H_l_live : Has K mg "_law_live" s_l_live ["_law_body"]
  H_l_part_of : Has K mg "_law_part_of" s_l_part_of ["_law_body", "_law_number"]
  H_l_same : Has K mg "_law_same" s_l_same ["_law_actual", "_law_expected"]
  H_l_is_text : Has K mg "_law_is_text" s_l_is_text ["_law_value_here"]
  H_l_is_leaf_value : Has K mg "_law_is_leaf_value" s_l_is_leaf_value ["_law_leaf_here", "_law_value_here"]
  H_l_is_entry : Has K mg "_law_is_entry" s_l_is_entry ["_law_entry"]
  H_l_is_record_value : Has K mg "_law_is_record_value" s_l_is_record_value ["_law_schema_here", "_law_body", "_law_value_here"]
  H_l_is_of : Has K mg "_law_is_of" s_l_is_of ["_law_schema_here", "_law_part_here", "_law_value_here"]
  H_l_depth : Has K mg "_law_depth" s_l_depth ["_law_schema_here", "_law_part_here", "_law_value_here"]
  H_l_count : Has K mg "_law_count" s_l_count ["_law_schema_here", "_law_part_here", "_law_value_here"]
  H_l_is_counted : Has K mg "_law_is_counted" s_l_is_counted ["_law_schema_here", "_law_part_here", "_law_value_here"]
/-- the callees of law -/
structure Calls (P : Program) (w : PySem.World) (K : PySem.W.Frag) (mg : Str → Option Value) (base : Heap) (k : Nat) : Prop where
  C_l_is_counted : Callee P w K mg base k "_law_is_counted" 3 M_l_is_counted
  C_l_leaf_value : Callee P w K mg base k "_law_leaf_value" 2 M_l_leaf_value
  C_l_same : Callee P w K mg base k "_law_same" 2 (M_l_same 20)
  C_l_simple_leaf : Callee P w K mg base k "_law_simple_leaf" 1 M_l_simple_leaf
  C_simple_value : Callee P w K mg base k "simple_value" 2 M_simple_value
  C_l_leaf : Callee P w K mg base k "_law_leaf" 1 M_l_leaf
  C_l_depth : Callee P w K mg base k "_law_depth" 3 (M_l_depth 20)
  C_l_value : Callee P w K mg base k "_law_value" 5 (M_l_value 20)
  C_l_next : Callee P w K mg base k "_law_next" 2 M_l_next
  C_l_count : Callee P w K mg base k "_law_count" 3 (M_l_count 20)
  C_least_depths : Callee P w K mg base k "least_depths" 1 M_least_depths
  C_l_simple : Callee P w K mg base k "_law_simple" 3 (M_l_simple 20)
  C_is_of : Callee P w K mg base k "is_of" 3 (M_is_of 20)
  C_l_is_of : Callee P w K mg base k "_law_is_of" 3 (M_l_is_of 20)
  C_l_depths : Callee P w K mg base k "_law_depths" 1 M_l_depths
  C_l_cell : Callee P w K mg base k "_law_cell" 2 M_l_cell
  C_l_schema : Callee P w K mg base k "_law_schema" 1 M_l_schema
theorem calls_mk {P : Program} {w : PySem.World} {K : PySem.W.Frag} {mg : Str → Option Value} {base : Heap} (B : Bl mg) {tP : Tok} (hP : mg "PERCENT" = some (.int 37 tP)) {b : Addr} (hU : mg "UNKNOWN_CASE" = some (.ref b)) (hUb : ∀ Z, SqT K Z b [.int 0, .non]) (T : All K mg) : Calls P w K mg base 81 := by
  obtain ⟨f, fd, hm, F, hb⟩ := T.H_is_allowed_code
  have C_is_allowed_code : Callee P w K mg base 1 "is_allowed_code" 1 M_is_allowed_code := callee_mk (ok_is_allowed_code F B hP ) hm F.kp hb
  clear hm F hb
  obtain ⟨f, fd, hm, F, hb⟩ := T.H_is_text
  have C_is_text : Callee P w K mg base 2 "is_text" 1 M_is_text := callee_mk (ok_is_text F B (C_is_allowed_code.mono (by decide))) hm F.kp hb
  clear hm F hb
  obtain ⟨f, fd, hm, F, hb⟩ := T.H_is_leaf_value
  have C_is_leaf_value : Callee P w K mg base 3 "is_leaf_value" 2 M_is_leaf_value := callee_mk (ok_is_leaf_value F B (C_is_text.mono (by decide))) hm F.kp hb
  clear hm F hb
  obtain ⟨f, fd, hm, F, hb⟩ := T.H_simple_leaf_value
  have C_simple_leaf_value : Callee P w K mg base 1 "simple_leaf_value" 1 M_simple_leaf_value := callee_mk (ok_simple_leaf_value F B ) hm F.kp hb
  clear hm F hb
  obtain ⟨f, fd, hm, F, hb⟩ := T.H_is_name
  have C_is_name : Callee P w K mg base 1 "is_name" 1 M_is_name := callee_mk (ok_is_name F B ) hm F.kp hb
  clear hm F hb
  obtain ⟨f, fd, hm, F, hb⟩ := T.H_body_of
  have C_body_of : Callee P w K mg base 1 "body_of" 2 M_body_of := callee_mk (ok_body_of F B ) hm F.kp hb
  clear hm F hb
  obtain ⟨f, fd, hm, F, hb⟩ := T.H_is_known
  have C_is_known : Callee P w K mg base 2 "is_known" 2 M_is_known := callee_mk (ok_is_known F B (C_is_name.mono (by decide))) hm F.kp hb
  clear hm F hb
  obtain ⟨f, fd, hm, F, hb⟩ := T.H_part_depth
  have C_part_depth : Callee P w K mg base 2 "part_depth" 2 M_part_depth := callee_mk (ok_part_depth F B (C_is_name.mono (by decide))) hm F.kp hb
  clear hm F hb
  obtain ⟨f, fd, hm, F, hb⟩ := T.H_has_value
  have C_has_value : Callee P w K mg base 3 "has_value" 2 M_has_value := callee_mk (ok_has_value F B (C_is_known.mono (by decide))) hm F.kp hb
  clear hm F hb
  obtain ⟨f, fd, hm, F, hb⟩ := T.H_least_depths
  have C_least_depths : Callee P w K mg base 4 "least_depths" 1 M_least_depths := callee_mk (ok_least_depths F B (C_has_value.mono (by decide))) hm F.kp hb
  clear hm F hb
  obtain ⟨f, fd, hm, F, hb⟩ := T.H_simple_case
  have C_simple_case : Callee P w K mg base 3 "simple_case" 2 M_simple_case := callee_mk (ok_simple_case F B (C_is_known.mono (by decide)) (C_part_depth.mono (by decide))) hm F.kp hb
  clear hm F hb
  obtain ⟨f, fd, hm, F, hb⟩ := T.H_is_entry
  have C_is_entry : Callee P w K mg base 1 "is_entry" 2 M_is_entry := callee_mk (ok_is_entry F B ) hm F.kp hb
  clear hm F hb
  have C_is_of : Callee P w K mg base 43 "is_of" 3 (M_is_of 20) := rec_is_of (k := 3) B hU hUb T.H_is_of T.H_is_list_of T.H_is_record_of T.H_is_union_of (C_body_of.mono (by decide)) (C_is_name.mono (by decide)) (C_is_leaf_value.mono (by decide)) (C_is_entry.mono (by decide)) 20
  obtain ⟨f, fd, hm, F, hb⟩ := T.H_part_of_id
  have C_part_of_id : Callee P w K mg base 1 "part_of_id" 2 M_part_of_id := callee_mk (ok_part_of_id F B ) hm F.kp hb
  clear hm F hb
  obtain ⟨f, fd, hm, F, hb⟩ := T.H_inner_values
  have C_inner_values : Callee P w K mg base 2 "inner_values" 2 M_inner_values := callee_mk (ok_inner_values F B hU hUb (C_part_of_id.mono (by decide))) hm F.kp hb
  clear hm F hb
  have C_depth : Callee P w K mg base 42 "depth" 3 (M_depth 20) := rec_depth (k := 2) B T.H_depth (C_inner_values.mono (by decide)) (C_body_of.mono (by decide)) (C_is_name.mono (by decide)) 20
  have C_value_count : Callee P w K mg base 42 "value_count" 3 (M_value_count 20) := rec_value_count (k := 2) B T.H_value_count (C_inner_values.mono (by decide)) (C_body_of.mono (by decide)) (C_is_name.mono (by decide)) 20
  have C_simple_part : Callee P w K mg base 43 "simple_part" 3 (M_simple_part 20) := rec_simple_part (k := 3) B hU hUb T.H_simple_part T.H_simple_record (C_simple_case.mono (by decide)) (C_body_of.mono (by decide)) (C_is_name.mono (by decide)) (C_simple_leaf_value.mono (by decide)) 20
  obtain ⟨f, fd, hm, F, hb⟩ := T.H_simple_value
  have C_simple_value : Callee P w K mg base 44 "simple_value" 2 M_simple_value := callee_mk (ok_simple_value F B (C_simple_part.mono (by decide)) (C_least_depths.mono (by decide))) hm F.kp hb
  clear hm F hb
  obtain ⟨f, fd, hm, F, hb⟩ := T.H_l_cell
  have C_l_cell : Callee P w K mg base 1 "_law_cell" 2 M_l_cell := callee_mk (ok_l_cell F B ) hm F.kp hb
  clear hm F hb
  obtain ⟨f, fd, hm, F, hb⟩ := T.H_l_next
  have C_l_next : Callee P w K mg base 1 "_law_next" 2 M_l_next := callee_mk (ok_l_next F B ) hm F.kp hb
  clear hm F hb
  obtain ⟨f, fd, hm, F, hb⟩ := T.H_l_big
  have C_l_big : Callee P w K mg base 2 "_law_big" 1 M_l_big := callee_mk (ok_l_big F B (C_l_next.mono (by decide))) hm F.kp hb
  clear hm F hb
  obtain ⟨f, fd, hm, F, hb⟩ := T.H_l_char
  have C_l_char : Callee P w K mg base 1 "_law_char" 1 M_l_char := callee_mk (ok_l_char F B ) hm F.kp hb
  clear hm F hb
  obtain ⟨f, fd, hm, F, hb⟩ := T.H_l_ids
  have C_l_ids : Callee P w K mg base 2 "_law_ids" 2 M_l_ids := callee_mk (ok_l_ids F B (C_l_next.mono (by decide))) hm F.kp hb
  clear hm F hb
  obtain ⟨f, fd, hm, F, hb⟩ := T.H_l_split
  have C_l_split : Callee P w K mg base 2 "_law_split" 2 M_l_split := callee_mk (ok_l_split F B (C_l_next.mono (by decide))) hm F.kp hb
  clear hm F hb
  obtain ⟨f, fd, hm, F, hb⟩ := T.H_l_leaf
  have C_l_leaf : Callee P w K mg base 3 "_law_leaf" 1 M_l_leaf := callee_mk (ok_l_leaf F B (C_l_next.mono (by decide)) (C_l_split.mono (by decide)) (C_l_ids.mono (by decide))) hm F.kp hb
  clear hm F hb
  obtain ⟨f, fd, hm, F, hb⟩ := T.H_l_leaf_value
  have C_l_leaf_value : Callee P w K mg base 3 "_law_leaf_value" 2 M_l_leaf_value := callee_mk (ok_l_leaf_value F B (C_l_next.mono (by decide)) (C_l_char.mono (by decide)) (C_l_big.mono (by decide))) hm F.kp hb
  clear hm F hb
  obtain ⟨f, fd, hm, F, hb⟩ := T.H_l_part
  have C_l_part : Callee P w K mg base 4 "_law_part" 2 M_l_part := callee_mk (ok_l_part F B (C_l_leaf.mono (by decide)) (C_l_next.mono (by decide))) hm F.kp hb
  clear hm F hb
  obtain ⟨f, fd, hm, F, hb⟩ := T.H_l_list_body
  have C_l_list_body : Callee P w K mg base 4 "_law_list_body" 3 M_l_list_body := callee_mk (ok_l_list_body F B (C_l_next.mono (by decide)) (C_l_leaf.mono (by decide))) hm F.kp hb
  clear hm F hb
  obtain ⟨f, fd, hm, F, hb⟩ := T.H_l_record_body
  have C_l_record_body : Callee P w K mg base 5 "_law_record_body" 3 M_l_record_body := callee_mk (ok_l_record_body F B (C_l_leaf_value.mono (by decide)) (C_l_next.mono (by decide)) (C_l_part.mono (by decide)) (C_l_split.mono (by decide)) (C_l_ids.mono (by decide))) hm F.kp hb
  clear hm F hb
  obtain ⟨f, fd, hm, F, hb⟩ := T.H_l_union_body
  have C_l_union_body : Callee P w K mg base 5 "_law_union_body" 3 M_l_union_body := callee_mk (ok_l_union_body F B (C_l_next.mono (by decide)) (C_l_part.mono (by decide)) (C_l_split.mono (by decide)) (C_l_ids.mono (by decide))) hm F.kp hb
  clear hm F hb
  obtain ⟨f, fd, hm, F, hb⟩ := T.H_l_schema
  have C_l_schema : Callee P w K mg base 6 "_law_schema" 1 M_l_schema := callee_mk (ok_l_schema F B (C_l_next.mono (by decide)) (C_l_record_body.mono (by decide)) (C_l_union_body.mono (by decide)) (C_l_list_body.mono (by decide))) hm F.kp hb
  clear hm F hb
  obtain ⟨f, fd, hm, F, hb⟩ := T.H_l_body_of
  have C_l_body_of : Callee P w K mg base 1 "_law_body_of" 2 M_l_body_of := callee_mk (ok_l_body_of F B ) hm F.kp hb
  clear hm F hb
  obtain ⟨f, fd, hm, F, hb⟩ := T.H_l_is_known
  have C_l_is_known : Callee P w K mg base 1 "_law_is_known" 2 M_l_is_known := callee_mk (ok_l_is_known F B ) hm F.kp hb
  clear hm F hb
  obtain ⟨f, fd, hm, F, hb⟩ := T.H_l_has_value
  have C_l_has_value : Callee P w K mg base 2 "_law_has_value" 2 M_l_has_value := callee_mk (ok_l_has_value F B (C_l_is_known.mono (by decide))) hm F.kp hb
  clear hm F hb
  obtain ⟨f, fd, hm, F, hb⟩ := T.H_l_depths
  have C_l_depths : Callee P w K mg base 3 "_law_depths" 1 M_l_depths := callee_mk (ok_l_depths F B (C_l_has_value.mono (by decide))) hm F.kp hb
  clear hm F hb
  obtain ⟨f, fd, hm, F, hb⟩ := T.H_l_part_depth
  have C_l_part_depth : Callee P w K mg base 1 "_law_part_depth" 2 M_l_part_depth := callee_mk (ok_l_part_depth F B ) hm F.kp hb
  clear hm F hb
  obtain ⟨f, fd, hm, F, hb⟩ := T.H_l_simple_leaf
  have C_l_simple_leaf : Callee P w K mg base 1 "_law_simple_leaf" 1 M_l_simple_leaf := callee_mk (ok_l_simple_leaf F B ) hm F.kp hb
  clear hm F hb
  have C_l_simple : Callee P w K mg base 41 "_law_simple" 3 (M_l_simple 20) := rec_l_simple (k := 1) B T.H_l_simple (C_l_is_known.mono (by decide)) (C_l_part_depth.mono (by decide)) (C_l_body_of.mono (by decide)) (C_l_simple_leaf.mono (by decide)) 20
  have C_l_value : Callee P w K mg base 81 "_law_value" 5 (M_l_value 20) := rec_l_value (k := 41) B T.H_l_value T.H_l_record_value (C_l_next.mono (by decide)) (C_l_body_of.mono (by decide)) (C_l_simple.mono (by decide)) (C_l_leaf_value.mono (by decide)) 20
  obtain ⟨f, fd, hm, F, hb⟩ := T.H_l_live
  have C_l_live : Callee P w K mg base 1 "_law_live" 1 M_l_live := callee_mk (ok_l_live F B ) hm F.kp hb
  clear hm F hb
  obtain ⟨f, fd, hm, F, hb⟩ := T.H_l_part_of
  have C_l_part_of : Callee P w K mg base 1 "_law_part_of" 2 M_l_part_of := callee_mk (ok_l_part_of F B ) hm F.kp hb
  clear hm F hb
  have C_l_same : Callee P w K mg base 41 "_law_same" 2 (M_l_same 20) := rec_l_same (k := 1) B T.H_l_same  20
  obtain ⟨f, fd, hm, F, hb⟩ := T.H_l_is_text
  have C_l_is_text : Callee P w K mg base 1 "_law_is_text" 1 M_l_is_text := callee_mk (ok_l_is_text F B ) hm F.kp hb
  clear hm F hb
  obtain ⟨f, fd, hm, F, hb⟩ := T.H_l_is_leaf_value
  have C_l_is_leaf_value : Callee P w K mg base 2 "_law_is_leaf_value" 2 M_l_is_leaf_value := callee_mk (ok_l_is_leaf_value F B (C_l_is_text.mono (by decide))) hm F.kp hb
  clear hm F hb
  obtain ⟨f, fd, hm, F, hb⟩ := T.H_l_is_entry
  have C_l_is_entry : Callee P w K mg base 1 "_law_is_entry" 1 M_l_is_entry := callee_mk (ok_l_is_entry F B ) hm F.kp hb
  clear hm F hb
  have C_l_is_of : Callee P w K mg base 42 "_law_is_of" 3 (M_l_is_of 20) := rec_l_is_of (k := 2) B T.H_l_is_of T.H_l_is_record_value (C_l_part_of.mono (by decide)) (C_l_live.mono (by decide)) (C_l_is_entry.mono (by decide)) (C_l_body_of.mono (by decide)) (C_l_is_leaf_value.mono (by decide)) 20
  have C_l_depth : Callee P w K mg base 41 "_law_depth" 3 (M_l_depth 20) := rec_l_depth (k := 1) B T.H_l_depth (C_l_part_of.mono (by decide)) (C_l_body_of.mono (by decide)) 20
  have C_l_count : Callee P w K mg base 41 "_law_count" 3 (M_l_count 20) := rec_l_count (k := 1) B T.H_l_count (C_l_part_of.mono (by decide)) (C_l_body_of.mono (by decide)) 20
  obtain ⟨f, fd, hm, F, hb⟩ := T.H_l_is_counted
  have C_l_is_counted : Callee P w K mg base 43 "_law_is_counted" 3 M_l_is_counted := callee_mk (ok_l_is_counted F B (C_l_same.mono (by decide)) (C_l_count.mono (by decide)) (C_value_count.mono (by decide)) (C_l_depth.mono (by decide)) (C_depth.mono (by decide))) hm F.kp hb
  clear hm F hb
  exact ⟨C_l_is_counted.mono (by decide), C_l_leaf_value.mono (by decide), C_l_same.mono (by decide), C_l_simple_leaf.mono (by decide), C_simple_value.mono (by decide), C_l_leaf.mono (by decide), C_l_depth.mono (by decide), C_l_value.mono (by decide), C_l_next.mono (by decide), C_l_count.mono (by decide), C_least_depths.mono (by decide), C_l_simple.mono (by decide), C_is_of.mono (by decide), C_l_is_of.mono (by decide), C_l_depths.mono (by decide), C_l_cell.mono (by decide), C_l_schema.mono (by decide)⟩
end Sb

set_option Elab.async false
set_option linter.all false
set_option maxRecDepth 100000
set_option maxHeartbeats 4000000
namespace Sb
open PySem PySem.Spec PyProof.Rows L2
/-! ## law itself -/
def spLaw (K : PySem.W.Frag) : Sp := fun vs H Q _ => ∃ (a : Addr) (ns : List Int), vs = [.ref a] ∧ SqL K H a (ns.map V.int) ∧ ns.length ≤ 63 ∧ ∀ H', Q (.bl true) H'
/-- what the plain law says -/
def Plain : Prop := ∀ (ns : List Int), (∀ k : Int, (k = 0 ∨ k = 1) → ∀ s, ∃ c : Int, M_l_cell [.r (ns.map D.int), .d (.int k)] s = some (.d (.int c), s)) ∧
  ∀ row1 row2 : S, ∃ sch s1 s2, M_l_schema [.w] row1 = some (.d sch, s1) ∧ G_lawAll [some (.r (ns.map D.int)), some (.d sch), some .w, none, none, none, none, none, none, none] row2 = some (.rt (.d (.bl true)) s2)
structure HasD (P : Program) (w : PySem.World) (K : PySem.W.Frag) (mg : Str → Option Value) (base : Heap) (k : Nat) : Prop where
  ex : ∃ f fd, FnOk P w K mg base CX0 k f fd ["_law_cell_here"] spDraws ∧ mg "_law_draws" = some (.ref f) ∧ PySem.W.keepIn K (.ref f) = true ∧ Binds K fd ["_law_cell_here"] []
theorem seq_hid {K : PySem.W.Frag} {H : Hp} {a b : Addr} {xs : List V} (h : SqL K H a xs) (hb : H b = none) : SqL K (hid [b] H) a xs := by
  rcases h with (h | ⟨o, h⟩) | h
  · exact .inl (.inl (hid_mk (fun z => by rw [List.mem_singleton.mp z, hb] at h; cases h) h))
  · exact .inl (.inr ⟨o, hid_mk (fun z => by rw [List.mem_singleton.mp z, hb] at h; cases h) h⟩)
  · exact .inr h
theorem ok_law {P : Program} {w : PySem.World} {K : PySem.W.Frag} {mg : Str → Option Value} {base : Heap} {f : Addr} {fd : FuncData} {k : Nat} (pl : Plain) (F : Fun K "law" "law" s_law f fd) (B : Bl mg) (C : Calls P w K mg base k) (Dr : HasD P w K mg base k) :
    FnOk P w K mg base CX0 (k + 1) f fd ["_law_script"] (spLaw K) := by
  refine F.ok sc_law (fun vs H Q E h => ?_) (fun cdv A outer s H vs Q E hr h => ?_)
  · obtain ⟨a, ns, rfl, _⟩ := h
    rfl
  obtain ⟨a, ns, rfl, hS, h63, q⟩ := h
  obtain ⟨fc, fcd, psc, Fc, mc, kc, bc⟩ := C.C_l_cell.ex
  obtain ⟨fs, fsd, pss, Fs, ms, ks, bs⟩ := C.C_l_schema.ex
  obtain ⟨fr, frd, Fr, mr, kr, br⟩ := Dr.ex
  have tail := ok_law_rest (P := P) (w := w) (K := K) (mg := mg) (base := base) (f := f) (cdv := cdv) (A := A) (outer := outer) (s := s) (H := H) (E := E) B
    C.C_l_is_counted C.C_l_leaf_value C.C_l_same C.C_l_simple_leaf C.C_simple_value C.C_l_leaf C.C_l_depth C.C_l_value C.C_l_next C.C_l_count C.C_least_depths C.C_l_simple C.C_is_of C.C_l_is_of C.C_l_depths hr
  refine ⟨_, pss_cons (ps_set (i := 1) sc_law.nd rfl (Or.inl rfl) (pe_call Fs hr rfl ms ks bs .nil pass0 (pa_cons (pe_call Fr hr rfl mr kr br .nil pass0 (pa_cons (pe_call Fc hr rfl mc kc bc .nil pass0 (pa_cons (pv 0) (pa_cons pe_int pa_nil))) pa_nil)) pa_nil)))
    (pss_cons (ps_set (i := 2) sc_law.nd rfl (Or.inl rfl) (pe_call Fr hr rfl mr kr br .nil pass0 (pa_cons (pe_call Fc hr rfl mc kc bc .nil pass0 (pa_cons (pv 0) (pa_cons pe_int pa_nil))) pa_nil))) tail), ?_⟩
  obtain ⟨cells, pl⟩ := pl ns
  obtain ⟨c0, e0⟩ := cells 0 (.inl rfl) []
  obtain ⟨c1, e1⟩ := cells 1 (.inr rfl) []
  have argc : ∀ (H' : Hp) (i : Int), SqL K H' a (ns.map V.int) → Paired (RepSV none K (hid (wl none) H')) [V.ref a, V.int i] [.r (ns.map D.int), .d (.int i)] := fun H' i hq =>
    .cons ⟨a, _, rfl, by show SqL K (hid [] H') a _; rw [hid_nil]; exact hq, RepL.ints ns⟩ (.cons (Rep.int i) .nil)
  -- _law_schema_here = _law_schema(_law_draws(_law_cell(_law_script, 0)))
  refine ⟨.ref a, rfl, none, _, [], .d (.int c0), [], rfl, e0, fun w hw => (by cases hw), argc H 0 hS, fun v H1 st1 _ r1 => ?_⟩
  have ev := Rep.int_inv r1
  subst ev
  have sm1 : Same H H1 := by
    have := st1
    unfold Step at this
    rw [show wl none = [] from rfl, hid_nil, hid_nil] at this
    exact this
  refine ⟨c0, rfl, fun da ra row H2 nda nra sm2 hda hra => ?_⟩
  obtain ⟨sch, s1, s2, eS, _⟩ := pl row []
  refine ⟨some ⟨da, ra, row⟩, [.w], row, .d sch, s1, rfl, eS, fun w hw => ?_, .cons ⟨_, rfl, rfl⟩ .nil, fun v H3 st3 _ r3 => ?_⟩
  · cases hw
    exact ⟨0, hda, hra, rfl⟩
  have r3 : Rep K (hid [da] H3) v sch := r3
  have hS1 : SqL K H1 a (ns.map V.int) := sm1.seq hS
  have hS3 : SqL K H3 a (ns.map V.int) := by
    have h1 : SqL K (hid [da] H1) a (ns.map V.int) := seq_hid hS1 nda
    have h2 : SqL K (hid [da] H2) a (ns.map V.int) := Same.seq (fun b o e => by
      obtain ⟨z, e⟩ := hid_some e
      exact hid_mk z (sm2 _ _ e)) h1
    exact sqL_unhid (Same.seq st3 h2)
  -- _law_draws_here = _law_draws(_law_cell(_law_script, 1))
  refine ⟨.ref a, rfl, none, _, [], .d (.int c1), [], rfl, e1, fun w hw => (by cases hw), argc H3 1 hS3, fun u H4 st4 _ r4 => ?_⟩
  have eu := Rep.int_inv r4
  subst eu
  have sm4 : Same H3 H4 := by
    have := st4
    unfold Step at this
    rw [show wl none = [] from rfl, hid_nil, hid_nil] at this
    exact this
  refine ⟨c1, rfl, fun db rb rowb H5 ndb nrb sm5 hdb hrb => ?_⟩
  obtain ⟨sch', s1', s2', eS', eL⟩ := pl row rowb
  have es : sch' = sch := by
    rw [eS] at eS'
    have := Option.some.inj eS'
    have := congrArg Prod.fst this
    injection this with this
    exact this.symm
  subst es
  have hS4 : SqL K H4 a (ns.map V.int) := sm4.seq hS3
  have hS5 : SqL K (hid [db] H5) a (ns.map V.int) := Same.seq (fun b o e => by
      obtain ⟨z, e⟩ := hid_some e
      exact hid_mk z (sm5 _ _ e)) (seq_hid hS4 ndb)
  have r5 : Rep K (hid [db] H5) v sch' := r3.mono fun b xs hq => by
    have go : ∀ o, hid [da] H3 b = some o → hid [db] H5 b = some o := fun o e => by
      have e4 := sm4 _ _ (hid_some e).2
      exact hid_mk (fun z => by rw [List.mem_singleton.mp z, ndb] at e4; cases e4) (sm5 _ _ e4)
    rcases hq with (hq | ⟨o, hq⟩) | hq
    · exact .inl (.inl (go _ hq))
    · exact .inl (.inr ⟨o, go _ hq⟩)
    · exact .inr hq
  refine ⟨some ⟨db, rb, rowb⟩, H5, [], [some (.r (ns.map D.int)), some (.d sch'), some .w, none, none, none, none, none, none, none], rowb, _, ⟨fun w hw => ?_, Step.refl _ _, fun _ z => (by cases z), fun _ _ => ⟨fun z => (by cases z), fun z => (by cases z)⟩, fun _ z => (by cases z), rfl, fun i sv hi => ?_, fun i j si sj x _ hi _ oi _ _ => ?_⟩, eL, fun z H6 _ _ r6 => ?_⟩
  · cases hw
    exact ⟨0, hdb, hrb, rfl⟩
  · match i, hi with
    | 0, hi => cases hi; exact ⟨.ref a, rfl, a, _, rfl, hS5, RepL.ints ns⟩
    | 1, hi => cases hi; exact ⟨v, rfl, r5⟩
    | 2, hi => cases hi; exact ⟨.ref db, rfl, _, rfl, rfl⟩
    | 3, hi => cases hi
    | 4, hi => cases hi
    | 5, hi => cases hi
    | 6, hi => cases hi
    | 7, hi => cases hi
    | 8, hi => cases hi
    | 9, hi => cases hi
    | i + 10, hi => simp at hi
  · match i, hi with
    | 0, hi => cases hi; cases oi
    | 1, hi => cases hi; cases oi
    | 2, hi => cases hi; cases oi
    | 3, hi => cases hi
    | 4, hi => cases hi
    | 5, hi => cases hi
    | 6, hi => cases hi
    | 7, hi => cases hi
    | 8, hi => cases hi
    | 9, hi => cases hi
    | i + 10, hi => simp at hi
  · have ez := Rep.bl_inv r6
    subst ez
    exact q H6
end Sb

set_option Elab.async false
set_option linter.all false
set_option maxRecDepth 100000
set_option maxHeartbeats 4000000
namespace Sb
open PySem L2
/-! ## the plain law: words for evaluation -/
section
variable {a b : EF} {f : D → D → Option D} {g : D → Option D} {F : EF} {Fs : List EF} {ρ : Env} {s : S}
@[simp] theorem ap_dVar {i : Nat} : dVar i ρ s = match ρ[i]? with
  | some (some sv) => if sv.isOwn then none else some (sv, s)
  | _ => none := rfl
@[simp] theorem ap_oVar {i : Nat} : oVar i ρ s = match ρ[i]? with
  | some (some sv) => some (oView sv, s)
  | _ => none := rfl
@[simp] theorem ap_dC {d : D} : dC d ρ s = some (.d d, s) := rfl
@[simp] theorem ap_d1 : d1 g a ρ s = (a ρ s).bind fun p => (lift1 g p.1).map fun z => (.d z, p.2) := rfl
@[simp] theorem ap_d2 : d2 f a b ρ s = (a ρ s).bind fun p => (b ρ p.2).bind fun q => (lift2 f p.1 q.1).map fun z => (.d z, q.2) := rfl
@[simp] theorem ap_l1 {x : D} : lift1 g (.d x) = g x := rfl
@[simp] theorem ap_l2 {x y : D} : lift2 f (.d x) (.d y) = f x y := rfl
@[simp] theorem ap_aAll0 : aAll [] ρ s = some ([], s) := rfl
@[simp] theorem ap_aAll1 : aAll (F :: Fs) ρ s = (F ρ s).bind fun p => (aAll Fs ρ p.2).map fun q => (p.1 :: q.1, q.2) := rfl
@[simp] theorem ap_dCall {M : FM} : dCall M Fs ρ s = (aAll Fs ρ s).bind fun p => M p.1 p.2 := rfl
@[simp] theorem ap_dBu {h : List SV → Option D} : dBu h Fs ρ s = (aAll Fs ρ s).bind fun p => (h p.1).map fun z => (.d z, p.2) := rfl
@[simp] theorem ap_dIx : dIx a b ρ s = (a ρ s).bind fun p => (b ρ p.2).bind fun q => match q.1 with
  | .d (.int k) => (ixD p.1 k).map fun z => (.d z, q.2)
  | _ => none := rfl
@[simp] theorem ap_dIxP {k : Int} : dIxP a k ρ s = (a ρ s).bind fun p => match p.1 with
  | .p xs ys => if k = 0 then some (.r (xs.map D.int), p.2) else if k = 1 then some (.r (ys.map D.int), p.2) else none
  | _ => none := rfl
@[simp] theorem ap_dTup : dTup Fs ρ s = (aAll Fs ρ s).bind fun p => (datas p.1).map fun ds => (.d (.tup ds), p.2) := rfl
@[simp] theorem ap_lDisp : lDisp Fs ρ s = (aAll Fs ρ s).bind fun p => (datas p.1).map fun ds => (ds, p.2) := rfl
@[simp] theorem ap_dToTup : dToTup a ρ s = (a ρ s).bind fun p => (itemsOf p.1).map fun ds => (.d (.tup ds), p.2) := rfl
@[simp] theorem ap_lToL : lToL a ρ s = (a ρ s).bind fun p => (itemsOf p.1).map fun ds => (ds, p.2) := rfl
@[simp] theorem ap_dOfL {L : LF} : dOfL L ρ s = (L ρ s).map fun p => (.r p.1, p.2) := rfl
@[simp] theorem ap_dIsI {T : String} : dIsI T a ρ s = (a ρ s).bind fun p => (lift1 (fun x => (isiD T x).map D.bl) p.1).map fun z => (.d z, p.2) := rfl
@[simp] theorem ap_dIn {neg : Bool} : dIn neg a b ρ s = (a ρ s).bind fun p => (b ρ p.2).bind fun q => match p.1 with
  | .d x => (itemsOf q.1).bind fun ys => (inD neg x ys).map fun z => (.d z, q.2)
  | _ => none := rfl
@[simp] theorem ap_dInK {neg : Bool} : dInK neg a b ρ s = (a ρ s).bind fun p => (b ρ p.2).bind fun q => (inK neg p.1 q.1).map fun z => (.d z, q.2) := rfl
@[simp] theorem ap_dGetK : dGetK a b ρ s = (a ρ s).bind fun p => (b ρ p.2).bind fun q => match p.1, q.1 with
  | .n kvs, .d (.str n) => (lookS kvs n).map fun z => (.d (.int z), q.2)
  | _, _ => none := rfl
@[simp] theorem ap_dAnd : dAnd a b ρ s = (asB (a ρ s)).bind fun p => if p.1 = true then b ρ p.2 else some (.d (.bl false), p.2) := rfl
@[simp] theorem ap_dOr : dOr a b ρ s = (asB (a ρ s)).bind fun p => if p.1 = true then some (.d (.bl true), p.2) else b ρ p.2 := rfl
@[simp] theorem ap_dNot : dNot a ρ s = (asB (a ρ s)).map fun p => (.d (.bl (!p.1)), p.2) := rfl
@[simp] theorem ap_asB {k : Bool} : asB (some (.d (.bl k), s)) = some (k, s) := rfl
@[simp] theorem ap_bOf : bOf F ρ s = asB (F ρ s) := rfl
@[simp] theorem ap_bAnd {P R : BF} : bAnd P R ρ s = (P ρ s).bind fun p => if p.1 = true then R ρ p.2 else some (false, p.2) := rfl
@[simp] theorem ap_bOr {P R : BF} : bOr P R ρ s = (P ρ s).bind fun p => if p.1 = true then some (true, p.2) else R ρ p.2 := rfl
@[simp] theorem ap_bNot {P : BF} : bNot P ρ s = (P ρ s).map fun p => (!p.1, p.2) := rfl
@[simp] theorem ap_bTrue : bTrue ρ s = some (true, s) := rfl
@[simp] theorem ap_dChain {g h : D → D → Option D} {c : EF} : dChain g h a b c ρ s = (a ρ s).bind fun p => (b ρ p.2).bind fun q => (lift2 g p.1 q.1).bind fun z => match z with
  | .bl true => (c ρ q.2).bind fun r => (lift2 h q.1 r.1).map fun z => (.d z, r.2)
  | .bl false => some (.d (.bl false), q.2)
  | _ => none := rfl
@[simp] theorem ap_sNil : sNil ρ s = some (.nx ρ s) := rfl
@[simp] theorem ap_sSeq {x y : SF} : sSeq x y ρ s = (x ρ s).bind fun o => match o with
  | .nx ρ' s' => y ρ' s'
  | .rt v s' => some (.rt v s') := rfl
@[simp] theorem ap_sSet {i : Nat} : sSet i F ρ s = (F ρ s).map fun p => .nx (ρ.set i (some p.1)) p.2 := rfl
@[simp] theorem ap_sOwn {i : Nat} {L : LF} : sOwn i L ρ s = (L ρ s).map fun p => .nx (ρ.set i (some (.own p.1))) p.2 := rfl
@[simp] theorem ap_sIf {P : BF} {x y : SF} : sIf P x y ρ s = (P ρ s).bind fun p => if p.1 = true then x ρ p.2 else y ρ p.2 := rfl
@[simp] theorem ap_sFor {T : Tgt} {I : LF} {x : SF} : sFor T I x ρ s = (I ρ s).bind fun p => forD T x p.1 ρ p.2 := rfl
@[simp] theorem ap_sRet : sRet F ρ s = (F ρ s).bind fun p => match p.1 with
  | .d x => some (.rt (.d x) p.2)
  | _ => none := rfl
@[simp] theorem ap_sRetL {L : LF} : sRetL L ρ s = (L ρ s).map fun p => .rt (.r p.1) p.2 := rfl
@[simp] theorem ap_iTupF : iTupF F ρ s = (F ρ s).bind fun p => match p.1 with
  | .d (.tup ds) => some (ds, p.2)
  | _ => none := rfl
@[simp] theorem ap_iListF : iListF F ρ s = (F ρ s).bind fun p => match p.1 with
  | .r ds => some (ds, p.2)
  | _ => none := rfl
@[simp] theorem ap_iStrF : iStrF F ρ s = (F ρ s).bind fun p => match p.1 with
  | .d (.str z) => some (z.cps.toList.map fun c => .str ⟨#[c]⟩, p.2)
  | _ => none := rfl
@[simp] theorem ap_goOne {i : Nat} {d : D} : Tgt.go (.one i) d ρ = some (ρ.set i (some (.d d))) := rfl
@[simp] theorem ap_goMany {l : List Nat} {ds : List D} : Tgt.go (.many l) (.tup ds) ρ = if ds.length = l.length then some (setAll ρ l ds) else none := rfl
@[simp] theorem ap_setAll0 {ds : List D} : setAll ρ [] ds = ρ := by unfold setAll; rfl
@[simp] theorem ap_setAll1 {i : Nat} {l : List Nat} {d : D} {ds : List D} : setAll ρ (i :: l) (d :: ds) = setAll (ρ.set i (some (.d d))) l ds := rfl
@[simp] theorem ap_forD0 {T : Tgt} {x : SF} : forD T x [] ρ s = some (.nx ρ s) := rfl
theorem ap_forD1 {T : Tgt} {x : SF} {d : D} {ds : List D} : forD T x (d :: ds) ρ s = (T.go d ρ).bind fun ρ1 => (x ρ1 s).bind fun o => match o with
    | .nx ρ2 s2 => forD T x ds ρ2 s2
    | .rt v s2 => some (.rt v s2) := rfl
@[simp] theorem ap_lComp {vs : List Nat} {I : LF} {T : Tgt} {P : BF} {E : EF} : lComp vs I T P E ρ s = (I ρ s).bind fun p => if p.1.length ≤ 100000 then compD T P E (wipeR ρ vs) p.1 p.2 else none := rfl
@[simp] theorem ap_wipe0 : wipeR ρ [] = ρ := rfl
@[simp] theorem ap_wipe1 {v : Nat} {vs : List Nat} : wipeR ρ (v :: vs) = (wipeR ρ vs).set v none := rfl
theorem ap_runM {n np : Nat} {G : SF} {svs : List SV} : runM n np G svs s = if svs.length = np then (G (svs.map some ++ List.replicate (n - svs.length) none) s).bind fun o => match o with
  | .rt sv s' => some (sv, s')
  | .nx _ s' => some (.d .non, s')
  else none := rfl
@[simp] theorem own_d {x : D} : (SV.d x).isOwn = false := rfl
@[simp] theorem own_r {x : List D} : (SV.r x).isOwn = false := rfl
@[simp] theorem own_n {x : List (Str × Int)} : (SV.n x).isOwn = false := rfl
@[simp] theorem own_w : SV.w.isOwn = false := rfl
@[simp] theorem own_p {x y : List Int} : (SV.p x y).isOwn = false := rfl
@[simp] theorem view_d {x : D} : oView (SV.d x) = .d x := rfl
@[simp] theorem view_r {x : List D} : oView (SV.r x) = .r x := rfl
@[simp] theorem view_n {x : List (Str × Int)} : oView (SV.n x) = .n x := rfl
@[simp] theorem view_w : oView SV.w = .w := rfl
@[simp] theorem view_p {x y : List Int} : oView (SV.p x y) = .p x y := rfl
@[simp] theorem view_o {x : List D} : oView (SV.own x) = .r x := rfl
@[simp] theorem view_m {x : List (Str × Int)} : oView (SV.ownm x) = .n x := rfl
@[simp] theorem ix_t0 {x : D} {ds : List D} : ixD (.d (.tup (x :: ds))) 0 = some x := rfl
@[simp] theorem ix_t1 {x y : D} {ds : List D} : ixD (.d (.tup (x :: y :: ds))) 1 = some y := rfl
@[simp] theorem ix_t2 {x y z : D} {ds : List D} : ixD (.d (.tup (x :: y :: z :: ds))) 2 = some z := rfl
@[simp] theorem ix_t3 {x y z u : D} {ds : List D} : ixD (.d (.tup (x :: y :: z :: u :: ds))) 3 = some u := rfl
@[simp] theorem fI_int {C : Int → Int → Bool} {g : Int → Int → D} {i j : Int} : fI C g (.int i) (.int j) = if C i j = true then some (g i j) else none := rfl
@[simp] theorem fEq_int {i j : Int} : fEq (.int i) (.int j) = some (.bl (decide (i = j))) := rfl
@[simp] theorem fEq_str {i j : Str} : fEq (.str i) (.str j) = some (.bl (decide (i = j))) := rfl
@[simp] theorem fEq_bl {i j : Bool} : fEq (.bl i) (.bl j) = some (.bl (decide (i = j))) := rfl
@[simp] theorem fNe_int {i j : Int} : fNe (.int i) (.int j) = some (.bl (!decide (i = j))) := rfl
@[simp] theorem fNe_str {i j : Str} : fNe (.str i) (.str j) = some (.bl (!decide (i = j))) := rfl
@[simp] theorem datas0 : datas [] = some [] := rfl
@[simp] theorem datas1 {x : D} {r : List SV} : datas (.d x :: r) = (datas r).map fun l => x :: l := rfl
@[simp] theorem items_t {ds : List D} : itemsOf (.d (.tup ds)) = some ds := rfl
@[simp] theorem items_r {ds : List D} : itemsOf (.r ds) = some ds := rfl
@[simp] theorem max_i {i j : Int} : maxD [.d (.int i), .d (.int j)] = some (.int (if j > i then j else i)) := rfl
@[simp] theorem min_i {i j : Int} : minD [.d (.int i), .d (.int j)] = some (.int (if j < i then j else i)) := rfl
@[simp] theorem len_t {ds : List D} : lenD [.d (.tup ds)] = some (.int ds.length) := rfl
@[simp] theorem len_r {ds : List D} : lenD [.r ds] = some (.int ds.length) := rfl
@[simp] theorem int_i {i : Int} : intD [.d (.int i)] = some (.int i) := rfl
@[simp] theorem int_b {b : Bool} : intD [.d (.bl b)] = some (.int (if b then 1 else 0)) := rfl
@[simp] theorem inK_s {neg : Bool} {n : Str} {kvs : List (Str × Int)} : inK neg (.d (.str n)) (.n kvs) = some (.bl (if neg then !(lookS kvs n).isSome else (lookS kvs n).isSome)) := rfl
theorem kb : kitB "NoneType" "str" = some false ∧ kitB "bool" "str" = some false ∧ kitB "int" "str" = some false ∧ kitB "str" "str" = some true ∧ kitB "tuple" "str" = some false ∧
  kitB "NoneType" "tuple" = some false ∧ kitB "bool" "tuple" = some false ∧ kitB "int" "tuple" = some false ∧ kitB "str" "tuple" = some false ∧ kitB "tuple" "tuple" = some true ∧
  kitB "NoneType" "int" = some false ∧ kitB "bool" "int" = some true ∧ kitB "int" "int" = some true ∧ kitB "str" "int" = some false ∧ kitB "tuple" "int" = some false ∧
  kitB "NoneType" "bool" = some false ∧ kitB "bool" "bool" = some true ∧ kitB "int" "bool" = some false ∧ kitB "str" "bool" = some false ∧ kitB "tuple" "bool" = some false := by decide +kernel
@[simp] theorem is0 : isiD "str" .non = some false := kb.1
@[simp] theorem is1 {b : Bool} : isiD "str" (.bl b) = some false := kb.2.1
@[simp] theorem is2 {b : Int} : isiD "str" (.int b) = some false := kb.2.2.1
@[simp] theorem is3 {b : Str} : isiD "str" (.str b) = some true := kb.2.2.2.1
@[simp] theorem is4 {b : List D} : isiD "str" (.tup b) = some false := kb.2.2.2.2.1
@[simp] theorem it0 : isiD "tuple" .non = some false := kb.2.2.2.2.2.1
@[simp] theorem it1 {b : Bool} : isiD "tuple" (.bl b) = some false := kb.2.2.2.2.2.2.1
@[simp] theorem it2 {b : Int} : isiD "tuple" (.int b) = some false := kb.2.2.2.2.2.2.2.1
@[simp] theorem it3 {b : Str} : isiD "tuple" (.str b) = some false := kb.2.2.2.2.2.2.2.2.1
@[simp] theorem it4 {b : List D} : isiD "tuple" (.tup b) = some true := kb.2.2.2.2.2.2.2.2.2.1
@[simp] theorem ii0 : isiD "int" .non = some false := kb.2.2.2.2.2.2.2.2.2.2.1
@[simp] theorem ii1 {b : Bool} : isiD "int" (.bl b) = some true := kb.2.2.2.2.2.2.2.2.2.2.2.1
@[simp] theorem ii2 {b : Int} : isiD "int" (.int b) = some true := kb.2.2.2.2.2.2.2.2.2.2.2.2.1
@[simp] theorem ii3 {b : Str} : isiD "int" (.str b) = some false := kb.2.2.2.2.2.2.2.2.2.2.2.2.2.1
@[simp] theorem ii4 {b : List D} : isiD "int" (.tup b) = some false := kb.2.2.2.2.2.2.2.2.2.2.2.2.2.2.1
@[simp] theorem ib0 : isiD "bool" .non = some false := kb.2.2.2.2.2.2.2.2.2.2.2.2.2.2.2.1
@[simp] theorem ib1 {b : Bool} : isiD "bool" (.bl b) = some true := kb.2.2.2.2.2.2.2.2.2.2.2.2.2.2.2.2.1
@[simp] theorem ib2 {b : Int} : isiD "bool" (.int b) = some false := kb.2.2.2.2.2.2.2.2.2.2.2.2.2.2.2.2.2.1
@[simp] theorem ib3 {b : Str} : isiD "bool" (.str b) = some false := kb.2.2.2.2.2.2.2.2.2.2.2.2.2.2.2.2.2.2.1
@[simp] theorem ib4 {b : List D} : isiD "bool" (.tup b) = some false := kb.2.2.2.2.2.2.2.2.2.2.2.2.2.2.2.2.2.2.2
theorem sne : (("number" : Str) ≠ "text" ∧ ("choice" : Str) ≠ "text" ∧ ("choice" : Str) ≠ "number" ∧ ("number" : Str) ≠ "choice" ∧ ("text" : Str) ≠ "choice" ∧ ("text" : Str) ≠ "number") ∧
  (("record" : Str) ≠ "list" ∧ ("union" : Str) ≠ "list" ∧ ("union" : Str) ≠ "record" ∧ ("list" : Str) ≠ "record") ∧
  (("optional" : Str) ≠ "required" ∧ ("default" : Str) ≠ "required" ∧ ("required" : Str) ≠ "default" ∧ ("optional" : Str) ≠ "default" ∧ ("required" : Str) ≠ "optional" ∧ ("default" : Str) ≠ "optional") := by decide +kernel
@[simp] theorem sn0 : ¬ ("number" : Str) = "text" := sne.1.1
@[simp] theorem sn1 : ¬ ("choice" : Str) = "text" := sne.1.2.1
@[simp] theorem sn2 : ¬ ("choice" : Str) = "number" := sne.1.2.2.1
@[simp] theorem sn3 : ¬ ("number" : Str) = "choice" := sne.1.2.2.2.1
@[simp] theorem sn4 : ¬ ("text" : Str) = "choice" := sne.1.2.2.2.2.1
@[simp] theorem sn5 : ¬ ("text" : Str) = "number" := sne.1.2.2.2.2.2
@[simp] theorem sn6 : ¬ ("record" : Str) = "list" := sne.2.1.1
@[simp] theorem sn7 : ¬ ("union" : Str) = "list" := sne.2.1.2.1
@[simp] theorem sn8 : ¬ ("union" : Str) = "record" := sne.2.1.2.2.1
@[simp] theorem sn9 : ¬ ("list" : Str) = "record" := sne.2.1.2.2.2
@[simp] theorem sn10 : ¬ ("optional" : Str) = "required" := sne.2.2.1
@[simp] theorem sn11 : ¬ ("default" : Str) = "required" := sne.2.2.2.1
@[simp] theorem sn12 : ¬ ("required" : Str) = "default" := sne.2.2.2.2.1
@[simp] theorem sn13 : ¬ ("optional" : Str) = "default" := sne.2.2.2.2.2.1
@[simp] theorem sn14 : ¬ ("required" : Str) = "optional" := sne.2.2.2.2.2.2.1
@[simp] theorem sn15 : ¬ ("default" : Str) = "optional" := sne.2.2.2.2.2.2.2
end

/-! ## leaves -/
inductive Leaf where
  | num (lo hi : Int) | txt (lo hi : Int) | cho (ys ret : List Int) (op : Bool)
def Leaf.enc : Leaf → D
  | .num lo hi => .tup [.str "number", .int lo, .int hi]
  | .txt lo hi => .tup [.str "text", .int lo, .int hi]
  | .cho ys ret op => .tup [.str "choice", .tup (ys.map D.int), .tup (ret.map D.int), .bl op]
def Leaf.Ok : Leaf → Prop
  | .num lo hi => lo ≤ hi
  | .txt lo hi => 0 ≤ lo ∧ lo ≤ hi ∧ hi ≤ 40
  | .cho ys _ op => (ys = [] → op = true) ∧ ys.length ≤ 1000
def good (z : Str) : Prop := ∀ c ∈ z.cps.toList, 32 ≤ c ∧ c ≤ 126 ∧ c ≠ 37
def LeafVal : Leaf → D → Prop
  | .num lo hi, .int i => lo ≤ i ∧ i ≤ hi
  | .txt lo hi, .str z => good z ∧ lo ≤ (z.length : Int) ∧ (z.length : Int) ≤ hi ∧ hi ≤ 40
  | .cho ys _ op, .int i => i ∈ ys ∨ (i = 0 ∧ op = true)
  | _, _ => False
def Leaf.simple : Leaf → D
  | .num lo hi => .int (if (if 0 < hi then 0 else hi) > lo then (if 0 < hi then 0 else hi) else lo)
  | .txt lo _ => .str (repS "a" lo.toNat)
  | .cho (y :: _) _ _ => .int y
  | .cho [] _ _ => .int 0
theorem len_a : ("a" : Str).length = 1 := by decide +kernel
theorem simple_leaf_eq (l : Leaf) (h : l.Ok) (s : S) : M_simple_leaf_value [.d l.enc] s = some (.d l.simple, s) := by
  cases l with
  | num lo hi => simp [M_simple_leaf_value, G_simple_leaf_value, ap_runM, Leaf.enc, Leaf.simple]
  | txt lo hi =>
    obtain ⟨h1, h2, h3⟩ := h
    have e : 0 ≤ lo ∧ lo ≤ 1000 ∧ ("a" : Str).length ≤ 1000 := ⟨h1, by omega, by rw [len_a]; decide⟩
    simp [M_simple_leaf_value, G_simple_leaf_value, ap_runM, Leaf.enc, Leaf.simple, fMulS, e]
  | cho ys ret op =>
    cases ys with
    | nil => simp [M_simple_leaf_value, G_simple_leaf_value, ap_runM, Leaf.enc, Leaf.simple]
    | cons y ys => simp [M_simple_leaf_value, G_simple_leaf_value, ap_runM, Leaf.enc, Leaf.simple]
theorem l_simple_leaf_eq (l : Leaf) (h : l.Ok) (s : S) : M_l_simple_leaf [.d l.enc] s = some (.d l.simple, s) := by
  cases l with
  | num lo hi => simp [M_l_simple_leaf, G_l_simple_leaf, ap_runM, Leaf.enc, Leaf.simple]
  | txt lo hi =>
    obtain ⟨h1, h2, h3⟩ := h
    have e : 0 ≤ lo ∧ lo ≤ 1000 ∧ ("a" : Str).length ≤ 1000 := ⟨h1, by omega, by rw [len_a]; decide⟩
    simp [M_l_simple_leaf, G_l_simple_leaf, ap_runM, Leaf.enc, Leaf.simple, fMulS, e]
  | cho ys ret op =>
    cases ys with
    | nil => simp [M_l_simple_leaf, G_l_simple_leaf, ap_runM, Leaf.enc, Leaf.simple]
    | cons y ys => simp [M_l_simple_leaf, G_l_simple_leaf, ap_runM, Leaf.enc, Leaf.simple]
end Sb

set_option Elab.async false
set_option linter.all false
set_option maxRecDepth 100000
set_option maxHeartbeats 4000000
namespace Sb
open PySem L2
/-! ## loops -/
theorem forD_inv {T : Tgt} {b : SF} (J : Env → Prop) : ∀ (ds : List D) (ρ : Env) (s : S), J ρ → (∀ d ∈ ds, ∀ ρ, J ρ → ∃ ρ1 ρ2, T.go d ρ = some ρ1 ∧ b ρ1 s = some (.nx ρ2 s) ∧ J ρ2) → ∃ ρ', forD T b ds ρ s = some (.nx ρ' s) ∧ J ρ'
  | [], ρ, s, j, _ => ⟨ρ, rfl, j⟩
  | d :: ds, ρ, s, j, h => by
    obtain ⟨ρ1, ρ2, h1, h2, h3⟩ := h d List.mem_cons_self ρ j
    obtain ⟨ρ', h4, h5⟩ := forD_inv J ds ρ2 s h3 fun d hd => h d (List.mem_cons_of_mem _ hd)
    refine ⟨ρ', ?_, h5⟩
    rw [ap_forD1, h1]
    show (b ρ1 s).bind _ = _
    rw [h2]
    exact h4
theorem compD_if {α : Type} {T : Tgt} {P : BF} {E : EF} {ρ : Env} {s : S} (g f : α → D) (p : α → Bool) : ∀ (l : List α), (∀ x ∈ l, ∃ ρ1, T.go (g x) ρ = some ρ1 ∧ P ρ1 s = some (p x, s) ∧ (p x = true → E ρ1 s = some (.d (f x), s))) → compD T P E ρ (l.map g) s = some ((l.filter p).map f, s)
  | [], _ => rfl
  | x :: l, h => by
    obtain ⟨ρ1, h1, h2, h3⟩ := h x List.mem_cons_self
    have ih := compD_if g f p l fun y hy => h y (List.mem_cons_of_mem _ hy)
    rw [List.map_cons]
    unfold compD
    rw [h1]
    show (P ρ1 s).bind _ = _
    rw [h2]
    show (if p x = true then _ else _) = _
    cases hp : p x with
    | true =>
      rw [if_pos rfl, h3 hp, List.filter_cons_of_pos hp]
      show (compD T P E ρ (l.map g) s).map _ = _
      rw [ih]
      rfl
    | false =>
      rw [if_neg Bool.false_ne_true, List.filter_cons_of_neg (by rw [hp]; exact Bool.false_ne_true)]
      exact ih
theorem compD_all {α : Type} {T : Tgt} {E : EF} {ρ : Env} {s : S} (g f : α → D) (l : List α) (h : ∀ x ∈ l, ∃ ρ1, T.go (g x) ρ = some ρ1 ∧ E ρ1 s = some (.d (f x), s)) : compD T bTrue E ρ (l.map g) s = some (l.map f, s) := by
  have := compD_if (P := bTrue) g f (fun _ => true) l (T := T) (E := E) (ρ := ρ) (s := s) fun x hx => by
    obtain ⟨ρ1, h1, h2⟩ := h x hx
    exact ⟨ρ1, h1, rfl, fun _ => h2⟩
  rw [this, List.filter_eq_self.mpr (fun _ _ => rfl)]
/-! ## membership -/
theorem flatL_ints : ∀ ys : List Int, flatL (ys.map D.int) = some (ys.map V.int)
  | [] => rfl
  | y :: ys => by
    show (flatD (.int y)).bind _ = _
    show (flatL (ys.map D.int)).map _ = _
    rw [flatL_ints ys]
    rfl
theorem flatL_strs : ∀ ys : List Str, flatL (ys.map D.str) = some (ys.map V.str)
  | [] => rfl
  | y :: ys => by
    show (flatD (.str y)).bind _ = _
    show (flatL (ys.map D.str)).map _ = _
    rw [flatL_strs ys]
    rfl
@[simp] theorem in_ints {neg : Bool} {v : Int} {ys : List Int} : inD neg (.int v) (ys.map D.int) = some (.bl (if neg then !decide (v ∈ ys) else decide (v ∈ ys))) := by
  have e : inV (V.int v) (ys.map V.int) = decide (v ∈ ys) := by
    induction ys with
    | nil => rfl
    | cons y ys ih =>
      show (eqV (V.int y) (V.int v) || inV (V.int v) (ys.map V.int)) = _
      rw [ih]
      show ((y == v) || _) = _
      by_cases h : v = y
      · subst h; simp
      · have h' : ¬ y = v := fun z => h z.symm
        simp [h, h']
  unfold inD
  show ((flatL (ys.map D.int)).map _) = _
  rw [flatL_ints]
  show some (D.bl _) = _
  rw [e]
@[simp] theorem in_strs {neg : Bool} {v : Str} {ys : List Str} : inD neg (.str v) (ys.map D.str) = some (.bl (if neg then !decide (v ∈ ys) else decide (v ∈ ys))) := by
  have e : inV (V.str v) (ys.map V.str) = decide (v ∈ ys) := by
    induction ys with
    | nil => rfl
    | cons y ys ih =>
      show (eqV (V.str y) (V.str v) || inV (V.str v) (ys.map V.str)) = _
      rw [ih]
      show ((y == v) || _) = _
      by_cases h : v = y
      · subst h; simp
      · have h' : ¬ y = v := fun z => h z.symm
        simp [h, h']
  unfold inD
  show ((flatL (ys.map D.str)).map _) = _
  rw [flatL_strs]
  show some (D.bl _) = _
  rw [e]
/-! ## values of leaves -/
theorem allowed_eq {c : Nat} (h : 32 ≤ c ∧ c ≤ 126 ∧ c ≠ 37) (s : S) : M_is_allowed_code [.d (.int (c : Int))] s = some (.d (.bl true), s) := by
  have h1 : (32 : Int) ≤ c := by omega
  have h2 : (c : Int) ≤ 126 := by omega
  have h3 : ¬ (c : Int) = 37 := by omega
  simp [M_is_allowed_code, G_is_allowed_code, ap_runM, h1, h2, h3]
@[simp] theorem ord_c {c : Nat} : ordD [.d (.str ⟨#[c]⟩)] = some (.int (c : Int)) := by
  show (if (⟨#[c]⟩ : Str).length = 1 then some (D.int _) else none) = _
  rw [if_pos (show (⟨#[c]⟩ : Str).length = 1 from rfl)]
  rfl
theorem is_text_eq {z : Str} (h : good z) (s : S) : M_is_text [.d (.str z)] s = some (.d (.bl true), s) := by
  have key : ∀ (cs : List Nat) (x : Option SV), (∀ c ∈ cs, 32 ≤ c ∧ c ≤ 126 ∧ c ≠ 37) → ∃ x', forD (.one 1) (sIf (bNot (bOf (dCall M_is_allowed_code [(dBu ordD [(oVar 1)])]))) (sRet (dC (.bl false))) sNil) (cs.map fun c => D.str ⟨#[c]⟩) [some (.d (.str z)), x] s = some (.nx [some (.d (.str z)), x'] s) := by
    intro cs
    induction cs with
    | nil => exact fun x _ => ⟨x, rfl⟩
    | cons c cs ih =>
      intro x hc
      obtain ⟨x', e⟩ := ih (some (.d (.str ⟨#[c]⟩))) fun c hc' => hc c (List.mem_cons_of_mem _ hc')
      refine ⟨x', ?_⟩
      rw [← e]
      simp [ap_forD1, allowed_eq (hc c List.mem_cons_self)]
  obtain ⟨x', e⟩ := key z.cps.toList none h
  simp [M_is_text, G_is_text, ap_runM]
  rw [e]
  simp
theorem l_is_text_eq {z : Str} (h : good z) (s : S) : M_l_is_text [.d (.str z)] s = some (.d (.bl true), s) := by
  have key : ∀ (cs : List Nat) (x : Option SV), (∀ c ∈ cs, 32 ≤ c ∧ c ≤ 126 ∧ c ≠ 37) → ∃ x', forD (.one 1) (sIf (bOr (bOf (d2 fLt (dBu ordD [(oVar 1)]) (dC (.int 32)))) (bOr (bOf (d2 fGt (dBu ordD [(oVar 1)]) (dC (.int 126)))) (bOf (d2 fEq (dBu ordD [(oVar 1)]) (dC (.int 37)))))) (sRet (dC (.bl false))) sNil) (cs.map fun c => D.str ⟨#[c]⟩) [some (.d (.str z)), x] s = some (.nx [some (.d (.str z)), x'] s) := by
    intro cs
    induction cs with
    | nil => exact fun x _ => ⟨x, rfl⟩
    | cons c cs ih =>
      intro x hc
      obtain ⟨x', e⟩ := ih (some (.d (.str ⟨#[c]⟩))) fun c hc' => hc c (List.mem_cons_of_mem _ hc')
      refine ⟨x', ?_⟩
      rw [← e]
      obtain ⟨g1, g2, g3⟩ := hc c List.mem_cons_self
      have h1 : ¬ (c : Int) < 32 := by omega
      have h2 : ¬ 126 < (c : Int) := by omega
      have h3 : ¬ (c : Int) = 37 := by omega
      simp [ap_forD1, h1, h2, h3]
  obtain ⟨x', e⟩ := key z.cps.toList none h
  simp [M_l_is_text, G_l_is_text, ap_runM]
  rw [e]
  simp
theorem len_s {z : Str} (h : z.length ≤ 100000) : lenD [.d (.str z)] = some (.int z.length) := if_pos h
theorem is_leaf_value_eq {l : Leaf} {v : D} (h : LeafVal l v) (s : S) : M_is_leaf_value [.d l.enc, .d v] s = some (.d (.bl true), s) := by
  cases l with
  | num lo hi => cases v with
    | int i =>
      obtain ⟨h1, h2⟩ := h
      simp [M_is_leaf_value, G_is_leaf_value, ap_runM, Leaf.enc, h1, h2]
    | _ => exact h.elim
  | txt lo hi => cases v with
    | str z =>
      obtain ⟨h1, h2, h3, h4⟩ := h
      simp [M_is_leaf_value, G_is_leaf_value, ap_runM, Leaf.enc, is_text_eq h1, len_s (z := z) (by omega), h2, h3]
    | _ => exact h.elim
  | cho ys ret op => cases v with
    | int i =>
      by_cases hi : i ∈ ys
      · simp [M_is_leaf_value, G_is_leaf_value, ap_runM, Leaf.enc, hi]
      · rcases h with h | ⟨h1, h2⟩
        · exact absurd h hi
        · subst h1; subst h2
          simp [M_is_leaf_value, G_is_leaf_value, ap_runM, Leaf.enc, hi]
    | _ => exact h.elim
theorem l_is_leaf_value_eq {l : Leaf} {v : D} (h : LeafVal l v) (s : S) : M_l_is_leaf_value [.d l.enc, .d v] s = some (.d (.bl true), s) := by
  cases l with
  | num lo hi => cases v with
    | int i =>
      obtain ⟨h1, h2⟩ := h
      simp [M_l_is_leaf_value, G_l_is_leaf_value, ap_runM, Leaf.enc, h1, h2]
    | _ => exact h.elim
  | txt lo hi => cases v with
    | str z =>
      obtain ⟨h1, h2, h3, h4⟩ := h
      simp [M_l_is_leaf_value, G_l_is_leaf_value, ap_runM, Leaf.enc, l_is_text_eq h1, len_s (z := z) (by omega), h2, h3]
    | _ => exact h.elim
  | cho ys ret op => cases v with
    | int i =>
      by_cases hi : i ∈ ys
      · simp [M_l_is_leaf_value, G_l_is_leaf_value, ap_runM, Leaf.enc, hi]
      · rcases h with h | ⟨h1, h2⟩
        · exact absurd h hi
        · subst h1; subst h2
          simp [M_l_is_leaf_value, G_l_is_leaf_value, ap_runM, Leaf.enc, hi]
    | _ => exact h.elim
theorem rep_a (n : Nat) : (repS "a" n).cps.toList = List.replicate n 97 := by
  have e : ("a" : Str).cps.toList = [97] := by decide +kernel
  unfold repS
  rw [e]
  induction n with
  | zero => rfl
  | succ n ih => simpa [List.replicate_succ] using ih
theorem simple_leafVal {l : Leaf} (h : l.Ok) : LeafVal l l.simple := by
  cases l with
  | num lo hi =>
    have h : lo ≤ hi := h
    show lo ≤ _ ∧ _ ≤ hi
    split <;> split <;> omega
  | txt lo hi =>
    obtain ⟨h1, h2, h3⟩ := h
    have e := rep_a lo.toNat
    have e2 : (repS "a" lo.toNat).length = lo.toNat := by
      rw [← str_len, e, List.length_replicate]
    refine ⟨fun c hc => ?_, ?_, ?_, h3⟩
    · rw [e] at hc
      have := List.eq_of_mem_replicate hc
      subst this
      decide
    · rw [e2]; omega
    · rw [e2]; omega
  | cho ys ret op =>
    cases ys with
    | nil => exact .inr ⟨rfl, h.1 rfl⟩
    | cons y ys => exact .inl List.mem_cons_self
end Sb

set_option Elab.async false
set_option linter.all false
set_option maxRecDepth 100000
set_option maxHeartbeats 4000000
namespace Sb
open PySem L2
section
variable {ρ : Env} {s : S}
@[simp] theorem ap_sExt {i : Nat} {L : LF} : sExt i L ρ s = (L ρ s).bind fun p => match ρ[i]? with
  | some (some (.own ds)) => if ds.length + p.1.length ≤ 100000 then some (.nx (ρ.set i (some (.own (ds ++ p.1)))) p.2) else none
  | _ => none := rfl
@[simp] theorem ap_sApp {i : Nat} {F : EF} : sApp i F ρ s = (F ρ s).bind fun p => match ρ[i]?, p.1 with
  | some (some (.own ds)), .d x => if ds.length ≤ 100000 then some (.nx (ρ.set i (some (.own (ds ++ [x])))) p.2) else none
  | _, _ => none := rfl
@[simp] theorem ap_sAug {i : Nat} {F : EF} : sAug i F ρ s = match ρ[i]? with
  | some (some (.d x)) => (F ρ s).bind fun p => match p.1 with
    | .d y => (fAdd x y).map fun z => .nx (ρ.set i (some (.d z))) p.2
    | _ => none
  | _ => none := rfl
@[simp] theorem ap_sDict {i : Nat} : sDict i ρ s = some (.nx (ρ.set i (some (.ownm []))) s) := rfl
@[simp] theorem ap_sPut {i : Nat} {A B : EF} : sPut i A B ρ s = (B ρ s).bind fun p => (A ρ p.2).bind fun q => match ρ[i]?, q.1, p.1 with
  | some (some (.ownm kvs)), .d (.str n), .d (.int z) => if kvs.length ≤ 100000 then some (.nx (ρ.set i (some (.ownm (putS kvs n z)))) q.2) else none
  | _, _, _ => none := rfl
@[simp] theorem ap_sUnp {l : List Nat} {F : EF} : sUnp l F ρ s = (F ρ s).bind fun p => match p.1 with
  | .d x => (Tgt.go (.many l) x ρ).map fun ρ' => .nx ρ' p.2
  | _ => none := rfl
@[simp] theorem ap_sRetO {i : Nat} : sRetO i ρ s = match ρ[i]? with
  | some (some (.own ds)) => some (.rt (.r ds) s)
  | some (some (.ownm kvs)) => some (.rt (.n kvs) s)
  | _ => none := rfl
end
/-! ## schemas -/
inductive Part where
  | nm (s : Str) | lf (l : Leaf)
def Part.enc : Part → D
  | .nm s => .str s
  | .lf l => l.enc
inductive Mode where
  | req | opt | dfl
def Mode.enc : Mode → Str
  | .req => "required"
  | .opt => "optional"
  | .dfl => "default"
structure Field where
  id : Int
  part : Part
  mode : Mode
  dflt : D
def Field.enc (f : Field) : D := .tup [.int f.id, f.part.enc, .str f.mode.enc, f.dflt]
def caseEnc (c : Int × Part) : D := .tup [.int c.1, c.2.enc]
inductive Body where
  | lst (p : Part) (lo hi : Int) | rcd (fs : List Field) (ret : List Int) | uni (cs : List (Int × Part)) (ret : List Int) (op : Bool)
def Body.enc : Body → D
  | .lst p lo hi => .tup [.str "list", p.enc, .int lo, .int hi]
  | .rcd fs ret => .tup [.str "record", .tup (fs.map Field.enc), .tup (ret.map D.int)]
  | .uni cs ret op => .tup [.str "union", .tup (cs.map caseEnc), .tup (ret.map D.int), .bl op]
structure Sch where
  root : Str
  defs : List (Str × Body)
def defEnc (p : Str × Body) : D := .tup [.str p.1, p.2.enc]
def Sch.enc (σ : Sch) : D := .tup [.str σ.root, .tup (σ.defs.map defEnc)]
def Sch.body (σ : Sch) (n : Str) : Option Body := (σ.defs.find? fun p => decide (p.1 = n)).map (·.2)
theorem leaf_tup (l : Leaf) : ∃ ds, l.enc = .tup ds := by cases l <;> exact ⟨_, rfl⟩
@[simp] theorem isi_leaf {l : Leaf} : isiD "str" l.enc = some false := by obtain ⟨ds, e⟩ := leaf_tup l; rw [e]; exact is4
@[simp] theorem enc_nm {n : Str} : (Part.nm n).enc = .str n := rfl
@[simp] theorem enc_lf {l : Leaf} : (Part.lf l).enc = l.enc := rfl
@[simp] theorem enc_lst {p : Part} {lo hi : Int} : (Body.lst p lo hi).enc = .tup [.str "list", p.enc, .int lo, .int hi] := rfl
@[simp] theorem enc_rcd {fs : List Field} {ret : List Int} : (Body.rcd fs ret).enc = .tup [.str "record", .tup (fs.map Field.enc), .tup (ret.map D.int)] := rfl
@[simp] theorem enc_uni {cs : List (Int × Part)} {ret : List Int} {op : Bool} : (Body.uni cs ret op).enc = .tup [.str "union", .tup (cs.map caseEnc), .tup (ret.map D.int), .bl op] := rfl
@[simp] theorem is_name_nm {n : Str} {s : S} : M_is_name [.d (.str n)] s = some (.d (.bl true), s) := by simp [M_is_name, G_is_name, ap_runM]
@[simp] theorem is_name_lf {l : Leaf} {s : S} : M_is_name [.d l.enc] s = some (.d (.bl false), s) := by simp [M_is_name, G_is_name, ap_runM]
theorem body_of_eq {σ : Sch} {n : Str} {b : Body} (h : σ.body n = some b) (s : S) : M_body_of [.d σ.enc, .d (.str n)] s = some (.d b.enc, s) := by
  have key : ∀ (l : List (Str × Body)) (x y : Option SV), (l.find? fun p => decide (p.1 = n)).map (·.2) = some b → forD (.many [2, 3]) (sIf (bOf (d2 fEq (dVar 2) (dVar 1))) (sRet (dVar 3)) sNil) (l.map defEnc) [some (.d σ.enc), some (.d (.str n)), x, y] s = some (.rt (.d b.enc) s) := by
    intro l
    induction l with
    | nil => intro x y h; cases h
    | cons p l ih =>
      intro x y h
      by_cases e : p.1 = n
      · have h : p.2 = b := by simpa [List.find?_cons, e] using h
        simp [ap_forD1, defEnc, e, h]
      · have h : (l.find? fun p => decide (p.1 = n)).map (·.2) = some b := by simpa [List.find?_cons, e] using h
        have := ih (some (.d (.str p.1))) (some (.d p.2.enc)) h
        rw [← this]
        simp [ap_forD1, defEnc, e]
  have := key σ.defs none none h
  simp [M_body_of, G_body_of, ap_runM, Sch.enc] at this ⊢
  rw [this]
  simp
theorem l_body_of_eq {σ : Sch} {n : Str} {b : Body} (h : σ.body n = some b) (s : S) : M_l_body_of [.d σ.enc, .d (.str n)] s = some (.d b.enc, s) := by
  have key : ∀ (l : List (Str × Body)) (x : Option SV), (l.find? fun p => decide (p.1 = n)).map (·.2) = some b → forD (.one 2) (sIf (bOf (d2 fEq (dIx (oVar 2) (dC (.int 0))) (dVar 1))) (sRet (dIx (oVar 2) (dC (.int 1)))) sNil) (l.map defEnc) [some (.d σ.enc), some (.d (.str n)), x] s = some (.rt (.d b.enc) s) := by
    intro l
    induction l with
    | nil => intro x h; cases h
    | cons p l ih =>
      intro x h
      by_cases e : p.1 = n
      · have h : p.2 = b := by simpa [List.find?_cons, e] using h
        simp [ap_forD1, defEnc, e, h]
      · have h : (l.find? fun p => decide (p.1 = n)).map (·.2) = some b := by simpa [List.find?_cons, e] using h
        have := ih (some (.d (defEnc p))) h
        rw [← this]
        simp [ap_forD1, defEnc, e]
  have := key σ.defs none h
  simp [M_l_body_of, G_l_body_of, ap_runM, Sch.enc] at this ⊢
  rw [this]
  simp
/-- the part of the first one with the id -/
theorem part_of_id_eq {α : Type} (idf : α → Int) (pf : α → D) (tl : α → List D) (k : D) (rest : List D) (xs : List α) (i : Int) (x : α) (h : xs.find? (fun x => decide (idf x = i)) = some x) (s : S) :
    M_part_of_id [.d (.tup (k :: .tup (xs.map fun x => .tup (.int (idf x) :: pf x :: tl x)) :: rest)), .d (.int i)] s = some (.d (pf x), s) := by
  have key : ∀ (l : List α) (y : Option SV) (b : SV), l.find? (fun x => decide (idf x = i)) = some x → forD (.one 2) (sIf (bOf (d2 fEq (dIx (oVar 2) (dC (.int 0))) (dVar 1))) (sRet (dIx (oVar 2) (dC (.int 1)))) sNil) (l.map fun x => .tup (.int (idf x) :: pf x :: tl x)) [some b, some (.d (.int i)), y] s = some (.rt (.d (pf x)) s) := by
    intro l
    induction l with
    | nil => intro y b h; cases h
    | cons a l ih =>
      intro y b h
      by_cases e : idf a = i
      · have h : a = x := by simpa [List.find?_cons, e] using h
        subst h
        simp [ap_forD1, e]
      · have h : l.find? (fun x => decide (idf x = i)) = some x := by simpa [List.find?_cons, e] using h
        have := ih (some (.d (.tup (.int (idf a) :: pf a :: tl a)))) b h
        rw [← this]
        simp [ap_forD1, e]
  have := key xs none (.d (.tup (k :: .tup (xs.map fun x => .tup (.int (idf x) :: pf x :: tl x)) :: rest))) h
  simp [M_part_of_id, G_part_of_id, ap_runM] at this ⊢
  rw [this]
  simp
theorem l_part_of_eq {α : Type} (idf : α → Int) (pf : α → D) (tl : α → List D) (k : D) (rest : List D) (xs : List α) (i : Int) (x : α) (h : xs.find? (fun x => decide (idf x = i)) = some x) (s : S) :
    M_l_part_of [.d (.tup (k :: .tup (xs.map fun x => .tup (.int (idf x) :: pf x :: tl x)) :: rest)), .d (.int i)] s = some (.d (pf x), s) := part_of_id_eq idf pf tl k rest xs i x h s
theorem field_of {fs : List Field} {ret : List Int} {i : Int} {f : Field} (h : fs.find? (fun x => decide (x.id = i)) = some f) (s : S) : M_part_of_id [.d (Body.rcd fs ret).enc, .d (.int i)] s = some (.d f.part.enc, s) :=
  part_of_id_eq (fun f : Field => f.id) (fun f => f.part.enc) (fun f => [.str f.mode.enc, f.dflt]) _ _ fs i f h s
theorem case_of {cs : List (Int × Part)} {ret : List Int} {op : Bool} {i : Int} {c : Int × Part} (h : cs.find? (fun x => decide (x.1 = i)) = some c) (s : S) : M_part_of_id [.d (Body.uni cs ret op).enc, .d (.int i)] s = some (.d c.2.enc, s) :=
  part_of_id_eq (fun c : Int × Part => c.1) (fun c => c.2.enc) (fun _ => []) _ _ cs i c h s
theorem l_part_of_same : M_l_part_of = M_part_of_id := rfl
end Sb

set_option Elab.async false
set_option linter.all false
set_option maxRecDepth 100000
set_option maxHeartbeats 4000000
namespace Sb
open PySem L2
/-! ## values of a schema, with their depth and their count -/
def mx : List Nat → Nat
  | [] => 0
  | m :: l => max m (mx l)
abbrev Item := D × Nat × Nat
/-- the fields that are there -/
def chosen (vals : List (Field × Option Item)) : List (Field × Item) := vals.filterMap fun x => x.2.map fun y => (x.1, y)
def entry (x : Field × Item) : D := .tup [.int x.1.id, x.2.1]
inductive Val (σ : Sch) : Part → D → Nat → Nat → Prop
  | leaf {l : Leaf} {d : D} : LeafVal l d → Val σ (.lf l) d 0 1
  | list {n : Str} {p : Part} {lo hi : Int} (items : List Item) : σ.body n = some (.lst p lo hi) → (∀ x ∈ items, Val σ p x.1 x.2.1 x.2.2) → lo ≤ (items.length : Int) → (items.length : Int) ≤ hi →
      Val σ (.nm n) (.tup (items.map (·.1))) (1 + mx (items.map (·.2.1))) (1 + (items.map (·.2.2)).sum)
  | rcd {n : Str} {fs : List Field} {ret : List Int} (vals : List (Field × Option Item)) : σ.body n = some (.rcd fs ret) → vals.map (·.1) = fs → (∀ x ∈ vals, x.2 = none → x.1.mode = .opt) → (∀ x ∈ chosen vals, Val σ x.1.part x.2.1 x.2.2.1 x.2.2.2) →
      Val σ (.nm n) (.tup ((chosen vals).map entry)) (1 + mx ((chosen vals).map (·.2.2.1))) (1 + ((chosen vals).map (·.2.2.2)).sum)
  | unk {n : Str} {cs : List (Int × Part)} {ret : List Int} : σ.body n = some (.uni cs ret true) → Val σ (.nm n) (.tup [.int 0, .non]) 1 1
  | case {n : Str} {cs : List (Int × Part)} {ret : List Int} {op : Bool} {i : Int} {p : Part} {d : D} {m c : Nat} : σ.body n = some (.uni cs ret op) → (i, p) ∈ cs → Val σ p d m c → Val σ (.nm n) (.tup [.int i, d]) (1 + m) (1 + c)
/-- ascending ids above a -/
def Asc : Int → List Int → Prop
  | _, [] => True
  | a, i :: l => a < i ∧ Asc i l
def BodyIds : Body → Prop
  | .lst _ _ hi => hi ≤ 1000
  | .rcd fs _ => Asc 0 (fs.map (·.id)) ∧ fs.length ≤ 1000
  | .uni cs _ _ => Asc 0 (cs.map (·.1)) ∧ cs.length ≤ 1000
/-- the ids of all bodies ascend -/
def Sch.Ids (σ : Sch) : Prop := ∀ n b, σ.body n = some b → BodyIds b
theorem asc_lt : ∀ {l : List Int} {a : Int}, Asc a l → ∀ i ∈ l, a < i
  | i :: l, a, h, j, hj => by
    rcases List.mem_cons.mp hj with e | e
    · subst e; exact h.1
    · exact Int.lt_trans h.1 (asc_lt h.2 j e)
theorem asc_find {α : Type} (idf : α → Int) : ∀ {l : List α} {a : Int}, Asc a (l.map idf) → ∀ x ∈ l, l.find? (fun y => decide (idf y = idf x)) = some x
  | y :: l, a, h, x, hx => by
    rcases List.mem_cons.mp hx with e | e
    · subst e
      simp [List.find?_cons]
    · have h2 : idf y < idf x := asc_lt h.2 (idf x) (List.mem_map_of_mem e)
      have h3 : ¬ idf y = idf x := by omega
      simp only [List.find?_cons, h3, decide_false]
      exact asc_find idf h.2 x e
theorem chosen_mem {vals : List (Field × Option Item)} {x : Field × Item} (h : x ∈ chosen vals) : x.1 ∈ vals.map (·.1) := by
  obtain ⟨y, h1, h2⟩ := List.mem_filterMap.mp h
  obtain ⟨z, h3, h4⟩ := Option.map_eq_some_iff.mp h2
  subst h4
  exact List.mem_map_of_mem h1
theorem chosen_len : ∀ vals : List (Field × Option Item), (chosen vals).length ≤ vals.length := fun vals => List.length_filterMap_le _ _
theorem mem_mx : ∀ {l : List Nat} {m : Nat}, m ∈ l → m ≤ mx l
  | a :: l, m, h => by
    show m ≤ max a (mx l)
    rcases List.mem_cons.mp h with e | e
    · subst e; omega
    · have := mem_mx e; omega
theorem intsOf_map : ∀ l : List Int, intsOf (l.map D.int) = some l
  | [] => rfl
  | i :: l => by
    show (intsOf (l.map D.int)).map _ = _
    rw [intsOf_map l]
    rfl
theorem foldl_mx : ∀ (l : List Nat) (a : Nat), (l.map fun m : Nat => (m : Int)).foldl (fun a b => if b > a then b else a) (a : Int) = ((max a (mx l) : Nat) : Int)
  | [], a => by simp [mx]
  | m :: l, a => by
    rw [List.map_cons, List.foldl_cons]
    have e : (if (m : Int) > (a : Int) then (m : Int) else (a : Int)) = ((max a m : Nat) : Int) := by split <;> omega
    rw [e, foldl_mx l (max a m)]
    congr 1
    show max (max a m) (mx l) = max a (max m (mx l))
    omega
@[simp] theorem maxLD_eq {α : Type} (l : List α) (f : α → Nat) : maxLD [.r (.int 0 :: l.map fun x => D.int (f x : Int))] = some (.int (mx (l.map f) : Int)) := by
  have e : (D.int 0 :: l.map fun x => D.int (f x : Int)) = (((0 : Nat) : Int) :: (l.map f).map fun m : Nat => (m : Int)).map D.int := by simp
  show (intsOf (D.int 0 :: l.map fun x => D.int (f x : Int))).bind _ = _
  rw [e, intsOf_map]
  show some (D.int (((l.map f).map fun m : Nat => (m : Int)).foldl (fun a b => if b > a then b else a) ((0 : Nat) : Int))) = _
  rw [foldl_mx]
  congr 2
theorem sum_cast : ∀ l : List Nat, (l.map fun m : Nat => (m : Int)).sum = ((l.sum : Nat) : Int)
  | [] => rfl
  | m :: l => by
    rw [List.map_cons, List.sum_cons, List.sum_cons, sum_cast l]
    omega
@[simp] theorem sumLD_eq {α : Type} (l : List α) (f : α → Nat) : sumLD [.r (.int 1 :: l.map fun x => D.int (f x : Int))] = some (.int (1 + ((l.map f).sum : Nat) : Int)) := by
  have e : (D.int 1 :: l.map fun x => D.int (f x : Int)) = (((1 : Nat) : Int) :: (l.map f).map fun m : Nat => (m : Int)).map D.int := by simp
  show (intsOf (D.int 1 :: l.map fun x => D.int (f x : Int))).map _ = _
  rw [e, intsOf_map]
  show some (D.int (((1 : Nat) : Int) :: (l.map f).map fun m : Nat => (m : Int)).sum) = _
  rw [List.sum_cons, sum_cast]
  rfl
@[simp] theorem maxLD_0 : maxLD [.r [.int 0]] = some (.int 0) := rfl
@[simp] theorem maxLD_1 {m : Nat} : maxLD [.r [.int 0, .int (m : Int)]] = some (.int (m : Int)) := by
  have := maxLD_eq [m] id
  simpa [mx] using this
@[simp] theorem sumLD_0 : sumLD [.r [.int 1]] = some (.int 1) := rfl
@[simp] theorem sumLD_1 {m : Nat} : sumLD [.r [.int 1, .int (m : Int)]] = some (.int (1 + (m : Int))) := by
  have := sumLD_eq [m] id
  simpa using this
/-! ### depth, count: the law's -/
theorem l_depth_eq {σ : Sch} (ok : σ.Ids) {p : Part} {d : D} {m c : Nat} (v : Val σ p d m c) : ∀ n, m < n → ∀ s, M_l_depth n [.d σ.enc, .d p.enc, .d d] s = some (.d (.int (m : Int)), s) := by
  induction v with
  | leaf h =>
    intro n hn s
    cases n with
    | zero => omega
    | succ n => simp [M_l_depth, G_l_depth, ap_runM]
  | @list nn p lo hi items hb _ hlo hhi ih =>
    intro n hn s
    cases n with
    | zero => omega
    | succ n =>
      have hB : hi ≤ 1000 := ok _ _ hb
      have key := compD_all (T := .one 5) (E := dCall (M_l_depth n) [oVar 0, dIx (oVar 3) (dC (.int 1)), oVar 5]) (ρ := [some (.d σ.enc), some (.d (.str nn)), some (.d (.tup (items.map (·.1)))), some (.d (Body.lst p lo hi).enc), some (.own [.int 0]), none, none]) (s := s)
        (fun x : Item => x.1) (fun x => .int (x.2.1 : Int)) items fun x hx => ⟨_, rfl, by
          have hm := mem_mx (List.mem_map_of_mem (f := fun x : Item => x.2.1) hx)
          simp [ih x hx n (by omega)]⟩
      simp only [enc_lst] at key
      have hl : items.length ≤ 100000 := by omega
      have hl2 : 1 + items.length ≤ 100000 := by omega
      simp [M_l_depth, G_l_depth, ap_runM, l_body_of_eq hb, hl, hl2, key]
  | @rcd nn fs ret vals hb he ho _ ih =>
    intro n hn s
    cases n with
    | zero => omega
    | succ n =>
      have hAL : Asc 0 (fs.map fun f : Field => f.id) ∧ fs.length ≤ 1000 := ok _ _ hb
      obtain ⟨hA, hL⟩ := hAL
      have hL2 : (chosen vals).length ≤ 1000 := by
        have h1 := chosen_len vals
        have h2 : vals.length = fs.length := by rw [← he, List.length_map]
        omega
      have key := compD_all (T := .one 6) (E := dCall (M_l_depth n) [oVar 0, dCall M_l_part_of [oVar 3, dIx (oVar 6) (dC (.int 0))], dIx (oVar 6) (dC (.int 1))]) (ρ := [some (.d σ.enc), some (.d (.str nn)), some (.d (.tup ((chosen vals).map entry))), some (.d (Body.rcd fs ret).enc), some (.own [.int 0]), none, none]) (s := s)
        entry (fun x => .int (x.2.2.1 : Int)) (chosen vals) fun x hx => ⟨_, rfl, by
          have hm := mem_mx (List.mem_map_of_mem (f := fun x : Field × Item => x.2.2.1) hx)
          have hf := field_of (ret := ret) (asc_find (fun f : Field => f.id) hA x.1 (by rw [← he]; exact chosen_mem hx)) s
          rw [← l_part_of_same] at hf
          simp only [enc_rcd] at hf
          simp [entry, hf, ih x hx n (by omega)]⟩
      simp only [enc_rcd] at key
      have hl : (chosen vals).length ≤ 100000 := by omega
      have hl2 : 1 + (chosen vals).length ≤ 100000 := by omega
      simp [M_l_depth, G_l_depth, ap_runM, l_body_of_eq hb, hl, hl2, key]
  | unk hb =>
    intro n hn s
    cases n with
    | zero => omega
    | succ n => simp [M_l_depth, G_l_depth, ap_runM, l_body_of_eq hb]
  | @case nn cs ret op i p d m c hb hi _ ih =>
    intro n hn s
    cases n with
    | zero => omega
    | succ n =>
      have hAL : Asc 0 (cs.map fun c : Int × Part => c.1) ∧ cs.length ≤ 1000 := ok _ _ hb
      obtain ⟨hA, hL⟩ := hAL
      have hpos : 0 < i := asc_lt hA i (List.mem_map_of_mem (f := fun x : Int × Part => x.1) hi)
      have hf := case_of (ret := ret) (op := op) (asc_find (fun c : Int × Part => c.1) hA (i, p) hi) s
      rw [← l_part_of_same] at hf
      simp only [enc_uni] at hf
      simp [M_l_depth, G_l_depth, ap_runM, l_body_of_eq hb, hpos, hf, ih n (by omega)]
end Sb

set_option Elab.async false
set_option linter.all false
set_option maxRecDepth 100000
set_option maxHeartbeats 4000000
namespace Sb
open PySem L2
/-! ### count: the law's -/
theorem l_count_eq {σ : Sch} (ok : σ.Ids) {p : Part} {d : D} {m c : Nat} (v : Val σ p d m c) : ∀ n, m < n → ∀ s, M_l_count n [.d σ.enc, .d p.enc, .d d] s = some (.d (.int (c : Int)), s) := by
  induction v with
  | leaf h =>
    intro n hn s
    cases n with
    | zero => omega
    | succ n => simp [M_l_count, G_l_count, ap_runM]
  | @list nn p lo hi items hb _ hlo hhi ih =>
    intro n hn s
    cases n with
    | zero => omega
    | succ n =>
      have hB : hi ≤ 1000 := ok _ _ hb
      have key := compD_all (T := .one 5) (E := dCall (M_l_count n) [oVar 0, dIx (oVar 3) (dC (.int 1)), oVar 5]) (ρ := [some (.d σ.enc), some (.d (.str nn)), some (.d (.tup (items.map (·.1)))), some (.d (Body.lst p lo hi).enc), some (.own [.int 1]), none, none]) (s := s)
        (fun x : Item => x.1) (fun x => .int (x.2.2 : Int)) items fun x hx => ⟨_, rfl, by
          have hm := mem_mx (List.mem_map_of_mem (f := fun x : Item => x.2.1) hx)
          simp [ih x hx n (by omega)]⟩
      simp only [enc_lst] at key
      have hl : items.length ≤ 100000 := by omega
      have hl2 : 1 + items.length ≤ 100000 := by omega
      simp [M_l_count, G_l_count, ap_runM, l_body_of_eq hb, hl, hl2, key]
  | @rcd nn fs ret vals hb he ho _ ih =>
    intro n hn s
    cases n with
    | zero => omega
    | succ n =>
      have hAL : Asc 0 (fs.map fun f : Field => f.id) ∧ fs.length ≤ 1000 := ok _ _ hb
      obtain ⟨hA, hL⟩ := hAL
      have hL2 : (chosen vals).length ≤ 1000 := by
        have h1 := chosen_len vals
        have h2 : vals.length = fs.length := by rw [← he, List.length_map]
        omega
      have key := compD_all (T := .one 6) (E := dCall (M_l_count n) [oVar 0, dCall M_l_part_of [oVar 3, dIx (oVar 6) (dC (.int 0))], dIx (oVar 6) (dC (.int 1))]) (ρ := [some (.d σ.enc), some (.d (.str nn)), some (.d (.tup ((chosen vals).map entry))), some (.d (Body.rcd fs ret).enc), some (.own [.int 1]), none, none]) (s := s)
        entry (fun x => .int (x.2.2.2 : Int)) (chosen vals) fun x hx => ⟨_, rfl, by
          have hm := mem_mx (List.mem_map_of_mem (f := fun x : Field × Item => x.2.2.1) hx)
          have hf := field_of (ret := ret) (asc_find (fun f : Field => f.id) hA x.1 (by rw [← he]; exact chosen_mem hx)) s
          rw [← l_part_of_same] at hf
          simp only [enc_rcd] at hf
          simp [entry, hf, ih x hx n (by omega)]⟩
      simp only [enc_rcd] at key
      have hl : (chosen vals).length ≤ 100000 := by omega
      have hl2 : 1 + (chosen vals).length ≤ 100000 := by omega
      simp [M_l_count, G_l_count, ap_runM, l_body_of_eq hb, hl, hl2, key]
  | unk hb =>
    intro n hn s
    cases n with
    | zero => omega
    | succ n => simp [M_l_count, G_l_count, ap_runM, l_body_of_eq hb]
  | @case nn cs ret op i p d m c hb hi _ ih =>
    intro n hn s
    cases n with
    | zero => omega
    | succ n =>
      have hAL : Asc 0 (cs.map fun c : Int × Part => c.1) ∧ cs.length ≤ 1000 := ok _ _ hb
      obtain ⟨hA, hL⟩ := hAL
      have hpos : 0 < i := asc_lt hA i (List.mem_map_of_mem (f := fun x : Int × Part => x.1) hi)
      have hf := case_of (ret := ret) (op := op) (asc_find (fun c : Int × Part => c.1) hA (i, p) hi) s
      rw [← l_part_of_same] at hf
      simp only [enc_uni] at hf
      simp [M_l_count, G_l_count, ap_runM, l_body_of_eq hb, hpos, hf, ih n (by omega)]
/-! ### depth, count: the program's -/
/-- what stands within a value -/
inductive Kids (σ : Sch) : Str → D → List (Part × Item) → Prop
  | list {n : Str} {p : Part} {lo hi : Int} (items : List Item) : σ.body n = some (.lst p lo hi) → (items.length : Int) ≤ hi → Kids σ n (.tup (items.map (·.1))) (items.map fun x => (p, x))
  | rcd {n : Str} {fs : List Field} {ret : List Int} (vals : List (Field × Option Item)) : σ.body n = some (.rcd fs ret) → vals.map (·.1) = fs → Kids σ n (.tup ((chosen vals).map entry)) ((chosen vals).map fun x => (x.1.part, x.2))
  | unk {n : Str} {cs : List (Int × Part)} {ret : List Int} {op : Bool} : σ.body n = some (.uni cs ret op) → Kids σ n (.tup [.int 0, .non]) []
  | case {n : Str} {cs : List (Int × Part)} {ret : List Int} {op : Bool} {i : Int} {p : Part} {d : D} {m c : Nat} : σ.body n = some (.uni cs ret op) → (i, p) ∈ cs → Kids σ n (.tup [.int i, d]) [(p, d, m, c)]
def kidEnc (k : Part × Item) : D := .tup [k.1.enc, k.2.1]
theorem inner_eq {σ : Sch} (ok : σ.Ids) {n : Str} {d : D} {ks : List (Part × Item)} (h : Kids σ n d ks) (s : S) : ∃ b, σ.body n = some b ∧ M_inner_values [.d b.enc, .d d] s = some (.r (ks.map kidEnc), s) := by
  cases h with
  | @list p lo hi items hb hhi =>
    refine ⟨_, hb, ?_⟩
    have hB : hi ≤ 1000 := ok _ _ hb
    have hl : items.length ≤ 100000 := by omega
    have key := compD_all (T := .one 2) (E := dTup [dIx (oVar 0) (dC (.int 1)), oVar 2]) (ρ := [some (.d (Body.lst p lo hi).enc), some (.d (.tup (items.map (·.1)))), none, none, none]) (s := s)
      (fun x : Item => x.1) (fun x => .tup [p.enc, x.1]) items fun x hx => ⟨_, rfl, by simp⟩
    simp only [enc_lst] at key
    simp [M_inner_values, G_inner_values, ap_runM, hl, key, kidEnc, Function.comp_def]
  | @rcd fs ret vals hb he =>
    refine ⟨_, hb, ?_⟩
    have hAL : Asc 0 (fs.map fun f : Field => f.id) ∧ fs.length ≤ 1000 := ok _ _ hb
    obtain ⟨hA, hL⟩ := hAL
    have hl : (chosen vals).length ≤ 100000 := by
      have h1 := chosen_len vals
      have h2 : vals.length = fs.length := by rw [← he, List.length_map]
      omega
    have key := compD_all (T := .many [3, 4]) (E := dTup [dCall M_part_of_id [oVar 0, oVar 3], oVar 4]) (ρ := [some (.d (Body.rcd fs ret).enc), some (.d (.tup ((chosen vals).map entry))), none, none, none]) (s := s)
      entry (fun x => .tup [x.1.part.enc, x.2.1]) (chosen vals) fun x hx => ⟨_, rfl, by
        have hf := field_of (ret := ret) (asc_find (fun f : Field => f.id) hA x.1 (by rw [← he]; exact chosen_mem hx)) s
        simp only [enc_rcd] at hf
        simp [entry, hf]⟩
    simp only [enc_rcd] at key
    simp [M_inner_values, G_inner_values, ap_runM, hl, key, kidEnc, Function.comp_def]
  | @unk cs ret op hb =>
    refine ⟨_, hb, ?_⟩
    simp [M_inner_values, G_inner_values, ap_runM, fEqU, eq0D, isNonD]
  | @case cs ret op i p d m c hb hi =>
    refine ⟨_, hb, ?_⟩
    have hAL : Asc 0 (cs.map fun c : Int × Part => c.1) ∧ cs.length ≤ 1000 := ok _ _ hb
    obtain ⟨hA, hL⟩ := hAL
    have hpos : 0 < i := asc_lt hA i (List.mem_map_of_mem (f := fun x : Int × Part => x.1) hi)
    have hf := case_of (ret := ret) (op := op) (asc_find (fun c : Int × Part => c.1) hA (i, p) hi) s
    simp only [enc_uni] at hf
    have hne : ¬ i = 0 := by omega
    simp [M_inner_values, G_inner_values, ap_runM, fEqU, eq0D, hne, hf, kidEnc]
theorem val_kids {σ : Sch} {n : Str} {d : D} {m c : Nat} (v : Val σ (.nm n) d m c) : ∃ ks, Kids σ n d ks ∧ (∀ k ∈ ks, Val σ k.1 k.2.1 k.2.2.1 k.2.2.2) ∧ m = 1 + mx (ks.map fun k => k.2.2.1) ∧ c = 1 + (ks.map fun k => k.2.2.2).sum := by
  cases v with
  | @list _ p lo hi items hb hv _ hhi =>
    refine ⟨_, .list items hb hhi, fun k hk => ?_, ?_, ?_⟩
    · obtain ⟨x, hx, rfl⟩ := List.mem_map.mp hk
      exact hv x hx
    · simp [Function.comp_def]
    · simp [Function.comp_def]
  | @rcd _ fs ret vals hb he ho hv =>
    refine ⟨_, .rcd vals hb he, fun k hk => ?_, ?_, ?_⟩
    · obtain ⟨x, hx, rfl⟩ := List.mem_map.mp hk
      exact hv x hx
    · simp [Function.comp_def]
    · simp [Function.comp_def]
  | @unk _ cs ret hb => exact ⟨_, .unk hb, fun _ h => (by cases h), rfl, rfl⟩
  | @case _ cs ret op i p d m c hb hi hv => exact ⟨[(p, d, m, c)], .case hb hi, fun k hk => (by cases hk with | head => exact hv | tail _ h => cases h), by simp [mx], by simp⟩
theorem depth_eq {σ : Sch} (ok : σ.Ids) : ∀ (n : Nat) {p : Part} {d : D} {m c : Nat}, Val σ p d m c → m < n → ∀ s, M_depth n [.d σ.enc, .d p.enc, .d d] s = some (.d (.int (m : Int)), s) := by
  intro n
  induction n with
  | zero => intro p d m c _ h; omega
  | succ n ih =>
    intro p d m c v hn s
    cases p with
    | lf l =>
      cases v with
      | leaf h => simp [M_depth, G_depth, ap_runM]
    | nm nn =>
      obtain ⟨ks, hk, hv, em, ec⟩ := val_kids v
      obtain ⟨b, hb, hi⟩ := inner_eq ok hk s
      have key : ∀ (l : List (Part × Item)) (a : Nat) (x y : Option SV), (∀ k ∈ l, Val σ k.1 k.2.1 k.2.2.1 k.2.2.2 ∧ k.2.2.1 < n) → ∃ x' y', forD (.many [4, 5]) (sSet 3 (dBu maxD [oVar 3, dCall (M_depth n) [oVar 0, oVar 4, oVar 5]])) (l.map kidEnc) [some (.d σ.enc), some (.d (.str nn)), some (.d d), some (.d (.int (a : Int))), x, y] s = some (.nx [some (.d σ.enc), some (.d (.str nn)), some (.d d), some (.d (.int ((max a (mx (l.map fun k => k.2.2.1)) : Nat) : Int))), x', y'] s) := by
        intro l
        induction l with
        | nil => intro a x y _; exact ⟨x, y, by simp [mx]⟩
        | cons k l ihl =>
          intro a x y hl
          obtain ⟨h1, h2⟩ := hl k List.mem_cons_self
          obtain ⟨x', y', e⟩ := ihl (max a k.2.2.1) (some (.d k.1.enc)) (some (.d k.2.1)) fun k hk => hl k (List.mem_cons_of_mem _ hk)
          refine ⟨x', y', ?_⟩
          have e1 : (if a < k.2.2.1 then (k.2.2.1 : Int) else (a : Int)) = ((max a k.2.2.1 : Nat) : Int) := by split <;> omega
          have e2 : max a (mx ((k :: l).map fun k => k.2.2.1)) = max (max a k.2.2.1) (mx (l.map fun k => k.2.2.1)) := by
            show max a (max k.2.2.1 (mx _)) = _
            omega
          rw [e2, ← e]
          simp [ap_forD1, kidEnc, ih h1 h2, e1]
      obtain ⟨x', y', e⟩ := key ks 0 none none fun k hk => ⟨hv k hk, by
        have := mem_mx (List.mem_map_of_mem (f := fun k : Part × Item => k.2.2.1) hk)
        omega⟩
      have e0 : max 0 (mx (ks.map fun k => k.2.2.1)) = mx (ks.map fun k => k.2.2.1) := by omega
      rw [e0] at e
      simp only [Int.natCast_zero] at e
      simp [M_depth, G_depth, ap_runM, body_of_eq hb, hi, em]
      rw [e]
      simp
      omega
theorem value_count_eq {σ : Sch} (ok : σ.Ids) : ∀ (n : Nat) {p : Part} {d : D} {m c : Nat}, Val σ p d m c → m < n → ∀ s, M_value_count n [.d σ.enc, .d p.enc, .d d] s = some (.d (.int (c : Int)), s) := by
  intro n
  induction n with
  | zero => intro p d m c _ h; omega
  | succ n ih =>
    intro p d m c v hn s
    cases p with
    | lf l =>
      cases v with
      | leaf h => simp [M_value_count, G_value_count, ap_runM]
    | nm nn =>
      obtain ⟨ks, hk, hv, em, ec⟩ := val_kids v
      obtain ⟨b, hb, hi⟩ := inner_eq ok hk s
      have key : ∀ (l : List (Part × Item)) (a : Nat) (x y : Option SV), (∀ k ∈ l, Val σ k.1 k.2.1 k.2.2.1 k.2.2.2 ∧ k.2.2.1 < n) → ∃ x' y', forD (.many [4, 5]) (sSet 3 (d2 fAdd (dVar 3) (dCall (M_value_count n) [oVar 0, oVar 4, oVar 5]))) (l.map kidEnc) [some (.d σ.enc), some (.d (.str nn)), some (.d d), some (.d (.int (a : Int))), x, y] s = some (.nx [some (.d σ.enc), some (.d (.str nn)), some (.d d), some (.d (.int ((a + (l.map fun k => k.2.2.2).sum : Nat) : Int))), x', y'] s) := by
        intro l
        induction l with
        | nil => intro a x y _; exact ⟨x, y, by simp⟩
        | cons k l ihl =>
          intro a x y hl
          obtain ⟨h1, h2⟩ := hl k List.mem_cons_self
          obtain ⟨x', y', e⟩ := ihl (a + k.2.2.2) (some (.d k.1.enc)) (some (.d k.2.1)) fun k hk => hl k (List.mem_cons_of_mem _ hk)
          refine ⟨x', y', ?_⟩
          have e2 : a + ((k :: l).map fun k => k.2.2.2).sum = a + k.2.2.2 + (l.map fun k => k.2.2.2).sum := by
            rw [List.map_cons, List.sum_cons]
            omega
          rw [e2, ← e]
          simp [ap_forD1, kidEnc, ih h1 h2]
      obtain ⟨x', y', e⟩ := key ks 1 none none fun k hk => ⟨hv k hk, by
        have := mem_mx (List.mem_map_of_mem (f := fun k : Part × Item => k.2.2.1) hk)
        omega⟩
      rw [show ((1 : Nat) : Int) = 1 from rfl] at e
      simp [M_value_count, G_value_count, ap_runM, body_of_eq hb, hi, ec]
      rw [e]
      simp
end Sb

set_option Elab.async false
set_option linter.all false
set_option maxRecDepth 100000
set_option maxHeartbeats 4000000
namespace Sb
open PySem L2
/-! ### membership: the program's -/
@[simp] theorem ix_nat {ds : List D} {k : Nat} : ixD (.d (.tup ds)) (k : Int) = ds[k]? := by
  unfold ixD
  rw [if_pos (by omega)]
  simp
@[simp] theorem is_entry_eq {i j : Int} {y : D} {s : S} : M_is_entry [.d (.tup [.int i, y]), .d (.int j)] s = some (.d (.bl (decide (i = j))), s) := by
  simp [M_is_entry, G_is_entry, ap_runM]
@[simp] theorem l_is_entry_eq {i : Int} {y : D} {s : S} : M_l_is_entry [.d (.tup [.int i, y])] s = some (.d (.bl true), s) := by
  simp [M_l_is_entry, G_l_is_entry, ap_runM]
theorem all_nx {T : Tgt} {P : BF} {ρ0 : Env} {i : Nat} : True := trivial
theorem asc_weak : ∀ {l : List Int} {a b : Int}, a ≤ b → Asc b l → Asc a l
  | [], _, _, _, _ => trivial
  | i :: l, a, b, h, k => ⟨Int.lt_of_le_of_lt h k.1, k.2⟩
theorem asc_chosen : ∀ {vals : List (Field × Option Item)} {a : Int}, Asc a ((vals.map (·.1)).map fun f : Field => f.id) → Asc a ((chosen vals).map fun x => x.1.id)
  | [], _, _ => trivial
  | (f, none) :: vals, a, h => asc_chosen (vals := vals) (asc_weak (Int.le_of_lt h.1) h.2)
  | (f, some y) :: vals, a, h => ⟨h.1, asc_chosen (vals := vals) h.2⟩
theorem is_list_of_eq {σ : Sch} {p : Part} {lo hi : Int} {items : List Item} {n : Nat} (h1 : lo ≤ (items.length : Int)) (h2 : (items.length : Int) ≤ hi) (s : S) (ih : ∀ x ∈ items, M_is_of n [.d σ.enc, .d p.enc, .d x.1] s = some (.d (.bl true), s)) :
    M_is_list_of (M_is_of n) [.d σ.enc, .d (Body.lst p lo hi).enc, .d (.tup (items.map (·.1)))] s = some (.d (.bl true), s) := by
  have key : ∀ (l : List Item) (x : Option SV), (∀ x ∈ l, M_is_of n [.d σ.enc, .d p.enc, .d x.1] s = some (.d (.bl true), s)) → ∃ x', forD (.one 3) (sIf (bNot (bOf (dCall (M_is_of n) [(oVar 0), (dIx (oVar 1) (dC (.int 1))), (oVar 3)]))) (sRet (dC (.bl false))) sNil) (l.map (·.1)) [some (.d σ.enc), some (.d (Body.lst p lo hi).enc), some (.d (.tup (items.map (·.1)))), x] s = some (.nx [some (.d σ.enc), some (.d (Body.lst p lo hi).enc), some (.d (.tup (items.map (·.1)))), x'] s) := by
    intro l
    induction l with
    | nil => exact fun x _ => ⟨x, rfl⟩
    | cons y l ihl =>
      intro x hl
      obtain ⟨x', e⟩ := ihl (some (.d y.1)) fun z hz => hl z (List.mem_cons_of_mem _ hz)
      refine ⟨x', ?_⟩
      rw [← e]
      simp [ap_forD1, hl y List.mem_cons_self]
  obtain ⟨x', e⟩ := key items none ih
  simp only [enc_lst] at e
  simp [M_is_list_of, G_is_list_of, ap_runM, h1, h2]
  rw [e]
  simp
theorem is_record_of_eq {σ : Sch} {fs : List Field} {ret : List Int} {vals : List (Field × Option Item)} {n : Nat} (hA : Asc 0 (fs.map fun f : Field => f.id)) (he : vals.map (·.1) = fs) (ho : ∀ x ∈ vals, x.2 = none → x.1.mode = .opt) (s : S)
    (ih : ∀ x ∈ chosen vals, M_is_of n [.d σ.enc, .d x.1.part.enc, .d x.2.1] s = some (.d (.bl true), s)) :
    M_is_record_of (M_is_of n) [.d σ.enc, .d (Body.rcd fs ret).enc, .d (.tup ((chosen vals).map entry))] s = some (.d (.bl true), s) := by
  obtain ⟨V, hV⟩ : ∃ V : List D, V = (chosen vals).map entry := ⟨_, rfl⟩
  have key : ∀ (suf : List (Field × Option Item)) (a : Int) (pre : List D) (x4 x5 x6 x7 : Option SV), V = pre ++ (chosen suf).map entry → Asc a ((suf.map (·.1)).map fun f : Field => f.id) → (∀ x ∈ suf, x.2 = none → x.1.mode = .opt) → (∀ x ∈ chosen suf, M_is_of n [.d σ.enc, .d x.1.part.enc, .d x.2.1] s = some (.d (.bl true), s)) →
      ∃ x4' x5' x6' x7', forD (.many [4, 5, 6, 7]) (sIf (bAnd (bOf (d2 fLt (dVar 3) (dBu lenD [(oVar 2)]))) (bOf (dCall M_is_entry [(dIx (oVar 2) (dVar 3)), (oVar 4)])))
        (sSeq (sIf (bNot (bOf (dCall (M_is_of n) [(oVar 0), (oVar 5), (dIx (dIx (oVar 2) (dVar 3)) (dC (.int 1)))]))) (sRet (dC (.bl false))) sNil) (sAug 3 (dC (.int 1))))
        (sIf (bOf (d2 fNe (dVar 6) (dC (.str "optional")))) (sRet (dC (.bl false))) sNil)) ((suf.map (·.1)).map Field.enc) [some (.d σ.enc), some (.d (Body.rcd fs ret).enc), some (.d (.tup V)), some (.d (.int (pre.length : Int))), x4, x5, x6, x7] s
        = some (.nx [some (.d σ.enc), some (.d (Body.rcd fs ret).enc), some (.d (.tup V)), some (.d (.int (V.length : Int))), x4', x5', x6', x7'] s) := by
    intro suf
    induction suf with
    | nil =>
      intro a pre x4 x5 x6 x7 hv _ _ _
      have e : V = pre := by rw [hv]; simp [chosen]
      rw [e]
      exact ⟨x4, x5, x6, x7, rfl⟩
    | cons z suf ihs =>
      intro a pre x4 x5 x6 x7 hv hAs hos his
      obtain ⟨f, o⟩ := z
      have hAs' : a < f.id ∧ Asc f.id ((suf.map (·.1)).map fun f : Field => f.id) := hAs
      cases o with
      | none =>
        have hm : f.mode = .opt := hos (f, none) List.mem_cons_self rfl
        have hc : chosen ((f, none) :: suf) = chosen suf := rfl
        rw [hc] at hv his
        obtain ⟨x4', x5', x6', x7', e⟩ := ihs f.id pre (some (.d (.int f.id))) (some (.d f.part.enc)) (some (.d (.str "optional"))) (some (.d f.dflt)) hv hAs'.2 (fun x hx => hos x (List.mem_cons_of_mem _ hx)) his
        refine ⟨x4', x5', x6', x7', ?_⟩
        rw [← e]
        cases hcs : chosen suf with
        | nil =>
          have hv2 : V = pre := by rw [hv, hcs]; simp
          simp [ap_forD1, Field.enc, hv2, hm, Mode.enc]
        | cons y r =>
          have hlt : f.id < y.1.id := by
            have := asc_chosen hAs'.2
            rw [hcs] at this
            exact this.1
          have hne : ¬ y.1.id = f.id := by omega
          have hg : V[pre.length]? = some (entry y) := by rw [hv, hcs]; simp
          obtain ⟨hl, hg2⟩ := List.getElem?_eq_some_iff.mp hg
          simp [ap_forD1, Field.enc, hl, hg2, entry, hne, hm, Mode.enc]
      | some y =>
        have hc : chosen ((f, some y) :: suf) = (f, y) :: chosen suf := rfl
        rw [hc] at hv his
        have hv2 : V = (pre ++ [entry (f, y)]) ++ (chosen suf).map entry := by rw [hv]; simp
        obtain ⟨x4', x5', x6', x7', e⟩ := ihs f.id (pre ++ [entry (f, y)]) (some (.d (.int f.id))) (some (.d f.part.enc)) (some (.d (.str f.mode.enc))) (some (.d f.dflt)) hv2 hAs'.2 (fun x hx => hos x (List.mem_cons_of_mem _ hx)) (fun x hx => his x (List.mem_cons_of_mem _ hx))
        refine ⟨x4', x5', x6', x7', ?_⟩
        rw [← e]
        have hg : V[pre.length]? = some (entry (f, y)) := by rw [hv]; simp
        obtain ⟨hl, hg2⟩ := List.getElem?_eq_some_iff.mp hg
        have hi := his (f, y) List.mem_cons_self
        simp only at hi
        simp [ap_forD1, Field.enc, hl, hg2, entry, hi]
  obtain ⟨x4, x5, x6, x7, e⟩ := key vals 0 [] none none none none (by rw [hV]; simp) (by rw [he]; exact hA) ho ih
  rw [he] at e
  simp only [enc_rcd, List.length_nil, Int.natCast_zero] at e
  rw [← hV]
  simp [M_is_record_of, G_is_record_of, ap_runM]
  rw [e]
  simp
theorem is_of_eq {σ : Sch} (ok : σ.Ids) {p : Part} {d : D} {m c : Nat} (v : Val σ p d m c) : ∀ n, m < n → ∀ s, M_is_of n [.d σ.enc, .d p.enc, .d d] s = some (.d (.bl true), s) := by
  induction v with
  | leaf h =>
    intro n hn s
    cases n with
    | zero => omega
    | succ n => simp [M_is_of, G_is_of, ap_runM, is_leaf_value_eq h]
  | @list nn p lo hi items hb _ hlo hhi ih =>
    intro n hn s
    cases n with
    | zero => omega
    | succ n =>
      have e := is_list_of_eq (σ := σ) (p := p) (n := n) hlo hhi s fun x hx => ih x hx n (by
        have hm := mem_mx (List.mem_map_of_mem (f := fun x : Item => x.2.1) hx)
        omega) s
      simp only [enc_lst] at e
      simp [M_is_of, G_is_of, ap_runM, body_of_eq hb, e]
  | @rcd nn fs ret vals hb he ho _ ih =>
    intro n hn s
    cases n with
    | zero => omega
    | succ n =>
      have hAL : Asc 0 (fs.map fun f : Field => f.id) ∧ fs.length ≤ 1000 := ok _ _ hb
      have e := is_record_of_eq (σ := σ) (ret := ret) (n := n) hAL.1 he ho s fun x hx => ih x hx n (by
        have hm := mem_mx (List.mem_map_of_mem (f := fun x : Field × Item => x.2.2.1) hx)
        omega) s
      simp only [enc_rcd] at e
      simp [M_is_of, G_is_of, ap_runM, body_of_eq hb, e]
  | unk hb =>
    intro n hn s
    cases n with
    | zero => omega
    | succ n => simp [M_is_of, G_is_of, ap_runM, body_of_eq hb, M_is_union_of, G_is_union_of, fEqU, eq0D, isNonD]
  | @case nn cs ret op i p d m c hb hi _ ih =>
    intro n hn s
    cases n with
    | zero => omega
    | succ n =>
      have hAL : Asc 0 (cs.map fun c : Int × Part => c.1) ∧ cs.length ≤ 1000 := ok _ _ hb
      obtain ⟨hA, hL⟩ := hAL
      have hpos : 0 < i := asc_lt hA i (List.mem_map_of_mem (f := fun x : Int × Part => x.1) hi)
      have hne : ¬ i = 0 := by omega
      have hv := ih n (by omega) s
      have key : ∀ (l : List (Int × Part)) (a : Int) (x y : Option SV) (B : SV), Asc a (l.map fun c : Int × Part => c.1) → (i, p) ∈ l → forD (.many [3, 4]) (sIf (bOf (dCall M_is_entry [(oVar 2), (oVar 3)])) (sRet (dCall (M_is_of n) [(oVar 0), (oVar 4), (dIx (oVar 2) (dC (.int 1)))])) sNil) (l.map caseEnc) [some (.d σ.enc), some B, some (.d (.tup [.int i, d])), x, y] s = some (.rt (.d (.bl true)) s) := by
        intro l
        induction l with
        | nil => intro a x y B _ h; cases h
        | cons z l ihl =>
          intro a x y B h1 h2
          by_cases e : i = z.1
          · have ez : z = (i, p) := by
              rcases List.mem_cons.mp h2 with q | q
              · exact q.symm
              · have := asc_lt h1.2 i (List.mem_map_of_mem (f := fun x : Int × Part => x.1) q)
                have e' : z.1 < i := this
                omega
            subst ez
            simp [ap_forD1, caseEnc, hv]
          · have hm : (i, p) ∈ l := by
              rcases List.mem_cons.mp h2 with q | q
              · rw [← q] at e; exact absurd rfl e
              · exact q
            have := ihl z.1 (some (.d (.int z.1))) (some (.d z.2.enc)) B h1.2 hm
            rw [← this]
            simp [ap_forD1, caseEnc, e]
      have e := key cs 0 none none (.d (Body.uni cs ret op).enc) hA hi
      simp only [enc_uni] at e
      simp [M_is_of, G_is_of, ap_runM, body_of_eq hb, M_is_union_of, G_is_union_of, fEqU, eq0D, isNonD, hne]
      rw [e]
      simp
end Sb

set_option Elab.async false
set_option linter.all false
set_option maxRecDepth 100000
set_option maxHeartbeats 4000000
namespace Sb
open PySem L2
/-! ### membership: the law's -/
theorem live_rcd {fs : List Field} {ret : List Int} (h : fs.length ≤ 1000) (s : S) : M_l_live [.d (Body.rcd fs ret).enc] s = some (.r ((fs.map fun f : Field => f.id).map D.int), s) := by
  have key := compD_all (T := .one 1) (E := dIx (oVar 1) (dC (.int 0))) (ρ := [some (.d (Body.rcd fs ret).enc), none]) (s := s) Field.enc (fun f => .int f.id) fs fun x hx => ⟨_, rfl, by simp [Field.enc]⟩
  have hl : fs.length ≤ 100000 := by omega
  have hne : ¬ ("record" : Str) = "choice" := by decide +kernel
  simp only [enc_rcd] at key
  simp [M_l_live, G_l_live, ap_runM, hl, key, hne, Function.comp_def]
theorem live_uni {cs : List (Int × Part)} {ret : List Int} {op : Bool} (h : cs.length ≤ 1000) (s : S) : M_l_live [.d (Body.uni cs ret op).enc] s = some (.r ((cs.map fun c : Int × Part => c.1).map D.int), s) := by
  have key := compD_all (T := .one 1) (E := dIx (oVar 1) (dC (.int 0))) (ρ := [some (.d (Body.uni cs ret op).enc), none]) (s := s) caseEnc (fun f => .int f.1) cs fun x hx => ⟨_, rfl, by simp [caseEnc]⟩
  have hl : cs.length ≤ 100000 := by omega
  have hne : ¬ ("union" : Str) = "choice" := by decide +kernel
  simp only [enc_uni] at key
  simp [M_l_live, G_l_live, ap_runM, hl, key, hne, Function.comp_def]
theorem l_is_record_value_eq {σ : Sch} {fs : List Field} {ret : List Int} {vals : List (Field × Option Item)} {n : Nat} (hA : Asc 0 (fs.map fun f : Field => f.id)) (hL : fs.length ≤ 1000) (he : vals.map (·.1) = fs) (ho : ∀ x ∈ vals, x.2 = none → x.1.mode = .opt) (s : S)
    (ih : ∀ x ∈ chosen vals, M_l_is_of n [.d σ.enc, .d x.1.part.enc, .d x.2.1] s = some (.d (.bl true), s)) :
    M_l_is_record_value (M_l_is_of n) [.d σ.enc, .d (Body.rcd fs ret).enc, .d (.tup ((chosen vals).map entry))] s = some (.d (.bl true), s) := by
  have hcl : (chosen vals).length ≤ 1000 := by
    have h1 := chosen_len vals
    have h2 : vals.length = fs.length := by rw [← he, List.length_map]
    omega
  have key : ∀ (l : List (Field × Item)) (a : Int) (ids : List Int) (x5 x6 : Option SV) (V : D), ids.length + l.length ≤ 1000 → Asc a (l.map fun x => x.1.id) → (∀ x ∈ l, x.1 ∈ fs) → (∀ x ∈ l, M_l_is_of n [.d σ.enc, .d x.1.part.enc, .d x.2.1] s = some (.d (.bl true), s)) →
      ∃ a' x5', forD (.one 5) (sSeq (sIf (bOr (bNot (bOf (dCall M_l_is_entry [(oVar 5)]))) (bOr (bOf (d2 fLe (dIx (oVar 5) (dC (.int 0))) (dVar 3))) (bOf (dIn true (dIx (oVar 5) (dC (.int 0))) (dCall M_l_live [(oVar 1)])))))
        (sRet (dC (.bl false)))
        sNil)
        (sSeq (sSet 3 (dIx (oVar 5) (dC (.int 0))))
        (sSeq (sApp 4 (dVar 3))
        (sIf (bNot (bOf (dCall (M_l_is_of n) [(oVar 0), (dCall M_l_part_of [(oVar 1), (oVar 3)]), (dIx (oVar 5) (dC (.int 1)))])))
        (sRet (dC (.bl false)))
        sNil)))) (l.map entry) [some (.d σ.enc), some (.d (Body.rcd fs ret).enc), some (.d V), some (.d (.int a)), some (.own (ids.map D.int)), x5, x6] s
        = some (.nx [some (.d σ.enc), some (.d (Body.rcd fs ret).enc), some (.d V), some (.d (.int a')), some (.own ((ids ++ l.map fun x => x.1.id).map D.int)), x5', x6] s) := by
    intro l
    induction l with
    | nil => intro a ids x5 x6 V _ _ _ _; exact ⟨a, x5, by simp⟩
    | cons y l ihl =>
      intro a ids x5 x6 V hlen hAs hfs hv
      have hAs' : a < y.1.id ∧ Asc y.1.id (l.map fun x : Field × Item => x.1.id) := hAs
      obtain ⟨h1, h2⟩ := hAs'
      rw [List.length_cons] at hlen
      obtain ⟨a', x5', e⟩ := ihl y.1.id (ids ++ [y.1.id]) (some (.d (entry y))) x6 V (by rw [List.length_append]; simp; omega) h2 (fun x hx => hfs x (List.mem_cons_of_mem _ hx)) (fun x hx => hv x (List.mem_cons_of_mem _ hx))
      refine ⟨a', x5', ?_⟩
      have hll : ids.length ≤ 100000 := by omega
      have hmem : y.1.id ∈ fs.map fun f : Field => f.id := List.mem_map_of_mem (f := fun f : Field => f.id) (hfs y List.mem_cons_self)
      have hf := field_of (ret := ret) (asc_find (fun f : Field => f.id) hA y.1 (hfs y List.mem_cons_self)) s
      rw [← l_part_of_same] at hf
      have hlv := live_rcd (ret := ret) hL s
      simp only [enc_rcd] at hf hlv e ⊢
      have hle : ¬ y.1.id ≤ a := by omega
      have hi := hv y List.mem_cons_self
      have e2 : ids ++ (y :: l).map (fun x => x.1.id) = (ids ++ [y.1.id]) ++ l.map fun x => x.1.id := by simp
      rw [e2, ← e]
      have hin := in_ints (neg := true) (v := y.1.id) (ys := fs.map fun f : Field => f.id)
      rw [decide_eq_true hmem] at hin
      simp [ap_forD1, entry, hle, hlv, hf, hi, hll] at hin ⊢
      simp [hin, hll, hf, hi, hlv]
  obtain ⟨a', x5', e⟩ := key (chosen vals) 0 [] none none (.tup ((chosen vals).map entry)) (by simpa using hcl) (asc_chosen (by rw [he]; exact hA)) (fun x hx => by rw [← he]; exact chosen_mem hx) ih
  simp only [enc_rcd, List.map_nil, List.nil_append] at e
  have key2 := compD_if (T := .one 6) (P := bAnd (bOf (d2 fNe (dIx (oVar 6) (dC (.int 2))) (dC (.str "optional")))) (bOf (dIn true (dIx (oVar 6) (dC (.int 0))) (oVar 4)))) (E := dVar 6)
    (ρ := [some (.d σ.enc), some (.d (.tup [.str "record", .tup (fs.map Field.enc), .tup (ret.map D.int)])), some (.d (.tup ((chosen vals).map entry))), some (.d (.int a')), some (.own (((chosen vals).map fun x => x.1.id).map D.int)), x5', none]) (s := s)
    Field.enc Field.enc (fun _ => false) fs fun f hf => ⟨_, rfl, by
      rw [← he] at hf
      obtain ⟨z, hz, ez⟩ := List.mem_map.mp hf
      cases ho' : z.2 with
      | none =>
        have hm := ho z hz ho'
        rw [ez] at hm
        simp [Field.enc, hm, Mode.enc]
      | some y =>
        have hmem : f.id ∈ (chosen vals).map fun x => x.1.id := by
          refine List.mem_map.mpr ⟨(f, y), List.mem_filterMap.mpr ⟨z, hz, ?_⟩, rfl⟩
          rw [ho', ← ez]
          rfl
        have hin := in_ints (neg := true) (v := f.id) (ys := (chosen vals).map fun x => x.1.id)
        rw [decide_eq_true hmem] at hin
        simp [Field.enc] at hin ⊢
        rw [hin]
        simp, fun h => by cases h⟩
  have hl : fs.length ≤ 100000 := by omega
  simp [M_l_is_record_value, G_l_is_record_value, ap_runM]
  simp at e
  rw [e]
  simp [hl]
  simp at key2
  rw [key2]
  simp
theorem l_is_of_eq {σ : Sch} (ok : σ.Ids) {p : Part} {d : D} {m c : Nat} (v : Val σ p d m c) : ∀ n, m < n → ∀ s, M_l_is_of n [.d σ.enc, .d p.enc, .d d] s = some (.d (.bl true), s) := by
  induction v with
  | leaf h =>
    intro n hn s
    cases n with
    | zero => omega
    | succ n => simp [M_l_is_of, G_l_is_of, ap_runM, l_is_leaf_value_eq h]
  | @list nn p lo hi items hb _ hlo hhi ih =>
    intro n hn s
    cases n with
    | zero => omega
    | succ n =>
      have key : ∀ (l : List Item) (x y : Option SV) (V : D), (∀ x ∈ l, M_l_is_of n [.d σ.enc, .d p.enc, .d x.1] s = some (.d (.bl true), s)) → ∃ x', forD (.one 4) (sIf (bNot (bOf (dCall (M_l_is_of n) [(oVar 0), (dIx (oVar 3) (dC (.int 1))), (oVar 4)]))) (sRet (dC (.bl false))) sNil) (l.map (·.1)) [some (.d σ.enc), some (.d (.str nn)), some (.d V), some (.d (Body.lst p lo hi).enc), x] s = some (.nx [some (.d σ.enc), some (.d (.str nn)), some (.d V), some (.d (Body.lst p lo hi).enc), x'] s) := by
        intro l
        induction l with
        | nil => exact fun x _ _ _ => ⟨x, rfl⟩
        | cons z l ihl =>
          intro x y V hl
          obtain ⟨x', e⟩ := ihl (some (.d z.1)) y V fun w hw => hl w (List.mem_cons_of_mem _ hw)
          refine ⟨x', ?_⟩
          rw [← e]
          simp [ap_forD1, hl z List.mem_cons_self]
      obtain ⟨x', e⟩ := key items none none (.tup (items.map (·.1))) fun x hx => ih x hx n (by
        have hm := mem_mx (List.mem_map_of_mem (f := fun x : Item => x.2.1) hx)
        omega) s
      simp only [enc_lst] at e
      have h1 : ¬ (items.length : Int) < lo := by omega
      have h2 : ¬ hi < (items.length : Int) := by omega
      simp [M_l_is_of, G_l_is_of, ap_runM, l_body_of_eq hb, h1, h2]
      rw [e]
      simp
  | @rcd nn fs ret vals hb he ho _ ih =>
    intro n hn s
    cases n with
    | zero => omega
    | succ n =>
      have hAL : Asc 0 (fs.map fun f : Field => f.id) ∧ fs.length ≤ 1000 := ok _ _ hb
      have e := l_is_record_value_eq (σ := σ) (ret := ret) (n := n) hAL.1 hAL.2 he ho s fun x hx => ih x hx n (by
        have hm := mem_mx (List.mem_map_of_mem (f := fun x : Field × Item => x.2.2.1) hx)
        omega) s
      simp only [enc_rcd] at e
      simp [M_l_is_of, G_l_is_of, ap_runM, l_body_of_eq hb, e]
  | unk hb =>
    intro n hn s
    cases n with
    | zero => omega
    | succ n => simp [M_l_is_of, G_l_is_of, ap_runM, l_body_of_eq hb, fIsN]
  | @case nn cs ret op i p d m c hb hi _ ih =>
    intro n hn s
    cases n with
    | zero => omega
    | succ n =>
      have hAL : Asc 0 (cs.map fun c : Int × Part => c.1) ∧ cs.length ≤ 1000 := ok _ _ hb
      obtain ⟨hA, hL⟩ := hAL
      have hmem : i ∈ cs.map fun c : Int × Part => c.1 := List.mem_map_of_mem (f := fun x : Int × Part => x.1) hi
      have hpos : 0 < i := asc_lt hA i hmem
      have hne : ¬ i = 0 := by omega
      have hf := case_of (ret := ret) (op := op) (asc_find (fun c : Int × Part => c.1) hA (i, p) hi) s
      rw [← l_part_of_same] at hf
      have hlv := live_uni (ret := ret) (op := op) hL s
      have hin := in_ints (neg := false) (v := i) (ys := cs.map fun c : Int × Part => c.1)
      rw [decide_eq_true hmem] at hin
      simp only [enc_uni] at hf hlv
      simp at hin
      simp [M_l_is_of, G_l_is_of, ap_runM, l_body_of_eq hb, hne, hlv, hin, hf, ih n (by omega) s]
/-! ### the same data -/
mutual
def D.dep : D → Nat
  | .tup ds => 1 + depL ds
  | _ => 0
def depL : List D → Nat
  | [] => 0
  | d :: ds => max d.dep (depL ds)
end
theorem mem_depL : ∀ {ds : List D} {d : D}, d ∈ ds → d.dep ≤ depL ds
  | a :: l, d, h => by
    show d.dep ≤ max a.dep (depL l)
    rcases List.mem_cons.mp h with e | e
    · subst e; omega
    · have := mem_depL e; omega
/-- every tuple within is short -/
inductive Short : D → Prop
  | non : Short .non
  | bl {b} : Short (.bl b)
  | int {i} : Short (.int i)
  | str {z} : Short (.str z)
  | tup {ds} : ds.length ≤ 1000 → (∀ d ∈ ds, Short d) → Short (.tup ds)
theorem l_same_ok : ∀ (n : Nat) (d : D) (s : S), Short d → d.dep < n → M_l_same n [.d d, .d d] s = some (.d (.bl true), s) := by
  intro n
  induction n with
  | zero => intro d s _ h; omega
  | succ n ih =>
    intro d s hs hd
    cases hs with
    | non => simp [M_l_same, G_l_same, ap_runM, fIsN]
    | @bl b => simp [M_l_same, G_l_same, ap_runM, fIsN]
    | @int i => simp [M_l_same, G_l_same, ap_runM, fIsN]
    | @str z => simp [M_l_same, G_l_same, ap_runM, fIsN]
    | @tup ds hl hsub =>
      have hdd : 1 + depL ds < n + 1 := hd
      have key : ∀ (l : List D) (k : Nat) (x : Option SV), ds.drop k = l → ∃ x', forD (.one 2) (sIf (bNot (bOf (dCall (M_l_same n) [(dIx (oVar 0) (dVar 2)), (dIx (oVar 1) (dVar 2))]))) (sRet (dC (.bl false))) sNil) ((List.range' k l.length).map fun (k : Nat) => D.int (k : Int)) [some (.d (.tup ds)), some (.d (.tup ds)), x] s = some (.nx [some (.d (.tup ds)), some (.d (.tup ds)), x'] s) := by
        intro l
        induction l with
        | nil => exact fun k x _ => ⟨x, rfl⟩
        | cons y l ihl =>
          intro k x hk
          have hlt : k < ds.length := by
            have := congrArg List.length hk
            rw [List.length_drop, List.length_cons] at this
            omega
          rw [List.drop_eq_getElem_cons hlt] at hk
          injection hk with h1 h2
          obtain ⟨x', e⟩ := ihl (k + 1) (some (.d (.int (k : Int)))) h2
          refine ⟨x', ?_⟩
          rw [← e, List.length_cons, List.range'_succ]
          have hm : ds[k] ∈ ds := List.getElem_mem hlt
          have hi := ih ds[k] s (hsub _ hm) (by have := mem_depL hm; omega)
          simp [ap_forD1, hlt, hi]
      obtain ⟨x', e⟩ := key ds 0 none rfl
      have er : rangeD 0 (ds.length : Int) = (List.range' 0 ds.length).map fun (k : Nat) => D.int (k : Int) := by
        unfold rangeD
        rw [Int.sub_zero, Int.toNat_natCast, List.range_eq_range']
        refine List.map_congr_left fun k _ => ?_
        rw [Int.zero_add]
      have h1 : (-1000000 : Int) ≤ (ds.length : Int) := by omega
      have h2 : (ds.length : Int) ≤ 1000000 := by omega
      simp [M_l_same, G_l_same, ap_runM, fIsN, iRngF, h1, h2, er]
      rw [e]
      simp
end Sb

set_option Elab.async false
set_option linter.all false
set_option maxRecDepth 100000
set_option maxHeartbeats 4000000
namespace Sb
open PySem L2
/-! ## least depths -/
def Mode.isReq : Mode → Bool
  | .req => true
  | _ => false
def known (kvs : List (Str × Int)) : Part → Bool
  | .nm s => (lookS kvs s).isSome
  | .lf _ => true
/-- a body has a value made of such parts -/
def hasV (k : Part → Bool) : Body → Bool
  | .lst p lo _ => decide (lo = 0) || k p
  | .rcd fs _ => fs.all fun f => !(f.mode.isReq && !k f.part)
  | .uni cs _ op => op || cs.any fun c => k c.2
theorem is_known_eq (kvs : List (Str × Int)) (p : Part) (s : S) : M_is_known [.d p.enc, .n kvs] s = some (.d (.bl (known kvs p)), s) := by
  cases p with
  | nm n => simp [M_is_known, G_is_known, ap_runM, known]
  | lf l => simp [M_is_known, G_is_known, ap_runM, known]
theorem l_is_known_eq (kvs : List (Str × Int)) (p : Part) (s : S) : M_l_is_known [.d p.enc, .n kvs] s = some (.d (.bl (known kvs p)), s) := by
  cases p with
  | nm n => simp [M_l_is_known, G_l_is_known, ap_runM, known]
  | lf l => simp [M_l_is_known, G_l_is_known, ap_runM, known]
theorem mode_req (m : Mode) : decide (m.enc = "required") = m.isReq := by
  cases m <;> simp [Mode.enc, Mode.isReq]
theorem has_value_eq (kvs : List (Str × Int)) (b : Body) (s : S) : M_has_value [.d b.enc, .n kvs] s = some (.d (.bl (hasV (known kvs) b)), s) := by
  cases b with
  | lst p lo hi =>
    by_cases h : lo = 0
    · simp [M_has_value, G_has_value, ap_runM, hasV, h]
    · simp [M_has_value, G_has_value, ap_runM, hasV, h, is_known_eq]
  | rcd fs ret =>
    have key : ∀ (l : List Field) (x2 x3 x4 : Option SV) (B : SV), (∃ y2 y3 y4, forD (.many [2, 3, 4, 2]) (sIf (bAnd (bOf (d2 fEq (dVar 4) (dC (.str "required")))) (bNot (bOf (dCall M_is_known [(oVar 3), (oVar 1)])))) (sRet (dC (.bl false))) sNil) (l.map Field.enc) [some B, some (.n kvs), x2, x3, x4] s = some (.nx [some B, some (.n kvs), y2, y3, y4] s) ∧ (l.all fun f => !(f.mode.isReq && !known kvs f.part)) = true) ∨
        (forD (.many [2, 3, 4, 2]) (sIf (bAnd (bOf (d2 fEq (dVar 4) (dC (.str "required")))) (bNot (bOf (dCall M_is_known [(oVar 3), (oVar 1)])))) (sRet (dC (.bl false))) sNil) (l.map Field.enc) [some B, some (.n kvs), x2, x3, x4] s = some (.rt (.d (.bl false)) s) ∧ (l.all fun f => !(f.mode.isReq && !known kvs f.part)) = false) := by
      intro l
      induction l with
      | nil => intro x2 x3 x4 B; exact .inl ⟨x2, x3, x4, rfl, rfl⟩
      | cons f l ih =>
        intro x2 x3 x4 B
        have hm := mode_req f.mode
        cases hc : (f.mode.isReq && !known kvs f.part) with
        | true =>
          right
          have hc1 : f.mode.isReq = true := by simp at hc; exact hc.1
          have hc2 : known kvs f.part = false := by simp at hc; exact hc.2
          rw [hc1] at hm
          refine ⟨?_, by rw [List.all_cons, hc]; rfl⟩
          simp at hm
          simp [ap_forD1, Field.enc, hm, is_known_eq, hc2]
        | false =>
          have hst : forD (.many [2, 3, 4, 2]) (sIf (bAnd (bOf (d2 fEq (dVar 4) (dC (.str "required")))) (bNot (bOf (dCall M_is_known [(oVar 3), (oVar 1)])))) (sRet (dC (.bl false))) sNil) ((f :: l).map Field.enc) [some B, some (.n kvs), x2, x3, x4] s = forD (.many [2, 3, 4, 2]) (sIf (bAnd (bOf (d2 fEq (dVar 4) (dC (.str "required")))) (bNot (bOf (dCall M_is_known [(oVar 3), (oVar 1)])))) (sRet (dC (.bl false))) sNil) (l.map Field.enc) [some B, some (.n kvs), some (.d f.dflt), some (.d f.part.enc), some (.d (.str f.mode.enc))] s := by
            cases hr : f.mode.isReq with
            | false =>
              rw [hr] at hm
              simp at hm
              simp [ap_forD1, Field.enc, hm]
            | true =>
              rw [hr] at hm hc
              simp at hm hc
              simp [ap_forD1, Field.enc, hm, is_known_eq, hc]
          rw [hst, List.all_cons, hc]
          simpa using ih (some (.d f.dflt)) (some (.d f.part.enc)) (some (.d (.str f.mode.enc))) B
    rcases key fs none none none (.d (Body.rcd fs ret).enc) with ⟨y2, y3, y4, e, h⟩ | ⟨e, h⟩
    · simp only [enc_rcd] at e
      simp [M_has_value, G_has_value, ap_runM]
      rw [e]
      simp only [hasV, h]
      simp
    · simp only [enc_rcd] at e
      simp [M_has_value, G_has_value, ap_runM]
      rw [e]
      simp only [hasV, h]
      simp
  | uni cs ret op =>
    cases op with
    | true => simp [M_has_value, G_has_value, ap_runM, hasV]
    | false =>
      have key : ∀ (l : List (Int × Part)) (x2 x3 x4 : Option SV) (B : SV), (∃ y2 y3, forD (.many [2, 3]) (sIf (bOf (dCall M_is_known [(oVar 3), (oVar 1)])) (sRet (dC (.bl true))) sNil) (l.map caseEnc) [some B, some (.n kvs), x2, x3, x4] s = some (.nx [some B, some (.n kvs), y2, y3, x4] s) ∧ (l.any fun c => known kvs c.2) = false) ∨
          (forD (.many [2, 3]) (sIf (bOf (dCall M_is_known [(oVar 3), (oVar 1)])) (sRet (dC (.bl true))) sNil) (l.map caseEnc) [some B, some (.n kvs), x2, x3, x4] s = some (.rt (.d (.bl true)) s) ∧ (l.any fun c => known kvs c.2) = true) := by
        intro l
        induction l with
        | nil => intro x2 x3 x4 B; exact .inl ⟨x2, x3, rfl, rfl⟩
        | cons c l ih =>
          intro x2 x3 x4 B
          cases hk : known kvs c.2 with
          | true =>
            right
            refine ⟨?_, by rw [List.any_cons, hk]; rfl⟩
            simp [ap_forD1, caseEnc, is_known_eq, hk]
          | false =>
            have := ih (some (.d (.int c.1))) (some (.d c.2.enc)) x4 B
            rw [List.any_cons, hk, Bool.false_or]
            simpa [ap_forD1, caseEnc, is_known_eq, hk] using this
      rcases key cs none none none (.d (Body.uni cs ret false).enc) with ⟨y2, y3, e, h⟩ | ⟨e, h⟩
      · simp only [enc_uni] at e
        simp [M_has_value, G_has_value, ap_runM]
        rw [e]
        simp only [hasV, h]
        simp
      · simp only [enc_uni] at e
        simp [M_has_value, G_has_value, ap_runM]
        rw [e]
        simp only [hasV, h]
        simp
theorem l_has_value_eq (kvs : List (Str × Int)) {b : Body} (hb : BodyIds b) (s : S) : M_l_has_value [.d b.enc, .n kvs] s = some (.d (.bl (hasV (known kvs) b)), s) := by
  cases b with
  | lst p lo hi =>
    by_cases h : lo = 0
    · simp [M_l_has_value, G_l_has_value, ap_runM, hasV, h]
    · simp [M_l_has_value, G_l_has_value, ap_runM, hasV, h, l_is_known_eq]
  | rcd fs ret =>
    have hl : fs.length ≤ 100000 := by have := hb.2; omega
    have key := compD_if (T := .one 2) (P := bAnd (bOf (d2 fEq (dIx (oVar 2) (dC (.int 2))) (dC (.str "required")))) (bNot (bOf (dCall M_l_is_known [(dIx (oVar 2) (dC (.int 1))), (oVar 1)])))) (E := dVar 2) (ρ := [some (.d (Body.rcd fs ret).enc), some (.n kvs), none, none]) (s := s)
      Field.enc Field.enc (fun f => f.mode.isReq && !known kvs f.part) fs fun f hf => ⟨_, rfl, by
        have hm := mode_req f.mode
        cases hr : f.mode.isReq with
        | true => rw [hr] at hm; simp at hm; simp [Field.enc, hm, l_is_known_eq]
        | false => rw [hr] at hm; simp at hm; simp [Field.enc, hm], fun _ => by simp⟩
    simp only [enc_rcd] at key
    simp [M_l_has_value, G_l_has_value, ap_runM, hl]
    rw [key]
    simp [hasV]
    rw [Bool.eq_iff_iff]
    simp
    refine ⟨fun h x hx => ?_, fun h x hx hr => ?_⟩
    · cases hr : x.mode.isReq with
      | true => exact .inr (h x hx hr)
      | false => exact .inl rfl
    · rcases h x hx with q | q
      · rw [hr] at q; cases q
      · exact q
  | uni cs ret op =>
    have hl : cs.length ≤ 100000 := by have := hb.2; omega
    have key := compD_if (T := .one 3) (P := bOf (dCall M_l_is_known [(dIx (oVar 3) (dC (.int 1))), (oVar 1)])) (E := dVar 3) (ρ := [some (.d (Body.uni cs ret op).enc), some (.n kvs), none, none]) (s := s)
      caseEnc caseEnc (fun c => known kvs c.2) cs fun c hc => ⟨_, rfl, by simp [caseEnc, l_is_known_eq], fun _ => by simp⟩
    simp only [enc_uni] at key
    cases op with
    | true => simp [M_l_has_value, G_l_has_value, ap_runM, hasV]
    | false =>
      simp [M_l_has_value, G_l_has_value, ap_runM, hl]
      rw [key]
      simp [hasV]
      rw [Bool.eq_iff_iff]
      simp [List.length_pos_iff, List.filter_eq_nil_iff]
/-! ### the rounds -/
def found (kvs : List (Str × Int)) (defs : List (Str × Body)) : List Str := (defs.filter fun d => !(lookS kvs d.1).isSome && hasV (known kvs) d.2).map (·.1)
def putAll (kvs : List (Str × Int)) (l : List Str) (i : Int) : List (Str × Int) := l.foldl (fun k n => putS k n i) kvs
def rounds (defs : List (Str × Body)) : Nat → List (Str × Int)
  | 0 => []
  | n + 1 => putAll (rounds defs n) (found (rounds defs n) defs) ((n : Int) + 1)
theorem putAll_len : ∀ (l : List Str) (kvs : List (Str × Int)) (i : Int), (putAll kvs l i).length ≤ kvs.length + l.length
  | [], kvs, i => Nat.le_refl _
  | a :: l, kvs, i => by
    have h1 := putAll_len l (putS kvs a i) i
    have h2 := putS_len kvs a i
    show (putAll (putS kvs a i) l i).length ≤ _
    rw [List.length_cons]
    omega
theorem found_len (kvs : List (Str × Int)) (defs : List (Str × Body)) : (found kvs defs).length ≤ defs.length := by
  unfold found
  rw [List.length_map]
  exact List.length_filter_le _ _
theorem rounds_len (defs : List (Str × Body)) : ∀ n, (rounds defs n).length ≤ n * defs.length
  | 0 => Nat.zero_le _
  | n + 1 => by
    have h1 := rounds_len defs n
    have h2 := found_len (rounds defs n) defs
    have h3 := putAll_len (found (rounds defs n) defs) (rounds defs n) ((n : Int) + 1)
    show (putAll _ _ _).length ≤ _
    rw [Nat.succ_mul]
    omega
end Sb

set_option Elab.async false
set_option linter.all false
set_option maxRecDepth 100000
set_option maxHeartbeats 4000000
namespace Sb
open PySem L2
theorem put_loop {V : EF} {s : S} {z i : Int} {B C : SV} {x5 : Option SV} (hV : ∀ kvs y, V [some B, some (.ownm kvs), some (.d (.int z)), some C, y, x5] s = some (.d (.int i), s)) : ∀ (l : List Str) (kvs : List (Str × Int)) (x4 : Option SV), kvs.length + l.length ≤ 1000 →
    ∃ y4, forD (.one 4) (sPut 1 (dVar 4) V) (l.map D.str) [some B, some (.ownm kvs), some (.d (.int z)), some C, x4, x5] s = some (.nx [some B, some (.ownm (putAll kvs l i)), some (.d (.int z)), some C, y4, x5] s) := by
  intro l
  induction l with
  | nil => intro kvs x4 _; exact ⟨x4, rfl⟩
  | cons n l ih =>
    intro kvs x4 hl
    rw [List.length_cons] at hl
    have h2 := putS_len kvs n i
    obtain ⟨y4, e⟩ := ih (putS kvs n i) (some (.d (.str n))) (by omega)
    refine ⟨y4, ?_⟩
    have e2 : putAll kvs (n :: l) i = putAll (putS kvs n i) l i := List.foldl_cons ..
    rw [e2, ← e]
    have hk : kvs.length ≤ 100000 := by omega
    have hv := hV kvs (some (.d (.str n)))
    rw [List.map_cons, ap_forD1]
    simp [hv, hk]
theorem found_map (kvs : List (Str × Int)) (defs : List (Str × Body)) : ((defs.filter fun d => !(lookS kvs d.1).isSome && hasV (known kvs) d.2).map fun d => D.str d.1) = (found kvs defs).map D.str := by
  unfold found
  rw [List.map_map]
  rfl
/-- one step of the loop of rounds -/
theorem step_gen {σ : Sch} {vs : List Nat} {T : Tgt} {P : BF} {E V : EF} {s : S} {z i : Int} {kvs : List (Str × Int)} {x3 x4 x5 : Option SV} (hd : σ.defs.length ≤ 8) (hk : kvs.length ≤ 64)
    (hc : compD T P E (wipeR [some (.d σ.enc), some (.ownm kvs), some (.d (.int z)), x3, x4, x5] vs) (σ.defs.map defEnc) s = some ((found kvs σ.defs).map D.str, s))
    (hV : ∀ kvs y C, V [some (.d σ.enc), some (.ownm kvs), some (.d (.int z)), some C, y, x5] s = some (.d (.int i), s)) :
    ∃ y3 y4, sSeq (sSet 3 (dOfL (lComp vs (iTupF (dIx (oVar 0) (dC (.int 1)))) T P E))) (sFor (.one 4) (iListF (dVar 3)) (sPut 1 (dVar 4) V)) [some (.d σ.enc), some (.ownm kvs), some (.d (.int z)), x3, x4, x5] s = some (.nx [some (.d σ.enc), some (.ownm (putAll kvs (found kvs σ.defs) i)), some (.d (.int z)), y3, y4, x5] s) := by
  have hfl := found_len kvs σ.defs
  obtain ⟨y4, e⟩ := put_loop (B := .d σ.enc) (C := .r ((found kvs σ.defs).map D.str)) (x5 := x5) (z := z) (i := i) (s := s) (V := V) (fun kvs y => hV kvs y _) (found kvs σ.defs) kvs x4 (by omega)
  refine ⟨some (.r ((found kvs σ.defs).map D.str)), y4, ?_⟩
  have hdl : (σ.defs.map defEnc).length ≤ 100000 := by rw [List.length_map]; omega
  have e1 : sSet 3 (dOfL (lComp vs (iTupF (dIx (oVar 0) (dC (.int 1)))) T P E)) [some (.d σ.enc), some (.ownm kvs), some (.d (.int z)), x3, x4, x5] s = some (.nx [some (.d σ.enc), some (.ownm kvs), some (.d (.int z)), some (.r ((found kvs σ.defs).map D.str)), x4, x5] s) := by
    have hi : iTupF (dIx (oVar 0) (dC (.int 1))) [some (.d σ.enc), some (.ownm kvs), some (.d (.int z)), x3, x4, x5] s = some (σ.defs.map defEnc, s) := by simp [Sch.enc]
    rw [ap_sSet, ap_dOfL, ap_lComp, hi, Option.bind_some, if_pos hdl, hc]
    rfl
  rw [ap_sSeq, e1, Option.bind_some]
  show sFor _ _ _ _ _ = _
  rw [ap_sFor]
  show forD _ _ ((found kvs σ.defs).map D.str) _ _ = _
  exact e
theorem rounds_64 {defs : List (Str × Body)} (h8 : defs.length ≤ 8) {k : Nat} (hk : k ≤ 8) : (rounds defs k).length ≤ 64 := Nat.le_trans (rounds_len defs k) (by
  have : k * defs.length ≤ 8 * 8 := Nat.mul_le_mul hk h8
  omega)
theorem least_loop {σ : Sch} (h8 : σ.defs.length ≤ 8) {s : S} : ∀ (m k : Nat) (x2 x3 x4 : Option SV), k + m ≤ 8 → ∃ y2 y3 y4, forD (.one 2) (sSeq (sSet 3 (dOfL (lComp [4, 5] (iTupF (dIx (oVar 0) (dC (.int 1)))) (.many [4, 5]) (bAnd (bOf (dInK true (dVar 4) (oVar 1))) (bOf (dCall M_has_value [(oVar 5), (oVar 1)]))) (dVar 4))))
    (sFor (.one 4) (iListF (dVar 3)) (sPut 1 (dVar 4) (dVar 2)))) ((List.range' k m).map fun (j : Nat) => D.int (1 + (j : Int))) [some (.d σ.enc), some (.ownm (rounds σ.defs k)), x2, x3, x4, none] s = some (.nx [some (.d σ.enc), some (.ownm (rounds σ.defs (k + m))), y2, y3, y4, none] s) := by
  intro m
  induction m with
  | zero => intro k x2 x3 x4 _; exact ⟨x2, x3, x4, rfl⟩
  | succ m ih =>
    intro k x2 x3 x4 hk
    have key := compD_if (T := .many [4, 5]) (P := bAnd (bOf (dInK true (dVar 4) (oVar 1))) (bOf (dCall M_has_value [(oVar 5), (oVar 1)]))) (E := dVar 4) (ρ := [some (.d σ.enc), some (.ownm (rounds σ.defs k)), some (.d (.int (1 + (k : Int)))), x3, none, none]) (s := s)
      defEnc (fun d => .str d.1) (fun d => !(lookS (rounds σ.defs k) d.1).isSome && hasV (known (rounds σ.defs k)) d.2) σ.defs fun d hd => ⟨_, rfl, by
        cases hq : (lookS (rounds σ.defs k) d.1).isSome with
        | true => simp [hq]
        | false => simp [hq, has_value_eq], fun _ => by simp⟩
    rw [found_map] at key
    obtain ⟨z3, z4, e1⟩ := step_gen (i := 1 + (k : Int)) (x4 := x4) (x5 := none) (vs := [4, 5]) (V := dVar 2) h8 (rounds_64 h8 (show k ≤ 8 by omega)) key (fun _ _ _ => rfl)
    obtain ⟨y2, y3, y4, e2⟩ := ih (k + 1) (some (.d (.int (1 + (k : Int))))) z3 z4 (by omega)
    refine ⟨y2, y3, y4, ?_⟩
    have hr : rounds σ.defs (k + 1) = putAll (rounds σ.defs k) (found (rounds σ.defs k) σ.defs) (1 + (k : Int)) := by
      show putAll _ _ ((k : Int) + 1) = _
      rw [Int.add_comm]
    rw [show k + (m + 1) = k + 1 + m by omega, ← e2, hr, List.range'_succ, List.map_cons, ap_forD1, ap_goOne, Option.bind_some]
    show Option.bind (sSeq _ _ [some (.d σ.enc), some (.ownm (rounds σ.defs k)), some (.d (.int (1 + (k : Int)))), x3, x4, none] s) _ = _
    rw [e1]
    rfl
theorem range_from (n : Nat) : rangeD 1 ((n : Int) + 1) = (List.range' 0 n).map fun (j : Nat) => D.int (1 + (j : Int)) := by
  unfold rangeD
  rw [show (n : Int) + 1 - 1 = (n : Int) by omega, Int.toNat_natCast, List.range_eq_range']
theorem range_zero (n : Nat) : rangeD 0 (n : Int) = (List.range' 0 n).map fun (j : Nat) => D.int (j : Int) := by
  unfold rangeD
  rw [show (n : Int) - 0 = (n : Int) by omega, Int.toNat_natCast, List.range_eq_range']
  simp
theorem ap_rng2 {A B : EF} {ρ : Env} {s : S} {i j : Int} (hA : A ρ s = some (.d (.int i), s)) (hB : B ρ s = some (.d (.int j), s)) (h : -1000000 ≤ i ∧ i ≤ 1000000 ∧ -1000000 ≤ j ∧ j ≤ 1000000) : iRngF2 A B ρ s = some (rangeD i j, s) := by
  unfold iRngF2
  rw [hA, Option.bind_some, hB, Option.bind_some]
  exact if_pos h
theorem one_in : ∀ i : Int, i = 1 → -1000000 ≤ i ∧ i ≤ 1000000 := by
  intro i h
  omega
theorem least_depths_eq {σ : Sch} (h8 : σ.defs.length ≤ 8) (s : S) : M_least_depths [.d σ.enc] s = some (.n (rounds σ.defs σ.defs.length), s) := by
  obtain ⟨y2, y3, y4, e⟩ := least_loop h8 (s := s) σ.defs.length 0 none none none (by omega)
  have h1 : (-1000000 : Int) ≤ (σ.defs.length : Int) + 1 := by omega
  have h2 : (σ.defs.length : Int) + 1 ≤ 1000000 := by omega
  rw [Nat.zero_add, ← range_from] at e
  have hi : iRngF2 (dC (.int 1)) (d2 fAdd (dBu lenD [(dIx (oVar 0) (dC (.int 1)))]) (dC (.int 1))) [some (.d σ.enc), some (.ownm []), none, none, none, none] s = some (rangeD 1 ((σ.defs.length : Int) + 1), s) := by
    refine ap_rng2 rfl ?_ ⟨(one_in 1 rfl).1, (one_in 1 rfl).2, h1, h2⟩
    simp [Sch.enc]
  unfold M_least_depths G_least_depths
  rw [ap_runM, if_pos (show [SV.d σ.enc].length = 1 from rfl)]
  show Option.bind (sSeq _ _ [some (.d σ.enc), none, none, none, none, none] s) _ = _
  rw [ap_sSeq, ap_sDict, Option.bind_some]
  show Option.bind (sSeq _ _ [some (.d σ.enc), some (.ownm []), none, none, none, none] s) _ = _
  rw [ap_sSeq, ap_sFor, hi, Option.bind_some]
  have e0 : rounds σ.defs 0 = [] := rfl
  rw [e0] at e
  rw [e]
  rfl
theorem l_loop {σ : Sch} (ok : ∀ d ∈ σ.defs, BodyIds d.2) (h8 : σ.defs.length ≤ 8) {s : S} : ∀ (m k : Nat) (x2 x3 x4 : Option SV), k + m ≤ 8 → ∃ y2 y3 y4, forD (.one 2) (sSeq (sSet 3 (dOfL (lComp [5] (iTupF (dIx (oVar 0) (dC (.int 1)))) (.one 5) (bAnd (bOf (dInK true (dIx (oVar 5) (dC (.int 0))) (oVar 1))) (bOf (dCall M_l_has_value [(dIx (oVar 5) (dC (.int 1))), (oVar 1)]))) (dIx (oVar 5) (dC (.int 0))))))
    (sFor (.one 4) (iListF (dVar 3)) (sPut 1 (dVar 4) (d2 fAdd (dVar 2) (dC (.int 1)))))) ((List.range' k m).map fun (j : Nat) => D.int (j : Int)) [some (.d σ.enc), some (.ownm (rounds σ.defs k)), x2, x3, x4, none] s = some (.nx [some (.d σ.enc), some (.ownm (rounds σ.defs (k + m))), y2, y3, y4, none] s) := by
  intro m
  induction m with
  | zero => intro k x2 x3 x4 _; exact ⟨x2, x3, x4, rfl⟩
  | succ m ih =>
    intro k x2 x3 x4 hk
    have key := compD_if (T := .one 5) (P := bAnd (bOf (dInK true (dIx (oVar 5) (dC (.int 0))) (oVar 1))) (bOf (dCall M_l_has_value [(dIx (oVar 5) (dC (.int 1))), (oVar 1)]))) (E := dIx (oVar 5) (dC (.int 0))) (ρ := [some (.d σ.enc), some (.ownm (rounds σ.defs k)), some (.d (.int (k : Int))), x3, x4, none]) (s := s)
      defEnc (fun d => .str d.1) (fun d => !(lookS (rounds σ.defs k) d.1).isSome && hasV (known (rounds σ.defs k)) d.2) σ.defs fun d hd => ⟨_, rfl, by
        cases hq : (lookS (rounds σ.defs k) d.1).isSome with
        | true => simp [defEnc, hq]
        | false => simp [defEnc, hq, l_has_value_eq _ (ok d hd)], fun _ => by simp [defEnc]⟩
    rw [found_map] at key
    obtain ⟨z3, z4, e1⟩ := step_gen (i := (k : Int) + 1) (x4 := x4) (x5 := none) (vs := [5]) (V := d2 fAdd (dVar 2) (dC (.int 1))) h8 (rounds_64 h8 (show k ≤ 8 by omega)) key (fun _ _ _ => rfl)
    obtain ⟨y2, y3, y4, e2⟩ := ih (k + 1) (some (.d (.int (k : Int)))) z3 z4 (by omega)
    refine ⟨y2, y3, y4, ?_⟩
    have hr : rounds σ.defs (k + 1) = putAll (rounds σ.defs k) (found (rounds σ.defs k) σ.defs) ((k : Int) + 1) := rfl
    rw [show k + (m + 1) = k + 1 + m by omega, ← e2, hr, List.range'_succ, List.map_cons, ap_forD1, ap_goOne, Option.bind_some]
    show Option.bind (sSeq _ _ [some (.d σ.enc), some (.ownm (rounds σ.defs k)), some (.d (.int (k : Int))), x3, x4, none] s) _ = _
    rw [e1]
    rfl
theorem l_depths_eq {σ : Sch} (ok : ∀ d ∈ σ.defs, BodyIds d.2) (h8 : σ.defs.length ≤ 8) (s : S) : M_l_depths [.d σ.enc] s = some (.n (rounds σ.defs σ.defs.length), s) := by
  obtain ⟨y2, y3, y4, e⟩ := l_loop ok h8 (s := s) σ.defs.length 0 none none none (by omega)
  have h2 : (σ.defs.length : Int) ≤ 1000000 := by omega
  rw [Nat.zero_add, ← range_zero] at e
  have hi : iRngF (dBu lenD [(dIx (oVar 0) (dC (.int 1)))]) [some (.d σ.enc), some (.ownm []), none, none, none, none] s = some (rangeD 0 (σ.defs.length : Int), s) := by
    simp [Sch.enc, iRngF, h2]
  unfold M_l_depths G_l_depths
  rw [ap_runM, if_pos (show [SV.d σ.enc].length = 1 from rfl)]
  show Option.bind (sSeq _ _ [some (.d σ.enc), none, none, none, none, none] s) _ = _
  rw [ap_sSeq, ap_sDict, Option.bind_some]
  show Option.bind (sSeq _ _ [some (.d σ.enc), some (.ownm []), none, none, none, none] s) _ = _
  rw [ap_sSeq, ap_sFor, hi, Option.bind_some]
  have e0 : rounds σ.defs 0 = [] := rfl
  rw [e0] at e
  rw [e]
  rfl
end Sb

set_option Elab.async false
set_option linter.all false
set_option maxRecDepth 100000
set_option maxHeartbeats 4000000
namespace Sb
open PySem L2
/-! ## levels -/
def kp (f : Str → Bool) : Part → Bool
  | .nm s => f s
  | .lf _ => true
def Sch.lv (σ : Sch) : Nat → Str → Bool
  | 0, _ => false
  | n + 1, s => match σ.body s with
    | some b => hasV (kp (σ.lv n)) b
    | none => false
theorem hasV_mono {f g : Part → Bool} (h : ∀ p, f p = true → g p = true) : ∀ b, hasV f b = true → hasV g b = true
  | .lst p lo hi, e => by
    simp only [hasV, Bool.or_eq_true] at e ⊢
    exact e.imp id (h p)
  | .rcd fs ret, e => by
    simp only [hasV, List.all_eq_true] at e ⊢
    intro f hf
    have := e f hf
    cases hr : f.mode.isReq with
    | false => rfl
    | true =>
      rw [hr] at this
      simp at this
      simp [h _ this]
  | .uni cs ret op, e => by
    simp only [hasV, Bool.or_eq_true, List.any_eq_true] at e ⊢
    exact e.imp id fun ⟨c, hc, hk⟩ => ⟨c, hc, h _ hk⟩
theorem kp_mono {f g : Str → Bool} (h : ∀ s, f s = true → g s = true) : ∀ p, kp f p = true → kp g p = true
  | .nm s, e => h s e
  | .lf _, _ => rfl
theorem lv_succ (σ : Sch) : ∀ (n : Nat) (s : Str), σ.lv n s = true → σ.lv (n + 1) s = true
  | 0, s, h => by cases h
  | n + 1, s, h => by
    unfold Sch.lv at h ⊢
    cases hb : σ.body s with
    | none => rw [hb] at h; cases h
    | some b =>
      rw [hb] at h
      exact hasV_mono (kp_mono (lv_succ σ n)) b h
theorem lv_mono (σ : Sch) {n m : Nat} (h : n ≤ m) {s : Str} (e : σ.lv n s = true) : σ.lv m s = true := by
  induction h with
  | refl => exact e
  | step _ ih => exact lv_succ σ _ s ih
theorem lv_least (σ : Sch) : ∀ (n : Nat) (s : Str), σ.lv n s = true → ∃ k, k < n ∧ σ.lv (k + 1) s = true ∧ σ.lv k s = false
  | 0, s, h => by cases h
  | n + 1, s, h => by
    cases hn : σ.lv n s with
    | true =>
      obtain ⟨k, h1, h2, h3⟩ := lv_least σ n s hn
      exact ⟨k, by omega, h2, h3⟩
    | false => exact ⟨n, by omega, h, hn⟩
theorem find_nodup : ∀ {l : List (Str × Body)}, (l.map (·.1)).Nodup → ∀ {s : Str} {b : Body}, (s, b) ∈ l → l.find? (fun p => decide (p.1 = s)) = some (s, b)
  | (t, c) :: l, hn, s, b, h => by
    rw [List.map_cons, List.nodup_cons] at hn
    rcases List.mem_cons.mp h with e | e
    · injection e with e1 e2
      subst e1 e2
      simp [List.find?_cons]
    · have : ¬ t = s := fun e2 => hn.1 (e2 ▸ List.mem_map_of_mem (f := (·.1)) e)
      simp only [List.find?_cons, this, decide_false]
      exact find_nodup hn.2 e
theorem body_mem {σ : Sch} {s : Str} {b : Body} (h : σ.body s = some b) : (s, b) ∈ σ.defs := by
  unfold Sch.body at h
  obtain ⟨⟨t, c⟩, h1, h2⟩ := Option.map_eq_some_iff.mp h
  have h3 := List.find?_some h1
  have h4 := List.mem_of_find?_eq_some h1
  simp at h3 h2
  subst h3 h2
  exact h4
theorem mem_body {σ : Sch} (hn : (σ.defs.map (·.1)).Nodup) {s : Str} {b : Body} (h : (s, b) ∈ σ.defs) : σ.body s = some b := by
  unfold Sch.body
  rw [find_nodup hn h]
  rfl
theorem look_map (s n : Str) (i : Int) : ∀ kvs : List (Str × Int), lookS (kvs.map fun p => if p.1 = n then (p.1, i) else p) s = if s = n then (if (kvs.any fun p => decide (p.1 = n)) = true then some i else none) else lookS kvs s
  | [] => by simp [lookS]
  | a :: l => by
    have ih := look_map s n i l
    by_cases e1 : a.1 = n
    · by_cases e2 : s = n
      · subst e2
        simp [lookS, List.find?_cons, e1]
      · have e3 : ¬ a.1 = s := fun z => e2 (z ▸ e1)
        rw [if_neg e2] at ih ⊢
        unfold lookS at ih ⊢
        rw [List.map_cons, if_pos e1]
        simp only [List.find?_cons, e3, decide_false]
        exact ih
    · by_cases e3 : a.1 = s
      · have e2 : ¬ s = n := fun z => e1 (z ▸ e3)
        simp [lookS, List.find?_cons, e1, e2, e3]
      · unfold lookS at ih ⊢
        rw [List.map_cons, if_neg e1]
        simp only [List.find?_cons, e3, decide_false, List.any_cons, e1, Bool.false_or]
        exact ih
theorem look_put (kvs : List (Str × Int)) (n : Str) (i : Int) (s : Str) : lookS (putS kvs n i) s = if s = n then some i else lookS kvs s := by
  unfold putS
  by_cases h : (kvs.any fun p => decide (p.1 = n)) = true
  · rw [if_pos h, look_map, if_pos h]
  · rw [if_neg h]
    unfold lookS
    rw [List.find?_append]
    by_cases e : s = n
    · subst e
      have h0 : kvs.find? (fun p => decide (p.1 = s)) = none := by
        rw [List.find?_eq_none]
        intro x hx hp
        exact h (List.any_eq_true.mpr ⟨x, hx, hp⟩)
      rw [h0]
      simp [List.find?_cons]
    · have e2 : ¬ n = s := fun z => e z.symm
      rw [if_neg e]
      simp [List.find?_cons, e2]
theorem look_all (i : Int) (s : Str) : ∀ (l : List Str) (kvs : List (Str × Int)), lookS (putAll kvs l i) s = if s ∈ l then some i else lookS kvs s
  | [], kvs => by simp [putAll]
  | n :: l, kvs => by
    have e : putAll kvs (n :: l) i = putAll (putS kvs n i) l i := List.foldl_cons ..
    rw [e, look_all i s l, look_put]
    by_cases h1 : s ∈ l
    · simp [h1]
    · by_cases h2 : s = n
      · simp [h1, h2]
      · simp [h1, h2]
/-- what the rounds know -/
theorem look_rounds {σ : Sch} (hn : (σ.defs.map (·.1)).Nodup) : ∀ (n : Nat) (s : Str), (∀ v, lookS (rounds σ.defs n) s = some v ↔ ∃ k : Nat, v = (k : Int) + 1 ∧ k < n ∧ σ.lv (k + 1) s = true ∧ σ.lv k s = false) ∧ (lookS (rounds σ.defs n) s).isSome = σ.lv n s
  | 0, s => ⟨fun v => ⟨fun h => by simp [rounds, lookS] at h, fun ⟨k, _, h, _⟩ => by omega⟩, rfl⟩
  | n + 1, s => by
    have ih := look_rounds hn n
    have hk : ∀ p, known (rounds σ.defs n) p = kp (σ.lv n) p := fun p => by
      cases p with
      | nm t => exact (ih t).2
      | lf l => rfl
    have hk : known (rounds σ.defs n) = kp (σ.lv n) := funext hk
    have hf : s ∈ found (rounds σ.defs n) σ.defs ↔ σ.lv n s = false ∧ σ.lv (n + 1) s = true := by
      unfold found
      rw [List.mem_map]
      constructor
      · rintro ⟨⟨t, b⟩, h1, rfl⟩
        obtain ⟨h1, h2⟩ := List.mem_filter.mp h1
        rw [Bool.and_eq_true, hk, (ih t).2] at h2
        refine ⟨by simpa using h2.1, ?_⟩
        unfold Sch.lv
        rw [mem_body hn h1]
        exact h2.2
      · rintro ⟨h1, h2⟩
        unfold Sch.lv at h2
        cases hb : σ.body s with
        | none => rw [hb] at h2; cases h2
        | some b =>
          rw [hb] at h2
          refine ⟨(s, b), List.mem_filter.mpr ⟨body_mem hb, ?_⟩, rfl⟩
          rw [Bool.and_eq_true, hk, (ih s).2, h1]
          exact ⟨rfl, h2⟩
    have e : rounds σ.defs (n + 1) = putAll (rounds σ.defs n) (found (rounds σ.defs n) σ.defs) ((n : Int) + 1) := rfl
    have key : ∀ v, lookS (rounds σ.defs (n + 1)) s = some v ↔ ∃ k : Nat, v = (k : Int) + 1 ∧ k < n + 1 ∧ σ.lv (k + 1) s = true ∧ σ.lv k s = false := by
      intro v
      rw [e, look_all]
      by_cases hm : s ∈ found (rounds σ.defs n) σ.defs
      · rw [if_pos hm]
        obtain ⟨h1, h2⟩ := hf.mp hm
        constructor
        · intro h
          injection h with h
          exact ⟨n, h.symm, by omega, h2, h1⟩
        · rintro ⟨k, rfl, h3, h4, h5⟩
          have : k = n := by
            apply Nat.le_antisymm (by omega)
            apply Nat.le_of_not_lt
            intro hlt
            have := lv_mono σ (show k + 1 ≤ n by omega) h4
            rw [this] at h1
            cases h1
          subst this
          rfl
      · rw [if_neg hm, (ih s).1]
        constructor
        · rintro ⟨k, h1, h2, h3⟩
          exact ⟨k, h1, by omega, h3⟩
        · rintro ⟨k, h1, h2, h3, h4⟩
          refine ⟨k, h1, ?_, h3, h4⟩
          apply Nat.lt_of_le_of_ne (by omega)
          intro h5
          subst h5
          exact hm (hf.mpr ⟨h4, h3⟩)
    refine ⟨key, ?_⟩
    cases hl : σ.lv (n + 1) s with
    | true =>
      obtain ⟨k, h1, h2, h3⟩ := lv_least σ (n + 1) s hl
      rw [(key _).mpr ⟨k, rfl, h1, h2, h3⟩]
      rfl
    | false =>
      cases hq : lookS (rounds σ.defs (n + 1)) s with
      | none => rfl
      | some v =>
        obtain ⟨k, h1, h2, h3, h4⟩ := (key v).mp hq
        have := lv_mono σ (show k + 1 ≤ n + 1 by omega) h3
        rw [this] at hl
        cases hl
/-! ### a schema with a level for each name -/
def Sch.R (σ : Sch) : List (Str × Int) := rounds σ.defs σ.defs.length
def Sch.lvl (σ : Sch) (s : Str) : Nat := ((lookS σ.R s).getD 0).toNat
def Sch.pd (σ : Sch) : Part → Nat
  | .nm s => σ.lvl s
  | .lf _ => 0
def inNames (l : List Str) : Part → Bool
  | .nm s => decide (s ∈ l)
  | .lf _ => true
/-- a body needs only later names -/
def Chain : List (Str × Body) → Prop
  | [] => True
  | d :: l => hasV (inNames (l.map (·.1))) d.2 = true ∧ Chain l
theorem chain_lv {σ : Sch} (hn : (σ.defs.map (·.1)).Nodup) : ∀ (suf pre : List (Str × Body)), σ.defs = pre ++ suf → Chain suf → ∀ s ∈ suf.map (·.1), σ.lv suf.length s = true
  | [], _, _, _, s, h => by cases h
  | (t, b) :: suf, pre, e, hc, s, h => by
    have ih := chain_lv hn suf (pre ++ [(t, b)]) (by rw [e]; simp) hc.2
    rcases List.mem_cons.mp h with h | h
    · subst h
      show σ.lv (suf.length + 1) _ = true
      unfold Sch.lv
      rw [mem_body hn (b := b) (by rw [e]; simp)]
      refine hasV_mono (fun p hp => ?_) b hc.1
      cases p with
      | nm u => exact ih u (by simpa [inNames] using hp)
      | lf l => rfl
    · exact lv_mono σ (Nat.le_succ _) (ih s h)
def Part.In (σ : Sch) : Part → Prop
  | .nm s => s ∈ σ.defs.map (·.1)
  | .lf l => l.Ok
theorem in_body {σ : Sch} (hn : (σ.defs.map (·.1)).Nodup) {s : Str} (h : s ∈ σ.defs.map (·.1)) : ∃ b, σ.body s = some b := by
  obtain ⟨⟨t, b⟩, h1, rfl⟩ := List.mem_map.mp h
  exact ⟨b, mem_body hn h1⟩
theorem body_in {σ : Sch} {s : Str} {b : Body} (h : σ.body s = some b) : s ∈ σ.defs.map (·.1) := List.mem_map_of_mem (f := (·.1)) (body_mem h)
theorem lvl_spec {σ : Sch} (hn : (σ.defs.map (·.1)).Nodup) (hc : Chain σ.defs) {s : Str} (h : s ∈ σ.defs.map (·.1)) :
    ∃ k : Nat, k < σ.defs.length ∧ σ.lvl s = k + 1 ∧ lookS σ.R s = some ((k : Int) + 1) ∧ σ.lv (k + 1) s = true ∧ σ.lv k s = false := by
  obtain ⟨k, h1, h2, h3⟩ := lv_least σ _ s (chain_lv hn σ.defs [] rfl hc s h)
  have e : lookS σ.R s = some ((k : Int) + 1) := ((look_rounds hn σ.defs.length s).1 _).mpr ⟨k, rfl, h1, h2, h3⟩
  refine ⟨k, h1, ?_, e, h2, h3⟩
  unfold Sch.lvl
  rw [e]
  show ((k : Int) + 1).toNat = _
  omega
/-- the level tells that the body has a value of lower parts -/
theorem lvl_up {σ : Sch} (hn : (σ.defs.map (·.1)).Nodup) (hc : Chain σ.defs) {s : Str} {b : Body} (h : σ.body s = some b) :
    ∃ k : Nat, k < σ.defs.length ∧ σ.lvl s = k + 1 ∧ hasV (fun p => decide (σ.pd p ≤ k)) b = true := by
  obtain ⟨k, h1, h2, h3, h4, h5⟩ := lvl_spec hn hc (body_in h)
  refine ⟨k, h1, h2, ?_⟩
  unfold Sch.lv at h4
  rw [h] at h4
  refine hasV_mono (fun p hp => ?_) b h4
  cases p with
  | lf l => simp [Sch.pd]
  | nm t =>
    have hp : σ.lv k t = true := hp
    obtain ⟨j, i1, i2, i3⟩ := lv_least σ k t hp
    have ht : t ∈ σ.defs.map (·.1) := by
      unfold Sch.lv at i2
      cases hb : σ.body t with
      | none => rw [hb] at i2; cases i2
      | some b => exact body_in hb
    obtain ⟨j', k1, k2, k3, k4, k5⟩ := lvl_spec hn hc ht
    have hjj : j' ≤ j := by
      apply Nat.le_of_not_lt
      intro hlt
      have := lv_mono σ (show j + 1 ≤ j' by omega) i2
      rw [this] at k5
      cases k5
    simp [Sch.pd, k2]
    omega
/-- no value of lower parts below the level -/
theorem lvl_down {σ : Sch} (hn : (σ.defs.map (·.1)).Nodup) (hc : Chain σ.defs) {s : Str} {b : Body} (h : σ.body s = some b) {L : Nat} {f : Part → Bool} (hf : ∀ p, f p = true → p.In σ ∧ σ.pd p ≤ L ∨ ∃ l, p = .lf l) (hv : hasV f b = true) : σ.lvl s ≤ L + 1 := by
  obtain ⟨k, h1, h2, h3, h4, h5⟩ := lvl_spec hn hc (body_in h)
  rw [h2]
  apply Nat.le_of_not_lt
  intro hlt
  have : σ.lv (L + 1) s = true := by
    unfold Sch.lv
    rw [h]
    refine hasV_mono (fun p hp => ?_) b hv
    cases p with
    | lf l => rfl
    | nm t =>
      rcases hf _ hp with ⟨h6, h7⟩ | ⟨l, h6⟩
      · obtain ⟨j, k1, k2, k3, k4, k5⟩ := lvl_spec hn hc h6
        have h7 : σ.lvl t ≤ L := h7
        exact lv_mono σ (show j + 1 ≤ L by omega) k4
      · cases h6
  have := lv_mono σ (show L + 1 ≤ k by omega) this
  rw [this] at h5
  cases h5
end Sb

set_option Elab.async false
set_option linter.all false
set_option maxRecDepth 100000
set_option maxHeartbeats 4000000
namespace Sb
open PySem L2
/-! ## good schemas -/
def isNm : Part → Bool
  | .nm _ => true
  | .lf _ => false
def BodyOk (σ : Sch) : Body → Prop
  | .lst p lo hi => p.In σ ∧ 0 ≤ lo ∧ lo ≤ hi ∧ hi ≤ 1000 ∧ lo ≤ 2 ∧ (isNm p = true → lo ≤ 1)
  | .rcd fs _ => Asc 0 (fs.map (·.id)) ∧ fs.length ≤ 5 ∧ (∀ f ∈ fs, f.part.In σ) ∧ (fs.filter fun f => f.mode.isReq && isNm f.part).length ≤ 1 ∧ (∀ f ∈ fs, f.mode = .dfl → ∃ l, f.part = .lf l ∧ LeafVal l f.dflt)
  | .uni cs _ _ => Asc 0 (cs.map (·.1)) ∧ cs.length ≤ 5 ∧ (∀ c ∈ cs, c.2.In σ)
structure Sch.Ok (σ : Sch) : Prop where
  nodup : (σ.defs.map (·.1)).Nodup
  len : σ.defs.length ≤ 4
  pos : 0 < σ.defs.length
  chain : Chain σ.defs
  bodies : ∀ d ∈ σ.defs, BodyOk σ d.2
theorem Sch.Ok.body {σ : Sch} (ok : σ.Ok) {n : Str} {b : Body} (h : σ.body n = some b) : BodyOk σ b := ok.bodies _ (body_mem h)
theorem bodyIds {σ : Sch} {b : Body} (h : BodyOk σ b) : BodyIds b := by
  cases b with
  | lst p lo hi => exact h.2.2.2.1
  | rcd fs ret => exact ⟨h.1, Nat.le_trans h.2.1 (by omega)⟩
  | uni cs ret op => exact ⟨h.1, Nat.le_trans h.2.1 (by omega)⟩
theorem Sch.Ok.ids {σ : Sch} (ok : σ.Ok) : σ.Ids := fun n b h => bodyIds (ok.body h)
theorem Sch.Ok.down {σ : Sch} (ok : σ.Ok) {s : Str} {b : Body} (h : σ.body s = some b) {L : Nat} (hv : ∀ f : Part → Bool, (∀ p, p.In σ → σ.pd p ≤ L → f p = true) → hasV f b = true) : σ.lvl s ≤ L + 1 := by
  classical
  refine lvl_down ok.nodup ok.chain h (f := fun p => decide (p.In σ ∧ σ.pd p ≤ L)) (fun p hp => .inl (by simpa using hp)) (hv _ fun p h1 h2 => by simp [h1, h2])
/-- no value undercuts the level -/
theorem pd_le {σ : Sch} (ok : σ.Ok) {p : Part} {d : D} {m c : Nat} (v : Val σ p d m c) : σ.pd p ≤ m := by
  induction v with
  | leaf h => exact Nat.le_refl 0
  | @list n p lo hi items hb hv hlo hhi ih =>
    have hB := ok.body hb
    show σ.lvl n ≤ _
    rw [Nat.add_comm]
    refine ok.down hb fun f hf => ?_
    cases items with
    | nil =>
      have h1 := hB.2.1
      have : lo = 0 := by
        have hlo : lo ≤ 0 := hlo
        omega
      simp [hasV, this]
    | cons x items =>
      have h1 := ih x List.mem_cons_self
      have h2 : f p = true := hf p hB.1 (Nat.le_trans h1 (mem_mx (by simp)))
      simp [hasV, h2]
  | @rcd n fs ret vals hb he ho hv ih =>
    have hB := ok.body hb
    show σ.lvl n ≤ _
    rw [Nat.add_comm]
    refine ok.down hb fun f hf => ?_
    simp only [hasV, List.all_eq_true]
    intro g hg
    cases hr : g.mode.isReq with
    | false => rfl
    | true =>
      have hg0 := hg
      rw [← he] at hg
      obtain ⟨⟨g', o⟩, h1, rfl⟩ := List.mem_map.mp hg
      cases o with
      | none =>
        have := ho _ h1 rfl
        rw [this] at hr
        cases hr
      | some y =>
        have h2 : (g', y) ∈ chosen vals := List.mem_filterMap.mpr ⟨(g', some y), h1, rfl⟩
        have h3 := ih _ h2
        have h4 : f g'.part = true := hf _ (hB.2.2.1 _ hg0) (Nat.le_trans h3 (mem_mx (List.mem_map_of_mem (f := fun x : Field × Item => x.2.2.1) h2)))
        simp [h4]
  | @unk n cs ret hb =>
    show σ.lvl n ≤ 0 + 1
    exact ok.down hb fun f hf => by simp [hasV]
  | @case n cs ret op i p d m c hb hm hv ih =>
    have hB := ok.body hb
    show σ.lvl n ≤ _
    rw [Nat.add_comm]
    refine ok.down hb fun f hf => ?_
    have h4 : f p = true := hf _ (hB.2.2 _ hm) ih
    simp only [hasV, Bool.or_eq_true, List.any_eq_true]
    exact .inr ⟨(i, p), hm, h4⟩
/-! ### the case of least depth -/
theorem known_in {σ : Sch} (ok : σ.Ok) {p : Part} (h : p.In σ) : known σ.R p = true := by
  cases p with
  | lf l => rfl
  | nm s =>
    obtain ⟨k, h1, h2, h3, _⟩ := lvl_spec ok.nodup ok.chain h
    simp [known, h3]
theorem part_depth_eq {σ : Sch} (ok : σ.Ok) {p : Part} (h : p.In σ) (s : S) : M_part_depth [.d p.enc, .n σ.R] s = some (.d (.int (σ.pd p : Int)), s) := by
  cases p with
  | lf l => simp [M_part_depth, G_part_depth, ap_runM, Sch.pd]
  | nm t =>
    obtain ⟨k, h1, h2, h3, _⟩ := lvl_spec ok.nodup ok.chain h
    simp [M_part_depth, G_part_depth, ap_runM, Sch.pd, h2, h3]
theorem l_part_depth_eq {σ : Sch} (ok : σ.Ok) {p : Part} (h : p.In σ) (s : S) : M_l_part_depth [.d p.enc, .n σ.R] s = some (.d (.int (σ.pd p : Int)), s) := by
  cases p with
  | lf l => simp [M_l_part_depth, G_l_part_depth, ap_runM, Sch.pd]
  | nm t =>
    obtain ⟨k, h1, h2, h3, _⟩ := lvl_spec ok.nodup ok.chain h
    simp [M_l_part_depth, G_l_part_depth, ap_runM, Sch.pd, h2, h3]
def better (σ : Sch) (b c : Int × Part) : Int × Part := if σ.pd c.2 < σ.pd b.2 then c else b
def best (σ : Sch) (b : Int × Part) (l : List (Int × Part)) : Int × Part := l.foldl (better σ) b
theorem best_mem (σ : Sch) : ∀ (l : List (Int × Part)) (b : Int × Part), best σ b l = b ∨ best σ b l ∈ l
  | [], b => .inl rfl
  | c :: l, b => by
    show best σ (better σ b c) l = b ∨ best σ (better σ b c) l ∈ c :: l
    rcases best_mem σ l (better σ b c) with h | h
    · rw [h]
      unfold better
      split
      · exact .inr List.mem_cons_self
      · exact .inl rfl
    · exact .inr (List.mem_cons_of_mem _ h)
theorem best_le (σ : Sch) : ∀ (l : List (Int × Part)) (b : Int × Part), σ.pd (best σ b l).2 ≤ σ.pd b.2 ∧ ∀ c ∈ l, σ.pd (best σ b l).2 ≤ σ.pd c.2
  | [], b => ⟨Nat.le_refl _, fun c h => by cases h⟩
  | c :: l, b => by
    obtain ⟨h1, h2⟩ := best_le σ l (better σ b c)
    have h3 : σ.pd (better σ b c).2 ≤ σ.pd b.2 ∧ σ.pd (better σ b c).2 ≤ σ.pd c.2 := by
      unfold better
      split <;> omega
    refine ⟨Nat.le_trans h1 h3.1, fun c' hc => ?_⟩
    rcases List.mem_cons.mp hc with e | e
    · subst e; exact Nat.le_trans h1 h3.2
    · exact h2 c' e
@[simp] theorem isn_tup {ds : List D} : fIsN (.tup ds) = some (.bl false) := rfl
@[simp] theorem isn_non : fIsN .non = some (.bl true) := rfl
@[simp] theorem flt_int {i j : Int} : fLt (.int i) (.int j) = some (.bl (decide (i < j))) := rfl
theorem simple_case_eq {σ : Sch} (ok : σ.Ok) {c : Int × Part} {cs : List (Int × Part)} {ret : List Int} {op : Bool} (hin : ∀ x ∈ c :: cs, x.2.In σ) (s : S) : M_simple_case [.d (Body.uni (c :: cs) ret op).enc, .n σ.R] s = some (.d (caseEnc (best σ c cs)), s) := by
  have key : ∀ (l : List (Int × Part)) (b : Int × Part) (x3 : Option SV) (B : SV), b.2.In σ → (∀ x ∈ l, x.2.In σ) → ∃ y3, forD (.one 3) (sIf (bOf (dCall M_is_known [(dIx (oVar 3) (dC (.int 1))), (oVar 1)]))
    (sIf (bOr (bOf (d1 fIsN (dVar 2))) (bOf (d2 fLt (dCall M_part_depth [(dIx (oVar 3) (dC (.int 1))), (oVar 1)]) (dCall M_part_depth [(dIx (oVar 2) (dC (.int 1))), (oVar 1)]))))
    (sSet 2 (dVar 3)) sNil) sNil) (l.map caseEnc) [some B, some (.n σ.R), some (.d (caseEnc b)), x3] s = some (.nx [some B, some (.n σ.R), some (.d (caseEnc (best σ b l))), y3] s) := by
    intro l
    induction l with
    | nil => intro b x3 B _ _; exact ⟨x3, rfl⟩
    | cons a l ih =>
      intro b x3 B hb hl
      have ha := hl a List.mem_cons_self
      have hbt : (better σ b a).2.In σ := by unfold better; split <;> assumption
      obtain ⟨y3, e⟩ := ih (better σ b a) (some (.d (caseEnc a))) B hbt fun x hx => hl x (List.mem_cons_of_mem _ hx)
      refine ⟨y3, ?_⟩
      have e1 : best σ b (a :: l) = best σ (better σ b a) l := rfl
      rw [e1, ← e]
      by_cases hlt : σ.pd a.2 < σ.pd b.2
      · have e2 : better σ b a = a := if_pos hlt
        rw [e2]
        have e3 : (σ.pd a.2 : Int) < (σ.pd b.2 : Int) := by omega
        simp [ap_forD1, caseEnc, is_known_eq, known_in ok ha, part_depth_eq ok ha, part_depth_eq ok hb, hlt]
      · have e2 : better σ b a = b := if_neg hlt
        rw [e2]
        have e3 : ¬ (σ.pd a.2 : Int) < (σ.pd b.2 : Int) := by omega
        simp [ap_forD1, caseEnc, is_known_eq, known_in ok ha, part_depth_eq ok ha, part_depth_eq ok hb, hlt]
  have hc := hin c List.mem_cons_self
  obtain ⟨y3, e⟩ := key cs c (some (.d (caseEnc c))) (.d (Body.uni (c :: cs) ret op).enc) hc fun x hx => hin x (List.mem_cons_of_mem _ hx)
  simp only [enc_uni, List.map_cons, caseEnc] at e
  simp [M_simple_case, G_simple_case, ap_runM, ap_forD1, caseEnc, is_known_eq, known_in ok hc]
  rw [e]
  simp
end Sb

set_option Elab.async false
set_option linter.all false
set_option maxRecDepth 100000
set_option maxHeartbeats 4000000
namespace Sb
open PySem L2
/-! ## the simple value -/
structure Smp (σ : Sch) (n : Nat) (p : Part) (it : Item) : Prop where
  val : Val σ p it.1 it.2.1 it.2.2
  low : it.2.1 ≤ σ.pd p
  cnt : it.2.2 ≤ 1 + 5 * σ.pd p
  ev : ∀ s, M_simple_part n [.d σ.enc, .d p.enc, .n σ.R] s = some (.d it.1, s)
  lev : ∀ s, M_l_simple n [.d σ.enc, .d p.enc, .n σ.R] s = some (.d it.1, s)
def FieldOk (σ : Sch) (n k : Nat) (x : Field × Option Item) : Prop := match x.1.mode with
  | .req => ∃ it, x.2 = some it ∧ Smp σ n x.1.part it ∧ σ.pd x.1.part ≤ k
  | .opt => x.2 = none
  | .dfl => ∃ l, x.1.part = .lf l ∧ LeafVal l x.1.dflt ∧ x.2 = some (x.1.dflt, 0, 1)
theorem pick {Q : Field × Option Item → Prop} : ∀ fs : List Field, (∀ f ∈ fs, ∃ o, Q (f, o)) → ∃ vals : List (Field × Option Item), vals.map (·.1) = fs ∧ ∀ x ∈ vals, Q x
  | [], _ => ⟨[], rfl, fun x h => by cases h⟩
  | f :: fs, h => by
    obtain ⟨o, ho⟩ := h f List.mem_cons_self
    obtain ⟨vals, h1, h2⟩ := pick fs fun g hg => h g (List.mem_cons_of_mem _ hg)
    refine ⟨(f, o) :: vals, by rw [List.map_cons, h1], fun x hx => ?_⟩
    rcases List.mem_cons.mp hx with e | e
    · subst e; exact ho
    · exact h2 x e
theorem mx_le : ∀ {l : List Nat} {k : Nat}, (∀ x ∈ l, x ≤ k) → mx l ≤ k
  | [], k, _ => Nat.zero_le k
  | a :: l, k, h => by
    have h1 := h a List.mem_cons_self
    have h2 := mx_le (l := l) fun x hx => h x (List.mem_cons_of_mem _ hx)
    show max a (mx l) ≤ k
    omega
theorem rec_loop {σ : Sch} {n k : Nat} {s : S} {B : SV} : ∀ (vals : List (Field × Option Item)) (acc : List D) (x4 x5 x6 x7 : Option SV), (∀ x ∈ vals, FieldOk σ n k x) → acc.length + vals.length ≤ 1000 →
    ∃ y4 y5 y6 y7, forD (.many [4, 5, 6, 7]) (sIf (bOf (d2 fEq (dVar 6) (dC (.str "required"))))
    (sApp 3 (dTup [(oVar 4), (dCall (M_simple_part n) [(oVar 0), (oVar 5), (oVar 2)])]))
    (sIf (bOf (d2 fEq (dVar 6) (dC (.str "default"))))
    (sApp 3 (dTup [(oVar 4), (oVar 7)]))
    sNil)) ((vals.map (·.1)).map Field.enc) [some (.d σ.enc), some B, some (.n σ.R), some (.own acc), x4, x5, x6, x7] s = some (.nx [some (.d σ.enc), some B, some (.n σ.R), some (.own (acc ++ (chosen vals).map entry)), y4, y5, y6, y7] s)
  | [], acc, x4, x5, x6, x7, _, _ => ⟨x4, x5, x6, x7, by simp [chosen]⟩
  | (⟨i, p, md, df⟩, o) :: vals, acc, x4, x5, x6, x7, h, hl => by
    rw [List.length_cons] at hl
    have h0 := h _ List.mem_cons_self
    have hacc : acc.length ≤ 100000 := by omega
    cases md with
    | req =>
      obtain ⟨it, e1, e2, e3⟩ := h0
      simp only at e1
      subst e1
      have e2 : ∀ s, M_simple_part n [.d σ.enc, .d p.enc, .n σ.R] s = some (.d it.1, s) := e2.ev
      obtain ⟨y4, y5, y6, y7, e⟩ := rec_loop (k := k) (s := s) (B := B) vals (acc ++ [.tup [.int i, it.1]]) (some (.d (.int i))) (some (.d p.enc)) (some (.d (.str "required"))) (some (.d df)) (fun x hx => h x (List.mem_cons_of_mem _ hx)) (by rw [List.length_append]; simp; omega)
      refine ⟨y4, y5, y6, y7, ?_⟩
      rw [List.append_assoc] at e
      show _ = some (Out.nx [some (.d σ.enc), some B, some (.n σ.R), some (.own (acc ++ ([.tup [.int i, it.1]] ++ (chosen vals).map entry))), y4, y5, y6, y7] s)
      rw [← e, List.map_cons, List.map_cons, ap_forD1]
      simp [Field.enc, Mode.enc, e2, hacc]
    | opt =>
      have e1 : o = none := h0
      subst e1
      obtain ⟨y4, y5, y6, y7, e⟩ := rec_loop (k := k) (s := s) (B := B) vals acc (some (.d (.int i))) (some (.d p.enc)) (some (.d (.str "optional"))) (some (.d df)) (fun x hx => h x (List.mem_cons_of_mem _ hx)) (by omega)
      refine ⟨y4, y5, y6, y7, ?_⟩
      show _ = some (Out.nx [some (.d σ.enc), some B, some (.n σ.R), some (.own (acc ++ (chosen vals).map entry)), y4, y5, y6, y7] s)
      rw [← e, List.map_cons, List.map_cons, ap_forD1]
      simp [Field.enc, Mode.enc]
    | dfl =>
      obtain ⟨l, e1, e2, e3⟩ := h0
      simp only at e3
      subst e3
      obtain ⟨y4, y5, y6, y7, e⟩ := rec_loop (k := k) (s := s) (B := B) vals (acc ++ [.tup [.int i, df]]) (some (.d (.int i))) (some (.d p.enc)) (some (.d (.str "default"))) (some (.d df)) (fun x hx => h x (List.mem_cons_of_mem _ hx)) (by rw [List.length_append]; simp; omega)
      refine ⟨y4, y5, y6, y7, ?_⟩
      rw [List.append_assoc] at e
      show _ = some (Out.nx [some (.d σ.enc), some B, some (.n σ.R), some (.own (acc ++ ([.tup [.int i, df]] ++ (chosen vals).map entry))), y4, y5, y6, y7] s)
      rw [← e, List.map_cons, List.map_cons, ap_forD1]
      simp [Field.enc, Mode.enc, hacc]
theorem simple_record_eq {σ : Sch} {n k : Nat} {s : S} {fs : List Field} {ret : List Int} {vals : List (Field × Option Item)} (he : vals.map (·.1) = fs) (h : ∀ x ∈ vals, FieldOk σ n k x) (hl : vals.length ≤ 1000) :
    M_simple_record (M_simple_part n) [.d σ.enc, .d (Body.rcd fs ret).enc, .n σ.R] s = some (.d (.tup ((chosen vals).map entry)), s) := by
  obtain ⟨y4, y5, y6, y7, e⟩ := rec_loop (s := s) (B := .d (Body.rcd fs ret).enc) vals [] none none none none h (by simpa using hl)
  rw [he, List.nil_append] at e
  simp only [enc_rcd] at e
  simp [M_simple_record, G_simple_record, ap_runM]
  rw [e]
  simp
theorem l_rec_loop {σ : Sch} {n k : Nat} {s : S} {N B : SV} {z4 z5 z8 : Option SV} : ∀ (vals : List (Field × Option Item)) (acc : List D) (x7 : Option SV), (∀ x ∈ vals, FieldOk σ n k x) → acc.length + vals.length ≤ 1000 →
    ∃ y7, forD (.one 7) (sSeq (sIf (bOf (d2 fEq (dIx (oVar 7) (dC (.int 2))) (dC (.str "required"))))
    (sApp 6 (dTup [(dIx (oVar 7) (dC (.int 0))), (dCall (M_l_simple n) [(oVar 0), (dIx (oVar 7) (dC (.int 1))), (oVar 2)])]))
    sNil)
    (sIf (bOf (d2 fEq (dIx (oVar 7) (dC (.int 2))) (dC (.str "default"))))
    (sApp 6 (dTup [(dIx (oVar 7) (dC (.int 0))), (dIx (oVar 7) (dC (.int 3)))]))
    sNil)) ((vals.map (·.1)).map Field.enc) [some (.d σ.enc), some N, some (.n σ.R), some B, z4, z5, some (.own acc), x7, z8] s = some (.nx [some (.d σ.enc), some N, some (.n σ.R), some B, z4, z5, some (.own (acc ++ (chosen vals).map entry)), y7, z8] s)
  | [], acc, x7, _, _ => ⟨x7, by simp [chosen]⟩
  | (⟨i, p, md, df⟩, o) :: vals, acc, x7, h, hl => by
    rw [List.length_cons] at hl
    have h0 := h _ List.mem_cons_self
    have hacc : acc.length ≤ 100000 := by omega
    cases md with
    | req =>
      obtain ⟨it, e1, e2, e3⟩ := h0
      simp only at e1
      subst e1
      have e2 : ∀ s, M_l_simple n [.d σ.enc, .d p.enc, .n σ.R] s = some (.d it.1, s) := e2.lev
      obtain ⟨y7, e⟩ := l_rec_loop (k := k) (s := s) (B := B) (N := N) (z4 := z4) (z5 := z5) (z8 := z8) vals (acc ++ [.tup [.int i, it.1]]) (some (.d (Field.enc ⟨i, p, .req, df⟩))) (fun x hx => h x (List.mem_cons_of_mem _ hx)) (by rw [List.length_append]; simp; omega)
      refine ⟨y7, ?_⟩
      rw [List.append_assoc] at e
      show _ = some (Out.nx [some (.d σ.enc), some N, some (.n σ.R), some B, z4, z5, some (.own (acc ++ ([.tup [.int i, it.1]] ++ (chosen vals).map entry))), y7, z8] s)
      rw [← e, List.map_cons, List.map_cons, ap_forD1]
      simp [Field.enc, Mode.enc, e2, hacc]
    | opt =>
      have e1 : o = none := h0
      subst e1
      obtain ⟨y7, e⟩ := l_rec_loop (k := k) (s := s) (B := B) (N := N) (z4 := z4) (z5 := z5) (z8 := z8) vals acc (some (.d (Field.enc ⟨i, p, .opt, df⟩))) (fun x hx => h x (List.mem_cons_of_mem _ hx)) (by omega)
      refine ⟨y7, ?_⟩
      show _ = some (Out.nx [some (.d σ.enc), some N, some (.n σ.R), some B, z4, z5, some (.own (acc ++ (chosen vals).map entry)), y7, z8] s)
      rw [← e, List.map_cons, List.map_cons, ap_forD1]
      simp [Field.enc, Mode.enc]
    | dfl =>
      obtain ⟨l, e1, e2, e3⟩ := h0
      simp only at e3
      subst e3
      obtain ⟨y7, e⟩ := l_rec_loop (k := k) (s := s) (B := B) (N := N) (z4 := z4) (z5 := z5) (z8 := z8) vals (acc ++ [.tup [.int i, df]]) (some (.d (Field.enc ⟨i, p, .dfl, df⟩))) (fun x hx => h x (List.mem_cons_of_mem _ hx)) (by rw [List.length_append]; simp; omega)
      refine ⟨y7, ?_⟩
      rw [List.append_assoc] at e
      show _ = some (Out.nx [some (.d σ.enc), some N, some (.n σ.R), some B, z4, z5, some (.own (acc ++ ([.tup [.int i, df]] ++ (chosen vals).map entry))), y7, z8] s)
      rw [← e, List.map_cons, List.map_cons, ap_forD1]
      simp [Field.enc, Mode.enc, hacc]
theorem rec_count {σ : Sch} {n k : Nat} : ∀ (vals : List (Field × Option Item)), (∀ x ∈ vals, FieldOk σ n k x) → ((chosen vals).map (·.2.2.2)).sum ≤ vals.length + ((vals.map (·.1)).filter fun f => f.mode.isReq && isNm f.part).length * (5 * k)
  | [], _ => Nat.zero_le _
  | (⟨i, p, md, df⟩, o) :: vals, h => by
    have ih := rec_count vals fun x hx => h x (List.mem_cons_of_mem _ hx)
    have h0 := h _ List.mem_cons_self
    rw [List.length_cons, List.map_cons]
    cases md with
    | req =>
      obtain ⟨it, e1, e2, e3⟩ := h0
      simp only at e1 e2 e3
      subst e1
      have hc := e2.cnt
      have e4 : ((chosen ((⟨i, p, .req, df⟩, some it) :: vals)).map fun x : Field × Item => x.2.2.2).sum = it.2.2 + ((chosen vals).map (·.2.2.2)).sum := by simp [chosen]
      rw [e4]
      cases p with
      | lf l =>
        have hz : σ.pd (.lf l) = 0 := rfl
        rw [hz] at hc
        rw [List.filter_cons_of_neg (by simp [isNm])]
        omega
      | nm t =>
        rw [List.filter_cons_of_pos (by simp [isNm, Mode.isReq]), List.length_cons, Nat.succ_mul]
        have hz : 5 * σ.pd (.nm t) ≤ 5 * k := Nat.mul_le_mul_left 5 e3
        omega
    | opt =>
      have e1 : o = none := h0
      subst e1
      rw [List.filter_cons_of_neg (by simp [Mode.isReq])]
      have e4 : ((chosen ((⟨i, p, .opt, df⟩, none) :: vals)).map fun x : Field × Item => x.2.2.2).sum = ((chosen vals).map (·.2.2.2)).sum := by simp [chosen]
      rw [e4]
      omega
    | dfl =>
      obtain ⟨l, e1, e2, e3⟩ := h0
      simp only at e3
      subst e3
      rw [List.filter_cons_of_neg (by simp [Mode.isReq])]
      have e4 : ((chosen ((⟨i, p, .dfl, df⟩, some (df, 0, 1)) :: vals)).map fun x : Field × Item => x.2.2.2).sum = 1 + ((chosen vals).map (·.2.2.2)).sum := by simp [chosen]
      rw [e4]
      omega
end Sb

set_option Elab.async false
set_option linter.all false
set_option maxRecDepth 100000
set_option maxHeartbeats 4000000
namespace Sb
open PySem L2
theorem l_best_loop {σ : Sch} (ok : σ.Ok) {s : S} {N B : SV} {z6 z7 z8 : Option SV} : ∀ (l : List (Int × Part)) (b : Int × Part) (x5 : Option SV), b.2.In σ → (∀ x ∈ l, x.2.In σ) → ∃ y5, forD (.one 5) (sIf (bOf (dCall M_l_is_known [(dIx (oVar 5) (dC (.int 1))), (oVar 2)]))
    (sIf (bOr (bOf (d1 fIsN (dVar 4))) (bOf (d2 fLt (dCall M_l_part_depth [(dIx (oVar 5) (dC (.int 1))), (oVar 2)]) (dCall M_l_part_depth [(dIx (oVar 4) (dC (.int 1))), (oVar 2)]))))
    (sSet 4 (dVar 5))
    sNil)
    sNil) (l.map caseEnc) [some (.d σ.enc), some N, some (.n σ.R), some B, some (.d (caseEnc b)), x5, z6, z7, z8] s = some (.nx [some (.d σ.enc), some N, some (.n σ.R), some B, some (.d (caseEnc (best σ b l))), y5, z6, z7, z8] s) := by
  intro l
  induction l with
  | nil => intro b x5 _ _; exact ⟨x5, rfl⟩
  | cons a l ih =>
    intro b x5 hb hl
    have ha := hl a List.mem_cons_self
    have hbt : (better σ b a).2.In σ := by unfold better; split <;> assumption
    obtain ⟨y3, e⟩ := ih (better σ b a) (some (.d (caseEnc a))) hbt fun x hx => hl x (List.mem_cons_of_mem _ hx)
    refine ⟨y3, ?_⟩
    have e1 : best σ b (a :: l) = best σ (better σ b a) l := rfl
    rw [e1, ← e]
    by_cases hlt : σ.pd a.2 < σ.pd b.2
    · have e2 : better σ b a = a := if_pos hlt
      rw [e2]
      simp [ap_forD1, caseEnc, l_is_known_eq, known_in ok ha, l_part_depth_eq ok ha, l_part_depth_eq ok hb, hlt]
    · have e2 : better σ b a = b := if_neg hlt
      rw [e2]
      simp [ap_forD1, caseEnc, l_is_known_eq, known_in ok ha, l_part_depth_eq ok ha, l_part_depth_eq ok hb, hlt]
theorem flat_one (n : Nat) (d : D) : (List.replicate n [d]).flatten = List.replicate n d := by
  induction n with
  | zero => rfl
  | succ n ih => rw [List.replicate_succ, List.flatten_cons, ih, List.replicate_succ]; rfl
theorem l_best_first {σ : Sch} (ok : σ.Ok) {s : S} {N B : SV} {z6 z7 z8 : Option SV} {c : Int × Part} {cs : List (Int × Part)} (hin : ∀ x ∈ c :: cs, x.2.In σ) : ∃ y5, forD (.one 5) (sIf (bOf (dCall M_l_is_known [(dIx (oVar 5) (dC (.int 1))), (oVar 2)]))
    (sIf (bOr (bOf (d1 fIsN (dVar 4))) (bOf (d2 fLt (dCall M_l_part_depth [(dIx (oVar 5) (dC (.int 1))), (oVar 2)]) (dCall M_l_part_depth [(dIx (oVar 4) (dC (.int 1))), (oVar 2)]))))
    (sSet 4 (dVar 5))
    sNil)
    sNil) ((c :: cs).map caseEnc) [some (.d σ.enc), some N, some (.n σ.R), some B, some (.d .non), none, z6, z7, z8] s = some (.nx [some (.d σ.enc), some N, some (.n σ.R), some B, some (.d (caseEnc (best σ c cs))), y5, z6, z7, z8] s) := by
  have hc := hin c List.mem_cons_self
  obtain ⟨y5, e⟩ := l_best_loop ok (s := s) (N := N) (B := B) (z6 := z6) (z7 := z7) (z8 := z8) cs c (some (.d (caseEnc c))) hc fun x hx => hin x (List.mem_cons_of_mem _ hx)
  refine ⟨y5, ?_⟩
  rw [← e, List.map_cons, ap_forD1]
  simp [caseEnc, l_is_known_eq, known_in ok hc]
theorem simple_list {σ : Sch} (ok : σ.Ok) {n k : Nat} {t : Str} {p : Part} {lo hi : Int} (hb : σ.body t = some (.lst p lo hi)) (hl : σ.lvl t = k + 1) (hv : hasV (fun p => decide (σ.pd p ≤ k)) (.lst p lo hi) = true)
    (ih : p.In σ → σ.pd p ≤ k → ∃ it, Smp σ n p it) : ∃ it, Smp σ (n + 1) (.nm t) it := by
  obtain ⟨h1, h2, h3, h4, h5, h6⟩ := ok.body hb
  by_cases h0 : lo = 0
  · subst h0
    refine ⟨(.tup [], 1, 1), .list [] hb (fun x hx => by cases hx) (by simp) (by simpa using h3), ?_, ?_, fun s => ?_, fun s => ?_⟩
    · show 1 ≤ σ.lvl t
      omega
    · show 1 ≤ 1 + 5 * σ.lvl t
      omega
    · simp [M_simple_part, G_simple_part, ap_runM, body_of_eq hb]
    · have hr : iRngF (dIx (oVar 3) (dC (.int 2))) [some (.d σ.enc), some (.d (.str t)), some (.n σ.R), some (.d (Body.lst p 0 hi).enc), none, none, none, none, none] s = some ([], s) := by
        simp [iRngF, rangeD]
      simp only [enc_lst] at hr
      simp [M_l_simple, G_l_simple, ap_runM, l_body_of_eq hb, hr, compD]
  · have hk : σ.pd p ≤ k := by
      simp [hasV, h0] at hv
      exact hv
    obtain ⟨⟨d, m, c⟩, S⟩ := ih h1 hk
    have hd : ∀ s, M_simple_part n [.d σ.enc, .d p.enc, .n σ.R] s = some (.d d, s) := S.ev
    have hd2 : ∀ s, M_l_simple n [.d σ.enc, .d p.enc, .n σ.R] s = some (.d d, s) := S.lev
    have hm : m ≤ σ.pd p := S.low
    have hc : c ≤ 1 + 5 * σ.pd p := S.cnt
    have hV := Val.list (List.replicate lo.toNat ((d, m, c) : Item)) hb (fun x hx => by rw [List.eq_of_mem_replicate hx]; exact S.val) (by rw [List.length_replicate]; omega) (by rw [List.length_replicate]; omega)
    simp only [List.map_replicate] at hV
    refine ⟨(_, _, _), hV, ?_, ?_, fun s => ?_, fun s => ?_⟩
    · show 1 + mx _ ≤ σ.lvl t
      have : mx (List.replicate lo.toNat m) ≤ k := mx_le fun x hx => by rw [List.eq_of_mem_replicate hx]; omega
      omega
    · show 1 + (List.replicate lo.toNat c).sum ≤ 1 + 5 * σ.lvl t
      have h12 : lo.toNat = 1 ∨ lo.toNat = 2 := by omega
      rcases h12 with e | e
      · rw [e]
        simp
        omega
      · rw [e]
        cases p with
        | nm u =>
          have := h6 rfl
          omega
        | lf l =>
          have hz : σ.pd (.lf l) = 0 := rfl
          rw [hz] at hc
          simp
          omega
    · have h7 : 1 ≤ lo ∧ lo ≤ 1000 := by omega
      simp [M_simple_part, G_simple_part, ap_runM, body_of_eq hb, h0, hd, fRepT, h7]
    · have hr : iRngF (dIx (oVar 3) (dC (.int 2))) [some (.d σ.enc), some (.d (.str t)), some (.n σ.R), some (.d (Body.lst p lo hi).enc), none, none, none, none, none] s = some ((List.range lo.toNat).map fun (k : Nat) => D.int (0 + (k : Int)), s) := by
        have h8 : -1000000 ≤ lo ∧ lo ≤ 1000000 := by omega
        simp [iRngF, rangeD, h8]
      have key := compD_all (T := .one 8) (E := dCall (M_l_simple n) [(oVar 0), (dIx (oVar 3) (dC (.int 1))), (oVar 2)]) (ρ := [some (.d σ.enc), some (.d (.str t)), some (.n σ.R), some (.d (Body.lst p lo hi).enc), none, none, none, none, none]) (s := s)
        (fun (k : Nat) => D.int (0 + (k : Int))) (fun _ => d) (List.range lo.toNat) fun x hx => ⟨_, rfl, by simp [hd2]⟩
      have hcst : (List.range lo.toNat).map (fun _ => d) = List.replicate lo.toNat d := by
        rw [List.map_const', List.length_range]
      rw [hcst] at key
      simp only [enc_lst] at hr key
      have h9 : lo ≤ 100000 := by omega
      simp [M_l_simple, G_l_simple, ap_runM, l_body_of_eq hb, hr]
      simp at key
      simp [h9, key]
theorem simple_union {σ : Sch} (ok : σ.Ok) {n k : Nat} {t : Str} {cs : List (Int × Part)} {ret : List Int} {op : Bool} (hb : σ.body t = some (.uni cs ret op)) (hl : σ.lvl t = k + 1) (hv : hasV (fun p => decide (σ.pd p ≤ k)) (.uni cs ret op) = true)
    (ih : ∀ p : Part, p.In σ → σ.pd p ≤ k → ∃ it, Smp σ n p it) : ∃ it, Smp σ (n + 1) (.nm t) it := by
  obtain ⟨h1, h2, h3⟩ := ok.body hb
  cases op with
  | true =>
    refine ⟨(.tup [.int 0, .non], 1, 1), .unk hb, ?_, ?_, fun s => ?_, fun s => ?_⟩
    · show 1 ≤ σ.lvl t
      omega
    · show 1 ≤ 1 + 5 * σ.lvl t
      omega
    · simp [M_simple_part, G_simple_part, ap_runM, body_of_eq hb]
    · simp [M_l_simple, G_l_simple, ap_runM, l_body_of_eq hb]
  | false =>
    cases cs with
    | nil => simp [hasV] at hv
    | cons c cs =>
      have hB : best σ c cs ∈ c :: cs := by
        rcases best_mem σ cs c with e | e
        · rw [e]; exact List.mem_cons_self
        · exact List.mem_cons_of_mem _ e
      have hle : σ.pd (best σ c cs).2 ≤ k := by
        simp only [hasV, Bool.false_or, List.any_eq_true, decide_eq_true_eq] at hv
        obtain ⟨x, hx, hk⟩ := hv
        obtain ⟨g1, g2⟩ := best_le σ cs c
        rcases List.mem_cons.mp hx with e | e
        · subst e; omega
        · have := g2 x e; omega
      obtain ⟨⟨d, m, cc⟩, S⟩ := ih _ (h3 _ hB) hle
      have hd : ∀ s, M_simple_part n [.d σ.enc, .d (best σ c cs).2.enc, .n σ.R] s = some (.d d, s) := S.ev
      have hd2 : ∀ s, M_l_simple n [.d σ.enc, .d (best σ c cs).2.enc, .n σ.R] s = some (.d d, s) := S.lev
      have hm : m ≤ σ.pd (best σ c cs).2 := S.low
      have hc : cc ≤ 1 + 5 * σ.pd (best σ c cs).2 := S.cnt
      have hV : Val σ (.nm t) (.tup [.int (best σ c cs).1, d]) (1 + m) (1 + cc) := .case hb (show ((best σ c cs).1, (best σ c cs).2) ∈ c :: cs from hB) S.val
      refine ⟨(_, _, _), hV, ?_, ?_, fun s => ?_, fun s => ?_⟩
      · show 1 + m ≤ σ.lvl t
        omega
      · show 1 + cc ≤ 1 + 5 * σ.lvl t
        omega
      · have e1 := simple_case_eq ok (ret := ret) (op := false) h3 s
        simp only [enc_uni, List.map_cons] at e1
        simp [M_simple_part, G_simple_part, ap_runM, body_of_eq hb, e1]
        simp [caseEnc, hd]
      · obtain ⟨y5, e⟩ := l_best_first ok (s := s) (N := .d (.str t)) (B := .d (Body.uni (c :: cs) ret false).enc) (z6 := none) (z7 := none) (z8 := none) h3
        simp only [enc_uni, List.map_cons] at e
        simp [M_l_simple, G_l_simple, ap_runM, l_body_of_eq hb]
        rw [e]
        simp [caseEnc, hd2]
theorem simple_rcd {σ : Sch} (ok : σ.Ok) {n k : Nat} {t : Str} {fs : List Field} {ret : List Int} (hb : σ.body t = some (.rcd fs ret)) (hl : σ.lvl t = k + 1) (hv : hasV (fun p => decide (σ.pd p ≤ k)) (.rcd fs ret) = true)
    (ih : ∀ p : Part, p.In σ → σ.pd p ≤ k → ∃ it, Smp σ n p it) : ∃ it, Smp σ (n + 1) (.nm t) it := by
  obtain ⟨h1, h2, h3, h4, h5⟩ := ok.body hb
  obtain ⟨vals, he, hf⟩ := pick (Q := FieldOk σ n k) fs fun f hf => by
    simp only [hasV, List.all_eq_true] at hv
    have hvf := hv f hf
    cases hm : f.mode with
    | req =>
      rw [hm] at hvf
      simp [Mode.isReq] at hvf
      obtain ⟨it, S⟩ := ih f.part (h3 f hf) hvf
      refine ⟨some it, ?_⟩
      unfold FieldOk
      simp only [hm]
      exact ⟨it, rfl, S, hvf⟩
    | opt =>
      refine ⟨none, ?_⟩
      unfold FieldOk
      simp only [hm]
    | dfl =>
      obtain ⟨l, g1, g2⟩ := h5 f hf hm
      refine ⟨some (f.dflt, 0, 1), ?_⟩
      unfold FieldOk
      simp only [hm]
      exact ⟨l, g1, g2, trivial⟩
  have hlen : vals.length = fs.length := by rw [← he, List.length_map]
  have hopt : ∀ x ∈ vals, x.2 = none → x.1.mode = .opt := fun x hx hn => by
    have := hf x hx
    unfold FieldOk at this
    cases hm : x.1.mode with
    | opt => rfl
    | req =>
      simp only [hm] at this
      obtain ⟨it, g, _⟩ := this
      rw [hn] at g
      cases g
    | dfl =>
      simp only [hm] at this
      obtain ⟨l, _, _, g⟩ := this
      rw [hn] at g
      cases g
  have hch : ∀ x ∈ chosen vals, Val σ x.1.part x.2.1 x.2.2.1 x.2.2.2 ∧ x.2.2.1 ≤ k := fun x hx => by
    obtain ⟨⟨f, o⟩, hy, hz⟩ := List.mem_filterMap.mp hx
    obtain ⟨it, rfl, rfl⟩ := Option.map_eq_some_iff.mp hz
    have := hf _ hy
    unfold FieldOk at this
    cases hm : f.mode with
    | opt => simp [hm] at this
    | req =>
      simp only [hm] at this
      obtain ⟨it', g, S, hk⟩ := this
      cases g
      exact ⟨S.val, Nat.le_trans S.low hk⟩
    | dfl =>
      simp only [hm] at this
      obtain ⟨l, g1, g2, g3⟩ := this
      injection g3 with g3
      subst g3
      show Val σ f.part f.dflt 0 1 ∧ 0 ≤ k
      rw [g1]
      exact ⟨.leaf g2, Nat.zero_le k⟩
  have hcnt := rec_count vals hf
  rw [he] at hcnt
  refine ⟨(_, _, _), .rcd vals hb he hopt (fun x hx => (hch x hx).1), ?_, ?_, fun s => ?_, fun s => ?_⟩
  · show 1 + mx _ ≤ σ.lvl t
    have : mx ((chosen vals).map (·.2.2.1)) ≤ k := mx_le fun x hx => by
      obtain ⟨y, hy, rfl⟩ := List.mem_map.mp hx
      exact (hch y hy).2
    omega
  · show 1 + ((chosen vals).map (·.2.2.2)).sum ≤ 1 + 5 * σ.lvl t
    have h6 : (fs.filter fun f => f.mode.isReq && isNm f.part).length * (5 * k) ≤ 1 * (5 * k) := Nat.mul_le_mul_right _ h4
    omega
  · have e1 := simple_record_eq (n := n) (s := s) (ret := ret) he hf (by omega)
    simp only [enc_rcd] at e1
    simp [M_simple_part, G_simple_part, ap_runM, body_of_eq hb, e1]
  · obtain ⟨y7, e⟩ := l_rec_loop (n := n) (s := s) (N := .d (.str t)) (B := .d (Body.rcd fs ret).enc) (z4 := none) (z5 := none) (z8 := none) vals [] none hf (by rw [hlen]; simp; omega)
    rw [he, List.nil_append] at e
    simp only [enc_rcd] at e
    simp [M_l_simple, G_l_simple, ap_runM, l_body_of_eq hb]
    rw [e]
    simp
/-- the simple value of a part, on both sides -/
theorem simple_ex {σ : Sch} (ok : σ.Ok) : ∀ (n : Nat) (p : Part), p.In σ → σ.pd p < n → ∃ it, Smp σ n p it := by
  intro n
  induction n with
  | zero => intro p _ h; omega
  | succ n ih =>
    intro p hp hn
    cases p with
    | lf l =>
      have hp : l.Ok := hp
      refine ⟨(l.simple, 0, 1), .leaf (simple_leafVal hp), Nat.zero_le _, ?_, fun s => ?_, fun s => ?_⟩
      · show 1 ≤ 1 + 5 * 0
        omega
      · simp [M_simple_part, G_simple_part, ap_runM, simple_leaf_eq l hp]
      · simp [M_l_simple, G_l_simple, ap_runM, l_simple_leaf_eq l hp]
    | nm t =>
      obtain ⟨b, hb⟩ := in_body ok.nodup hp
      obtain ⟨k, h1, h2, h3⟩ := lvl_up ok.nodup ok.chain hb
      have hk : k < n := by
        have hn : σ.lvl t < n + 1 := hn
        omega
      have ih' : ∀ p : Part, p.In σ → σ.pd p ≤ k → ∃ it, Smp σ n p it := fun p h h' => ih p h (by omega)
      cases b with
      | lst p lo hi => exact simple_list ok hb h2 h3 (ih' p)
      | rcd fs ret => exact simple_rcd ok hb h2 h3 ih'
      | uni cs ret op => exact simple_union ok hb h2 h3 ih'
end Sb

set_option Elab.async false
set_option linter.all false
set_option maxRecDepth 100000
set_option maxHeartbeats 4000000
namespace Sb
open PySem L2
/-! ## draws -/
@[simp] theorem ap_dJoin {o : EF} {ρ : Env} {s : S} : dJoin o ρ s = (o ρ s).bind fun p => match p.1 with
  | .r ds => (strsOf ds).bind fun l => if (l.map (·.length)).sum ≤ 100000 then some (.d (.str (Txt.join Str.empty l)), p.2) else none
  | _ => none := rfl
theorem next_ok {m : Int} (h : 0 < m) (s : S) : ∃ (v : Int) (s' : S), M_l_next [.w, .d (.int m)] s = some (.d (.int v), s') ∧ 0 ≤ v ∧ v < m := by
  cases s with
  | nil => exact ⟨0, [], rfl, by omega, h⟩
  | cons x r =>
    refine ⟨x % m, r, ?_, Int.emod_nonneg x (by omega), Int.emod_lt_of_pos x h⟩
    show (if 0 < m then _ else _) = _
    rw [if_pos h]
theorem compD_draw {T : Tgt} {E : EF} {ρ : Env} (Q : D → Prop) : ∀ (ds : List D) (s : S), (∀ d ∈ ds, ∃ ρ1, T.go d ρ = some ρ1 ∧ ∀ s, ∃ x s', E ρ1 s = some (.d x, s') ∧ Q x) → ∃ xs s', compD T bTrue E ρ ds s = some (xs, s') ∧ xs.length = ds.length ∧ ∀ x ∈ xs, Q x
  | [], s, _ => ⟨[], s, rfl, rfl, fun x h => by cases h⟩
  | d :: ds, s, h => by
    obtain ⟨ρ1, h1, h2⟩ := h d List.mem_cons_self
    obtain ⟨x, s1, h3, h4⟩ := h2 s
    obtain ⟨xs, s2, h5, h6, h7⟩ := compD_draw Q ds s1 fun d hd => h d (List.mem_cons_of_mem _ hd)
    refine ⟨x :: xs, s2, ?_, by rw [List.length_cons, List.length_cons, h6], fun y hy => ?_⟩
    · unfold compD
      rw [h1, Option.bind_some]
      show Option.bind (E ρ1 s) _ = _
      rw [h3]
      show (compD T bTrue E ρ ds s1).map _ = _
      rw [h5]
      rfl
    · rcases List.mem_cons.mp hy with e | e
      · subst e; exact h4
      · exact h7 y e
theorem big_loop : ∀ (ds : List D) (a : Int) (x2 : Option SV) (s : S), ∃ (v : Int) (y2 : Option SV) (s' : S), forD (.one 2) (sSet 1 (d2 fAdd (d2 fMul (dVar 1) (dC (.int 1000))) (dCall M_l_next [(oVar 0), (dC (.int 1000))]))) ds [some .w, some (.d (.int a)), x2] s = some (.nx [some .w, some (.d (.int v)), y2] s')
  | [], a, x2, s => ⟨a, x2, s, rfl⟩
  | d :: ds, a, x2, s => by
    obtain ⟨v, s1, h1, _⟩ := next_ok (show (0 : Int) < 1000 by omega) s
    obtain ⟨v', y2, s', e⟩ := big_loop ds (a * 1000 + v) (some (.d d)) s1
    refine ⟨v', y2, s', ?_⟩
    rw [← e]
    simp [ap_forD1, h1]
theorem l_big_ok (s : S) : ∃ (v : Int) (s' : S), M_l_big [.w] s = some (.d (.int v), s') := by
  obtain ⟨v, y2, s', e⟩ := big_loop (rangeD 0 6) 0 none s
  refine ⟨v, s', ?_⟩
  have hr : iRngF (dC (.int 6)) [some .w, some (.d (.int 0)), none] s = some (rangeD 0 6, s) := by
    simp [iRngF]
  unfold M_l_big G_l_big
  rw [ap_runM, if_pos (show [SV.w].length = 1 from rfl)]
  show Option.bind (sSeq _ _ [some .w, none, none] s) _ = _
  rw [ap_sSeq, ap_sSet, ap_dC]
  show Option.bind (sSeq _ _ [some .w, some (.d (.int 0)), none] s) _ = _
  rw [ap_sSeq, ap_sFor, hr, Option.bind_some, e]
  rfl
def cA : Str := " !\"#$&'()*+,-./0123456789:;<=>?@ABCDEFGHIJKLMNOPQRSTUVWXYZ[\\]^_`"
def cB : Str := "abcdefghijklmnopqrstuvwxyz{|}~"
def chars : Str := cA ++ cB
theorem chars_ok : (chars.length = 94 ∧ cA.length + cB.length = 94) ∧ ∀ c ∈ chars.cps.toList, 32 ≤ c ∧ c ≤ 126 ∧ c ≠ 37 := by decide +kernel
theorem char_form : G_l_char = sSeq (sSet 1 (dC (.str cA))) (sSeq (sSet 1 (d2 fCat (dVar 1) (dC (.str cB)))) (sRet (dIx (oVar 1) (d2 fMod (dBu intD [(oVar 0)]) (dC (.int 94)))))) := rfl
theorem fcat_eq {x y : Str} (h : x.length + y.length ≤ 100000) : fCat (.str x) (.str y) = some (.str (x ++ y)) := if_pos h
theorem l_char_ok (i : Int) (s : S) : ∃ c : Nat, (32 ≤ c ∧ c ≤ 126 ∧ c ≠ 37) ∧ M_l_char [.d (.int i)] s = some (.d (.str ⟨#[c]⟩), s) := by
  have h0 : 0 ≤ i % 94 := Int.emod_nonneg i (by omega)
  have h1 : i % 94 < 94 := Int.emod_lt_of_pos i (by omega)
  have h2 : (i % 94).toNat < chars.cps.toList.length := by rw [str_len, chars_ok.1.1]; omega
  refine ⟨chars.cps.toList[(i % 94).toNat], chars_ok.2 _ (List.getElem_mem h2), ?_⟩
  have e1 : ixD (.d (.str chars)) (i % 94) = some (.str ⟨#[chars.cps.toList[(i % 94).toNat]]⟩) := by
    unfold ixD
    rw [if_pos h0]
    show (if chars.length ≤ 100000 then _ else _) = _
    rw [if_pos (by rw [chars_ok.1.1]; omega), List.getElem?_eq_getElem h2]
    rfl
  have e2 : fCat (.str cA) (.str cB) = some (.str chars) := fcat_eq (by rw [chars_ok.1.2]; omega)
  unfold M_l_char
  rw [char_form]
  simp [ap_runM, e2, e1]
theorem glued_ones : ∀ (cs : List Nat) (acc : Array Nat), ((cs.map fun c => (⟨#[c]⟩ : Str)).foldl (fun acc p => acc ++ Str.empty.cps ++ p.cps) acc).toList = acc.toList ++ cs
  | [], acc => by simp
  | c :: cs, acc => by
    rw [List.map_cons, List.foldl_cons, glued_ones cs]
    simp [Str.empty]
theorem join_ones (cs : List Nat) : (Txt.join Str.empty (cs.map fun c => (⟨#[c]⟩ : Str))).cps.toList = cs := by
  cases cs with
  | nil => rfl
  | cons c cs =>
    show ((cs.map fun c => (⟨#[c]⟩ : Str)).foldl (fun acc p => acc ++ Str.empty.cps ++ p.cps) #[c]).toList = _
    rw [glued_ones]
    rfl
theorem ones_strs (cs : List Nat) : strsOf (cs.map fun c => D.str ⟨#[c]⟩) = some (cs.map fun c => (⟨#[c]⟩ : Str)) := by
  induction cs with
  | nil => rfl
  | cons c cs ih =>
    show (strsOf (cs.map fun c => D.str ⟨#[c]⟩)).map _ = _
    rw [ih]
    rfl
theorem ones_sum (cs : List Nat) : ((cs.map fun c => (⟨#[c]⟩ : Str)).map (·.length)).sum = cs.length := by
  induction cs with
  | nil => rfl
  | cons c cs ih =>
    rw [List.map_cons, List.map_cons, List.sum_cons, ih, List.length_cons]
    show 1 + _ = _
    omega
theorem ones_of : ∀ (xs : List D), (∀ x ∈ xs, ∃ c : Nat, x = .str ⟨#[c]⟩ ∧ (32 ≤ c ∧ c ≤ 126 ∧ c ≠ 37)) → ∃ cs : List Nat, xs = (cs.map fun c => D.str ⟨#[c]⟩) ∧ ∀ c ∈ cs, 32 ≤ c ∧ c ≤ 126 ∧ c ≠ 37
  | [], _ => ⟨[], rfl, fun c h => by cases h⟩
  | x :: xs, h => by
    obtain ⟨c, rfl, hc⟩ := h x List.mem_cons_self
    obtain ⟨cs, rfl, hcs⟩ := ones_of xs fun x hx => h x (List.mem_cons_of_mem _ hx)
    refine ⟨c :: cs, rfl, fun d hd => ?_⟩
    rcases List.mem_cons.mp hd with e | e
    · subst e; exact hc
    · exact hcs d e
theorem l_text_ok {lo hi : Int} (h : (Leaf.txt lo hi).Ok) (s : S) : ∃ v s', M_l_leaf_value [.d (Leaf.txt lo hi).enc, .w] s = some (.d v, s') ∧ LeafVal (.txt lo hi) v := by
  obtain ⟨h1, h2, h3⟩ := h
  obtain ⟨k, s1, e1, k0, k1⟩ := next_ok (show 0 < hi - lo + 1 by omega) s
  obtain ⟨xs, s2, e2, hl, hq⟩ := compD_draw (T := .one 5) (E := dCall M_l_char [(dCall M_l_next [(oVar 1), (dC (.int 94))])]) (ρ := [some (.d (Leaf.txt lo hi).enc), some .w, none, none, some (.d (.int (lo + k))), none])
    (fun x => ∃ c : Nat, x = .str ⟨#[c]⟩ ∧ (32 ≤ c ∧ c ≤ 126 ∧ c ≠ 37)) (rangeD 0 (lo + k)) s1 fun d hd => ⟨_, rfl, fun s => by
      obtain ⟨v, s1, e1, _⟩ := next_ok (show (0 : Int) < 94 by omega) s
      obtain ⟨c, hc, e2⟩ := l_char_ok v s1
      exact ⟨_, s1, by simp [e1, e2], c, rfl, hc⟩⟩
  obtain ⟨cs, rfl, hcs⟩ := ones_of xs hq
  have hr : (rangeD 0 (lo + k)).length = (lo + k).toNat := by rw [rangeD_length]; congr 1; omega
  rw [List.length_map, hr] at hl
  have hlen : (Txt.join Str.empty (cs.map fun c => (⟨#[c]⟩ : Str))).length = cs.length := by
    rw [← str_len, join_ones]
  refine ⟨.str (Txt.join Str.empty (cs.map fun c => (⟨#[c]⟩ : Str))), s2, ?_, ⟨fun c hc => ?_, ?_, ?_, h3⟩⟩
  · have hi : iRngF (dVar 4) [some (.d (Leaf.txt lo hi).enc), some .w, none, none, some (.d (.int (lo + k))), none] s1 = some (rangeD 0 (lo + k), s1) := by
      have h8 : -1000000 ≤ lo + k ∧ lo + k ≤ 1000000 := by omega
      simp [iRngF, h8]
    have h9 : (rangeD 0 (lo + k)).length ≤ 100000 := by rw [hr]; omega
    have h10 : cs.length ≤ 100000 := by omega
    simp only [Leaf.enc] at hi e2
    have h11 : ((cs.map fun c => (⟨#[c]⟩ : Str)).map fun x : Str => x.length).sum ≤ 100000 := by rw [ones_sum]; exact h10
    simp only [List.map_map] at h11
    simp [M_l_leaf_value, G_l_leaf_value, ap_runM, Leaf.enc, e1, hi, h9, e2, ones_strs, h11]
  · rw [join_ones] at hc
    exact hcs c hc
  · rw [hlen]; omega
  · rw [hlen]; omega
theorem l_leaf_value_ok {l : Leaf} (h : l.Ok) (s : S) : ∃ v s', M_l_leaf_value [.d l.enc, .w] s = some (.d v, s') ∧ LeafVal l v := by
  cases l with
  | txt lo hi => exact l_text_ok h s
  | num lo hi =>
    have h : lo ≤ hi := h
    obtain ⟨k, s1, e1, k0, k1⟩ := next_ok (show (0 : Int) < 5 by omega) s
    by_cases c1 : k = 1
    · exact ⟨.int lo, s1, by simp [M_l_leaf_value, G_l_leaf_value, ap_runM, Leaf.enc, e1, c1], ⟨Int.le_refl _, h⟩⟩
    by_cases c2 : k = 2
    · exact ⟨.int hi, s1, by simp [M_l_leaf_value, G_l_leaf_value, ap_runM, Leaf.enc, e1, c2], ⟨h, Int.le_refl _⟩⟩
    obtain ⟨v, s2, e2⟩ := l_big_ok s1
    have hp : 0 < hi - lo + 1 := by omega
    have g1 := Int.emod_nonneg v (show hi - lo + 1 ≠ 0 by omega)
    have g2 := Int.emod_lt_of_pos v hp
    refine ⟨.int (lo + v % (hi - lo + 1)), s2, ?_, ⟨by omega, by omega⟩⟩
    simp [M_l_leaf_value, G_l_leaf_value, ap_runM, Leaf.enc, e1, c1, c2, e2, hp]
  | cho ys ret op =>
    cases op with
    | false =>
      have hne : 0 < ys.length := by
        cases ys with
        | nil => exact absurd (h.1 rfl) (by decide)
        | cons y ys => simp
      obtain ⟨k, s1, e1, k0, k1⟩ := next_ok (show (0 : Int) < ys.length by omega) s
      have hk : k.toNat < ys.length := by omega
      refine ⟨.int ys[k.toNat], s1, ?_, .inl (List.getElem_mem hk)⟩
      have hix : ixD (.r (ys.map D.int)) k = some (.int ys[k.toNat]) := by
        unfold ixD
        rw [if_pos k0]
        show (ys.map D.int)[k.toNat]? = _
        rw [List.getElem?_map, List.getElem?_eq_getElem hk]
        rfl
      simp [M_l_leaf_value, G_l_leaf_value, ap_runM, Leaf.enc, e1, hix]
    | true =>
      obtain ⟨k, s1, e1, k0, k1⟩ := next_ok (show (0 : Int) < ys.length + 1 by omega) s
      have hk : k.toNat < (ys ++ [0]).length := by rw [List.length_append]; simp; omega
      refine ⟨.int (ys ++ [0])[k.toNat], s1, ?_, ?_⟩
      · have hl1 : ys.length ≤ 100000 := Nat.le_trans h.2 (by omega)
        have hix : ixD (.r (ys.map D.int ++ [.int 0])) k = some (.int (ys ++ [0])[k.toNat]) := by
          unfold ixD
          rw [if_pos k0]
          show (ys.map D.int ++ [.int 0])[k.toNat]? = _
          rw [show ys.map D.int ++ [.int 0] = (ys ++ [0]).map D.int by simp, List.getElem?_map, List.getElem?_eq_getElem hk]
          rfl
        simp [M_l_leaf_value, G_l_leaf_value, ap_runM, Leaf.enc, hl1, e1, hix]
      · have := List.getElem_mem hk
        rcases List.mem_append.mp this with e | e
        · exact .inl e
        · exact .inr ⟨List.mem_singleton.mp e, rfl⟩
end Sb

set_option Elab.async false
set_option linter.all false
set_option maxRecDepth 100000
set_option maxHeartbeats 4000000
namespace Sb
open PySem L2
/-! ## a drawn value -/
/-- the function draws a value of the part of that depth at most -/
def Draws (σ : Sch) (F : FM) (p : Part) (left : Int) (b : Nat) : Prop := ∀ s, ∃ d m c s', F [.d σ.enc, .d p.enc, .w, .n σ.R, .d (.int left)] s = some (.d d, s') ∧ Val σ p d m c ∧ m ≤ b
theorem mode_opt (m : Mode) : decide (m.enc = "optional") = true ↔ m = .opt := by
  cases m <;> simp [Mode.enc]
theorem rv_loop {σ : Sch} {F : FM} {left : Int} {b : Nat} {B : SV} : ∀ (fs : List Field) (acc : List D) (x6 : Option SV) (s : S), (∀ f ∈ fs, Draws σ F f.part left b) → acc.length + fs.length ≤ 1000 →
    ∃ (vals : List (Field × Option Item)) (y6 : Option SV) (s' : S), vals.map (·.1) = fs ∧ (∀ x ∈ vals, x.2 = none → x.1.mode = .opt) ∧ (∀ x ∈ chosen vals, Val σ x.1.part x.2.1 x.2.2.1 x.2.2.2 ∧ x.2.2.1 ≤ b) ∧
    forD (.one 6) (sIf (bOr (bOf (d2 fNe (dIx (oVar 6) (dC (.int 2))) (dC (.str "optional")))) (bOf (d2 fGt (dCall M_l_next [(oVar 2), (dC (.int 3))]) (dC (.int 0)))))
    (sApp 5 (dTup [(dIx (oVar 6) (dC (.int 0))), (dCall F [(oVar 0), (dIx (oVar 6) (dC (.int 1))), (oVar 2), (oVar 3), (oVar 4)])]))
    sNil) (fs.map Field.enc) [some (.d σ.enc), some B, some .w, some (.n σ.R), some (.d (.int left)), some (.own acc), x6] s = some (.nx [some (.d σ.enc), some B, some .w, some (.n σ.R), some (.d (.int left)), some (.own (acc ++ (chosen vals).map entry)), y6] s')
  | [], acc, x6, s, _, _ => ⟨[], x6, s, rfl, (fun x h => by cases h), (fun x h => by cases h), by simp [chosen]⟩
  | f :: fs, acc, x6, s, h, hl => by
    rw [List.length_cons] at hl
    have hf := h f List.mem_cons_self
    have hacc : acc.length ≤ 100000 := by omega
    have take : ∀ s, (bOr (bOf (d2 fNe (dIx (oVar 6) (dC (.int 2))) (dC (.str "optional")))) (bOf (d2 fGt (dCall M_l_next [(oVar 2), (dC (.int 3))]) (dC (.int 0)))) [some (.d σ.enc), some B, some .w, some (.n σ.R), some (.d (.int left)), some (.own acc), some (.d f.enc)] s).isSome := by
      intro s
      obtain ⟨k, s1, e1, _⟩ := next_ok (show (0 : Int) < 3 by omega) s
      by_cases ho : f.mode.enc = "optional"
      · simp [Field.enc, ho, e1]
      · simp [Field.enc, ho]
    obtain ⟨⟨t, s1⟩, ht⟩ := Option.isSome_iff_exists.mp (take s)
    have hopt : t = false → f.mode = .opt := by
      intro h0
      subst h0
      apply (mode_opt _).mp
      by_cases ho : f.mode.enc = "optional"
      · simp [ho]
      · simp [Field.enc, ho] at ht
    cases t with
    | true =>
      obtain ⟨d, m, c, s2, e2, v, hm⟩ := hf s1
      obtain ⟨vals, y6, s', h1, h2, h3, e⟩ := rv_loop (left := left) (B := B) fs (acc ++ [.tup [.int f.id, d]]) (some (.d f.enc)) s2 (fun g hg => h g (List.mem_cons_of_mem _ hg)) (by rw [List.length_append]; simp; omega)
      refine ⟨(f, some (d, m, c)) :: vals, y6, s', by rw [List.map_cons, h1], ?_, ?_, ?_⟩
      · intro x hx hn
        rcases List.mem_cons.mp hx with e | e
        · subst e; cases hn
        · exact h2 x e hn
      · intro x hx
        have hx : x ∈ (f, (d, m, c)) :: chosen vals := hx
        rcases List.mem_cons.mp hx with e | e
        · subst e; exact ⟨v, hm⟩
        · exact h3 x e
      · rw [List.append_assoc] at e
        show _ = some (Out.nx [some (.d σ.enc), some B, some .w, some (.n σ.R), some (.d (.int left)), some (.own (acc ++ ([.tup [.int f.id, d]] ++ (chosen vals).map entry))), y6] s')
        rw [← e, List.map_cons, ap_forD1, ap_goOne, Option.bind_some]
        show Option.bind (sIf _ _ _ [some (.d σ.enc), some B, some .w, some (.n σ.R), some (.d (.int left)), some (.own acc), some (.d f.enc)] s) _ = _
        rw [ap_sIf, ht, Option.bind_some]
        simp [Field.enc, e2, hacc]
    | false =>
      obtain ⟨vals, y6, s', h1, h2, h3, e⟩ := rv_loop (left := left) (B := B) fs acc (some (.d f.enc)) s1 (fun g hg => h g (List.mem_cons_of_mem _ hg)) (by omega)
      refine ⟨(f, none) :: vals, y6, s', by rw [List.map_cons, h1], ?_, h3, ?_⟩
      · intro x hx hn
        rcases List.mem_cons.mp hx with e | e
        · subst e; exact hopt rfl
        · exact h2 x e hn
      · show _ = some (Out.nx [some (.d σ.enc), some B, some .w, some (.n σ.R), some (.d (.int left)), some (.own (acc ++ (chosen vals).map entry)), y6] s')
        rw [← e, List.map_cons, ap_forD1, ap_goOne, Option.bind_some]
        show Option.bind (sIf _ _ _ [some (.d σ.enc), some B, some .w, some (.n σ.R), some (.d (.int left)), some (.own acc), some (.d f.enc)] s) _ = _
        rw [ap_sIf, ht, Option.bind_some]
        rfl
theorem l_record_value_ok {σ : Sch} {F : FM} {left : Int} {b : Nat} {n : Str} {fs : List Field} {ret : List Int} (hb : σ.body n = some (.rcd fs ret)) (hl : fs.length ≤ 1000) (h : ∀ f ∈ fs, Draws σ F f.part left b) (s : S) :
    ∃ d m c s', M_l_record_value F [.d σ.enc, .d (Body.rcd fs ret).enc, .w, .n σ.R, .d (.int left)] s = some (.d d, s') ∧ Val σ (.nm n) d m c ∧ m ≤ 1 + b := by
  obtain ⟨vals, y6, s', h1, h2, h3, e⟩ := rv_loop (B := .d (Body.rcd fs ret).enc) fs [] none s h (by simpa using hl)
  refine ⟨_, _, _, s', ?_, .rcd vals hb h1 h2 (fun x hx => (h3 x hx).1), ?_⟩
  · rw [List.nil_append] at e
    simp only [enc_rcd] at e
    simp [M_l_record_value, G_l_record_value, ap_runM]
    rw [e]
    simp
  · have : mx ((chosen vals).map (·.2.2.1)) ≤ b := mx_le fun x hx => by
      obtain ⟨y, hy, rfl⟩ := List.mem_map.mp hx
      exact (h3 y hy).2
    omega
theorem items_of {σ : Sch} {p : Part} {b : Nat} : ∀ (xs : List D), (∀ x ∈ xs, ∃ m c, Val σ p x m c ∧ m ≤ b) → ∃ items : List Item, xs = items.map (·.1) ∧ ∀ x ∈ items, Val σ p x.1 x.2.1 x.2.2 ∧ x.2.1 ≤ b
  | [], _ => ⟨[], rfl, fun x h => by cases h⟩
  | x :: xs, h => by
    obtain ⟨m, c, v, hm⟩ := h x List.mem_cons_self
    obtain ⟨items, rfl, hi⟩ := items_of xs fun x hx => h x (List.mem_cons_of_mem _ hx)
    refine ⟨(x, m, c) :: items, rfl, fun y hy => ?_⟩
    rcases List.mem_cons.mp hy with e | e
    · subst e; exact ⟨v, hm⟩
    · exact hi y e
theorem pd_four {σ : Sch} (ok : σ.Ok) {p : Part} (h : p.In σ) : σ.pd p ≤ 4 := by
  cases p with
  | lf l => exact Nat.zero_le _
  | nm t =>
    obtain ⟨k, h1, h2, _⟩ := lvl_spec ok.nodup ok.chain h
    have := ok.len
    show σ.lvl t ≤ 4
    omega
theorem lv_list {σ : Sch} (ok : σ.Ok) {n : Nat} {left : Int} {b : Nat} {t : Str} {p : Part} {lo hi : Int} (hl : ¬ left = 0) (hb : σ.body t = some (.lst p lo hi)) (ih : Draws σ (M_l_value n) p (left - 1) b) : Draws σ (M_l_value (n + 1)) (.nm t) left (1 + b) := by
  intro s
  obtain ⟨h1, h2, h3, h4, h5, h6⟩ := ok.body hb
  obtain ⟨k, s1, e1, k0, k1⟩ := next_ok (show 0 < (if hi - lo < 3 then hi - lo else 3) + 1 by split <;> omega) s
  have k2 : lo + k ≤ hi := by
    have : k < hi - lo + 1 := by split at k1 <;> omega
    omega
  obtain ⟨xs, s2, e2, hlen, hq⟩ := compD_draw (T := .one 10) (E := dCall (M_l_value n) [(oVar 0), (dIx (oVar 5) (dC (.int 1))), (oVar 2), (oVar 3), (d2 fSub (dVar 4) (dC (.int 1)))])
    (ρ := [some (.d σ.enc), some (.d (.str t)), some .w, some (.n σ.R), some (.d (.int left)), some (.d (Body.lst p lo hi).enc), none, none, none, some (.d (.int (lo + k))), none])
    (fun x => ∃ m c, Val σ p x m c ∧ m ≤ b) (rangeD 0 (lo + k)) s1 fun d hd => ⟨_, rfl, fun s => by
      obtain ⟨d, m, c, s', e, v, hm⟩ := ih s
      exact ⟨d, s', by simp [e], m, c, v, hm⟩⟩
  obtain ⟨items, rfl, hi2⟩ := items_of xs hq
  have hr : (rangeD 0 (lo + k)).length = (lo + k).toNat := by rw [rangeD_length]; congr 1; omega
  rw [List.length_map, hr] at hlen
  refine ⟨_, _, _, s2, ?_, .list items hb (fun x hx => (hi2 x hx).1) (by omega) (by omega), ?_⟩
  · have hi : iRngF (dVar 9) [some (.d σ.enc), some (.d (.str t)), some .w, some (.n σ.R), some (.d (.int left)), some (.d (Body.lst p lo hi).enc), none, none, none, some (.d (.int (lo + k))), none] s1 = some (rangeD 0 (lo + k), s1) := by
      have h8 : -1000000 ≤ lo + k ∧ lo + k ≤ 1000000 := by omega
      simp [iRngF, h8]
    have h9 : (rangeD 0 (lo + k)).length ≤ 100000 := by rw [hr]; omega
    simp only [enc_lst] at hi e2
    simp [M_l_value, G_l_value, ap_runM, hl, l_body_of_eq hb, e1, hi, h9, e2]
  · have : mx (items.map (·.2.1)) ≤ b := mx_le fun x hx => by
      obtain ⟨y, hy, rfl⟩ := List.mem_map.mp hx
      exact (hi2 y hy).2
    omega
theorem opos {n : Nat} {op : Bool} (h : 0 < n ∨ op = true) : 0 < (n : Int) + (if op = true then 1 else 0) := by
  split
  · omega
  · rename_i g
    rcases h with h | h
    · omega
    · exact absurd h g
theorem lv_union {σ : Sch} (ok : σ.Ok) {n : Nat} {left : Int} {b : Nat} {t : Str} {cs : List (Int × Part)} {ret : List Int} {op : Bool} (hl : ¬ left = 0) (hne : 0 < cs.length ∨ op = true) (hb : σ.body t = some (.uni cs ret op)) (ih : ∀ c ∈ cs, Draws σ (M_l_value n) c.2 (left - 1) b) : Draws σ (M_l_value (n + 1)) (.nm t) left (1 + b) := by
  intro s
  obtain ⟨h1, h2, h3⟩ := ok.body hb
  obtain ⟨k, s1, e1, k0, k1⟩ := next_ok (show 0 < (cs.length : Int) + (if op = true then 1 else 0) from opos hne) s
  by_cases hk : k = cs.length
  · have ho : op = true := by
      cases op with
      | true => rfl
      | false => simp at k1; omega
    subst ho
    refine ⟨_, 1, 1, s1, ?_, .unk hb, by omega⟩
    simp at e1
    simp [M_l_value, G_l_value, ap_runM, hl, l_body_of_eq hb, e1, hk]
  · have hk2 : k.toNat < cs.length := by split at k1 <;> omega
    obtain ⟨d, m, c, s2, e2, v, hm⟩ := ih _ (List.getElem_mem hk2) s1
    have hkk : k = (k.toNat : Int) := by omega
    refine ⟨_, _, _, s2, ?_, .case hb (show (cs[k.toNat].1, cs[k.toNat].2) ∈ cs from List.getElem_mem hk2) v, by omega⟩
    have hix : ixD (.d (.tup (cs.map caseEnc))) k = some (.tup [.int cs[k.toNat].1, cs[k.toNat].2.enc]) := by
      unfold ixD
      rw [if_pos k0]
      show (cs.map caseEnc)[k.toNat]? = _
      rw [List.getElem?_map, List.getElem?_eq_getElem hk2]
      rfl
    simp [M_l_value, G_l_value, ap_runM, hl, l_body_of_eq hb, e1, hk, hix, e2]
theorem uni_ne {σ : Sch} (ok : σ.Ok) {t : Str} {cs : List (Int × Part)} {ret : List Int} {op : Bool} (hb : σ.body t = some (.uni cs ret op)) : 0 < cs.length ∨ op = true := by
  obtain ⟨k, _, _, hv⟩ := lvl_up ok.nodup ok.chain hb
  cases op with
  | true => exact .inr rfl
  | false =>
    cases cs with
    | nil => simp [hasV] at hv
    | cons c cs => exact .inl (by simp)
theorem l_value_ok {σ : Sch} (ok : σ.Ok) : ∀ (n : Nat) (p : Part) (left : Nat), p.In σ → left < n → Draws σ (M_l_value n) p (left : Int) (left + 4) := by
  intro n
  induction n with
  | zero => intro p left _ h; omega
  | succ n ih =>
    intro p left hp hn
    cases p with
    | lf l =>
      intro s
      have hp : l.Ok := hp
      obtain ⟨v, s', e, hv⟩ := l_leaf_value_ok hp s
      exact ⟨v, 0, 1, s', by simp [M_l_value, G_l_value, ap_runM, e], .leaf hv, Nat.zero_le _⟩
    | nm t =>
      cases left with
      | zero =>
        intro s
        have h4 := pd_four ok hp
        obtain ⟨⟨d, m, c⟩, S⟩ := simple_ex ok 20 (.nm t) hp (by omega)
        have e : ∀ s, M_l_simple 20 [.d σ.enc, .d (.str t), .n σ.R] s = some (.d d, s) := S.lev
        have hm : m ≤ σ.pd (.nm t) := S.low
        exact ⟨d, m, c, s, by simp [M_l_value, G_l_value, ap_runM, e], S.val, by omega⟩
      | succ left =>
        have hl : ¬ ((left + 1 : Nat) : Int) = 0 := by omega
        have hs : ((left + 1 : Nat) : Int) - 1 = (left : Int) := by omega
        obtain ⟨b, hb⟩ := in_body ok.nodup hp
        have he : left + 1 + 4 = 1 + (left + 4) := by omega
        rw [he]
        cases b with
        | lst p lo hi =>
          refine lv_list ok hl hb ?_
          rw [hs]
          exact ih p left (ok.body hb).1 (by omega)
        | uni cs ret op =>
          refine lv_union ok hl (uni_ne ok hb) hb fun c hc => ?_
          rw [hs]
          exact ih c.2 left ((ok.body hb).2.2 c hc) (by omega)
        | rcd fs ret =>
          intro s
          have hB := ok.body hb
          obtain ⟨d, m, c, s', e, v, hm⟩ := l_record_value_ok (F := M_l_value n) (left := (left : Int)) (b := left + 4) hb (Nat.le_trans hB.2.1 (by omega)) (fun f hf => ih f.part left (hB.2.2.1 f hf) (by omega)) s
          refine ⟨d, m, c, s', ?_, v, hm⟩
          simp only [enc_rcd] at e
          have hl2 : ¬ ((left : Int) + 1 = 0) := by omega
          have hs2 : (left : Int) + 1 - 1 = (left : Int) := by omega
          simp [M_l_value, G_l_value, ap_runM, hl2, l_body_of_eq hb, hs2, e]
end Sb

set_option Elab.async false
set_option linter.all false
set_option maxRecDepth 100000
set_option maxHeartbeats 4000000
namespace Sb
open PySem L2
/-! ## drawn schemas: ids, leaves, parts -/
@[simp] theorem ap_sRetP {i j : Nat} {ρ : Env} {s : S} : sRetP i j ρ s = match ρ[i]?, ρ[j]? with
  | some (some (.own xs)), some (some (.own ys)) => if i = j then none else (intsOf xs).bind fun l => (intsOf ys).map fun m => .rt (.p l m) s
  | _, _ => none := rfl
theorem asc_snoc : ∀ {l : List Int} {a j : Int}, Asc a l → (∀ i ∈ l, i < j) → a < j → Asc a (l ++ [j])
  | [], a, j, _, _, h => ⟨h, trivial⟩
  | i :: l, a, j, h, k, _ => ⟨h.1, asc_snoc h.2 (fun x hx => k x (List.mem_cons_of_mem _ hx)) (k i List.mem_cons_self)⟩
theorem asc_sub : ∀ {l' l : List Int}, l'.Sublist l → ∀ {a : Int}, Asc a l → Asc a l' := by
  intro l' l h
  induction h with
  | slnil => intro a h; exact h
  | cons x _ ih => intro a h; exact ih (asc_weak (Int.le_of_lt h.1) h.2)
  | cons_cons x _ ih => intro a h; exact ⟨h.1, ih h.2⟩
theorem ids_loop {M : SV} : ∀ (ds : List D) (acc : List Int) (last : Int) (x4 : Option SV) (s : S), Asc 0 acc → (∀ i ∈ acc, i ≤ last) → 0 ≤ last → acc.length + ds.length ≤ 1000 →
    ∃ (acc' : List Int) (last' : Int) (y4 : Option SV) (s' : S), forD (.one 4) (sSeq (sSet 3 (d2 fAdd (d2 fAdd (dVar 3) (dC (.int 1))) (dCall M_l_next [(oVar 0), (dC (.int 4))]))) (sApp 2 (dVar 3))) ds [some .w, some M, some (.own (acc.map D.int)), some (.d (.int last)), x4] s = some (.nx [some .w, some M, some (.own (acc'.map D.int)), some (.d (.int last')), y4] s') ∧
      Asc 0 acc' ∧ (∀ i ∈ acc', i ≤ last') ∧ 0 ≤ last' ∧ last' ≤ last + 4 * (ds.length : Int) ∧ acc'.length = acc.length + ds.length
  | [], acc, last, x4, s, h1, h2, h3, _ => ⟨acc, last, x4, s, rfl, h1, h2, h3, by simp, rfl⟩
  | d :: ds, acc, last, x4, s, h1, h2, h3, hl => by
    rw [List.length_cons] at hl
    obtain ⟨k, s1, e1, k0, k1⟩ := next_ok (show (0 : Int) < 4 by omega) s
    have hacc : acc.length ≤ 100000 := by omega
    obtain ⟨acc', last', y4, s', e, g1, g2, g3, g4, g5⟩ := ids_loop (M := M) ds (acc ++ [last + 1 + k]) (last + 1 + k) (some (.d d)) s1 (asc_snoc h1 (fun i hi => by have := h2 i hi; omega) (by omega)) (fun i hi => by
      rcases List.mem_append.mp hi with e | e
      · have := h2 i e; omega
      · rw [List.mem_singleton.mp e]; omega) (by omega) (by rw [List.length_append]; simp; omega)
    refine ⟨acc', last', y4, s', ?_, g1, g2, g3, by rw [List.length_cons]; omega, by rw [g5, List.length_append, List.length_cons]; simp; omega⟩
    rw [← e]
    simp [ap_forD1, e1, hacc]
theorem l_ids_ok (s : S) : ∃ (is : List Int) (s' : S), M_l_ids [.w, .d (.int 4)] s = some (.r (is.map D.int), s') ∧ Asc 0 is ∧ is.length ≤ 5 := by
  obtain ⟨k, s1, e1, k0, k1⟩ := next_ok (show (0 : Int) < 5 by omega) s
  have hr : (rangeD 0 k).length = k.toNat := by rw [rangeD_length]; congr 1; omega
  obtain ⟨acc, last, y4, s2, e2, g1, g2, g3, g4, g5⟩ := ids_loop (M := .d (.int 4)) (rangeD 0 k) [] 0 none s1 trivial (fun i h => by cases h) (Int.le_refl 0) (by rw [hr]; simp; omega)
  obtain ⟨j, s3, e3, _⟩ := next_ok (show (0 : Int) < 9 by omega) s2
  rw [hr] at g4 g5
  have g5 : acc.length = k.toNat := by simpa using g5
  have h8 : -1000000 ≤ k ∧ k ≤ 1000000 := by omega
  have hacc : acc.length ≤ 100000 := by omega
  have hi : iRngF (dCall M_l_next [(oVar 0), (d2 fAdd (dVar 1) (dC (.int 1)))]) [some .w, some (.d (.int 4)), some (.own []), some (.d (.int 0)), none] s = some (rangeD 0 k, s1) := by
    simp [iRngF, e1, h8]
  simp only [List.map_nil] at e2
  by_cases hj : j = 1
  · refine ⟨acc ++ [99], s3, ?_, asc_snoc g1 (fun i h => by have := g2 i h; omega) (by omega), by rw [List.length_append]; simp; omega⟩
    simp [M_l_ids, G_l_ids, ap_runM, hi]
    rw [e2]
    simp [e3, hj, hacc]
  · refine ⟨acc, s3, ?_, g1, by omega⟩
    simp [M_l_ids, G_l_ids, ap_runM, hi]
    rw [e2]
    simp [e3, hj]
theorem split_loop {L : SV} : ∀ (is acc ret : List Int) (x4 : Option SV) (s : S), acc.length + is.length ≤ 1000 → ret.length + is.length ≤ 1000 →
    ∃ (l r : List Int) (y4 : Option SV) (s' : S), forD (.one 4) (sIf (bOf (d2 fEq (dCall M_l_next [(oVar 0), (dC (.int 5))]) (dC (.int 1)))) (sApp 3 (dVar 4)) (sApp 2 (dVar 4))) (is.map D.int) [some .w, some L, some (.own (acc.map D.int)), some (.own (ret.map D.int)), x4] s = some (.nx [some .w, some L, some (.own ((acc ++ l).map D.int)), some (.own ((ret ++ r).map D.int)), y4] s') ∧ l.Sublist is
  | [], acc, ret, x4, s, _, _ => ⟨[], [], x4, s, by simp, List.Sublist.refl _⟩
  | i :: is, acc, ret, x4, s, h1, h2 => by
    rw [List.length_cons] at h1 h2
    obtain ⟨k, s1, e1, _⟩ := next_ok (show (0 : Int) < 5 by omega) s
    have h3 : acc.length ≤ 100000 := by omega
    have h4 : ret.length ≤ 100000 := by omega
    by_cases hk : k = 1
    · obtain ⟨l, r, y4, s', e, g⟩ := split_loop (L := L) is acc (ret ++ [i]) (some (.d (.int i))) s1 (by omega) (by rw [List.length_append]; simp; omega)
      refine ⟨l, i :: r, y4, s', ?_, .cons _ g⟩
      rw [List.append_assoc] at e
      rw [show ret ++ i :: r = ret ++ ([i] ++ r) from rfl, ← e]
      simp [ap_forD1, e1, hk, h4]
    · obtain ⟨l, r, y4, s', e, g⟩ := split_loop (L := L) is (acc ++ [i]) ret (some (.d (.int i))) s1 (by rw [List.length_append]; simp; omega) (by omega)
      refine ⟨i :: l, r, y4, s', ?_, .cons_cons _ g⟩
      rw [List.append_assoc] at e
      rw [show acc ++ i :: l = acc ++ ([i] ++ l) from rfl, ← e]
      simp [ap_forD1, e1, hk, h3]
theorem l_split_ok {is : List Int} (hl : is.length ≤ 5) (s : S) : ∃ (l r : List Int) (s' : S), M_l_split [.w, .r (is.map D.int)] s = some (.p l r, s') ∧ l.Sublist is := by
  obtain ⟨l, r, y4, s', e, g⟩ := split_loop (L := .r (is.map D.int)) is [] [] none s (by simp; omega) (by simp; omega)
  refine ⟨l, r, s', ?_, g⟩
  simp only [List.nil_append, List.map_nil] at e
  simp [M_l_split, G_l_split, ap_runM]
  rw [e]
  simp [intsOf_map]
/-- live and retired ids, drawn -/
theorem l_drawn_ids (s : S) : ∃ (is l r : List Int) (s1 s2 : S), M_l_ids [.w, .d (.int 4)] s = some (.r (is.map D.int), s1) ∧ M_l_split [.w, .r (is.map D.int)] s1 = some (.p l r, s2) ∧ Asc 0 l ∧ l.length ≤ 5 := by
  obtain ⟨is, s1, e1, h1, h2⟩ := l_ids_ok s
  obtain ⟨l, r, s2, e2, g⟩ := l_split_ok h2 s1
  exact ⟨is, l, r, s1, s2, e1, e2, asc_sub g h1, Nat.le_trans g.length_le h2⟩
theorem pow15 : fPow (.int 10) (.int 15) = some (.int 1000000000000000) := rfl
@[simp] theorem neg_i {i : Int} : fNeg (.int i) = some (.int (-i)) := rfl
theorem l_leaf_ok (s : S) : ∃ (l : Leaf) (s' : S), M_l_leaf [.w] s = some (.d l.enc, s') ∧ l.Ok := by
  obtain ⟨k, s1, e1, k0, k1⟩ := next_ok (show (0 : Int) < 8 by omega) s
  by_cases c1 : k < 4
  · obtain ⟨a, s2, e2, a0, a1⟩ := next_ok (show (0 : Int) < 12 by omega) s1
    obtain ⟨b, s3, e3, b0, b1⟩ := next_ok (show (0 : Int) < 9 by omega) s2
    obtain ⟨c, s4, e4, c0, c1'⟩ := next_ok (show (0 : Int) < 9 by omega) s3
    by_cases hc : c = 1
    · exact ⟨.num (-1000000000000000) 1000000000000000, s4, by simp [M_l_leaf, G_l_leaf, ap_runM, e1, c1, e2, e3, e4, hc, Leaf.enc], by show (-1000000000000000 : Int) ≤ 1000000000000000; omega⟩
    · exact ⟨.num (a - 6) (a - 6 + b), s4, by simp [M_l_leaf, G_l_leaf, ap_runM, e1, c1, e2, e3, e4, hc, Leaf.enc], by show a - 6 ≤ a - 6 + b; omega⟩
  by_cases c2 : k < 6
  · obtain ⟨a, s2, e2, a0, a1⟩ := next_ok (show (0 : Int) < 3 by omega) s1
    obtain ⟨b, s3, e3, b0, b1⟩ := next_ok (show (0 : Int) < 4 by omega) s2
    obtain ⟨c, s4, e4, c0, c1'⟩ := next_ok (show (0 : Int) < 9 by omega) s3
    by_cases hc : c = 1
    · exact ⟨.txt a 40, s4, by simp [M_l_leaf, G_l_leaf, ap_runM, e1, c1, c2, e2, e3, e4, hc, Leaf.enc], ⟨a0, by omega, Int.le_refl _⟩⟩
    · exact ⟨.txt a (a + b), s4, by simp [M_l_leaf, G_l_leaf, ap_runM, e1, c1, c2, e2, e3, e4, hc, Leaf.enc], ⟨a0, by omega, by omega⟩⟩
  obtain ⟨is, l, r, s2, s3, e2, e3, h1, h2⟩ := l_drawn_ids s1
  obtain ⟨c, s4, e4, c0, c1'⟩ := next_ok (show (0 : Int) < 2 by omega) s3
  refine ⟨.cho l r (decide (c = 1) || (decide (0 < (r.length : Int)) || decide ((l.length : Int) = 0))), s4, ?_, fun h => by simp [h], Nat.le_trans h2 (by omega)⟩
  simp [M_l_leaf, G_l_leaf, ap_runM, e1, c1, c2, e2, e3, Leaf.enc]
  by_cases hc : c = 1
  · simp [e4, hc]
  · by_cases hr : 0 < r.length
    · simp [e4, hc, hr]
    · simp [e4, hc, hr]
def GoodPart (names : List Str) (p : Part) : Prop := ∀ σ : Sch, σ.defs.map (·.1) = names → p.In σ
theorem ix_r {ds : List D} {k : Int} (h : 0 ≤ k) : ixD (.r ds) k = ds[k.toNat]? := by
  unfold ixD
  rw [if_pos h]
theorem l_part_ok {names : List Str} (hn : 0 < names.length) (s : S) : ∃ (p : Part) (s' : S), M_l_part [.w, .r (names.map D.str)] s = some (.d p.enc, s') ∧ GoodPart names p := by
  obtain ⟨k, s1, e1, k0, k1⟩ := next_ok (show (0 : Int) < 3 by omega) s
  by_cases c1 : k = 1
  · obtain ⟨j, s2, e2, j0, j1⟩ := next_ok (show 0 < (names.length : Int) by omega) s1
    have hj : j.toNat < names.length := by omega
    have hix : ixD (.r (names.map D.str)) j = some (.str names[j.toNat]) := by
      rw [ix_r j0, List.getElem?_map, List.getElem?_eq_getElem hj]
      rfl
    exact ⟨.nm names[j.toNat], s2, by simp [M_l_part, G_l_part, ap_runM, e1, c1, e2, hix], fun σ h => by
      show names[j.toNat] ∈ σ.defs.map (·.1)
      rw [h]
      exact List.getElem_mem hj⟩
  · obtain ⟨l, s2, e2, hl⟩ := l_leaf_ok s1
    exact ⟨.lf l, s2, by simp [M_l_part, G_l_part, ap_runM, e1, c1, e2], fun σ h => hl⟩
end Sb

set_option Elab.async false
set_option linter.all false
set_option maxRecDepth 100000
set_option maxHeartbeats 4000000
namespace Sb
open PySem L2
/-! ## drawn bodies -/
def GoodBody (names later : List Str) (b : Body) : Prop := hasV (inNames later) b = true ∧ ∀ σ : Sch, σ.defs.map (·.1) = names → BodyOk σ b
def listHead : SF := (sIf (bOf (d2 fEq (dCall M_l_next [(oVar 0), (dC (.int 2))]) (dC (.int 1))))
    (sSeq (sSet 5 (dIx (oVar 1) (dCall M_l_next [(oVar 0), (dBu lenD [(oVar 1)])])))
    (sIf (bOf (dIn false (dVar 5) (oVar 2)))
    (sSet 3 (dCall M_l_next [(oVar 0), (dC (.int 2))]))
    sNil))
    (sSeq (sSet 5 (dCall M_l_leaf [(oVar 0)]))
    (sSet 3 (dCall M_l_next [(oVar 0), (dC (.int 3))]))))
def listTail : SF := (sSeq (sSet 4 (dBu maxD [(dC (.int 1)), (d2 fAdd (dVar 3) (dCall M_l_next [(oVar 0), (dC (.int 4))]))]))
    (sSeq (sIf (bOf (d2 fEq (dCall M_l_next [(oVar 0), (dC (.int 9))]) (dC (.int 1))))
    (sSet 4 (dC (.int 99)))
    sNil)
    (sRet (dTup [(dC (.str "list")), (oVar 5), (oVar 3), (oVar 4)]))))
theorem list_form : G_l_list_body M_l_next M_l_leaf = sSeq (sSet 3 (dC (.int 0))) (sSeq listHead listTail) := rfl
theorem list_head {names later : List Str} (hn : 0 < names.length) (s : S) : ∃ (p : Part) (lo : Int) (s' : S), listHead [some .w, some (.r (names.map D.str)), some (.r (later.map D.str)), some (.d (.int 0)), none, none] s = some (.nx [some .w, some (.r (names.map D.str)), some (.r (later.map D.str)), some (.d (.int lo)), none, some (.d p.enc)] s') ∧
    GoodPart names p ∧ 0 ≤ lo ∧ lo ≤ 2 ∧ (isNm p = true → lo ≤ 1) ∧ (lo = 0 ∨ inNames later p = true) := by
  obtain ⟨k, s1, e1, k0, k1⟩ := next_ok (show (0 : Int) < 2 by omega) s
  by_cases c1 : k = 1
  · obtain ⟨j, s2, e2, j0, j1⟩ := next_ok (show 0 < (names.length : Int) by omega) s1
    have hj : j.toNat < names.length := by omega
    have hix : ixD (.r (names.map D.str)) j = some (.str names[j.toNat]) := by
      rw [ix_r j0, List.getElem?_map, List.getElem?_eq_getElem hj]
      rfl
    have hg : GoodPart names (.nm names[j.toNat]) := fun σ h => by
      show names[j.toNat] ∈ σ.defs.map (·.1)
      rw [h]
      exact List.getElem_mem hj
    by_cases hin : names[j.toNat] ∈ later
    · obtain ⟨lo, s3, e3, l0, l1⟩ := next_ok (show (0 : Int) < 2 by omega) s2
      exact ⟨.nm names[j.toNat], lo, s3, by simp [listHead, e1, c1, e2, hix, hin, e3], hg, l0, by omega, fun _ => by omega, .inr (by simpa [inNames] using hin)⟩
    · exact ⟨.nm names[j.toNat], 0, s2, by simp [listHead, e1, c1, e2, hix, hin], hg, Int.le_refl 0, by omega, fun _ => by omega, .inl rfl⟩
  · obtain ⟨l, s2, e2, hl⟩ := l_leaf_ok s1
    obtain ⟨lo, s3, e3, l0, l1⟩ := next_ok (show (0 : Int) < 3 by omega) s2
    exact ⟨.lf l, lo, s3, by simp [listHead, e1, c1, e2, e3], fun σ h => hl, l0, by omega, (fun h => by cases h), .inr rfl⟩
theorem list_tail {N L : SV} {p : Part} {lo : Int} (h0 : 0 ≤ lo) (h2 : lo ≤ 2) (s : S) : ∃ (hi : Int) (s' : S), listTail [some .w, some N, some L, some (.d (.int lo)), none, some (.d p.enc)] s = some (.rt (.d (Body.lst p lo hi).enc) s') ∧ lo ≤ hi ∧ hi ≤ 1000 := by
  obtain ⟨k, s1, e1, k0, k1⟩ := next_ok (show (0 : Int) < 4 by omega) s
  obtain ⟨j, s2, e2, j0, j1⟩ := next_ok (show (0 : Int) < 9 by omega) s1
  by_cases hj : j = 1
  · exact ⟨99, s2, by simp [listTail, e1, e2, hj], by omega, by omega⟩
  · refine ⟨if lo + k > 1 then lo + k else 1, s2, by simp [listTail, e1, e2, hj], ?_, ?_⟩
    · split <;> omega
    · split <;> omega
theorem l_list_body_ok {names later : List Str} (hn : 0 < names.length) (s : S) : ∃ (b : Body) (s' : S), M_l_list_body [.w, .r (names.map D.str), .r (later.map D.str)] s = some (.d b.enc, s') ∧ GoodBody names later b := by
  obtain ⟨p, lo, s1, e1, hg, h0, h2, h1, hv⟩ := list_head (later := later) hn s
  obtain ⟨hi, s2, e2, g1, g2⟩ := list_tail (N := .r (names.map D.str)) (L := .r (later.map D.str)) (p := p) h0 h2 s1
  refine ⟨.lst p lo hi, s2, ?_, by simp [hasV]; exact hv, fun σ h => ⟨hg σ h, h0, g1, g2, h2, h1⟩⟩
  unfold M_l_list_body
  rw [list_form]
  simp [ap_runM, e1, e2]
/-! ### a record -/
def recStep : SF := (sSeq (sSet 7 (dCall M_l_part [(oVar 0), (oVar 1)]))
    (sSeq (sSet 8 (dCall M_l_next [(oVar 0), (dC (.int 4))]))
    (sIf (bOf (dIsI "str" (dVar 7)))
    (sIf (bAnd (bOf (d2 fNe (dVar 8) (dC (.int 1)))) (bAnd (bOf (dVar 5)) (bOf (dIn false (dVar 7) (oVar 2)))))
    (sSeq (sSet 5 (dC (.bl false)))
    (sApp 4 (dTup [(oVar 6), (oVar 7), (dC (.str "required")), (dC .non)])))
    (sApp 4 (dTup [(oVar 6), (oVar 7), (dC (.str "optional")), (dC .non)])))
    (sIf (bOf (d2 fEq (dVar 8) (dC (.int 1))))
    (sApp 4 (dTup [(oVar 6), (oVar 7), (dC (.str "optional")), (dC .non)]))
    (sIf (bAnd (bOf (d2 fEq (dVar 8) (dC (.int 2)))) (bOf (d2 fNe (dIx (oVar 7) (dC (.int 0))) (dC (.str "choice")))))
    (sApp 4 (dTup [(oVar 6), (oVar 7), (dC (.str "default")), (dCall M_l_leaf_value [(oVar 7), (oVar 0)])]))
    (sApp 4 (dTup [(oVar 6), (oVar 7), (dC (.str "required")), (dC .non)])))))))
theorem rec_form : G_l_record_body M_l_leaf_value M_l_next M_l_part M_l_split M_l_ids = (sSeq (sSet 3 (dCall M_l_split [(oVar 0), (dCall M_l_ids [(oVar 0), (dC (.int 4))])]))
    (sSeq (sOwn 4 (lDisp []))
    (sSeq (sSet 5 (dC (.bl true)))
    (sSeq (sFor (.one 6) (iListF (dIxP (dVar 3) 0)) recStep)
    (sRet (dTup [(dC (.str "record")), (dToTup (oVar 4)), (dToTup (dIxP (dVar 3) 1))])))))) := rfl
structure GoodField (names later : List Str) (fl fl' : Bool) (i : Int) (f : Field) : Prop where
  id : f.id = i
  part : GoodPart names f.part
  req : f.mode.isReq = true → inNames later f.part = true
  dfl : f.mode = .dfl → ∃ l, f.part = .lf l ∧ LeafVal l f.dflt
  yes : (f.mode.isReq && isNm f.part) = true → fl = true ∧ fl' = false
  no : (f.mode.isReq && isNm f.part) = false → fl' = fl
theorem rec_step {names later : List Str} {Pr : SV} (hn : 0 < names.length) (acc : List D) (hacc : acc.length ≤ 100000) (fl : Bool) (i : Int) (x7 x8 : Option SV) (s : S) : ∃ (f : Field) (fl' : Bool) (y7 y8 : Option SV) (s' : S),
    recStep [some .w, some (.r (names.map D.str)), some (.r (later.map D.str)), some Pr, some (.own acc), some (.d (.bl fl)), some (.d (.int i)), x7, x8] s = some (.nx [some .w, some (.r (names.map D.str)), some (.r (later.map D.str)), some Pr, some (.own (acc ++ [f.enc])), some (.d (.bl fl')), some (.d (.int i)), y7, y8] s') ∧ GoodField names later fl fl' i f := by
  obtain ⟨p, s1, e1, hg⟩ := l_part_ok hn s
  obtain ⟨k, s2, e2, k0, k1⟩ := next_ok (show (0 : Int) < 4 by omega) s1
  cases p with
  | nm t =>
    by_cases hc : k ≠ 1 ∧ fl = true ∧ t ∈ later
    · obtain ⟨c1, rfl, c3⟩ := hc
      refine ⟨⟨i, .nm t, .req, .non⟩, false, some (.d (.str t)), some (.d (.int k)), s2, ?_, rfl, hg, fun _ => by simpa [inNames] using c3, (fun h => by cases h), fun _ => ⟨rfl, rfl⟩, (fun h => by cases h)⟩
      simp only [enc_nm] at e1
      simp [recStep, e1, e2, c1, c3, hacc, Field.enc, Mode.enc]
    · refine ⟨⟨i, .nm t, .opt, .non⟩, fl, some (.d (.str t)), some (.d (.int k)), s2, ?_, rfl, hg, (fun h => by cases h), (fun h => by cases h), (fun h => by cases h), fun _ => rfl⟩
      simp only [enc_nm] at e1
      by_cases c1 : k = 1
      · simp [recStep, e1, e2, c1, hacc, Field.enc, Mode.enc]
      · cases fl with
        | false => simp [recStep, e1, e2, c1, hacc, Field.enc, Mode.enc]
        | true =>
          have c3 : ¬ t ∈ later := fun h => hc ⟨c1, rfl, h⟩
          simp [recStep, e1, e2, c1, c3, hacc, Field.enc, Mode.enc]
  | lf l =>
    simp only [enc_lf] at e1
    have hl : l.Ok := hg ⟨"", names.map fun n => (n, .lst (.lf l) 0 0)⟩ (by simp [Function.comp_def])
    by_cases c1 : k = 1
    · refine ⟨⟨i, .lf l, .opt, .non⟩, fl, some (.d l.enc), some (.d (.int k)), s2, ?_, rfl, hg, (fun h => by cases h), (fun h => by cases h), (fun h => by cases h), fun _ => rfl⟩
      simp [recStep, e1, e2, c1, hacc, Field.enc, Mode.enc]
    by_cases c2 : k = 2
    · obtain ⟨v, s3, e3, hv⟩ := l_leaf_value_ok hl s2
      cases l with
      | cho ys ret op =>
        refine ⟨⟨i, .lf (.cho ys ret op), .req, .non⟩, fl, some (.d (Leaf.cho ys ret op).enc), some (.d (.int k)), s2, ?_, rfl, hg, fun _ => rfl, (fun h => by cases h), (fun h => by cases h), fun _ => rfl⟩
        simp only [Leaf.enc] at e1
        simp [recStep, e1, e2, c1, c2, hacc, Field.enc, Mode.enc, Leaf.enc]
      | num lo hi =>
        refine ⟨⟨i, .lf (.num lo hi), .dfl, v⟩, fl, some (.d (Leaf.num lo hi).enc), some (.d (.int k)), s3, ?_, rfl, hg, (fun h => by cases h), fun _ => ⟨_, rfl, hv⟩, (fun h => by cases h), fun _ => rfl⟩
        simp only [Leaf.enc] at e1 e3
        simp [recStep, e1, e2, e3, c1, c2, hacc, Field.enc, Mode.enc, Leaf.enc]
      | txt lo hi =>
        refine ⟨⟨i, .lf (.txt lo hi), .dfl, v⟩, fl, some (.d (Leaf.txt lo hi).enc), some (.d (.int k)), s3, ?_, rfl, hg, (fun h => by cases h), fun _ => ⟨_, rfl, hv⟩, (fun h => by cases h), fun _ => rfl⟩
        simp only [Leaf.enc] at e1 e3
        simp [recStep, e1, e2, e3, c1, c2, hacc, Field.enc, Mode.enc, Leaf.enc]
    · refine ⟨⟨i, .lf l, .req, .non⟩, fl, some (.d l.enc), some (.d (.int k)), s2, ?_, rfl, hg, fun _ => rfl, (fun h => by cases h), (fun h => by cases h), fun _ => rfl⟩
      simp [recStep, e1, e2, c1, c2, hacc, Field.enc, Mode.enc]
theorem rec_step_loop {names later : List Str} {Pr : SV} (hn : 0 < names.length) : ∀ (ids : List Int) (acc : List Field) (fl : Bool) (x6 x7 x8 : Option SV) (s : S), acc.length + ids.length ≤ 1000 → ∃ (fs : List Field) (fl' : Bool) (y6 y7 y8 : Option SV) (s' : S),
    forD (.one 6) recStep (ids.map D.int) [some .w, some (.r (names.map D.str)), some (.r (later.map D.str)), some Pr, some (.own (acc.map Field.enc)), some (.d (.bl fl)), x6, x7, x8] s = some (.nx [some .w, some (.r (names.map D.str)), some (.r (later.map D.str)), some Pr, some (.own ((acc ++ fs).map Field.enc)), some (.d (.bl fl')), y6, y7, y8] s') ∧
    fs.map (·.id) = ids ∧ (∀ f ∈ fs, GoodPart names f.part ∧ (f.mode.isReq = true → inNames later f.part = true) ∧ (f.mode = .dfl → ∃ l, f.part = .lf l ∧ LeafVal l f.dflt)) ∧ (fs.filter fun f => f.mode.isReq && isNm f.part).length ≤ (if fl = true then 1 else 0)
  | [], acc, fl, x6, x7, x8, s, _ => ⟨[], fl, x6, x7, x8, s, by simp, rfl, (fun f h => by cases h), by simp⟩
  | i :: ids, acc, fl, x6, x7, x8, s, hl => by
    rw [List.length_cons] at hl
    obtain ⟨f, fl1, y7, y8, s1, e1, g⟩ := rec_step (names := names) (later := later) (Pr := Pr) hn (acc.map Field.enc) (by rw [List.length_map]; omega) fl i x7 x8 s
    obtain ⟨fs, fl', z6, z7, z8, s', e, h1, h2, h3⟩ := rec_step_loop (names := names) (later := later) (Pr := Pr) hn ids (acc ++ [f]) fl1 (some (.d (.int i))) y7 y8 s1 (by rw [List.length_append]; simp; omega)
    refine ⟨f :: fs, fl', z6, z7, z8, s', ?_, by rw [List.map_cons, h1, g.id], ?_, ?_⟩
    · rw [List.append_assoc] at e
      rw [show acc ++ f :: fs = acc ++ ([f] ++ fs) from rfl, ← e, List.map_cons, ap_forD1, ap_goOne, Option.bind_some]
      show Option.bind (recStep [some .w, some (.r (names.map D.str)), some (.r (later.map D.str)), some Pr, some (.own (acc.map Field.enc)), some (.d (.bl fl)), some (.d (.int i)), x7, x8] s) _ = _
      rw [e1, List.map_append]
      rfl
    · intro x hx
      rcases List.mem_cons.mp hx with e | e
      · subst e; exact ⟨g.part, g.req, g.dfl⟩
      · exact h2 x e
    · cases hc : (f.mode.isReq && isNm f.part) with
      | true =>
        obtain ⟨r1, r2⟩ := g.yes hc
        subst r1 r2
        rw [List.filter_cons_of_pos (p := fun f : Field => f.mode.isReq && isNm f.part) hc, List.length_cons]
        rw [if_neg Bool.false_ne_true] at h3
        rw [if_pos rfl]
        omega
      | false =>
        have := g.no hc
        subst this
        rw [List.filter_cons_of_neg (p := fun f : Field => f.mode.isReq && isNm f.part) (by rw [hc]; exact Bool.false_ne_true)]
        exact h3
theorem l_record_body_ok {names later : List Str} (hn : 0 < names.length) (s : S) : ∃ (b : Body) (s' : S), M_l_record_body [.w, .r (names.map D.str), .r (later.map D.str)] s = some (.d b.enc, s') ∧ GoodBody names later b := by
  obtain ⟨is, l, r, s1, s2, e1, e2, h1, h2⟩ := l_drawn_ids s
  obtain ⟨fs, fl', y6, y7, y8, s3, e3, g1, g2, g3⟩ := rec_step_loop (names := names) (later := later) (Pr := .p l r) hn l [] true none none none s2 (by simp; omega)
  refine ⟨.rcd fs r, s3, ?_, ?_, fun σ h => ⟨by rw [g1]; exact h1, by rw [← g1, List.length_map] at h2; exact h2, fun f hf => (g2 f hf).1 σ h, g3, fun f hf => (g2 f hf).2.2⟩⟩
  · unfold M_l_record_body
    rw [rec_form]
    simp only [List.map_nil, List.nil_append] at e3
    simp [ap_runM, e1, e2]
    rw [e3]
    simp
  · simp only [hasV, List.all_eq_true]
    intro f hf
    cases hr : f.mode.isReq with
    | false => rfl
    | true => simp [(g2 f hf).2.1 hr]
end Sb

set_option Elab.async false
set_option linter.all false
set_option maxRecDepth 100000
set_option maxHeartbeats 4000000
namespace Sb
open PySem L2
theorem compD_pairs {α β : Type} {T : Tgt} {E : EF} {ρ : Env} (g : α → D) (f : α → β → D) (Q : α → β → Prop) : ∀ (l : List α) (s : S), (∀ a ∈ l, ∃ ρ1, T.go (g a) ρ = some ρ1 ∧ ∀ s, ∃ b s', E ρ1 s = some (.d (f a b), s') ∧ Q a b) →
    ∃ (ps : List (α × β)) (s' : S), ps.map (·.1) = l ∧ (∀ p ∈ ps, Q p.1 p.2) ∧ compD T bTrue E ρ (l.map g) s = some (ps.map fun p => f p.1 p.2, s')
  | [], s, _ => ⟨[], s, rfl, (fun p h => by cases h), rfl⟩
  | a :: l, s, h => by
    obtain ⟨ρ1, h1, h2⟩ := h a List.mem_cons_self
    obtain ⟨b, s1, h3, h4⟩ := h2 s
    obtain ⟨ps, s2, h5, h6, h7⟩ := compD_pairs g f Q l s1 fun d hd => h d (List.mem_cons_of_mem _ hd)
    refine ⟨(a, b) :: ps, s2, by rw [List.map_cons, h5], fun y hy => ?_, ?_⟩
    · rcases List.mem_cons.mp hy with e | e
      · subst e; exact h4
      · exact h6 y e
    · rw [List.map_cons]
      unfold compD
      rw [h1, Option.bind_some]
      show Option.bind (E ρ1 s) _ = _
      rw [h3]
      show (compD T bTrue E ρ (l.map g) s1).map _ = _
      rw [h7]
      rfl
theorem l_union_body_ok {names later : List Str} (hn : 0 < names.length) (hlt : later.length ≤ 1000) (s : S) : ∃ (b : Body) (s' : S), M_l_union_body [.w, .r (names.map D.str), .r (later.map D.str)] s = some (.d b.enc, s') ∧ GoodBody names later b := by
  obtain ⟨is, l, r, s1, s2, e1, e2, h1, h2⟩ := l_drawn_ids s
  obtain ⟨cs, s3, g1, g2, e3⟩ := compD_pairs (T := .one 7) (E := dTup [(oVar 7), (dCall M_l_part [(oVar 0), (oVar 1)])]) (ρ := [some .w, some (.r (names.map D.str)), some (.r (later.map D.str)), some (.p l r), none, none, none, none, none])
    D.int (fun (i : Int) (p : Part) => caseEnc (i, p)) (fun _ p => GoodPart names p) l s2 fun i hi => ⟨_, rfl, fun s => by
      obtain ⟨p, s', e, hg⟩ := l_part_ok hn s
      exact ⟨p, s', by simp [e, caseEnc], hg⟩⟩
  have e4 := compD_if (T := .one 8) (P := bOr (bNot (bOf (dIsI "str" (dIx (oVar 8) (dC (.int 1)))))) (bOf (dIn false (dIx (oVar 8) (dC (.int 1))) (oVar 2)))) (E := dVar 8)
    (ρ := [some .w, some (.r (names.map D.str)), some (.r (later.map D.str)), some (.p l r), some (.r (cs.map caseEnc)), none, none, none, none]) (s := s3)
    caseEnc caseEnc (fun c => inNames later c.2) cs fun c hc => ⟨_, rfl, by
      obtain ⟨i, p⟩ := c
      cases p with
      | nm t => simp [caseEnc, inNames]
      | lf l => simp [caseEnc, inNames], fun _ => by simp⟩
  obtain ⟨k, s4, e5, k0, k1⟩ := next_ok (show (0 : Int) < 2 by omega) s3
  have hcl : cs.length ≤ 5 := by
    have : cs.length = l.length := by rw [← g1, List.length_map]
    omega
  refine ⟨.uni cs r (decide (k = 1) || (decide (0 < (r.length : Int)) || decide (((cs.filter fun c => inNames later c.2).length : Int) = 0))), s4, ?_, ?_, fun σ h => ⟨by rw [g1]; exact h1, hcl, fun c hc => g2 c hc σ h⟩⟩
  · have hl1 : l.length ≤ 100000 := by omega
    have hl2 : cs.length ≤ 100000 := by omega
    have e3 : compD (.one 7) bTrue (dTup [(oVar 7), (dCall M_l_part [(oVar 0), (oVar 1)])]) [some .w, some (.r (names.map D.str)), some (.r (later.map D.str)), some (.p l r), none, none, none, none, none] (l.map D.int) s2 = some (cs.map caseEnc, s3) := e3
    simp [M_l_union_body, G_l_union_body, ap_runM, e1, e2, hl1, e3, hl2, e4, -List.length_eq_zero_iff]
    by_cases hc : k = 1
    · simp [e5, hc]
    · by_cases hr : 0 < r.length
      · simp [e5, hc, hr]
      · simp [e5, hc, hr]
  · simp only [hasV]
    by_cases hc : k = 1
    · simp [hc]
    · cases hf : cs.filter fun c => inNames later c.2 with
      | nil => simp
      | cons c l' =>
        have hm : c ∈ cs.filter fun c => inNames later c.2 := by rw [hf]; exact List.mem_cons_self
        obtain ⟨m1, m2⟩ := List.mem_filter.mp hm
        rw [Bool.or_eq_true, List.any_eq_true]
        exact .inr ⟨c, m1, m2⟩
/-! ## a drawn schema -/
def schStep : SF := (sSeq (sSet 5 (dCall M_l_next [(oVar 0), (dC (.int 6))]))
    (sSeq (sSet 6 (dOfL (lFrom (oVar 2) (d2 fAdd (dVar 4) (dC (.int 1))))))
    (sSeq (sIf (bOf (d2 fLt (dVar 5) (dC (.int 3))))
    (sSet 7 (dCall M_l_record_body [(oVar 0), (oVar 2), (oVar 6)]))
    (sIf (bOf (d2 fLt (dVar 5) (dC (.int 5))))
    (sSet 7 (dCall M_l_union_body [(oVar 0), (oVar 2), (oVar 6)]))
    (sSet 7 (dCall M_l_list_body [(oVar 0), (oVar 2), (oVar 6)]))))
    (sApp 3 (dTup [(dIx (oVar 2) (dVar 4)), (oVar 7)])))))
theorem sch_form : G_l_schema M_l_next M_l_record_body M_l_union_body M_l_list_body = (sSeq (sSet 1 (d2 fAdd (dC (.int 1)) (dCall M_l_next [(oVar 0), (dC (.int 4))])))
    (sSeq (sSet 2 (dOfL (lTo (dOfL (lDisp [(dC (.str "a")), (dC (.str "ab")), (dC (.str "b")), (dC (.str "ba"))])) (dVar 1))))
    (sSeq (sOwn 3 (lDisp []))
    (sSeq (sFor (.one 4) (iRngF (dVar 1)) schStep)
    (sRet (dTup [(dIx (oVar 2) (dCall M_l_next [(oVar 0), (oVar 1)])), (dToTup (oVar 3))])))))) := rfl
@[simp] theorem ap_lFrom {o i : EF} {ρ : Env} {s : S} : lFrom o i ρ s = (o ρ s).bind fun p => (i ρ p.2).bind fun q => match p.1, q.1 with
  | .r ds, .d (.int k) => if 0 ≤ k then some (ds.drop k.toNat, q.2) else none
  | _, _ => none := rfl
@[simp] theorem ap_lTo {o i : EF} {ρ : Env} {s : S} : lTo o i ρ s = (o ρ s).bind fun p => (i ρ p.2).bind fun q => match p.1, q.1 with
  | .r ds, .d (.int k) => if 0 ≤ k then some (ds.take k.toNat, q.2) else none
  | _, _ => none := rfl
theorem sch_step {names : List Str} {M : SV} (hn : names.length ≤ 4) {k : Nat} {nm : Str} (hk : names[k]? = some nm) (acc : List D) (hacc : acc.length ≤ 100000) (x5 x6 x7 : Option SV) (s : S) : ∃ (b : Body) (y5 y6 y7 : Option SV) (s' : S),
    schStep [some .w, some M, some (.r (names.map D.str)), some (.own acc), some (.d (.int (k : Int))), x5, x6, x7] s = some (.nx [some .w, some M, some (.r (names.map D.str)), some (.own (acc ++ [defEnc (nm, b)])), some (.d (.int (k : Int))), y5, y6, y7] s') ∧ GoodBody names (names.drop (k + 1)) b := by
  obtain ⟨hkl, _⟩ := List.getElem?_eq_some_iff.mp hk
  have hpos : 0 < names.length := by omega
  obtain ⟨j, s1, e1, j0, j1⟩ := next_ok (show (0 : Int) < 6 by omega) s
  have hix : ixD (.r (names.map D.str)) (k : Int) = some (.str nm) := by
    rw [ix_r (by omega), List.getElem?_map, Int.toNat_natCast, hk]
    rfl
  have h0 : (0 : Int) ≤ (k : Int) + 1 := by omega
  have hd : ((k : Int) + 1).toNat = k + 1 := by omega
  have hdl : (names.drop (k + 1)).length ≤ 1000 := by rw [List.length_drop]; omega
  have hmap : (names.drop (k + 1)).map D.str = List.drop (k + 1) (names.map D.str) := List.map_drop
  by_cases c1 : j < 3
  · obtain ⟨b, s2, e2, g⟩ := l_record_body_ok (later := names.drop (k + 1)) hpos s1
    rw [hmap] at e2
    exact ⟨b, some (.d (.int j)), some (.r (List.drop (k + 1) (names.map D.str))), some (.d b.enc), s2, by simp [schStep, e1, h0, hd, c1, e2, hix, hacc, defEnc], g⟩
  by_cases c2 : j < 5
  · obtain ⟨b, s2, e2, g⟩ := l_union_body_ok (later := names.drop (k + 1)) hpos hdl s1
    rw [hmap] at e2
    exact ⟨b, some (.d (.int j)), some (.r (List.drop (k + 1) (names.map D.str))), some (.d b.enc), s2, by simp [schStep, e1, h0, hd, c1, c2, e2, hix, hacc, defEnc], g⟩
  · obtain ⟨b, s2, e2, g⟩ := l_list_body_ok (later := names.drop (k + 1)) hpos s1
    rw [hmap] at e2
    exact ⟨b, some (.d (.int j)), some (.r (List.drop (k + 1) (names.map D.str))), some (.d b.enc), s2, by simp [schStep, e1, h0, hd, c1, c2, e2, hix, hacc, defEnc], g⟩
theorem sch_loop {names : List Str} {M : SV} (hn : names.length ≤ 4) : ∀ (m k : Nat) (acc : List D) (x4 x5 x6 x7 : Option SV) (s : S), k + m = names.length → acc.length + m ≤ 1000 → ∃ (suf : List (Str × Body)) (y4 y5 y6 y7 : Option SV) (s' : S),
    forD (.one 4) schStep ((List.range' k m).map fun (j : Nat) => D.int (j : Int)) [some .w, some M, some (.r (names.map D.str)), some (.own acc), x4, x5, x6, x7] s = some (.nx [some .w, some M, some (.r (names.map D.str)), some (.own (acc ++ suf.map defEnc)), y4, y5, y6, y7] s') ∧
    suf.map (·.1) = names.drop k ∧ Chain suf ∧ ∀ d ∈ suf, ∀ σ : Sch, σ.defs.map (·.1) = names → BodyOk σ d.2
  | 0, k, acc, x4, x5, x6, x7, s, hk, _ => ⟨[], x4, x5, x6, x7, s, by simp, by rw [List.drop_of_length_le (by omega)]; rfl, trivial, (fun d h => by cases h)⟩
  | m + 1, k, acc, x4, x5, x6, x7, s, hk, hl => by
    have hkl : k < names.length := by omega
    obtain ⟨b, y5, y6, y7, s1, e1, g⟩ := sch_step (M := M) hn (List.getElem?_eq_getElem hkl) acc (by omega) x5 x6 x7 s
    obtain ⟨suf, z4, z5, z6, z7, s2, e, h1, h2, h3⟩ := sch_loop (M := M) hn m (k + 1) (acc ++ [defEnc (names[k], b)]) (some (.d (.int (k : Int)))) y5 y6 y7 s1 (by omega) (by rw [List.length_append]; simp; omega)
    refine ⟨(names[k], b) :: suf, z4, z5, z6, z7, s2, ?_, ?_, ⟨?_, h2⟩, ?_⟩
    · rw [List.append_assoc] at e
      rw [show acc ++ ((names[k], b) :: suf).map defEnc = acc ++ ([defEnc (names[k], b)] ++ suf.map defEnc) from rfl, ← e, List.range'_succ, List.map_cons, ap_forD1, ap_goOne, Option.bind_some]
      show Option.bind (schStep [some .w, some M, some (.r (names.map D.str)), some (.own acc), some (.d (.int (k : Int))), x5, x6, x7] s) _ = _
      rw [e1]
      rfl
    · rw [List.map_cons, h1, List.drop_eq_getElem_cons hkl]
    · rw [h1]
      exact g.1
    · intro d hd
      rcases List.mem_cons.mp hd with e | e
      · subst e; exact g.2
      · exact h3 d e
def four : List Str := ["a", "ab", "b", "ba"]
theorem four_nodup : four.Nodup := by decide +kernel
theorem l_schema_ok (s : S) : ∃ (σ : Sch) (s' : S), M_l_schema [.w] s = some (.d σ.enc, s') ∧ σ.Ok := by
  obtain ⟨k, s1, e1, k0, k1⟩ := next_ok (show (0 : Int) < 4 by omega) s
  have hlen : (four.take (1 + k).toNat).length = (1 + k).toNat := by
    rw [List.length_take]
    have : four.length = 4 := rfl
    omega
  have hn4 : (four.take (1 + k).toNat).length ≤ 4 := by omega
  obtain ⟨suf, y4, y5, y6, y7, s2, e2, h1, h2, h3⟩ := sch_loop (names := four.take (1 + k).toNat) (M := .d (.int (1 + k))) hn4 (1 + k).toNat 0 [] none none none none s1 (by omega) (by simp; omega)
  rw [List.drop_zero] at h1
  obtain ⟨j, s3, e3, j0, j1⟩ := next_ok (show 0 < 1 + k by omega) s2
  have hj : j.toNat < (four.take (1 + k).toNat).length := by omega
  refine ⟨⟨(four.take (1 + k).toNat)[j.toNat], suf⟩, s3, ?_, ⟨?_, ?_, ?_, h2, fun d hd => h3 d hd _ h1⟩⟩
  · have hix : ixD (.r ((four.take (1 + k).toNat).map D.str)) j = some (.str (four.take (1 + k).toNat)[j.toNat]) := by
      rw [ix_r j0, List.getElem?_map, List.getElem?_eq_getElem hj]
      rfl
    have hi : ∀ A B C : Option SV, iRngF (dVar 1) [some .w, some (.d (.int (1 + k))), A, B, C, none, none, none] s1 = some ((List.range' 0 (1 + k).toNat).map fun (j : Nat) => D.int (j : Int), s1) := by
      intro A B C
      have h8 : -1000000 ≤ 1 + k ∧ 1 + k ≤ 1000000 := by omega
      have h9 := range_zero (1 + k).toNat
      rw [show (((1 + k).toNat : Nat) : Int) = 1 + k by omega] at h9
      simp only [iRngF]
      show (if -1000000 ≤ 1 + k ∧ 1 + k ≤ 1000000 then some (rangeD 0 (1 + k), s1) else none) = _
      rw [if_pos h8, h9]
    have h10 : 0 ≤ 1 + k := by omega
    have hmap : List.take (1 + k).toNat [D.str "a", D.str "ab", D.str "b", D.str "ba"] = (four.take (1 + k).toNat).map D.str := by
      rw [List.map_take]
      rfl
    rw [List.nil_append] at e2
    unfold M_l_schema
    rw [sch_form]
    simp [ap_runM, e1, h10, hmap, hi, -List.map_take]
    rw [e2]
    simp [e3, hix, Sch.enc, -List.map_take]
  · show (suf.map (·.1)).Nodup
    rw [h1]
    exact four_nodup.sublist (List.take_sublist _ _)
  · have : suf.length = (four.take (1 + k).toNat).length := by rw [← h1, List.length_map]
    show suf.length ≤ 4
    omega
  · have : suf.length = (four.take (1 + k).toNat).length := by rw [← h1, List.length_map]
    show 0 < suf.length
    omega
end Sb

set_option Elab.async false
set_option linter.all false
set_option maxRecDepth 100000
set_option maxHeartbeats 4000000
namespace Sb
open PySem L2
/-! ## the law -/
theorem depL_le : ∀ {ds : List D} {k : Nat}, (∀ d ∈ ds, d.dep ≤ k) → depL ds ≤ k
  | [], k, _ => Nat.zero_le k
  | a :: l, k, h => by
    have h1 := h a List.mem_cons_self
    have h2 := depL_le (ds := l) fun x hx => h x (List.mem_cons_of_mem _ hx)
    show max a.dep (depL l) ≤ k
    omega
theorem leafVal_short {l : Leaf} {d : D} (h : LeafVal l d) : Short d ∧ d.dep = 0 := by
  cases l <;> cases d <;> first | exact h.elim | exact ⟨.int, rfl⟩ | exact ⟨.str, rfl⟩
theorem pair_short {i : Int} {d : D} (h : Short d) : Short (.tup [.int i, d]) := .tup (by simp) fun x hx => by
  rcases List.mem_cons.mp hx with e | e
  · subst e; exact .int
  · rw [List.mem_singleton.mp e]; exact h
theorem pair_dep {i : Int} {d : D} : (D.tup [.int i, d]).dep = 1 + d.dep := by
  show 1 + max 0 (max d.dep 0) = _
  omega
theorem val_short {σ : Sch} (ok : σ.Ok) {p : Part} {d : D} {m c : Nat} (v : Val σ p d m c) : Short d ∧ d.dep ≤ 2 * m := by
  induction v with
  | leaf h =>
    obtain ⟨h1, h2⟩ := leafVal_short h
    exact ⟨h1, by omega⟩
  | @list n p lo hi items hb hv hlo hhi ih =>
    have hB := ok.body hb
    have h4 : hi ≤ 1000 := hB.2.2.2.1
    refine ⟨.tup (by rw [List.length_map]; omega) fun x hx => ?_, ?_⟩
    · obtain ⟨y, hy, rfl⟩ := List.mem_map.mp hx
      exact (ih y hy).1
    · show 1 + depL (items.map (·.1)) ≤ _
      have : depL (items.map (·.1)) ≤ 2 * mx (items.map (·.2.1)) := depL_le fun x hx => by
        obtain ⟨y, hy, rfl⟩ := List.mem_map.mp hx
        have h1 := (ih y hy).2
        have h2 : y.2.1 ≤ mx (items.map (·.2.1)) := mem_mx (List.mem_map_of_mem (f := fun x : Item => x.2.1) hy)
        omega
      omega
  | @rcd n fs ret vals hb he ho hv ih =>
    have hB := ok.body hb
    have h5 : fs.length ≤ 5 := hB.2.1
    have h6 := chosen_len vals
    have h7 : vals.length = fs.length := by rw [← he, List.length_map]
    refine ⟨.tup (by rw [List.length_map]; omega) fun x hx => ?_, ?_⟩
    · obtain ⟨y, hy, rfl⟩ := List.mem_map.mp hx
      exact pair_short (ih y hy).1
    · show 1 + depL ((chosen vals).map entry) ≤ _
      have : depL ((chosen vals).map entry) ≤ 1 + 2 * mx ((chosen vals).map (·.2.2.1)) := depL_le fun x hx => by
        obtain ⟨y, hy, rfl⟩ := List.mem_map.mp hx
        have h1 := (ih y hy).2
        have h2 : y.2.2.1 ≤ mx ((chosen vals).map (·.2.2.1)) := mem_mx (List.mem_map_of_mem (f := fun x : Field × Item => x.2.2.1) hy)
        unfold entry
        rw [pair_dep]
        omega
      omega
  | unk hb => exact ⟨pair_short .non, by rw [pair_dep]; show 1 + 0 ≤ 2; omega⟩
  | case hb hm hv ih => exact ⟨pair_short ih.1, by rw [pair_dep]; have := ih.2; omega⟩
theorem counted_eq {σ : Sch} (ok : σ.Ok) {p : Part} {d : D} {m c : Nat} (v : Val σ p d m c) (hm : m < 20) (s : S) : M_l_is_counted [.d σ.enc, .d p.enc, .d d] s = some (.d (.bl true), s) := by
  have h1 := depth_eq ok.ids 20 v hm
  have h2 := l_depth_eq ok.ids v 20 hm
  have h3 := value_count_eq ok.ids 20 v hm
  have h4 := l_count_eq ok.ids v 20 hm
  have h5 : ∀ (i : Int) s, M_l_same 20 [.d (.int i), .d (.int i)] s = some (.d (.bl true), s) := fun i s => l_same_ok 20 (.int i) s .int (by show 0 < 20; omega)
  simp [M_l_is_counted, G_l_is_counted, ap_runM, h1, h2, h3, h4, h5]
end Sb

set_option Elab.async false
set_option linter.all false
set_option maxRecDepth 100000
set_option maxHeartbeats 4000000
namespace Sb
open PySem L2
theorem simple_value_abs {F L : FM} {A B d : D} {kvs : List (Str × Int)} {s : S} (hR : L [.d A] s = some (.n kvs, s)) (e : F [.d A, .d B, .n kvs] s = some (.d d, s)) : runM 2 2 (G_simple_value F L) [.d A, .d B] s = some (.d d, s) := by
  simp [G_simple_value, ap_runM, hR, e]
theorem Sch.Ok.least {σ : Sch} (ok : σ.Ok) (s : S) : M_least_depths [.d σ.enc] s = some (.n σ.R, s) := least_depths_eq (Nat.le_trans ok.len (by omega)) s
theorem Sch.Ok.depths {σ : Sch} (ok : σ.Ok) (s : S) : M_l_depths [.d σ.enc] s = some (.n σ.R, s) := l_depths_eq (fun d hd => bodyIds (ok.bodies d hd)) (Nat.le_trans ok.len (by omega)) s
theorem simple_value_ex {σ : Sch} (ok : σ.Ok) {p : Part} (hp : p.In σ) : ∃ d c, Val σ p d (σ.pd p) c ∧ c ≤ 100 ∧ (∀ s, M_simple_value [.d σ.enc, .d p.enc] s = some (.d d, s)) ∧ (∀ s, M_l_simple 20 [.d σ.enc, .d p.enc, .n σ.R] s = some (.d d, s)) := by
  have h4 := pd_four ok hp
  obtain ⟨⟨d, m, c⟩, S⟩ := simple_ex ok 20 p hp (by omega)
  have hv : Val σ p d m c := S.val
  have h1 : m ≤ σ.pd p := S.low
  have h2 := pd_le ok hv
  have hm : m = σ.pd p := by omega
  have hc : c ≤ 1 + 5 * σ.pd p := S.cnt
  subst hm
  exact ⟨d, c, hv, by omega, fun s => simple_value_abs (ok.least s) (S.ev s), S.lev⟩
theorem simple_lf {n : Nat} {l : Leaf} (hl : l.Ok) {σ : D} {R : List (Str × Int)} (s : S) : M_simple_part (n + 1) [.d σ, .d l.enc, .n R] s = some (.d l.simple, s) := by
  simp [M_simple_part, G_simple_part, ap_runM, simple_leaf_eq l hl]
theorem simple_value_lf {σ : Sch} (ok : σ.Ok) {l : Leaf} (hl : l.Ok) (s : S) : M_simple_value [.d σ.enc, .d l.enc] s = some (.d l.simple, s) := simple_value_abs (ok.least s) (simple_lf (n := 19) hl s)
theorem law_abs {IC LV SM SLf SV' LF' LDp LVal NX LC LD LS IO LIO LDs : FM} {sc : SV} {A B d d2 ld lw sl : D} {N : List D} {kvs : List (Str × Int)} {nm : Str} {s s1 s2 s3 s4 s5 : S} {j a m m2 c : Int} {defs : List D}
    (hA : A = .tup [B, .tup defs]) (hl : defs.length ≤ 100000)
    (hD : ∀ s, LDs [.d A] s = some (.n kvs, s)) (hR : ∀ s, LD [.d A] s = some (.n kvs, s))
    (hcomp : compD (.one 9) bTrue (dIx (oVar 9) (dC (.int 0))) [some sc, some (.d A), some .w, some (.n kvs), none, none, none, none, none, none] defs s = some (N, s))
    (e1 : NX [.w, .d (.int N.length)] s = some (.d (.int j), s1)) (hix : ixD (.r N) j = some (.str nm))
    (ev : ∀ s, SV' [.d A, .d (.str nm)] s = some (.d d, s))
    (q2 : ∀ s, LIO [.d A, .d (.str nm), .d d] s = some (.d (.bl true), s)) (q1 : ∀ s, IO [.d A, .d (.str nm), .d d] s = some (.d (.bl true), s))
    (lev : ∀ s, LS [.d A, .d (.str nm), .n kvs] s = some (.d d, s)) (q5 : ∀ s, SM [.d d, .d d] s = some (.d (.bl true), s))
    (q3 : ∀ s, LDp [.d A, .d (.str nm), .d d] s = some (.d (.int m), s)) (k3 : lookS kvs nm = some m)
    (q4 : ∀ s, LC [.d A, .d (.str nm), .d d] s = some (.d (.int c), s)) (hc : c ≤ 100)
    (e2 : NX [.w, .d (.int 6)] s1 = some (.d (.int a), s2)) (e3 : LVal [.d A, .d (.str nm), .w, .n kvs, .d (.int (1 + a))] s2 = some (.d d2, s3))
    (r3 : ∀ s, LDp [.d A, .d (.str nm), .d d2] s = some (.d (.int m2), s)) (hge : m ≤ m2)
    (e4 : LF' [.w] s3 = some (.d ld, s4)) (evl : ∀ s, SV' [.d A, .d ld] s = some (.d sl, s)) (t1 : ∀ s, SLf [.d ld] s = some (.d sl, s)) (t2 : ∀ s, SM [.d sl, .d sl] s = some (.d (.bl true), s))
    (e5 : LV [.d ld, .w] s4 = some (.d lw, s5)) (t3 : ∀ s, IC [.d A, .d ld, .d lw] s = some (.d (.bl true), s))
    (q6 : ∀ s, IC [.d A, .d (.str nm), .d d] s = some (.d (.bl true), s)) (r6 : ∀ s, IC [.d A, .d (.str nm), .d d2] s = some (.d (.bl true), s)) :
    ∃ s', G_law IC LV SM SLf SV' LF' LDp LVal NX LC LD LS IO LIO LDs [some sc, some (.d A), some .w, none, none, none, none, none, none, none] s = some (.rt (.d (.bl true)) s') := by
  refine ⟨s5, ?_⟩
  have hc2 : ¬ 100 < c := by omega
  have hm2 : ¬ m2 < m := by omega
  have x1 : ixD (.d A) 1 = some (.tup defs) := by rw [hA]; rfl
  have f1 : fNotTrue (.bl true) = some (.bl false) := rfl
  simp [G_law, hD, hR, x1, hl, hcomp, e1, hix, ev, q2, q1, lev, q5, q3, k3, q4, hc2, e2, e3, r3, hm2, e4, evl, t1, t2, e5, t3, q6, r6, f1]
end Sb

set_option Elab.async false
set_option linter.all false
set_option maxRecDepth 100000
set_option maxHeartbeats 400000
namespace Sb
open PySem L2
theorem law_plain {σ : Sch} (ok : σ.Ok) (sc : SV) (s : S) : ∃ s', G_lawAll [some sc, some (.d σ.enc), some .w, none, none, none, none, none, none, none] s = some (.rt (.d (.bl true)) s') := by
  have hlen := ok.len
  have hpos := ok.pos
  have hcomp := compD_all (T := .one 9) (E := dIx (oVar 9) (dC (.int 0))) (ρ := [some sc, some (.d σ.enc), some .w, some (.n σ.R), none, none, none, none, none, none]) (s := s) defEnc (fun d => .str d.1) σ.defs fun d hd => ⟨_, rfl, by simp [defEnc]⟩
  obtain ⟨j, s1, e1, j0, j1⟩ := next_ok (show 0 < (σ.defs.length : Int) by omega) s
  have hj : j.toNat < σ.defs.length := by omega
  obtain ⟨nm, hnm⟩ : ∃ nm, nm = σ.defs[j.toNat].1 := ⟨_, rfl⟩
  have hix : ixD (.r (σ.defs.map fun d => D.str d.1)) j = some (.str nm) := by
    rw [ix_r j0, List.getElem?_map, List.getElem?_eq_getElem hj, hnm]
    rfl
  have hin : (Part.nm nm).In σ := by
    show nm ∈ σ.defs.map (·.1)
    rw [hnm]
    exact List.mem_map_of_mem (f := (·.1)) (List.getElem_mem hj)
  have h4 := pd_four ok hin
  obtain ⟨d, c, v, hc, ev, lev⟩ := simple_value_ex ok hin
  have hlt : σ.pd (.nm nm) < 20 := by omega
  have hdep : d.dep < 20 := by have := (val_short ok v).2; omega
  obtain ⟨k, _, k2, k3, _⟩ := lvl_spec ok.nodup ok.chain hin
  have hpd : σ.pd (.nm nm) = k + 1 := k2
  have k4 : lookS σ.R nm = some ((σ.pd (.nm nm) : Nat) : Int) := by rw [k3, hpd]; rfl
  obtain ⟨a, s2, e2, a0, a1⟩ := next_ok (show (0 : Int) < 6 by omega) s1
  have ha : (1 + a).toNat < 20 := by omega
  obtain ⟨d2, m2, c2, s3, e3, v2, hm2⟩ := l_value_ok ok 20 (.nm nm) (1 + a).toNat hin ha s2
  have hlt2 : m2 < 20 := by omega
  rw [show (((1 + a).toNat : Nat) : Int) = 1 + a by omega] at e3
  have hge := pd_le ok v2
  obtain ⟨l, s4, e4, hl⟩ := l_leaf_ok s3
  have hls := simple_leafVal hl
  have hdl : l.simple.dep < 20 := by rw [(leafVal_short hls).2]; omega
  obtain ⟨w, s5, e5, hw⟩ := l_leaf_value_ok hl s4
  have w1 : ∀ s, M_l_is_of 20 [.d σ.enc, .d (.str nm), .d d] s = some (.d (.bl true), s) := l_is_of_eq ok.ids v 20 hlt
  have w2 : ∀ s, M_is_of 20 [.d σ.enc, .d (.str nm), .d d] s = some (.d (.bl true), s) := is_of_eq ok.ids v 20 hlt
  have w3 : ∀ s, M_l_simple 20 [.d σ.enc, .d (.str nm), .n σ.R] s = some (.d d, s) := lev
  have w4 : ∀ s, M_l_same 20 [.d d, .d d] s = some (.d (.bl true), s) := fun s => l_same_ok 20 d s (val_short ok v).1 hdep
  have w5 : ∀ s, M_l_depth 20 [.d σ.enc, .d (.str nm), .d d] s = some (.d (.int ((σ.pd (.nm nm) : Nat) : Int)), s) := l_depth_eq ok.ids v 20 hlt
  have w6 : ∀ s, M_l_count 20 [.d σ.enc, .d (.str nm), .d d] s = some (.d (.int (c : Int)), s) := l_count_eq ok.ids v 20 hlt
  have w7 : M_l_value 20 [.d σ.enc, .d (.str nm), .w, .n σ.R, .d (.int (1 + a))] s2 = some (.d d2, s3) := e3
  have w8 : ∀ s, M_l_depth 20 [.d σ.enc, .d (.str nm), .d d2] s = some (.d (.int (m2 : Int)), s) := l_depth_eq ok.ids v2 20 hlt2
  have w9 : ∀ s, M_l_same 20 [.d l.simple, .d l.simple] s = some (.d (.bl true), s) := fun s => l_same_ok 20 l.simple s (leafVal_short hls).1 hdl
  have w10 := counted_eq ok (.leaf hw) (show 0 < 20 by omega)
  have w11 := counted_eq ok v hlt
  have w12 := counted_eq ok v2 hlt2
  have w13 : M_l_next [.w, .d (.int ((σ.defs.map fun d => D.str d.1).length : Int))] s = some (.d (.int j), s1) := by
    rw [List.length_map]
    exact e1
  have w14 : (σ.defs.map defEnc).length ≤ 100000 := by
    rw [List.length_map]
    omega
  have w15 : (c : Int) ≤ 100 := by omega
  have w16 : ((σ.pd (.nm nm) : Nat) : Int) ≤ (m2 : Int) := by omega
  have hA : σ.enc = .tup [.str σ.root, .tup (σ.defs.map defEnc)] := rfl
  have u1 := ok.depths
  have u2 := ok.least
  have u3 : ∀ s, M_simple_value [.d σ.enc, .d (.str nm)] s = some (.d d, s) := ev
  have u4 := simple_value_lf ok hl
  have u5 := l_simple_leaf_eq l hl
  have fin := law_abs (IC := M_l_is_counted) (LV := M_l_leaf_value) (SM := M_l_same 20) (SLf := M_l_simple_leaf) (SV' := M_simple_value) (LF' := M_l_leaf) (LDp := M_l_depth 20) (LVal := M_l_value 20) (NX := M_l_next) (LC := M_l_count 20) (LD := M_least_depths) (LS := M_l_simple 20) (IO := M_is_of 20) (LIO := M_l_is_of 20) (LDs := M_l_depths) (sc := sc)
    hA w14 u1 u2 hcomp w13 hix u3 w1 w2 w3 w4 w5 k4 w6 w15 e2 w7 w8 w16 e4 u4 u5 w9 e5 w10 w11 w12
  exact fin
theorem cell_ok (ns : List Int) (k : Nat) (s : S) : ∃ c : Int, M_l_cell [.r (ns.map D.int), .d (.int (k : Int))] s = some (.d (.int c), s) := by
  by_cases h : k < ns.length
  · refine ⟨ns[k], ?_⟩
    have hix : ixD (.r (ns.map D.int)) (k : Int) = some (.int ns[k]) := by
      rw [ix_r (by omega), Int.toNat_natCast, List.getElem?_map, List.getElem?_eq_getElem h]
      rfl
    simp [M_l_cell, G_l_cell, ap_runM, h, hix]
  · refine ⟨0, ?_⟩
    simp [M_l_cell, G_l_cell, ap_runM, h]
theorem plain : Plain := fun ns => ⟨fun k hk s => by
  rcases hk with rfl | rfl
  · exact cell_ok ns 0 s
  · exact cell_ok ns 1 s, fun row1 row2 => by
  obtain ⟨σ, s1, e, ok⟩ := l_schema_ok row1
  obtain ⟨s2, e2⟩ := law_plain ok (.r (ns.map D.int)) row2
  exact ⟨σ.enc, s1, s2, e, e2⟩⟩
end Sb

set_option Elab.async false
set_option linter.all false
set_option maxRecDepth 100000
set_option maxHeartbeats 4000000
namespace Sb
open PySem PySem.Spec PyProof.Rows L2
/-! ## the end: what the top has written, and the law's own head -/
theorem unk_mk {K : PySem.W.Frag} {b : Addr} {od : Option Addr} {t : Tok} {n : Nat} {sl : Array (Option Value)} (l : K.lookup b = some ⟨.type "tuple", od, .seq #[.int 0 t, .none] n, sl⟩) : ∀ Z, SqT K Z b [.int 0, .non] := fun Z =>
  .inr ⟨_, _, _, l, rfl, rfl, by show 2 ≤ sizeLine; decide, .cons ⟨t, rfl⟩ (.cons rfl .nil)⟩
theorem all_mk {l : PySem.W.OpenLaw} {w : PySem.World} {K : PySem.W.Frag} {h : Heap} {mg : Str → Option Value} {fa f : Addr} {oc : Value} {od an : Option Addr} {osl : Array (Option Value)} {kV doc pm cdv ct : Value} {tP : Tok} {b : Addr} (X : K.In h) (G : h.Ns mainGlobals mg) (hfa : mg "law" = some (.ref fa))
    (a1 : PySem.W.nsIn K mainGlobals "law" = some (some (.ref f))) (l1 : K.lookup f = some ⟨oc, od, .func (PySem.W.fnOf "law" "law" (defArgs s_law) (defBody s_law) (defScope s_law) .none kV doc pm an cdv ct), osl⟩) (c1 : PySem.W.codeIn K cdv "law" = true) (k1 : PySem.W.keepIn K (.ref f) = true)
    (B : Bl mg) (hP : mg "PERCENT" = some (.int 37 tP)) (hU : mg "UNKNOWN_CASE" = some (.ref b)) (hUb : ∀ Z, SqT K Z b [.int 0, .non]) (T : All K mg) (pl : Plain) :
    ∃ fd : FuncData, (∀ (s : Shared) (v : Value), BindsTo s fd ⟨[v], []⟩ [("_law_script", v)]) ∧ ∀ base : Heap, K.In base → base.Ns mainGlobals mg → FnOk l.prog w K mg base CX0 82 fa fd ["_law_script"] (spLaw K) := by
  have e := hfa.symm.trans (PySem.W.mg_of X G a1)
  cases e
  refine ⟨PySem.W.fnOf "law" "law" (defArgs s_law) (defBody s_law) (defScope s_law) .none kV doc pm an cdv ct, fun s v => .of_eq rfl, fun base _ _ => ?_⟩
  have C := calls_mk (P := l.prog) (w := w) (base := base) B hP hU hUb T
  refine ok_law pl (fun_mk (st := s_law) l1 c1 k1) B C ?_
  obtain ⟨f, fd, hm, F, hb⟩ := T.H_l_draws
  exact ⟨⟨f, fd, (ok_l_draws (k := 0) F B).mono (by decide), hm, F.kp, hb⟩⟩
theorem walk {l : PySem.W.OpenLaw} {q : Program} {loose : List Str} {XP : (Str → Option Value) → Heap → Prop} {YP : PySem.World → Heap → Prop} {d : DefRec} {K : Params → PySem.W.Frag} (hn : l.most = some 63) (hdf : d.params.defaults = [])
    (hY : ∀ (w : PySem.World) (h : Heap), YP w h → (K w.params).In h)
    (F : ∀ (w : PySem.World) (mg : Str → Option Value) (fa : Addr) (h : Heap), (K w.params).In h → h.Ns mainGlobals mg → mg d.name = some (.ref fa) →
      ∃ fd : FuncData, (∀ (s : Shared) (u : Value), BindsTo s fd ⟨[u], []⟩ [("_law_script", u)]) ∧ ∀ base : Heap, (K w.params).In base → base.Ns mainGlobals mg → FnOk l.prog w (K w.params) mg base CX0 82 fa fd ["_law_script"] (spLaw (K w.params))) :
    PySem.W.WalkO q loose XP YP l.row.toRowW d [] (fun f vs => PySem.call f vs) :=
  L2.walk_of (n := 63) (k := 82) (x := "_law_script") (CX := fun _ => CX0) (sp := fun w => spLaw (K w.params)) hn (by decide) hdf ⟨rfl, by decide, by decide⟩ hY F (fun _ _ a ns hl _ hS => ⟨a, ns, rfl, hS, hl, fun _ => rfl⟩) fun _ _ _ _ _ z => z
end Sb
open PySem PySem.W PyProof.Rows
set_option maxRecDepth 100000 in
set_option maxHeartbeats 0 in
theorem PySem.Challenge.cw_schemabridge_k07_whole_simple_values_holds : PySem.Challenge.rw_schemabridge_k07_whole_simple_values.Holds := by
  w_on; o_law; k_head; (case hw => w_witness2)
  k_fill
  refine Sb.walk (l := PySem.Challenge.rw_schemabridge_k07_whole_simple_values) rfl rfl (fun w h Y => PySem.W.kIn_of Y) ?F
  case F =>
    intro w mg fa h KX G hmg
    refine' Sb.all_mk KX G hmg ?a1 ?l1 ?c1 ?k1 ?B (PySem.W.mg_of KX G ?aP) (PySem.W.mg_of KX G ?aU) (Sb.unk_mk ?lU) ?T Sb.plain
    (case a1 => k_is); (case l1 => k_is); (case c1 => k_is); (case k1 => k_is)
    (case aP => k_is); (case aU => k_is); (case lU => k_is)
    case B =>
      refine' ⟨PySem.W.mg_none_of KX G ?z0, PySem.W.mg_none_of KX G ?z1, PySem.W.mg_none_of KX G ?z2, PySem.W.mg_none_of KX G ?z3, PySem.W.mg_none_of KX G ?z4, PySem.W.mg_none_of KX G ?z5, PySem.W.mg_none_of KX G ?z6, PySem.W.mg_none_of KX G ?z7, PySem.W.mg_none_of KX G ?z8, PySem.W.mg_none_of KX G ?z9, PySem.W.mg_none_of KX G ?z10, PySem.W.mg_none_of KX G ?z11, PySem.W.mg_none_of KX G ?z12⟩
      (case z0 => k_is); (case z1 => k_is); (case z2 => k_is); (case z3 => k_is); (case z4 => k_is); (case z5 => k_is); (case z6 => k_is); (case z7 => k_is); (case z8 => k_is); (case z9 => k_is); (case z10 => k_is); (case z11 => k_is); (case z12 => k_is)
    case T =>
      refine' ⟨?h0, ?h1, ?h2, ?h3, ?h4, ?h5, ?h6, ?h7, ?h8, ?h9, ?h10, ?h11, ?h12, ?h13, ?h14, ?h15, ?h16, ?h17, ?h18, ?h19, ?h20, ?h21, ?h22, ?h23, ?h24, ?h25, ?h26, ?h27, ?h28, ?h29, ?h30, ?h31, ?h32, ?h33, ?h34, ?h35, ?h36, ?h37, ?h38, ?h39, ?h40, ?h41, ?h42, ?h43, ?h44, ?h45, ?h46, ?h47, ?h48, ?h49, ?h50, ?h51, ?h52, ?h53, ?h54, ?h55, ?h56⟩
      case h0 => (refine' Sb.has_mk KX G Sb.b_is_allowed_code ?a ?l ?c ?k; (case a => k_is); (case l => k_is); (case c => k_is); (case k => k_is))
      case h1 => (refine' Sb.has_mk KX G Sb.b_is_text ?a ?l ?c ?k; (case a => k_is); (case l => k_is); (case c => k_is); (case k => k_is))
      case h2 => (refine' Sb.has_mk KX G Sb.b_is_leaf_value ?a ?l ?c ?k; (case a => k_is); (case l => k_is); (case c => k_is); (case k => k_is))
      case h3 => (refine' Sb.has_mk KX G Sb.b_simple_leaf_value ?a ?l ?c ?k; (case a => k_is); (case l => k_is); (case c => k_is); (case k => k_is))
      case h4 => (refine' Sb.has_mk KX G Sb.b_is_name ?a ?l ?c ?k; (case a => k_is); (case l => k_is); (case c => k_is); (case k => k_is))
      case h5 => (refine' Sb.has_mk KX G Sb.b_body_of ?a ?l ?c ?k; (case a => k_is); (case l => k_is); (case c => k_is); (case k => k_is))
      case h6 => (refine' Sb.has_mk KX G Sb.b_is_known ?a ?l ?c ?k; (case a => k_is); (case l => k_is); (case c => k_is); (case k => k_is))
      case h7 => (refine' Sb.has_mk KX G Sb.b_part_depth ?a ?l ?c ?k; (case a => k_is); (case l => k_is); (case c => k_is); (case k => k_is))
      case h8 => (refine' Sb.has_mk KX G Sb.b_has_value ?a ?l ?c ?k; (case a => k_is); (case l => k_is); (case c => k_is); (case k => k_is))
      case h9 => (refine' Sb.has_mk KX G Sb.b_least_depths ?a ?l ?c ?k; (case a => k_is); (case l => k_is); (case c => k_is); (case k => k_is))
      case h10 => (refine' Sb.has_mk KX G Sb.b_simple_case ?a ?l ?c ?k; (case a => k_is); (case l => k_is); (case c => k_is); (case k => k_is))
      case h11 => (refine' Sb.has_mk KX G Sb.b_is_list_of ?a ?l ?c ?k; (case a => k_is); (case l => k_is); (case c => k_is); (case k => k_is))
      case h12 => (refine' Sb.has_mk KX G Sb.b_is_entry ?a ?l ?c ?k; (case a => k_is); (case l => k_is); (case c => k_is); (case k => k_is))
      case h13 => (refine' Sb.has_mk KX G Sb.b_is_record_of ?a ?l ?c ?k; (case a => k_is); (case l => k_is); (case c => k_is); (case k => k_is))
      case h14 => (refine' Sb.has_mk KX G Sb.b_is_union_of ?a ?l ?c ?k; (case a => k_is); (case l => k_is); (case c => k_is); (case k => k_is))
      case h15 => (refine' Sb.has_mk KX G Sb.b_is_of ?a ?l ?c ?k; (case a => k_is); (case l => k_is); (case c => k_is); (case k => k_is))
      case h16 => (refine' Sb.has_mk KX G Sb.b_part_of_id ?a ?l ?c ?k; (case a => k_is); (case l => k_is); (case c => k_is); (case k => k_is))
      case h17 => (refine' Sb.has_mk KX G Sb.b_inner_values ?a ?l ?c ?k; (case a => k_is); (case l => k_is); (case c => k_is); (case k => k_is))
      case h18 => (refine' Sb.has_mk KX G Sb.b_depth ?a ?l ?c ?k; (case a => k_is); (case l => k_is); (case c => k_is); (case k => k_is))
      case h19 => (refine' Sb.has_mk KX G Sb.b_value_count ?a ?l ?c ?k; (case a => k_is); (case l => k_is); (case c => k_is); (case k => k_is))
      case h20 => (refine' Sb.has_mk KX G Sb.b_simple_record ?a ?l ?c ?k; (case a => k_is); (case l => k_is); (case c => k_is); (case k => k_is))
      case h21 => (refine' Sb.has_mk KX G Sb.b_simple_part ?a ?l ?c ?k; (case a => k_is); (case l => k_is); (case c => k_is); (case k => k_is))
      case h22 => (refine' Sb.has_mk KX G Sb.b_simple_value ?a ?l ?c ?k; (case a => k_is); (case l => k_is); (case c => k_is); (case k => k_is))
      case h23 => (refine' Sb.has_mk KX G Sb.b_l_cell ?a ?l ?c ?k; (case a => k_is); (case l => k_is); (case c => k_is); (case k => k_is))
      case h24 => (refine' Sb.has_mk KX G Sb.b_l_draws ?a ?l ?c ?k; (case a => k_is); (case l => k_is); (case c => k_is); (case k => k_is))
      case h25 => (refine' Sb.has_mk KX G Sb.b_l_next ?a ?l ?c ?k; (case a => k_is); (case l => k_is); (case c => k_is); (case k => k_is))
      case h26 => (refine' Sb.has_mk KX G Sb.b_l_big ?a ?l ?c ?k; (case a => k_is); (case l => k_is); (case c => k_is); (case k => k_is))
      case h27 => (refine' Sb.has_mk KX G Sb.b_l_char ?a ?l ?c ?k; (case a => k_is); (case l => k_is); (case c => k_is); (case k => k_is))
      case h28 => (refine' Sb.has_mk KX G Sb.b_l_ids ?a ?l ?c ?k; (case a => k_is); (case l => k_is); (case c => k_is); (case k => k_is))
      case h29 => (refine' Sb.has_mk KX G Sb.b_l_split ?a ?l ?c ?k; (case a => k_is); (case l => k_is); (case c => k_is); (case k => k_is))
      case h30 => (refine' Sb.has_mk KX G Sb.b_l_leaf ?a ?l ?c ?k; (case a => k_is); (case l => k_is); (case c => k_is); (case k => k_is))
      case h31 => (refine' Sb.has_mk KX G Sb.b_l_leaf_value ?a ?l ?c ?k; (case a => k_is); (case l => k_is); (case c => k_is); (case k => k_is))
      case h32 => (refine' Sb.has_mk KX G Sb.b_l_part ?a ?l ?c ?k; (case a => k_is); (case l => k_is); (case c => k_is); (case k => k_is))
      case h33 => (refine' Sb.has_mk KX G Sb.b_l_list_body ?a ?l ?c ?k; (case a => k_is); (case l => k_is); (case c => k_is); (case k => k_is))
      case h34 => (refine' Sb.has_mk KX G Sb.b_l_record_body ?a ?l ?c ?k; (case a => k_is); (case l => k_is); (case c => k_is); (case k => k_is))
      case h35 => (refine' Sb.has_mk KX G Sb.b_l_union_body ?a ?l ?c ?k; (case a => k_is); (case l => k_is); (case c => k_is); (case k => k_is))
      case h36 => (refine' Sb.has_mk KX G Sb.b_l_schema ?a ?l ?c ?k; (case a => k_is); (case l => k_is); (case c => k_is); (case k => k_is))
      case h37 => (refine' Sb.has_mk KX G Sb.b_l_body_of ?a ?l ?c ?k; (case a => k_is); (case l => k_is); (case c => k_is); (case k => k_is))
      case h38 => (refine' Sb.has_mk KX G Sb.b_l_is_known ?a ?l ?c ?k; (case a => k_is); (case l => k_is); (case c => k_is); (case k => k_is))
      case h39 => (refine' Sb.has_mk KX G Sb.b_l_has_value ?a ?l ?c ?k; (case a => k_is); (case l => k_is); (case c => k_is); (case k => k_is))
      case h40 => (refine' Sb.has_mk KX G Sb.b_l_depths ?a ?l ?c ?k; (case a => k_is); (case l => k_is); (case c => k_is); (case k => k_is))
      case h41 => (refine' Sb.has_mk KX G Sb.b_l_part_depth ?a ?l ?c ?k; (case a => k_is); (case l => k_is); (case c => k_is); (case k => k_is))
      case h42 => (refine' Sb.has_mk KX G Sb.b_l_simple_leaf ?a ?l ?c ?k; (case a => k_is); (case l => k_is); (case c => k_is); (case k => k_is))
      case h43 => (refine' Sb.has_mk KX G Sb.b_l_simple ?a ?l ?c ?k; (case a => k_is); (case l => k_is); (case c => k_is); (case k => k_is))
      case h44 => (refine' Sb.has_mk KX G Sb.b_l_record_value ?a ?l ?c ?k; (case a => k_is); (case l => k_is); (case c => k_is); (case k => k_is))
      case h45 => (refine' Sb.has_mk KX G Sb.b_l_value ?a ?l ?c ?k; (case a => k_is); (case l => k_is); (case c => k_is); (case k => k_is))
      case h46 => (refine' Sb.has_mk KX G Sb.b_l_live ?a ?l ?c ?k; (case a => k_is); (case l => k_is); (case c => k_is); (case k => k_is))
      case h47 => (refine' Sb.has_mk KX G Sb.b_l_part_of ?a ?l ?c ?k; (case a => k_is); (case l => k_is); (case c => k_is); (case k => k_is))
      case h48 => (refine' Sb.has_mk KX G Sb.b_l_same ?a ?l ?c ?k; (case a => k_is); (case l => k_is); (case c => k_is); (case k => k_is))
      case h49 => (refine' Sb.has_mk KX G Sb.b_l_is_text ?a ?l ?c ?k; (case a => k_is); (case l => k_is); (case c => k_is); (case k => k_is))
      case h50 => (refine' Sb.has_mk KX G Sb.b_l_is_leaf_value ?a ?l ?c ?k; (case a => k_is); (case l => k_is); (case c => k_is); (case k => k_is))
      case h51 => (refine' Sb.has_mk KX G Sb.b_l_is_entry ?a ?l ?c ?k; (case a => k_is); (case l => k_is); (case c => k_is); (case k => k_is))
      case h52 => (refine' Sb.has_mk KX G Sb.b_l_is_record_value ?a ?l ?c ?k; (case a => k_is); (case l => k_is); (case c => k_is); (case k => k_is))
      case h53 => (refine' Sb.has_mk KX G Sb.b_l_is_of ?a ?l ?c ?k; (case a => k_is); (case l => k_is); (case c => k_is); (case k => k_is))
      case h54 => (refine' Sb.has_mk KX G Sb.b_l_depth ?a ?l ?c ?k; (case a => k_is); (case l => k_is); (case c => k_is); (case k => k_is))
      case h55 => (refine' Sb.has_mk KX G Sb.b_l_count ?a ?l ?c ?k; (case a => k_is); (case l => k_is); (case c => k_is); (case k => k_is))
      case h56 => (refine' Sb.has_mk KX G Sb.b_l_is_counted ?a ?l ?c ?k; (case a => k_is); (case l => k_is); (case c => k_is); (case k => k_is))
