import PyProof.Rows.All
import Wide.All
import OpenK.AllK
import Wide.FinOn
import HandS.ForMost
import HandS.IsInst
import HandS.Zip
import HandS.TupAny
import HandS.TupMul
import HandS.Style
import HandS.Conv
import HandS.More
import HandS.Strs
import PyProof.ReprRoads
import HandS.Words
import HandS.Dict
import KE.GoesEnum
import HandS.SetFor
import PySem.Challenge.RW_lanternrows_k10_least_rounds
set_option Elab.async false
set_option linter.all false
set_option maxRecDepth 100000
set_option maxHeartbeats 4000000
namespace Mi
open PySem PySem.Spec PyProof.Rows L2

/-! values, stores, results -/
inductive D where
  | p (d : PyData)
  | ref (n : Nat)
  | scr (ns : List Int)
inductive SO where
  | lst (ds : List PyData)
abbrev Store := List SO
abbrev Env := List (Option D)
structure Exn where
  cls : Str
  args : List D
inductive Res (a : Type) where
  | bad
  | ok (x : a) (S : Store)
  | exn (x : Exn) (S : Store)
abbrev M (a : Type) := Store → Res a
def Res.bind {a b : Type} : Res a → (a → M b) → Res b
  | .bad, _ => .bad
  | .ok x S, f => f x S
  | .exn x S, _ => .exn x S
theorem Res.bind_ok {a b : Type} {r : Res a} {f : a → M b} {y : b} {S' : Store} (h : r.bind f = .ok y S') : ∃ x S, r = .ok x S ∧ f x S = .ok y S' := by
  cases r with
  | bad => cases h
  | exn x S => cases h
  | ok x S => exact ⟨x, S, rfl, h⟩
abbrev EM := Env → M D
abbrev AM := Env → M (List D)
abbrev TM := Env → M Bool

/-! what represents what -/
def keyD : PyData → Key → Prop
  | .int i, k => k = .inl i
  | .str x, k => k = .inr x
  | _, _ => False
mutual
def Rep (K : PySem.W.Frag) (H : Hp) (ok : Addr → Prop) : PyData → V → Prop
  | .none, v => v = .non
  | .bool b, v => v = .bl b
  | .int i, v => v = .int i
  | .str x, v => v = .str x
  | .tuple ds, v => ∃ a xs, v = .ref a ∧ SqT K H a xs ∧ RepAll K H ok ds xs
  | .list ds, v => ∃ a xs, v = .ref a ∧ H a = some (.lst xs) ∧ ok a ∧ RepAll K H ok ds xs
  | .dict kvs, v => ∃ a es, v = .ref a ∧ H a = some (.dK es) ∧ ok a ∧ RepKv K H ok kvs es
def RepAll (K : PySem.W.Frag) (H : Hp) (ok : Addr → Prop) : List PyData → List V → Prop
  | [], xs => xs = []
  | d :: ds, xs => ∃ x r, xs = x :: r ∧ Rep K H ok d x ∧ RepAll K H ok ds r
def RepKv (K : PySem.W.Frag) (H : Hp) (ok : Addr → Prop) : List (PyData × PyData) → List (Key × V) → Prop
  | [], es => es = []
  | (k, d) :: r, es => ∃ e es', es = e :: es' ∧ keyD k e.1 ∧ Rep K H ok d e.2 ∧ RepKv K H ok r es'
end
section
variable {K : PySem.W.Frag} {H H' : Hp} {ok ok' : Addr → Prop}
mutual
theorem Rep.mono (hl : ∀ a xs, H a = some (.lst xs) → ok a → H' a = some (.lst xs) ∧ ok' a) (ht : ∀ a xs, SqT K H a xs → SqT K H' a xs) (hd : ∀ a es, H a = some (.dK es) → ok a → H' a = some (.dK es) ∧ ok' a) :
    ∀ (d : PyData) (v : V), Rep K H ok d v → Rep K H' ok' d v
  | .none, _, h => by simpa only [Rep] using h
  | .bool _, _, h => by simpa only [Rep] using h
  | .int _, _, h => by simpa only [Rep] using h
  | .str _, _, h => by simpa only [Rep] using h
  | .tuple ds, v, h => by
    simp only [Rep] at h ⊢
    obtain ⟨a, xs, e, t, r⟩ := h
    exact ⟨a, xs, e, ht a xs t, RepAll.mono hl ht hd ds xs r⟩
  | .list ds, v, h => by
    simp only [Rep] at h ⊢
    obtain ⟨a, xs, e, t, o, r⟩ := h
    obtain ⟨t', o'⟩ := hl a xs t o
    exact ⟨a, xs, e, t', o', RepAll.mono hl ht hd ds xs r⟩
  | .dict kvs, v, h => by
    simp only [Rep] at h ⊢
    obtain ⟨a, es, e, t, o, r⟩ := h
    obtain ⟨t', o'⟩ := hd a es t o
    exact ⟨a, es, e, t', o', RepKv.mono hl ht hd kvs es r⟩
theorem RepAll.mono (hl : ∀ a xs, H a = some (.lst xs) → ok a → H' a = some (.lst xs) ∧ ok' a) (ht : ∀ a xs, SqT K H a xs → SqT K H' a xs) (hd : ∀ a es, H a = some (.dK es) → ok a → H' a = some (.dK es) ∧ ok' a) :
    ∀ (ds : List PyData) (xs : List V), RepAll K H ok ds xs → RepAll K H' ok' ds xs
  | [], _, h => by simpa only [RepAll] using h
  | d :: ds, xs, h => by
    simp only [RepAll] at h ⊢
    obtain ⟨x, r, e, h1, h2⟩ := h
    exact ⟨x, r, e, Rep.mono hl ht hd d x h1, RepAll.mono hl ht hd ds r h2⟩
theorem RepKv.mono (hl : ∀ a xs, H a = some (.lst xs) → ok a → H' a = some (.lst xs) ∧ ok' a) (ht : ∀ a xs, SqT K H a xs → SqT K H' a xs) (hd : ∀ a es, H a = some (.dK es) → ok a → H' a = some (.dK es) ∧ ok' a) :
    ∀ (kvs : List (PyData × PyData)) (es : List (Key × V)), RepKv K H ok kvs es → RepKv K H' ok' kvs es
  | [], _, h => by simpa only [RepKv] using h
  | (k, d) :: r, es, h => by
    simp only [RepKv] at h ⊢
    obtain ⟨e, es', q, h1, h2, h3⟩ := h
    exact ⟨e, es', q, h1, Rep.mono hl ht hd d _ h2, RepKv.mono hl ht hd r es' h3⟩
end
mutual
theorem Rep.dp : ∀ (d : PyData) (v : V), d.canLay0 = true → Rep K H ok d v → Dp K H v d
  | .none, _, _, h => by simp only [Rep] at h; subst h; exact .non
  | .bool b, _, _, h => by simp only [Rep] at h; subst h; exact .bl b
  | .int b, _, _, h => by simp only [Rep] at h; subst h; exact .int b
  | .str b, _, _, h => by simp only [Rep] at h; subst h; exact .str b
  | .tuple ds, v, c, h => by
    simp only [Rep] at h
    obtain ⟨a, xs, e, t, r⟩ := h
    subst e
    exact .tup t (RepAll.dp ds xs (by simpa [PyData.canLay0] using c) r)
  | .list ds, v, c, h => by
    simp only [Rep] at h
    obtain ⟨a, xs, e, t, o, r⟩ := h
    subst e
    exact .lst (SqL.of t) (RepAll.dp ds xs (by simpa [PyData.canLay0] using c) r)
  | .dict kvs, v, c, h => by simp [PyData.canLay0] at c
theorem RepAll.dp : ∀ (ds : List PyData) (xs : List V), PyData.canLayAll0 ds = true → RepAll K H ok ds xs → DpAll K H xs ds
  | [], _, _, h => by simp only [RepAll] at h; subst h; exact .nil
  | d :: ds, xs, c, h => by
    simp only [RepAll] at h
    obtain ⟨x, r, e, h1, h2⟩ := h
    subst e
    have c' : d.canLay0 = true ∧ PyData.canLayAll0 ds = true := by simpa [PyData.canLayAll0] using c
    exact .cons (Rep.dp d x c'.1 h1) (RepAll.dp ds r c'.2 h2)
end
/-! lists of data -/
theorem RepAll.nil : RepAll K H ok [] [] := by simp only [RepAll]
theorem RepAll.cons {d : PyData} {ds : List PyData} {x : V} {xs : List V} (h : Rep K H ok d x) (r : RepAll K H ok ds xs) : RepAll K H ok (d :: ds) (x :: xs) := by
  simp only [RepAll]
  exact ⟨x, xs, rfl, h, r⟩
theorem RepAll.length : ∀ {ds : List PyData} {xs : List V}, RepAll K H ok ds xs → ds.length = xs.length
  | [], _, h => by simp only [RepAll] at h; subst h; rfl
  | d :: ds, _, h => by
    simp only [RepAll] at h
    obtain ⟨x, r, e, _, h2⟩ := h
    subst e
    rw [List.length_cons, List.length_cons, RepAll.length h2]
theorem RepAll.get : ∀ {ds : List PyData} {xs : List V} {i : Nat} {d : PyData}, RepAll K H ok ds xs → ds[i]? = some d → ∃ x, xs[i]? = some x ∧ Rep K H ok d x
  | [], _, _, _, _, e => by simp at e
  | d :: ds, _, 0, d', h, e => by
    simp only [RepAll] at h
    obtain ⟨x, r, e1, h1, h2⟩ := h
    subst e1
    have e2 : d = d' := by simpa using e
    subst e2
    exact ⟨x, rfl, h1⟩
  | d :: ds, _, i + 1, d', h, e => by
    simp only [RepAll] at h
    obtain ⟨x, r, e1, h1, h2⟩ := h
    subst e1
    obtain ⟨y, h3, h4⟩ := RepAll.get (i := i) h2 (by simpa using e)
    exact ⟨y, by simpa using h3, h4⟩
theorem RepAll.append : ∀ {ds es : List PyData} {xs ys : List V}, RepAll K H ok ds xs → RepAll K H ok es ys → RepAll K H ok (ds ++ es) (xs ++ ys)
  | [], _, _, _, h, h' => by simp only [RepAll] at h; subst h; exact h'
  | d :: ds, _, _, _, h, h' => by
    simp only [RepAll] at h
    obtain ⟨x, r, e1, h1, h2⟩ := h
    subst e1
    exact .cons h1 (RepAll.append h2 h')
theorem RepAll.drop : ∀ {ds : List PyData} {xs : List V} (n : Nat), RepAll K H ok ds xs → RepAll K H ok (ds.drop n) (xs.drop n)
  | _, _, 0, h => h
  | [], _, n + 1, h => by simp only [RepAll] at h; subst h; exact .nil
  | d :: ds, _, n + 1, h => by
    simp only [RepAll] at h
    obtain ⟨x, r, e1, h1, h2⟩ := h
    subst e1
    exact RepAll.drop n h2
theorem RepAll.take : ∀ {ds : List PyData} {xs : List V} (n : Nat), RepAll K H ok ds xs → RepAll K H ok (ds.take n) (xs.take n)
  | _, _, 0, h => .nil
  | [], _, n + 1, h => by simp only [RepAll] at h; subst h; exact .nil
  | d :: ds, _, n + 1, h => by
    simp only [RepAll] at h
    obtain ⟨x, r, e1, h1, h2⟩ := h
    subst e1
    exact .cons h1 (RepAll.take n h2)
theorem RepAll.set : ∀ {ds : List PyData} {xs : List V} {d : PyData} {x : V} (n : Nat), RepAll K H ok ds xs → Rep K H ok d x → RepAll K H ok (ds.set n d) (xs.set n x)
  | [], _, _, _, _, h, _ => by simp only [RepAll] at h; subst h; exact .nil
  | d :: ds, _, _, _, 0, h, q => by
    simp only [RepAll] at h
    obtain ⟨x, r, e1, h1, h2⟩ := h
    subst e1
    exact .cons q h2
  | d :: ds, _, _, _, n + 1, h, q => by
    simp only [RepAll] at h
    obtain ⟨x, r, e1, h1, h2⟩ := h
    subst e1
    exact .cons h1 (RepAll.set n h2 q)
theorem RepAll.rep {ds : List PyData} {xs : List V} (h : RepAll K H ok ds xs) : ∀ n : Nat, RepAll K H ok (List.replicate n ds).flatten (List.replicate n xs).flatten
  | 0 => .nil
  | n + 1 => by
    rw [List.replicate_succ, List.replicate_succ, List.flatten_cons, List.flatten_cons]
    exact h.append (RepAll.rep h n)
theorem RepAll.get_none {ds : List PyData} {xs : List V} {i : Nat} (h : RepAll K H ok ds xs) (e : ds[i]? = none) : xs[i]? = none := by
  have l := h.length
  have := List.getElem?_eq_none_iff.mp e
  exact List.getElem?_eq_none_iff.mpr (by omega)
theorem RepAll.ints : ∀ {ns : List Int} {xs : List V}, RepAll K H ok (ns.map PyData.int) xs → xs = ns.map V.int
  | [], _, h => by simpa only [RepAll, List.map_nil] using h
  | n :: ns, _, h => by
    simp only [RepAll, List.map_cons] at h
    obtain ⟨x, r, e1, h1, h2⟩ := h
    simp only [Rep] at h1
    rw [e1, h1, RepAll.ints h2]
    rfl
theorem RepAll.of_ints : ∀ (ns : List Int), RepAll K H ok (ns.map PyData.int) (ns.map V.int)
  | [] => .nil
  | n :: ns => .cons (by simp only [Rep]) (RepAll.of_ints ns)
theorem RepAll.bools : ∀ {ns : List Bool} {xs : List V}, RepAll K H ok (ns.map PyData.bool) xs → xs = ns.map V.bl
  | [], _, h => by simpa only [RepAll, List.map_nil] using h
  | n :: ns, _, h => by
    simp only [RepAll, List.map_cons] at h
    obtain ⟨x, r, e1, h1, h2⟩ := h
    simp only [Rep] at h1
    rw [e1, h1, RepAll.bools h2]
    rfl
theorem RepAll.strs_ : ∀ {ns : List Str} {xs : List V}, RepAll K H ok (ns.map PyData.str) xs → xs = ns.map V.str
  | [], _, h => by simpa only [RepAll, List.map_nil] using h
  | n :: ns, _, h => by
    simp only [RepAll, List.map_cons] at h
    obtain ⟨x, r, e1, h1, h2⟩ := h
    simp only [Rep] at h1
    rw [e1, h1, RepAll.strs_ h2]
    rfl
theorem RepAll.of_strs : ∀ (ns : List Str), RepAll K H ok (ns.map PyData.str) (ns.map V.str)
  | [] => .nil
  | n :: ns => .cons (by simp only [Rep]) (RepAll.of_strs ns)
end

/-! the bounds within which a list may be changed -/
def okx (ph : List Addr) (Ex : Addr → Prop) : Addr → Prop := fun a => a ∉ ph ∧ ¬ Ex a
def EO (E O : Addr → Prop) : Addr → Prop := fun a => E a ∨ O a
/-- a list that nobody writes: the script -/
def FroAt (K : PySem.W.Frag) (H : Hp) (a : Addr) (xs : List V) : Prop := (∃ o, H a = some (.frz o (.lst xs))) ∨ ∀ G : Hp, SqL K G a xs
theorem FroAt.sqL {K : PySem.W.Frag} {H : Hp} {a : Addr} {xs : List V} (h : FroAt K H a xs) : SqL K H a xs := by
  rcases h with ⟨o, h⟩ | h
  · exact .inl (.inr ⟨o, h⟩)
  · exact h H
def RepD (K : PySem.W.Frag) (ph : List Addr) (Ex : Addr → Prop) (H : Hp) : D → V → Prop
  | .p d, v => Rep K H (okx ph Ex) d v
  | .ref n, v => ∃ a, ph[n]? = some a ∧ v = .ref a
  | .scr ns, v => ∃ a, v = .ref a ∧ FroAt K H a (ns.map V.int)
def RepP (K : PySem.W.Frag) (ph : List Addr) (Ex : Addr → Prop) (H : Hp) : D → V → Prop
  | .p (.list ds), v => ∃ a xs, v = .ref a ∧ H a = some (.lst xs) ∧ a ∉ ph ∧ RepAll K H (okx ph Ex) ds xs
  | .p (.dict kvs), v => ∃ a es, v = .ref a ∧ H a = some (.dK es) ∧ a ∉ ph ∧ RepKv K H (okx ph Ex) kvs es
  | d, v => RepD K ph Ex H d v
def RepDs (K : PySem.W.Frag) (ph : List Addr) (Ex : Addr → Prop) (H : Hp) : List D → List V → Prop := Paired (RepD K ph Ex H)
/-- what a run leaves -/
structure Step (ph ph' : List Addr) (H H' : Hp) : Prop where
  keep : ∀ a o, H a = some o → a ∉ ph → (∀ q, o ≠ .tbl q) → H' a = some o
  tup : ∀ a xs, H a = some (.tup xs) → H' a = some (.tup xs)
  frz : ∀ a o u, H a = some (.frz o u) → H' a = some (.frz o u)
  dom : ∀ a, H' a = none → H a = none
  pre : ∃ r, ph' = ph ++ r
  new : ∀ a, a ∈ ph' → a ∈ ph ∨ H a = none
section
variable {K : PySem.W.Frag} {H H' H1 : Hp} {ph ph' ph1 : List Addr} {Ex Ex' : Addr → Prop}
theorem Step.refl (ph : List Addr) (H : Hp) : Step ph ph H H := ⟨fun _ _ h _ _ => h, fun _ _ h => h, fun _ _ _ h => h, fun _ h => h, ⟨[], by simp⟩, fun _ h => .inl h⟩
theorem Step.sub (s : Step ph ph' H H') : ∀ a, a ∈ ph → a ∈ ph' := by
  obtain ⟨r, e⟩ := s.pre
  intro a h
  rw [e]
  exact List.mem_append_left _ h
theorem Step.at_ (s : Step ph ph' H H') {n : Nat} {a : Addr} (h : ph[n]? = some a) : ph'[n]? = some a := by
  obtain ⟨r, e⟩ := s.pre
  rw [e, List.getElem?_append_left (List.getElem?_eq_some_iff.mp h).1]
  exact h
theorem Step.out (s : Step ph ph' H H') {a : Addr} {o : HO} (h : H a = some o) (n : a ∉ ph) : a ∉ ph' := fun z => by
  rcases s.new a z with q | q
  · exact n q
  · rw [h] at q; cases q
theorem Step.trans (s : Step ph ph1 H H1) (t : Step ph1 ph' H1 H') : Step ph ph' H H' := by
  refine ⟨fun a o h n q => t.keep a o (s.keep a o h n q) (s.out h n) q, fun a xs h => t.tup a xs (s.tup a xs h), fun a o u h => t.frz a o u (s.frz a o u h), fun a h => s.dom a (t.dom a h), ?_, fun a h => ?_⟩
  · obtain ⟨r, e⟩ := s.pre
    obtain ⟨r', e'⟩ := t.pre
    exact ⟨r ++ r', by rw [e', e, List.append_assoc]⟩
  · rcases t.new a h with q | q
    · exact s.new a q
    · exact .inr (s.dom a q)
/-- a new object, not by reference -/
theorem Step.fresh {p : Addr} {o : HO} (h : H p = none) : Step ph ph H (upd H p o) := by
  have ne : ∀ a u, H a = some u → a ≠ p := fun a u e z => by rw [z, h] at e; cases e
  refine ⟨fun a u e _ _ => by rw [upd_ne (ne a u e)]; exact e, fun a u e => by rw [upd_ne (ne a _ e)]; exact e, fun a u w e => by rw [upd_ne (ne a _ e)]; exact e, fun a e => ?_, ⟨[], by simp⟩, fun _ e => .inl e⟩
  by_cases z : a = p
  · rw [z, upd_same] at e; cases e
  · rw [upd_ne z] at e; exact e
theorem Step.sqT (s : Step ph ph' H H') {a : Addr} {xs : List V} (h : SqT K H a xs) : SqT K H' a xs := by
  rcases h with (h | ⟨o, h⟩) | h
  · exact .inl (.inl (s.tup _ _ h))
  · exact .inl (.inr ⟨o, s.frz _ _ _ h⟩)
  · exact .inr h
theorem Rep.step (s : Step ph ph' H H') {d : PyData} {v : V} (h : Rep K H (okx ph Ex) d v) : Rep K H' (okx ph' Ex) d v :=
  Rep.mono (fun a xs e o => ⟨s.keep a _ e o.1 (fun _ z => by cases z), s.out e o.1, o.2⟩) (fun a xs e => s.sqT e) (fun a xs e o => ⟨s.keep a _ e o.1 (fun _ z => by cases z), s.out e o.1, o.2⟩) d v h
theorem RepAll.step (s : Step ph ph' H H') {d : List PyData} {v : List V} (h : RepAll K H (okx ph Ex) d v) : RepAll K H' (okx ph' Ex) d v :=
  RepAll.mono (fun a xs e o => ⟨s.keep a _ e o.1 (fun _ z => by cases z), s.out e o.1, o.2⟩) (fun a xs e => s.sqT e) (fun a xs e o => ⟨s.keep a _ e o.1 (fun _ z => by cases z), s.out e o.1, o.2⟩) d v h
theorem RepKv.step (s : Step ph ph' H H') {d : List (PyData × PyData)} {v : List (Key × V)} (h : RepKv K H (okx ph Ex) d v) : RepKv K H' (okx ph' Ex) d v :=
  RepKv.mono (fun a xs e o => ⟨s.keep a _ e o.1 (fun _ z => by cases z), s.out e o.1, o.2⟩) (fun a xs e => s.sqT e) (fun a xs e o => ⟨s.keep a _ e o.1 (fun _ z => by cases z), s.out e o.1, o.2⟩) d v h
/-- more is shut out, of what isn't there; or less -/
theorem Rep.ex (q : ∀ a, Ex' a → Ex a ∨ H a = none) {d : PyData} {v : V} (h : Rep K H (okx ph Ex) d v) : Rep K H (okx ph Ex') d v :=
  Rep.mono (fun a xs e o => ⟨e, o.1, fun z => (q a z).elim o.2 fun n => by rw [e] at n; cases n⟩) (fun _ _ e => e) (fun a xs e o => ⟨e, o.1, fun z => (q a z).elim o.2 fun n => by rw [e] at n; cases n⟩) d v h
theorem RepAll.ex (q : ∀ a, Ex' a → Ex a ∨ H a = none) {d : List PyData} {v : List V} (h : RepAll K H (okx ph Ex) d v) : RepAll K H (okx ph Ex') d v :=
  RepAll.mono (fun a xs e o => ⟨e, o.1, fun z => (q a z).elim o.2 fun n => by rw [e] at n; cases n⟩) (fun _ _ e => e) (fun a xs e o => ⟨e, o.1, fun z => (q a z).elim o.2 fun n => by rw [e] at n; cases n⟩) d v h
theorem RepKv.ex (q : ∀ a, Ex' a → Ex a ∨ H a = none) {d : List (PyData × PyData)} {v : List (Key × V)} (h : RepKv K H (okx ph Ex) d v) : RepKv K H (okx ph Ex') d v :=
  RepKv.mono (fun a xs e o => ⟨e, o.1, fun z => (q a z).elim o.2 fun n => by rw [e] at n; cases n⟩) (fun _ _ e => e) (fun a xs e o => ⟨e, o.1, fun z => (q a z).elim o.2 fun n => by rw [e] at n; cases n⟩) d v h
theorem RepD.step (s : Step ph ph' H H') {d : D} {v : V} (h : RepD K ph Ex H d v) : RepD K ph' Ex H' d v := by
  cases d with
  | scr ns =>
    obtain ⟨a, e, q⟩ := h
    refine ⟨a, e, ?_⟩
    rcases q with ⟨o, q⟩ | q
    · exact .inl ⟨o, s.frz _ _ _ q⟩
    · exact .inr q
  | p d => exact Rep.step s (show Rep K H (okx ph Ex) d v from h)
  | ref n =>
    obtain ⟨a, e, q⟩ := h
    exact ⟨a, s.at_ e, q⟩
theorem RepD.ex (q : ∀ a, Ex' a → Ex a ∨ H a = none) {d : D} {v : V} (h : RepD K ph Ex H d v) : RepD K ph Ex' H d v := by
  cases d with
  | scr n => exact h
  | p d => exact Rep.ex q (show Rep K H (okx ph Ex) d v from h)
  | ref n => exact h
theorem RepD.toP {d : D} {v : V} (h : RepD K ph Ex H d v) : RepP K ph Ex H d v := by
  cases d with
  | scr n => exact h
  | ref n => exact h
  | p d =>
    cases d with
    | list ds =>
      have h : Rep K H (okx ph Ex) (.list ds) v := h
      simp only [Rep] at h
      obtain ⟨a, xs, e, h1, h2, h3⟩ := h
      exact ⟨a, xs, e, h1, h2.1, h3⟩
    | dict ds =>
      have h : Rep K H (okx ph Ex) (.dict ds) v := h
      simp only [Rep] at h
      obtain ⟨a, xs, e, h1, h2, h3⟩ := h
      exact ⟨a, xs, e, h1, h2.1, h3⟩
    | _ => exact h
theorem RepP.step (s : Step ph ph' H H') {d : D} {v : V} (h : RepP K ph Ex H d v) : RepP K ph' Ex H' d v := by
  cases d with
  | scr n => exact RepD.step s (show RepD K ph Ex H (.scr n) v from h)
  | ref n => exact RepD.step s (show RepD K ph Ex H (.ref n) v from h)
  | p d =>
    cases d with
    | list ds =>
      obtain ⟨a, xs, e, h1, h2, h3⟩ := h
      exact ⟨a, xs, e, s.keep a _ h1 h2 (fun _ z => by cases z), s.out h1 h2, h3.step s⟩
    | dict ds =>
      obtain ⟨a, xs, e, h1, h2, h3⟩ := h
      exact ⟨a, xs, e, s.keep a _ h1 h2 (fun _ z => by cases z), s.out h1 h2, h3.step s⟩
    | none => exact RepD.step s (show RepD K ph Ex H (.p .none) v from h)
    | bool b => exact RepD.step s (show RepD K ph Ex H (.p (.bool b)) v from h)
    | int b => exact RepD.step s (show RepD K ph Ex H (.p (.int b)) v from h)
    | str b => exact RepD.step s (show RepD K ph Ex H (.p (.str b)) v from h)
    | tuple b => exact RepD.step s (show RepD K ph Ex H (.p (.tuple b)) v from h)
theorem RepDs.step (s : Step ph ph' H H') {d : List D} {v : List V} (h : RepDs K ph Ex H d v) : RepDs K ph' Ex H' d v := Paired.mapP h fun _ _ r => r.step s
theorem RepDs.ex (q : ∀ a, Ex' a → Ex a ∨ H a = none) {d : List D} {v : List V} (h : RepDs K ph Ex H d v) : RepDs K ph Ex' H d v := Paired.mapP h fun _ _ r => r.ex q
end

/-! the store -/
def SOk (K : PySem.W.Frag) (H : Hp) (ok : Addr → Prop) (a : Addr) : SO → Prop
  | .lst ds => ∃ xs, H a = some (.lst xs) ∧ RepAll K H ok ds xs
structure SRep (K : PySem.W.Frag) (ph : List Addr) (Ex : Addr → Prop) (H : Hp) (S : Store) : Prop where
  len : ph.length = S.length
  nd : ∀ (n m : Nat) (a : Addr) (ds es : List PyData), ph[n]? = some a → ph[m]? = some a → S[n]? = some (SO.lst ds) → S[m]? = some (SO.lst es) → n = m
  at_ : ∀ (n : Nat) (a : Addr) (o : SO), ph[n]? = some a → S[n]? = some o → SOk K H (okx ph Ex) a o
section
variable {K : PySem.W.Frag} {H H' : Hp} {ph ph' : List Addr} {Ex Ex' : Addr → Prop} {S : Store}
theorem SRep.ex (q : ∀ a, Ex' a → Ex a ∨ H a = none) (h : SRep K ph Ex H S) : SRep K ph Ex' H S := by
  refine ⟨h.len, h.nd, fun n a o e1 e2 => ?_⟩
  have k := h.at_ n a o e1 e2
  cases o with
  | lst ds =>
    obtain ⟨xs, e, r⟩ := k
    exact ⟨xs, e, r.ex q⟩
/-- the store as it was, where the objects by reference are kept -/
theorem SRep.kept (h : SRep K ph Ex H S) (s : Step ph ph H H') (k : ∀ a xs, a ∈ ph → H a = some (.lst xs) → H' a = some (.lst xs)) : SRep K ph Ex H' S := by
  refine ⟨h.len, h.nd, fun n a o e1 e2 => ?_⟩
  have z := h.at_ n a o e1 e2
  cases o with
  | lst ds =>
    obtain ⟨xs, e, r⟩ := z
    exact ⟨xs, k a xs (List.mem_of_getElem? e1) e, r.step s⟩
theorem SRep.live (h : SRep K ph Ex H S) {a : Addr} (m : a ∈ ph) : H a ≠ none := by
  obtain ⟨n, hn, e⟩ := List.getElem_of_mem m
  have e1 : ph[n]? = some a := by rw [List.getElem?_eq_getElem hn, e]
  have hs : n < S.length := by rw [← h.len]; exact hn
  have k := h.at_ n a S[n] e1 (List.getElem?_eq_getElem hs)
  revert k
  cases S[n] with
  | lst ds =>
    rintro ⟨xs, e, _⟩ z
    rw [e] at z
    cases z
theorem SRep.out (h : SRep K ph Ex H S) {p : Addr} (n : H p = none) : p ∉ ph := fun m => h.live m n
theorem SRep.fresh {p : Addr} {o : HO} (h : SRep K ph Ex H S) (n : H p = none) : SRep K ph Ex (upd H p o) S :=
  h.kept (Step.fresh n) fun a xs _ e => by
    rw [upd_ne (fun z => by rw [z, n] at e; cases e)]
    exact e
/-- a new object by reference -/
theorem SRep.push {p : Addr} {ds : List PyData} {xs : List V} (h : SRep K ph Ex H S) (n : H p = none) (r : RepAll K H (okx ph Ex) ds xs) : SRep K (ph ++ [p]) Ex (upd H p (.lst xs)) (S ++ [SO.lst ds]) ∧ Step ph (ph ++ [p]) H (upd H p (.lst xs)) := by
  have np : p ∉ ph := h.out n
  have st : Step ph (ph ++ [p]) H (upd H p (.lst xs)) := by
    have f := Step.fresh (ph := ph) (o := HO.lst xs) n
    refine ⟨f.keep, f.tup, f.frz, f.dom, ⟨[p], rfl⟩, fun a ha => ?_⟩
    rcases List.mem_append.mp ha with q | q
    · exact .inl q
    · have e : a = p := by simpa using q
      rw [e]
      exact .inr n
  refine ⟨⟨by simp [h.len], fun i j a d1 d2 e1 e2 e3 e4 => ?_, fun i a o e1 e2 => ?_⟩, st⟩
  · have at_ : ∀ (i : Nat) (a : Addr) (d : List PyData), (ph ++ [p])[i]? = some a → (S ++ [SO.lst ds])[i]? = some (SO.lst d) → (i < ph.length ∧ ph[i]? = some a ∧ S[i]? = some (SO.lst d)) ∨ (i = ph.length ∧ a = p) := by
      intro i a d q1 q2
      by_cases hi : i < ph.length
      · rw [List.getElem?_append_left hi] at q1
        rw [List.getElem?_append_left (by rw [← h.len]; exact hi)] at q2
        exact .inl ⟨hi, q1, q2⟩
      · have hl := (List.getElem?_eq_some_iff.mp q1).1
        rw [List.length_append, List.length_singleton] at hl
        have e : i = ph.length := by omega
        subst e
        rw [List.getElem?_append_right (Nat.le_refl _)] at q1
        simp at q1
        exact .inr ⟨rfl, q1.symm⟩
    rcases at_ i a d1 e1 e3 with ⟨_, k1, k2⟩ | ⟨k1, k2⟩
    · rcases at_ j a d2 e2 e4 with ⟨_, k3, k4⟩ | ⟨k3, k4⟩
      · exact h.nd i j a d1 d2 k1 k3 k2 k4
      · rw [k4] at k1
        exact absurd (List.mem_of_getElem? k1) np
    · rcases at_ j a d2 e2 e4 with ⟨_, k3, k4⟩ | ⟨k3, k4⟩
      · rw [k2] at k3
        exact absurd (List.mem_of_getElem? k3) np
      · rw [k1, k3]
  · by_cases hi : i < ph.length
    · rw [List.getElem?_append_left hi] at e1
      rw [List.getElem?_append_left (by rw [← h.len]; exact hi)] at e2
      have z := h.at_ i a o e1 e2
      cases o with
      | lst d =>
        obtain ⟨ys, e, q⟩ := z
        exact ⟨ys, by rw [upd_ne (fun z => by rw [z, n] at e; cases e)]; exact e, q.step st⟩
    · have hl := (List.getElem?_eq_some_iff.mp e1).1
      rw [List.length_append, List.length_singleton] at hl
      have e : i = ph.length := by omega
      subst e
      rw [List.getElem?_append_right (Nat.le_refl _)] at e1
      rw [h.len, List.getElem?_append_right (Nat.le_refl _)] at e2
      simp at e1 e2
      subst e1 e2
      exact ⟨xs, upd_same, r.step st⟩
/-- an object by reference written -/
theorem SRep.write {n : Nat} {a : Addr} {ds es : List PyData} {ys : List V} (h : SRep K ph Ex H S) (e1 : ph[n]? = some a) (e2 : S[n]? = some (SO.lst ds)) (r : RepAll K H (okx ph Ex) es ys) :
    SRep K ph Ex (upd H a (.lst ys)) (S.set n (SO.lst es)) ∧ Step ph ph H (upd H a (.lst ys)) := by
  obtain ⟨xs, ha, _⟩ := h.at_ n a _ e1 e2
  have am : a ∈ ph := List.mem_of_getElem? e1
  have st : Step ph ph H (upd H a (.lst ys)) := by
    refine ⟨fun b o e nb _ => by rw [upd_ne (fun z => nb (by rw [z]; exact am))]; exact e, fun b zs e => by rw [upd_ne (fun z => by rw [z, ha] at e; cases e)]; exact e, fun b o u e => by rw [upd_ne (fun z => by rw [z, ha] at e; cases e)]; exact e, fun b e => ?_, ⟨[], by simp⟩, fun _ e => .inl e⟩
    by_cases z : b = a
    · rw [z, upd_same] at e; cases e
    · rw [upd_ne z] at e; exact e
  refine ⟨⟨by simp [h.len], fun i j b d1 d2 q1 q2 q3 q4 => ?_, fun i b o q1 q2 => ?_⟩, st⟩
  · have at_ : ∀ (i : Nat) (d : List PyData), (S.set n (SO.lst es))[i]? = some (SO.lst d) → ∃ d', S[i]? = some (SO.lst d') := by
      intro i d q
      by_cases hi : i = n
      · rw [hi]; exact ⟨ds, e2⟩
      · rw [List.getElem?_set_ne (Ne.symm hi)] at q
        exact ⟨d, q⟩
    obtain ⟨d3, q3⟩ := at_ i d1 q3
    obtain ⟨d4, q4⟩ := at_ j d2 q4
    exact h.nd i j b d3 d4 q1 q2 q3 q4
  · by_cases hi : i = n
    · subst hi
      rw [e1] at q1
      cases q1
      rw [List.getElem?_set_self (List.getElem?_eq_some_iff.mp e2).1] at q2
      cases q2
      exact ⟨ys, upd_same, r.step st⟩
    · rw [List.getElem?_set_ne (Ne.symm hi)] at q2
      have z := h.at_ i b o q1 q2
      cases o with
      | lst d =>
        obtain ⟨zs, e, q⟩ := z
        refine ⟨zs, ?_, q.step st⟩
        rw [upd_ne (fun z => ?_)]
        · exact e
        · subst z
          exact hi (h.nd i n b d ds q1 e1 q2 e2)
end
end Mi

namespace Mi
open PySem PySem.Spec PyProof.Rows L2

/-! the state of a frame -/
def ownD : D → Prop
  | .p (.list _) => True
  | .p (.dict _) => True
  | _ => False
structure Sta (K : PySem.W.Frag) (ow : Nat → Bool) (ph : List Addr) (E O : Addr → Prop) (sg : L2.St) (H : Hp) (ro : Env) (S : Store) : Prop where
  domE : ∀ a, E a → H a ≠ none
  domO : ∀ a, O a → H a ≠ none
  dis : ∀ a, O a → ¬ E a
  sto : SRep K ph (EO E O) H S
  len : ro.length = sg.length
  slot : ∀ (i : Nat) (d : D), ow i = false → ro[i]? = some (some d) → ∃ v, sg[i]? = some (some v) ∧ RepD K ph (EO E O) H d v
  own : ∀ (i : Nat) (d : D), ow i = true → ro[i]? = some (some d) → ∃ a, sg[i]? = some (some (.ref a)) ∧ O a ∧ ownD d ∧ RepP K ph (EO E O) H d (.ref a)
  apart : ∀ (i j : Nat) (d e : D) (a : Addr), ow i = true → ow j = true → ro[i]? = some (some d) → ro[j]? = some (some e) → sg[i]? = some (some (.ref a)) → sg[j]? = some (some (.ref a)) → i = j
section
variable {K : PySem.W.Frag} {ow : Nat → Bool} {H H' : Hp} {ph ph' : List Addr} {E O : Addr → Prop} {sg : L2.St} {ro : Env} {S S' : Store}
theorem Sta.domX (s : Sta K ow ph E O sg H ro S) : ∀ a, EO E O a → H a ≠ none := fun a h => h.elim (s.domE a) (s.domO a)
theorem Sta.step (s : Sta K ow ph E O sg H ro S) (t : Step ph ph' H H') (r : SRep K ph' (EO E O) H' S') : Sta K ow ph' E O sg H' ro S' := by
  refine ⟨fun a h n => s.domE a h (t.dom a n), fun a h n => s.domO a h (t.dom a n), s.dis, r, s.len, fun i d o e => ?_, fun i d o e => ?_, s.apart⟩
  · obtain ⟨v, h1, h2⟩ := s.slot i d o e
    exact ⟨v, h1, h2.step t⟩
  · obtain ⟨a, h1, h2, h3, h4⟩ := s.own i d o e
    exact ⟨a, h1, h2, h3, h4.step t⟩
end

/-! kinds of results -/
inductive Kd where
  | e | p | f
  deriving DecidableEq
abbrev Fre (H : Hp) : Addr → Prop := fun a => H a = none
/-- kept (e), looked at (p), a list that nobody else holds (f) -/
def RR (k : Kd) (K : PySem.W.Frag) (ph : List Addr) (Ex Fr : Addr → Prop) (H : Hp) (S : Store) : D → V → Prop :=
  match k with
  | .e => RepD K ph Ex H
  | .p => RepP K ph Ex H
  | .f => fun d v => ∃ (a : Addr) (ds : List PyData) (xs : List V), d = .p (.list ds) ∧ v = .ref a ∧ Fr a ∧ H a = some (.lst xs) ∧ a ∉ ph ∧ RepAll K H (okx ph fun b => Ex b ∨ b = a) ds xs ∧ SRep K ph (fun b => Ex b ∨ b = a) H S
def RA (k : Kd) (K : PySem.W.Frag) (ph : List Addr) (Ex : Addr → Prop) (H : Hp) : D → V → Prop :=
  match k with
  | .p => RepP K ph Ex H
  | _ => RepD K ph Ex H
section
variable {K : PySem.W.Frag} {k : Kd} {ow : Nat → Bool} {H H' H0 H1 : Hp} {ph ph' : List Addr} {Ex E O Fr Fr' : Addr → Prop} {sg : L2.St} {ro : Env} {S S' : Store} {d : D} {v : V}
theorem RR.back (h : RR k K ph Ex Fr H S d v) (b : ∀ a, Fr a → Fr' a) : RR k K ph Ex Fr' H S d v := by
  cases k with
  | e => exact h
  | p => exact h
  | f =>
    obtain ⟨a, ds, xs, h1, h2, h3, h4⟩ := h
    exact ⟨a, ds, xs, h1, h2, b a h3, h4⟩
/-- a new list is one that may be kept -/
theorem RR.fe (h : RR .f K ph Ex Fr H S d v) (dx : ∀ a, Ex a → ¬ Fr a) : RepD K ph Ex H d v := by
  obtain ⟨a, ds, xs, h1, h2, h3, h4, h5, h6, h7⟩ := h
  subst h1 h2
  show Rep K H (okx ph Ex) (.list ds) (.ref a)
  simp only [Rep]
  exact ⟨a, xs, rfl, h4, ⟨h5, fun z => dx a z h3⟩, h6.ex fun b q => .inl (.inl q)⟩
theorem RR.ra (h : RR k K ph Ex Fr H S d v) (hk : k ≠ .f) : RA k K ph Ex H d v := by
  cases k with
  | e => exact h
  | p => exact h
  | f => exact absurd rfl hk
theorem RA.step (s : Step ph ph' H H') (h : RA k K ph Ex H d v) : RA k K ph' Ex H' d v := by
  cases k with
  | e => exact RepD.step s (show RepD K ph Ex H d v from h)
  | p => exact RepP.step s (show RepP K ph Ex H d v from h)
  | f => exact RepD.step s (show RepD K ph Ex H d v from h)
end

/-- an expression's meaning, as the layer reads it -/
def tG (k : Kd) (K : PySem.W.Frag) (ow : Nat → Bool) (m : EM) : TE := fun sg H Q => ∃ (ph : List Addr) (E O : Addr → Prop) (ro : Env) (S : Store), Sta K ow ph E O sg H ro S ∧
  ∃ d S', m ro S = .ok d S' ∧ ∀ v H' ph', Step ph ph' H H' → SRep K ph' (EO E O) H' S' → RR k K ph' (EO E O) (Fre H) H' S' d v → Q v H'
def tT (K : PySem.W.Frag) (ow : Nat → Bool) (m : TM) : TT := fun sg H Q => ∃ (ph : List Addr) (E O : Addr → Prop) (ro : Env) (S : Store), Sta K ow ph E O sg H ro S ∧
  ∃ b S', m ro S = .ok b S' ∧ ∀ H' ph', Step ph ph' H H' → SRep K ph' (EO E O) H' S' → Q b H'
/-- arguments: kept ones (e) or ones that are looked at (p) -/
def tAs (k : Kd) (K : PySem.W.Frag) (ow : Nat → Bool) (m : AM) : TA := fun sg H Q => ∃ (ph : List Addr) (E O : Addr → Prop) (ro : Env) (S : Store), Sta K ow ph E O sg H ro S ∧
  ∃ ds S', m ro S = .ok ds S' ∧ ∀ vs H' ph', Step ph ph' H H' → SRep K ph' (EO E O) H' S' → Paired (RA k K ph' (EO E O) H') ds vs → Q vs H'

section
variable {X : Cx} {ow : Nat → Bool} {e a b c : Expr} {es : List Expr} {pos : Pos} {m ma mb mc : EM}
theorem PE.imp {t t' : TE} (h : PE X e t) (q : ∀ sg H Q, t' sg H Q → t sg H Q) : PE X e t' := ⟨fun pins s sg H Q I hw => h.run pins s sg H Q I (q sg H Q hw)⟩
theorem PT.imp {t t' : TT} (h : PT X e t) (q : ∀ sg H Q, t' sg H Q → t sg H Q) : PT X e t' := ⟨fun pins s sg H Q I hw => h.run pins s sg H Q I (q sg H Q hw)⟩
theorem PA.imp {t t' : TA} (h : PA X es t) (q : ∀ sg H Q, t' sg H Q → t sg H Q) : PA X es t' := ⟨fun p pins s sg H Q I hw => h.run p pins s sg H Q I (q sg H Q hw)⟩
theorem e2p (h : PE X e (tG .e X.K ow m)) : PE X e (tG .p X.K ow m) := PE.imp h fun sg H Q ⟨ph, E, O, ro, S, st, d, S', ev, q⟩ => ⟨ph, E, O, ro, S, st, d, S', ev, fun v H' ph' t r z => q v H' ph' t r (RepD.toP z)⟩
theorem f2e (h : PE X e (tG .f X.K ow m)) : PE X e (tG .e X.K ow m) := PE.imp h fun sg H Q ⟨ph, E, O, ro, S, st, d, S', ev, q⟩ => ⟨ph, E, O, ro, S, st, d, S', ev, fun v H' ph' t r z => q v H' ph' t r (RR.fe z st.domX)⟩
theorem f2p (h : PE X e (tG .f X.K ow m)) : PE X e (tG .p X.K ow m) := e2p (f2e h)

/-! names, constants -/
def eVar (i : Nat) : EM := fun ro S => match ro[i]? with
  | some (some d) => .ok d S
  | _ => .bad
theorem eVar_ok {i : Nat} {ro : Env} {S S' : Store} {d : D} (h : eVar i ro S = .ok d S') : ro[i]? = some (some d) ∧ S' = S := by
  unfold eVar at h
  split at h
  · rename_i d' e
    cases h
    exact ⟨e, rfl⟩
  · cases h
theorem me_var (i : Nat) {x : Str} (hN : X.N[i]? = some x := by rfl) (hv : Vis X.env.scope x := by first | exact Or.inl rfl | exact Or.inr (Or.inl rfl) | exact Or.inr (Or.inr rfl)) (ho : ow i = false := by rfl)
    (hd : (x == ("__debug__" : Str)) = false := by decide) (hcd : (x == ("__classdict__" : Str)) = false := by decide) : PE X (.Name x pos) (tG .e X.K ow (eVar i)) :=
  PE.imp (pe_var hN hv hd hcd) fun sg H Q ⟨ph, E, O, ro, S, st, d, S', ev, q⟩ => by
    obtain ⟨e, rfl⟩ := eVar_ok ev
    obtain ⟨v, h1, h2⟩ := st.slot i d ho e
    exact ⟨v, h1, q v H ph (Step.refl _ _) st.sto h2⟩
theorem mp_own (i : Nat) {x : Str} (hN : X.N[i]? = some x := by rfl) (hv : Vis X.env.scope x := by first | exact Or.inl rfl | exact Or.inr (Or.inl rfl) | exact Or.inr (Or.inr rfl)) (ho : ow i = true := by rfl)
    (hd : (x == ("__debug__" : Str)) = false := by decide) (hcd : (x == ("__classdict__" : Str)) = false := by decide) : PE X (.Name x pos) (tG .p X.K ow (eVar i)) :=
  PE.imp (pe_var hN hv hd hcd) fun sg H Q ⟨ph, E, O, ro, S, st, d, S', ev, q⟩ => by
    obtain ⟨e, rfl⟩ := eVar_ok ev
    obtain ⟨v, h1, h2, h3, h4⟩ := st.own i d ho e
    exact ⟨.ref v, h1, q _ H ph (Step.refl _ _) st.sto h4⟩
def eCon (d : D) : EM := fun _ S => .ok d S
/-- a value that stands alone -/
def sca : PyData → Option V
  | .none => some .non
  | .bool b => some (.bl b)
  | .int i => some (.int i)
  | .str x => some (.str x)
  | _ => none
theorem sca_rep {K : PySem.W.Frag} {H : Hp} {ok : Addr → Prop} {d : PyData} {v : V} (h : sca d = some v) : Rep K H ok d v := by
  cases d <;> simp only [sca] at h <;> cases h <;> simp only [Rep]
theorem me_con {d : PyData} {v : V} (h : PE X e (tC v)) (hs : sca d = some v := by rfl) : PE X e (tG .e X.K ow (eCon (.p d))) :=
  PE.imp h fun sg H Q ⟨ph, E, O, ro, S, st, d', S', ev, q⟩ => by
    cases ev
    exact q v H ph (Step.refl _ _) st.sto (sca_rep hs)
theorem me_int {i j} : PE X (.Constant (.int i) j pos) (tG .e X.K ow (eCon (.p (.int i)))) := me_con pe_int
theorem me_bool {i j} : PE X (.Constant (.bool i) j pos) (tG .e X.K ow (eCon (.p (.bool i)))) := me_con pe_bl
theorem me_none {j} : PE X (.Constant .none j pos) (tG .e X.K ow (eCon (.p .none))) := me_con pe_non
theorem me_str {i j} : PE X (.Constant (.str i) j pos) (tG .e X.K ow (eCon (.p (.str i)))) := me_con pe_str
theorem me_gint {x : Str} {i : Int} {t : Tok} (hg : Gl X x) (hm : X.mg x = some (.int i t)) (hd : (x == ("__debug__" : Str)) = false := by decide) : PE X (.Name x pos) (tG .e X.K ow (eCon (.p (.int i)))) :=
  me_con (pe_glob (v := .int i) hg hm ⟨t, rfl⟩ hd)
theorem me_gstr {x : Str} {i : Str} {t : Tok} (hg : Gl X x) (hm : X.mg x = some (.str i t)) (hd : (x == ("__debug__" : Str)) = false := by decide) : PE X (.Name x pos) (tG .e X.K ow (eCon (.p (.str i)))) :=
  me_con (pe_glob (v := .str i) hg hm ⟨t, rfl⟩ hd)

/-! operations by values -/
def optR (o : Option D) (S : Store) : Res D := match o with
  | some d => .ok d S
  | none => .bad
theorem optR_ok {o : Option D} {S S' : Store} {d : D} (h : optR o S = .ok d S') : o = some d ∧ S' = S := by
  cases o with
  | none => cases h
  | some x => cases h; exact ⟨rfl, rfl⟩
/-- what a rule of two values computes, of a store that stays -/
def R2ok (K : PySem.W.Frag) (k : Kd) (f : D → D → Option D) (r : R2) : Prop := ∀ (ph : List Addr) (Ex : Addr → Prop) (H : Hp) (S : Store) (dx dy : D) (x y : V) (d : D) (Q : VK), SRep K ph Ex H S → (∀ a, Ex a → H a ≠ none) → RepP K ph Ex H dx x → RepP K ph Ex H dy y → f dx dy = some d →
  (∀ v H', Step ph ph H H' → SRep K ph Ex H' S → RR k K ph Ex (Fre H) H' S d v → Q v H') → r x y H Q
/-- .. of a store that is read -/
def R2st (K : PySem.W.Frag) (k : Kd) (f : D → D → Store → Option D) (r : R2) : Prop := ∀ (ph : List Addr) (Ex : Addr → Prop) (H : Hp) (S : Store) (dx dy : D) (x y : V) (d : D) (Q : VK), SRep K ph Ex H S → (∀ a, Ex a → H a ≠ none) → RepP K ph Ex H dx x → RepP K ph Ex H dy y → f dx dy S = some d →
  (∀ v H', Step ph ph H H' → SRep K ph Ex H' S → RR k K ph Ex (Fre H) H' S d v → Q v H') → r x y H Q
def eBin (f : D → D → Option D) (ma mb : EM) : EM := fun ro S => (ma ro S).bind fun x S1 => (mb ro S1).bind fun y S2 => optR (f x y) S2
def eBinS (f : D → D → Store → Option D) (ma mb : EM) : EM := fun ro S => (ma ro S).bind fun x S1 => (mb ro S1).bind fun y S2 => optR (f x y S2) S2
theorem eBin_S {f : D → D → Option D} : eBin f ma mb = eBinS (fun x y _ => f x y) ma mb := rfl
theorem bin_go {K : PySem.W.Frag} {k : Kd} {f : D → D → Store → Option D} {r : R2} (hr : R2st K k f r) : ∀ sg H Q, tG k K ow (eBinS f ma mb) sg H Q → tOp r (tG .p K ow ma) (tG .p K ow mb) sg H Q := by
  rintro sg H Q ⟨ph, E, O, ro, S, st, d, S', ev, q⟩
  obtain ⟨x, S1, e1, ev⟩ := Res.bind_ok ev
  obtain ⟨y, S2, e2, ev⟩ := Res.bind_ok ev
  obtain ⟨e3, rfl⟩ := optR_ok ev
  refine ⟨ph, E, O, ro, S, st, x, S1, e1, fun vx H1 ph1 t1 r1 z1 => ?_⟩
  have st1 := st.step t1 r1
  refine ⟨ph1, E, O, ro, S1, st1, y, _, e2, fun vy H2 ph2 t2 r2 z2 => ?_⟩
  have st2 := st1.step t2 r2
  refine hr ph2 (EO E O) H2 _ x y vx vy d Q r2 st2.domX (RepP.step t2 z1) z2 e3 fun v H3 t3 r3 z3 => ?_
  exact q v H3 ph2 ((t1.trans t2).trans t3) r3 (z3.back fun a h => (t1.trans t2).dom a h)
theorem mk_bin {op : Operator} {k : Kd} {f : D → D → Option D} {r : R2} (ho : OpR X (binaryOp op) r) (hr : R2ok X.K k f r) (ha : PE X a (tG .p X.K ow ma)) (hb : PE X b (tG .p X.K ow mb)) :
    PE X (.BinOp a op b pos) (tG k X.K ow (eBin f ma mb)) := PE.imp (pe_op ho ha hb) (bin_go (f := fun x y _ => f x y) hr)
theorem mk_cmp {op : CmpOp} {k : Kd} {f : D → D → Option D} {r : R2} (ho : OpR X (compareOp op) r) (hr : R2ok X.K k f r) (ha : PE X a (tG .p X.K ow ma)) (hb : PE X b (tG .p X.K ow mb)) (hm : behindInMarks op b = false) :
    PE X (.Compare a [op] [b] pos) (tG k X.K ow (eBin f ma mb)) := PE.imp (pe_cmpR ho ha hb hm) (bin_go (f := fun x y _ => f x y) hr)
/-- a comparison as a test -/
def tstD : D → Option Bool
  | .p (.bool b) => some b
  | _ => none
def bBin (f : D → D → Option Bool) (ma mb : EM) : TM := fun ro S => (ma ro S).bind fun x S1 => (mb ro S1).bind fun y S2 => match f x y with
  | some b => .ok b S2
  | none => .bad
def bD (f : D → D → Option Bool) : D → D → Option D := fun x y => (f x y).map fun b => .p (.bool b)
theorem mt_cmp {op : CmpOp} {f : D → D → Option Bool} {r : R2} (ho : OpR X (compareOp op) r) (hr : R2ok X.K .e (bD f) r) (ha : PE X a (tG .p X.K ow ma)) (hb : PE X b (tG .p X.K ow mb)) (hm : behindInMarks op b = false) :
    PT X (.Compare a [op] [b] pos) (tT X.K ow (bBin f ma mb)) := PT.imp (pt_cmpR ho ha hb hm) fun sg H Q ⟨ph, E, O, ro, S, st, c, S', ev, q⟩ => by
  have ev : (ma ro S).bind (fun x S1 => (mb ro S1).bind fun y S2 => match f x y with | some b => .ok b S2 | none => .bad) = Res.ok c S' := ev
  obtain ⟨x, S1, e1, ev⟩ := Res.bind_ok ev
  obtain ⟨y, S2, e2, ev⟩ := Res.bind_ok ev
  have e3 : f x y = some c ∧ S' = S2 := by
    revert ev
    cases f x y with
    | none => intro ev; cases ev
    | some z => intro ev; cases ev; exact ⟨rfl, rfl⟩
  obtain ⟨e3, rfl⟩ := e3
  refine bin_go (f := fun x y _ => bD f x y) hr sg H _ ⟨ph, E, O, ro, S, st, .p (.bool c), S', ?_, fun v H' ph' t1 r1 z1 => ?_⟩
  · show (ma ro S).bind (fun x S1 => (mb ro S1).bind fun y S2 => optR (bD f x y) S2) = _
    rw [e1]
    show (mb ro S1).bind (fun y S2 => optR (bD f x y) S2) = _
    rw [e2]
    show optR ((f x y).map _) _ = _
    rw [e3]
    rfl
  · have z : v = .bl c := by simpa only [RR, RepD, Rep] using z1
    exact ⟨c, z, q H' ph' t1 r1⟩
end
end Mi

namespace Mi
open PySem PySem.Spec PyProof.Rows L2

section
variable {K : PySem.W.Frag} {ph ph' : List Addr} {Ex : Addr → Prop} {H H' : Hp} {S : Store}
/-! shapes of what is looked at -/
theorem RR.asP {Fr : Addr → Prop} {d : D} {v : V} (h : RR .p K ph Ex Fr H S d v) : RepP K ph Ex H d v := h
theorem RepP.int_ {i : Int} {v : V} (h : RepP K ph Ex H (.p (.int i)) v) : v = .int i := by
  have h : Rep K H (okx ph Ex) (.int i) v := h
  simpa only [Rep] using h
theorem RepP.bool_ {i : Bool} {v : V} (h : RepP K ph Ex H (.p (.bool i)) v) : v = .bl i := by
  have h : Rep K H (okx ph Ex) (.bool i) v := h
  simpa only [Rep] using h
theorem RepP.str_ {i : Str} {v : V} (h : RepP K ph Ex H (.p (.str i)) v) : v = .str i := by
  have h : Rep K H (okx ph Ex) (.str i) v := h
  simpa only [Rep] using h
theorem RepP.none_ {v : V} (h : RepP K ph Ex H (.p .none) v) : v = .non := by
  have h : Rep K H (okx ph Ex) .none v := h
  simpa only [Rep] using h
theorem RepP.tup_ {ds : List PyData} {v : V} (h : RepP K ph Ex H (.p (.tuple ds)) v) : ∃ a xs, v = .ref a ∧ SqT K H a xs ∧ RepAll K H (okx ph Ex) ds xs := by
  have h : Rep K H (okx ph Ex) (.tuple ds) v := h
  simpa only [Rep] using h
theorem RepP.list_ {ds : List PyData} {v : V} (h : RepP K ph Ex H (.p (.list ds)) v) : ∃ a xs, v = .ref a ∧ H a = some (.lst xs) ∧ a ∉ ph ∧ RepAll K H (okx ph Ex) ds xs := h
theorem RepP.dict_ {ds : List (PyData × PyData)} {v : V} (h : RepP K ph Ex H (.p (.dict ds)) v) : ∃ a xs, v = .ref a ∧ H a = some (.dK xs) ∧ a ∉ ph ∧ RepKv K H (okx ph Ex) ds xs := h
theorem RepP.ref_ {n : Nat} {v : V} (h : RepP K ph Ex H (.ref n) v) : ∃ a, ph[n]? = some a ∧ v = .ref a := h
theorem RepP.scr_ {n : List Int} {v : V} (h : RepP K ph Ex H (.scr n) v) : ∃ a, v = .ref a ∧ FroAt K H a (n.map V.int) := h
theorem rep_int {i : Int} {ok : Addr → Prop} : Rep K H ok (.int i) (.int i) := by simp only [Rep]
theorem rep_bool {i : Bool} {ok : Addr → Prop} : Rep K H ok (.bool i) (.bl i) := by simp only [Rep]
theorem rep_str {i : Str} {ok : Addr → Prop} : Rep K H ok (.str i) (.str i) := by simp only [Rep]
/-- ways out: a value that is there -/
theorem out_sca {Q : VK} {d : PyData} {v : V} (sr : SRep K ph Ex H S) (q : ∀ v H', Step ph ph H H' → SRep K ph Ex H' S → RR .e K ph Ex (Fre H) H' S (.p d) v → Q v H') (hs : sca d = some v) : Q v H :=
  q v H (Step.refl _ _) sr (sca_rep hs)
/-- a new tuple -/
theorem out_tup {Q : VK} {ds : List PyData} {xs : List V} (sr : SRep K ph Ex H S) (q : ∀ v H', Step ph ph H H' → SRep K ph Ex H' S → RR .e K ph Ex (Fre H) H' S (.p (.tuple ds)) v → Q v H') (r : RepAll K H (okx ph Ex) ds xs) (p : Addr) (np : H p = none) : Q (.ref p) (upd H p (.tup xs)) := by
  have st : Step ph ph H (upd H p (.tup xs)) := Step.fresh np
  refine q _ _ st (sr.fresh np) ?_
  show Rep K _ (okx ph Ex) (.tuple ds) (.ref p)
  simp only [Rep]
  exact ⟨p, xs, rfl, SqT.of upd_same, r.step st⟩
/-- a new list -/
theorem out_lst {Q : VK} {ds : List PyData} {xs : List V} (sr : SRep K ph Ex H S) (q : ∀ v H', Step ph ph H H' → SRep K ph Ex H' S → RR .f K ph Ex (Fre H) H' S (.p (.list ds)) v → Q v H') (r : RepAll K H (okx ph Ex) ds xs) (p : Addr) (np : H p = none) : Q (.ref p) (upd H p (.lst xs)) := by
  have st : Step ph ph H (upd H p (.lst xs)) := Step.fresh np
  have more : ∀ a, (Ex a ∨ a = p) → Ex a ∨ H a = none := fun a h => h.elim .inl fun e => .inr (by rw [e]; exact np)
  exact q _ _ st (sr.fresh np) ⟨p, ds, xs, rfl, rfl, np, upd_same, sr.out np, (r.ex more).step st, (sr.ex more).fresh np⟩
end
end Mi

namespace Mi
open PySem PySem.Spec PyProof.Rows L2
noncomputable section

/-! ### arithmetic -/
def int2 (g : Int → Int → Option D) : D → D → Option D
  | .p (.int i), .p (.int j) => g i j
  | _, _ => none
theorem int2_ok {g : Int → Int → Option D} {x y d : D} (h : int2 g x y = some d) : ∃ i j, x = .p (.int i) ∧ y = .p (.int j) ∧ g i j = some d := by
  unfold int2 at h
  split at h
  · exact ⟨_, _, rfl, rfl, h⟩
  · cases h
abbrev D.int (i : Int) : D := .p (.int i)
abbrev D.bool (i : Bool) : D := .p (.bool i)
abbrev D.str (i : Str) : D := .p (.str i)
abbrev D.tup (i : List PyData) : D := .p (.tuple i)
abbrev D.lst (i : List PyData) : D := .p (.list i)
abbrev D.non : D := .p .none
def arI (C : Int → Int → Prop) [∀ i j, Decidable (C i j)] (g : Int → Int → Int) : D → D → Option D := int2 fun i j => if C i j then some (.int (g i j)) else none
instance (i j : Int) : Decidable (CDiv i j) := Classical.propDecidable _
instance (i j : Int) : Decidable (CMul i j) := Classical.propDecidable _
instance (i j : Int) : Decidable (CPow i j) := Classical.propDecidable _
section
variable {K : PySem.W.Frag}
theorem r2_arI {C : Int → Int → Prop} [∀ i j, Decidable (C i j)] {g : Int → Int → Int} : R2ok K .e (arI C g) (rI C fun i j => .int (g i j)) := by
  intro ph Ex H S dx dy x y d Q sr dm hx hy h q
  obtain ⟨i, j, e1, e2, hf⟩ := int2_ok h
  clear h
  subst e1 e2
  split at hf
  · rename_i hc
    cases hf
    exact ⟨i, j, hx.int_, hy.int_, hc, out_sca sr q rfl⟩
  · cases hf
theorem r2_arI0 {g : Int → Int → Int} : R2ok K .e (int2 fun i j => some (.int (g i j))) (rI0 fun i j => .int (g i j)) := by
  intro ph Ex H S dx dy x y d Q sr dm hx hy h q
  obtain ⟨i, j, e1, e2, hf⟩ := int2_ok h
  clear h
  subst e1 e2
  cases hf
  exact ⟨i, j, hx.int_, hy.int_, out_sca sr q rfl⟩
def lim : Nat := 1000000
theorem lim_line : lim ≤ sizeLine := by rw [sizeLine_eq]; decide
def catL : D → D → Option D
  | .p (.list a), .p (.list b) => if a.length + b.length ≤ lim then some (.lst (a ++ b)) else none
  | _, _ => none
theorem r2_catL : R2ok K .f catL rCat := by
  intro ph Ex H S dx dy x y d Q sr dm hx hy h q
  unfold catL at h
  split at h
  · rename_i a b
    split at h
    · rename_i hl
      cases h
      obtain ⟨a1, xs, e1, h1, n1, r1⟩ := hx.list_
      obtain ⟨a2, ys, e2, h2, n2, r2⟩ := hy.list_
      have l1 := r1.length
      have l2 := r2.length
      have lz := lim_line
      exact ⟨a1, a2, xs, ys, e1, e2, h1, h2, by omega, fun p np => out_lst sr q (r1.append r2) p np⟩
    · cases h
  · cases h
def addF : D → D → Option D
  | .p (.int i), .p (.int j) => some (.int (i + j))
  | .p (.tuple a), .p (.tuple b) => if a.length + b.length ≤ lim then some (.tup (a ++ b)) else none
  | .p (.str a), .p (.str b) => if a.length + b.length ≤ lim then some (.str (a ++ b)) else none
  | .p (.list a), .p (.list b) => if a.length + b.length ≤ lim then some (.lst (a ++ b)) else none
  | _, _ => none
theorem r2_add : R2ok K .e addF (fun x y H Q => (rI0 fun i j => .int (i + j)) x y H Q ∨ rCatA K x y H Q ∨ (∃ i j, x = .str i ∧ y = .str j ∧ i.length + j.length ≤ sizeLine ∧ Q (.str (i ++ j)) H) ∨ rCat x y H Q) := by
  intro ph Ex H S dx dy x y d Q sr dm hx hy h q
  unfold addF at h
  split at h
  · cases h
    exact .inl ⟨_, _, hx.int_, hy.int_, out_sca sr q rfl⟩
  · rename_i a b
    split at h
    · rename_i hl
      cases h
      obtain ⟨a1, xs, e1, h1, r1⟩ := hx.tup_
      obtain ⟨a2, ys, e2, h2, r2⟩ := hy.tup_
      have l1 := r1.length
      have l2 := r2.length
      have lz := lim_line
      refine .inr (.inl ⟨a1, a2, xs, ys, e1, e2, h1, h2, by omega, fun e => ?_, fun _ e => ?_, fun _ _ p np => out_tup sr q (r1.append r2) p np⟩)
      · subst e
        have ea : a = [] := List.eq_nil_of_length_eq_zero l1
        subst ea
        refine q _ H (Step.refl _ _) sr ?_
        show Rep K H (okx ph Ex) (.tuple b) (.ref a2)
        simp only [Rep]
        exact ⟨a2, ys, rfl, h2, r2⟩
      · subst e
        have ea : b = [] := List.eq_nil_of_length_eq_zero l2
        subst ea
        refine q _ H (Step.refl _ _) sr ?_
        show Rep K H (okx ph Ex) (.tuple (a ++ [])) (.ref a1)
        rw [List.append_nil]
        simp only [Rep]
        exact ⟨a1, xs, rfl, h1, r1⟩
    · cases h
  · split at h
    · rename_i hl
      cases h
      have lz := lim_line
      exact .inr (.inr (.inl ⟨_, _, hx.str_, hy.str_, by omega, out_sca sr q rfl⟩))
    · cases h
  · rename_i a b
    refine .inr (.inr (.inr (r2_catL ph Ex H S _ _ x y d Q sr dm hx hy (by unfold catL; exact h) fun v H' t r z => q v H' t r (RR.fe z dm))))
  · cases h
def repL : D → D → Option D
  | .p (.list a), .p (.int k) => @ite _ (-(2 ^ 63) ≤ k ∧ k < 2 ^ 63 ∧ a.length * k.toNat ≤ lim) (Classical.propDecidable _) (some (.lst (List.replicate k.toNat a).flatten)) none
  | _, _ => none
theorem r2_repL : R2ok K .f repL rRep := by
  intro ph Ex H S dx dy x y d Q sr dm hx hy h q
  unfold repL at h
  split at h
  · rename_i a k
    split at h
    · rename_i hl
      cases h
      obtain ⟨a1, xs, e1, h1, n1, r1⟩ := hx.list_
      have l1 := r1.length
      have lz := lim_line
      obtain ⟨k1, k2, k3⟩ := hl
      exact ⟨a1, k, xs, e1, hy.int_, h1, k1, k2, by rw [← l1]; omega, fun p np => out_lst sr q (r1.rep k.toNat) p np⟩
    · cases h
  · cases h
end

/-! ### comparisons -/
def intB (g : Int → Int → Bool) : D → D → Option Bool
  | .p (.int i), .p (.int j) => some (g i j)
  | _, _ => none
def eqF : D → D → Option Bool
  | .p a, .p b => if SeqAt.shaped a = true ∧ SeqAt.shaped b = true then some (PyData.eqv a b) else none
  | _, _ => none
def neF (x y : D) : Option Bool := (eqF x y).map (!·)
def isNF : D → D → Option Bool
  | .p .none, .p .none => some true
  | _, .p .none => some false
  | _, _ => none
def isntF (x y : D) : Option Bool := (isNF x y).map (!·)
def isBF : D → D → Option Bool
  | .p (.bool a), .p (.bool b) => some (decide (a = b))
  | _, _ => none
def isntBF (x y : D) : Option Bool := (isBF x y).map (!·)
def flatD : PyData → Bool
  | .none => true
  | .bool _ => true
  | .int _ => true
  | .str _ => true
  | _ => false
def inL (x : PyData) (ds : List PyData) : Option Bool := if flatD x = true ∧ ds.all flatD = true then some (ds.any fun y => PyData.eqv y x) else none
def inF : D → D → Option Bool
  | .p x, .p (.list ds) => inL x ds
  | .p x, .p (.tuple ds) => inL x ds
  | _, _ => none
def ninF (x y : D) : Option Bool := (inF x y).map (!·)
section
variable {K : PySem.W.Frag} {ph : List Addr} {Ex : Addr → Prop} {H : Hp} {S : Store}
theorem bD_ok {f : D → D → Option Bool} {x y d : D} (h : bD f x y = some d) : ∃ b, f x y = some b ∧ d = .bool b := by
  unfold bD at h
  cases e : f x y with
  | none => rw [e] at h; cases h
  | some b => rw [e] at h; cases h; exact ⟨b, rfl, rfl⟩
theorem r2_intB {g : Int → Int → Bool} : R2ok K .e (bD (intB g)) (rI0 fun i j => .bl (g i j)) := by
  intro ph Ex H S dx dy x y d Q sr dm hx hy h q
  obtain ⟨b, hf, eb⟩ := bD_ok h
  subst eb
  clear h
  unfold intB at hf
  split at hf
  · cases hf
    exact ⟨_, _, hx.int_, hy.int_, out_sca sr q rfl⟩
  · cases hf
theorem RepP.dp {d : PyData} {v : V} (h : RepP K ph Ex H (.p d) v) (c : d.canLay0 = true) : Dp K H v d := by
  cases d with
  | list ds =>
    obtain ⟨a, xs, e, h1, h2, h3⟩ := h.list_
    subst e
    exact .lst (SqL.of h1) (RepAll.dp ds xs (by simpa [PyData.canLay0] using c) h3)
  | dict ds => simp [PyData.canLay0] at c
  | none => exact Rep.dp (ok := okx ph Ex) _ v c h
  | bool b => exact Rep.dp (ok := okx ph Ex) _ v c h
  | int b => exact Rep.dp (ok := okx ph Ex) _ v c h
  | str b => exact Rep.dp (ok := okx ph Ex) _ v c h
  | tuple b => exact Rep.dp (ok := okx ph Ex) _ v c h
theorem eqF_ok {x y : D} {b : Bool} (h : eqF x y = some b) : ∃ d e, x = .p d ∧ y = .p e ∧ SeqAt.shaped d = true ∧ SeqAt.shaped e = true ∧ b = PyData.eqv d e := by
  unfold eqF at h
  split at h
  · split at h
    · rename_i hs
      cases h
      exact ⟨_, _, rfl, rfl, hs.1, hs.2, rfl⟩
    · cases h
  · cases h
theorem r2_eq : R2ok K .e (bD eqF) (rEqD K) := by
  intro ph Ex H S dx dy x y d Q sr dm hx hy h q
  obtain ⟨b, hf, eb⟩ := bD_ok h
  subst eb
  clear h
  obtain ⟨d, e, rfl, rfl, h1, h2, rfl⟩ := eqF_ok hf
  exact ⟨d, e, hx.dp (SeqAt.canLay_of_shaped h1), hy.dp (SeqAt.canLay_of_shaped h2), h1, h2, out_sca sr q rfl⟩
theorem r2_ne : R2ok K .e (bD neF) (rNeD K) := by
  intro ph Ex H S dx dy x y d Q sr dm hx hy h q
  obtain ⟨b, hf, eb⟩ := bD_ok h
  subst eb
  clear h
  unfold neF at hf
  cases e0 : eqF dx dy with
  | none => rw [e0] at hf; cases hf
  | some c =>
    rw [e0] at hf
    cases hf
    obtain ⟨d, e, rfl, rfl, h1, h2, rfl⟩ := eqF_ok e0
    exact ⟨d, e, hx.dp (SeqAt.canLay_of_shaped h1), hy.dp (SeqAt.canLay_of_shaped h2), h1, h2, out_sca sr q rfl⟩
theorem RepP.non_iff {d : D} {v : V} (h : RepP K ph Ex H d v) : v = .non ↔ d = .non := by
  constructor
  · intro e
    subst e
    cases d with
    | scr ns => obtain ⟨a, z, _⟩ := h.scr_; cases z
    | ref n => obtain ⟨a, _, z⟩ := h.ref_; cases z
    | p d =>
      cases d with
      | none => rfl
      | bool b => have z := h.bool_; cases z
      | int b => have z := h.int_; cases z
      | str b => have z := h.str_; cases z
      | tuple b => obtain ⟨a, xs, z, _⟩ := h.tup_; cases z
      | list b => obtain ⟨a, xs, z, _⟩ := h.list_; cases z
      | dict b => obtain ⟨a, xs, z, _⟩ := h.dict_; cases z
  · intro e
    subst e
    exact h.none_
theorem isNF_ok {x y : D} {b : Bool} (h : isNF x y = some b) : y = .non ∧ (b = true ↔ x = .non) := by
  unfold isNF at h
  split at h
  · cases h
    simp
  · rename_i hn
    cases h
    refine ⟨rfl, ?_⟩
    constructor
    · intro z; cases z
    · intro z; exact (hn z).elim
  · cases h
theorem r2_isN : R2ok K .e (bD isNF) (fun x y H Q => y = .non ∧ Q (.bl (decide (x = .non))) H) := by
  intro ph Ex H S dx dy x y d Q sr dm hx hy h q
  obtain ⟨b, hf, eb⟩ := bD_ok h
  subst eb
  clear h
  obtain ⟨rfl, hb⟩ := isNF_ok hf
  refine ⟨hy.none_, ?_⟩
  have e : decide (x = .non) = b := by
    rw [Bool.eq_iff_iff, hb, decide_eq_true_iff, hx.non_iff]
  rw [e]
  exact out_sca sr q rfl
theorem r2_isnt : R2ok K .e (bD isntF) (fun x y H Q => y = .non ∧ Q (.bl (!decide (x = .non))) H) := by
  intro ph Ex H S dx dy x y d Q sr dm hx hy h q
  obtain ⟨b, hf, eb⟩ := bD_ok h
  subst eb
  clear h
  unfold isntF at hf
  cases e0 : isNF dx dy with
  | none => rw [e0] at hf; cases hf
  | some c =>
    rw [e0] at hf
    cases hf
    obtain ⟨rfl, hb⟩ := isNF_ok e0
    refine ⟨hy.none_, ?_⟩
    have e : decide (x = .non) = c := by
      rw [Bool.eq_iff_iff, hb, decide_eq_true_iff, hx.non_iff]
    rw [e]
    exact out_sca sr q rfl
theorem isBF_ok {x y : D} {b : Bool} (h : isBF x y = some b) : ∃ i j, x = .bool i ∧ y = .bool j ∧ b = decide (i = j) := by
  unfold isBF at h
  split at h
  · cases h
    exact ⟨_, _, rfl, rfl, rfl⟩
  · cases h
theorem r2_isB : R2ok K .e (bD isBF) rIsB := by
  intro ph Ex H S dx dy x y d Q sr dm hx hy h q
  obtain ⟨b, hf, eb⟩ := bD_ok h
  subst eb
  clear h
  obtain ⟨i, j, rfl, rfl, rfl⟩ := isBF_ok hf
  exact ⟨i, j, hx.bool_, hy.bool_, out_sca sr q rfl⟩
theorem r2_isntB : R2ok K .e (bD isntBF) rNotB := by
  intro ph Ex H S dx dy x y d Q sr dm hx hy h q
  obtain ⟨b, hf, eb⟩ := bD_ok h
  subst eb
  clear h
  unfold isntBF at hf
  cases e0 : isBF dx dy with
  | none => rw [e0] at hf; cases hf
  | some c =>
    rw [e0] at hf
    cases hf
    obtain ⟨i, j, rfl, rfl, rfl⟩ := isBF_ok e0
    exact ⟨i, j, hx.bool_, hy.bool_, out_sca sr q rfl⟩
/-! in -/
theorem flat_rep {ok : Addr → Prop} {d : PyData} {v : V} (h : Rep K H ok d v) (f : flatD d = true) : flatV v = true ∧ sca d = some v := by
  cases d with
  | none => simp only [Rep] at h; subst h; exact ⟨rfl, rfl⟩
  | bool b => simp only [Rep] at h; subst h; exact ⟨rfl, rfl⟩
  | int b => simp only [Rep] at h; subst h; exact ⟨rfl, rfl⟩
  | str b => simp only [Rep] at h; subst h; exact ⟨rfl, rfl⟩
  | tuple b => cases f
  | list b => cases f
  | dict b => cases f
theorem eqV_eqv {d e : PyData} {x y : V} (h1 : sca d = some x) (h2 : sca e = some y) : eqV x y = PyData.eqv d e := by
  cases d <;> simp only [sca] at h1 <;> cases h1 <;> cases e <;> simp only [sca] at h2 <;> cases h2 <;> simp [eqV, PyData.eqv]
theorem in_rep {ok : Addr → Prop} {d : PyData} {x : V} (hx : sca d = some x) : ∀ {ds : List PyData} {xs : List V}, RepAll K H ok ds xs → ds.all flatD = true → xs.all flatV = true ∧ inV x xs = ds.any fun y => PyData.eqv y d
  | [], _, h, _ => by
    simp only [RepAll] at h
    subst h
    exact ⟨rfl, rfl⟩
  | e :: ds, _, h, f => by
    simp only [RepAll] at h
    obtain ⟨y, r, e1, h1, h2⟩ := h
    subst e1
    simp only [List.all_cons, Bool.and_eq_true] at f
    obtain ⟨f1, f2⟩ := flat_rep h1 f.1
    obtain ⟨i1, i2⟩ := in_rep hx h2 f.2
    refine ⟨by rw [List.all_cons, f1, i1]; rfl, ?_⟩
    unfold inV at i2 ⊢
    rw [List.any_cons, List.any_cons, i2, eqV_eqv f2 hx]
theorem inL_ok {x : PyData} {ds : List PyData} {b : Bool} (h : inL x ds = some b) : flatD x = true ∧ ds.all flatD = true ∧ b = ds.any fun y => PyData.eqv y x := by
  unfold inL at h
  split at h
  · rename_i hc
    cases h
    exact ⟨hc.1, hc.2, rfl⟩
  · cases h
theorem in_go {dx dy : D} {x y : V} {b : Bool} (hx : RepP K ph Ex H dx x) (hy : RepP K ph Ex H dy y) (h : inF dx dy = some b) : ∃ p xs, y = .ref p ∧ (SqL K H p xs ∨ SqT K H p xs) ∧ flatV x = true ∧ xs.all flatV = true ∧ inV x xs = b := by
  unfold inF at h
  have nf : ∀ {d : PyData}, RepP K ph Ex H (.p d) x → flatD d = true → Rep K H (okx ph Ex) d x := fun {d} hx f => by
    cases d <;> first | exact hx | cases f
  split at h
  · obtain ⟨f1, f2, rfl⟩ := inL_ok h
    obtain ⟨a, xs, e, h1, h2, h3⟩ := hy.list_
    obtain ⟨g1, g2⟩ := flat_rep (nf hx f1) f1
    obtain ⟨i1, i2⟩ := in_rep g2 h3 f2
    exact ⟨a, xs, e, .inl (SqL.of h1), g1, i1, i2⟩
  · obtain ⟨f1, f2, rfl⟩ := inL_ok h
    obtain ⟨a, xs, e, h1, h3⟩ := hy.tup_
    obtain ⟨g1, g2⟩ := flat_rep (nf hx f1) f1
    obtain ⟨i1, i2⟩ := in_rep g2 h3 f2
    exact ⟨a, xs, e, .inr h1, g1, i1, i2⟩
  · cases h
theorem r2_in : R2ok K .e (bD inF) (rIn K false) := by
  intro ph Ex H S dx dy x y d Q sr dm hx hy h q
  obtain ⟨b, hf, eb⟩ := bD_ok h
  subst eb
  clear h
  obtain ⟨p, xs, h1, h2, h3, h4, h5⟩ := in_go hx hy hf
  refine ⟨p, xs, h1, h2, h3, h4, ?_⟩
  rw [if_neg Bool.false_ne_true, h5]
  exact out_sca sr q rfl
theorem r2_nin : R2ok K .e (bD ninF) (rIn K true) := by
  intro ph Ex H S dx dy x y d Q sr dm hx hy h q
  obtain ⟨b, hf, eb⟩ := bD_ok h
  subst eb
  clear h
  unfold ninF at hf
  cases e0 : inF dx dy with
  | none => rw [e0] at hf; cases hf
  | some c =>
    rw [e0] at hf
    cases hf
    obtain ⟨p, xs, h1, h2, h3, h4, h5⟩ := in_go hx hy e0
    refine ⟨p, xs, h1, h2, h3, h4, ?_⟩
    rw [if_pos rfl, h5]
    exact out_sca sr q rfl
end

/-! ### the rules -/
section
variable {X : Cx} {ow : Nat → Bool} {a b c : Expr} {pos : Pos} {ma mb mc : EM}
theorem me_add (ha : PE X a (tG .p X.K ow ma)) (hb : PE X b (tG .p X.K ow mb)) : PE X (.BinOp a .Add b pos) (tG .e X.K ow (eBin addF ma mb)) :=
  mk_bin (OpR.or op_add (OpR.or op_catA (OpR.or op_add_str op_cat))) r2_add ha hb
theorem mf_cat (ha : PE X a (tG .p X.K ow ma)) (hb : PE X b (tG .p X.K ow mb)) : PE X (.BinOp a .Add b pos) (tG .f X.K ow (eBin catL ma mb)) := mk_bin op_cat r2_catL ha hb
theorem me_sub (ha : PE X a (tG .p X.K ow ma)) (hb : PE X b (tG .p X.K ow mb)) : PE X (.BinOp a .Sub b pos) (tG .e X.K ow (eBin (int2 fun i j => some (.int (i - j))) ma mb)) := mk_bin op_sub r2_arI0 ha hb
theorem me_mul (ha : PE X a (tG .p X.K ow ma)) (hb : PE X b (tG .p X.K ow mb)) : PE X (.BinOp a .Mult b pos) (tG .e X.K ow (eBin (arI CMul fun i j => i * j) ma mb)) := mk_bin op_mul r2_arI ha hb
theorem mf_rep (ha : PE X a (tG .p X.K ow ma)) (hb : PE X b (tG .p X.K ow mb)) : PE X (.BinOp a .Mult b pos) (tG .f X.K ow (eBin repL ma mb)) := mk_bin op_rep r2_repL ha hb
theorem me_div (ha : PE X a (tG .p X.K ow ma)) (hb : PE X b (tG .p X.K ow mb)) : PE X (.BinOp a .FloorDiv b pos) (tG .e X.K ow (eBin (arI CDiv fun i j => i / j) ma mb)) := mk_bin op_fdiv r2_arI ha hb
theorem me_mod (ha : PE X a (tG .p X.K ow ma)) (hb : PE X b (tG .p X.K ow mb)) : PE X (.BinOp a .Mod b pos) (tG .e X.K ow (eBin (arI (fun _ j => 0 < j) fun i j => i % j) ma mb)) := mk_bin op_mod r2_arI ha hb
theorem me_pow (ha : PE X a (tG .p X.K ow ma)) (hb : PE X b (tG .p X.K ow mb)) : PE X (.BinOp a .Pow b pos) (tG .e X.K ow (eBin (arI CPow fun i j => i ^ j.toNat) ma mb)) := mk_bin op_pow r2_arI ha hb
def negF : D → Option D
  | .p (.int i) => some (.int (-i))
  | _ => none
def eUn (f : D → Option D) (ma : EM) : EM := fun ro S => (ma ro S).bind fun x S1 => optR (f x) S1
theorem me_neg (ha : PE X a (tG .p X.K ow ma)) : PE X (.UnaryOp .USub a pos) (tG .e X.K ow (eUn negF ma)) :=
  PE.imp (pe_un un_neg ha) fun sg H Q ⟨ph, E, O, ro, S, st, d, S', ev, q⟩ => by
    obtain ⟨x, S1, e1, ev⟩ := Res.bind_ok ev
    obtain ⟨e3, rfl⟩ := optR_ok ev
    refine ⟨ph, E, O, ro, S, st, x, _, e1, fun vx H1 ph1 t1 r1 z1 => ?_⟩
    unfold negF at e3
    split at e3
    · cases e3
      refine ⟨_, (RR.asP z1).int_, q _ H1 ph1 t1 r1 ?_⟩
      exact (show Rep X.K H1 (okx ph1 (EO E O)) _ _ from rep_int)
    · cases e3
abbrev ltI : D → D → Option Bool := intB fun i j => decide (i < j)
abbrev leI : D → D → Option Bool := intB fun i j => decide (i ≤ j)
abbrev gtI : D → D → Option Bool := intB fun i j => decide (j < i)
abbrev geI : D → D → Option Bool := intB fun i j => decide (j ≤ i)
theorem me_lt (ha : PE X a (tG .p X.K ow ma)) (hb : PE X b (tG .p X.K ow mb)) : PE X (.Compare a [.Lt] [b] pos) (tG .e X.K ow (eBin (bD ltI) ma mb)) := mk_cmp op_lt r2_intB ha hb (nomark _)
theorem me_le (ha : PE X a (tG .p X.K ow ma)) (hb : PE X b (tG .p X.K ow mb)) : PE X (.Compare a [.LtE] [b] pos) (tG .e X.K ow (eBin (bD leI) ma mb)) := mk_cmp op_le r2_intB ha hb (nomark _)
theorem me_gt (ha : PE X a (tG .p X.K ow ma)) (hb : PE X b (tG .p X.K ow mb)) : PE X (.Compare a [.Gt] [b] pos) (tG .e X.K ow (eBin (bD gtI) ma mb)) := mk_cmp op_gt r2_intB ha hb (nomark _)
theorem me_ge (ha : PE X a (tG .p X.K ow ma)) (hb : PE X b (tG .p X.K ow mb)) : PE X (.Compare a [.GtE] [b] pos) (tG .e X.K ow (eBin (bD geI) ma mb)) := mk_cmp op_ge r2_intB ha hb (nomark _)
theorem mt_lt (ha : PE X a (tG .p X.K ow ma)) (hb : PE X b (tG .p X.K ow mb)) : PT X (.Compare a [.Lt] [b] pos) (tT X.K ow (bBin ltI ma mb)) := mt_cmp op_lt r2_intB ha hb (nomark _)
theorem mt_le (ha : PE X a (tG .p X.K ow ma)) (hb : PE X b (tG .p X.K ow mb)) : PT X (.Compare a [.LtE] [b] pos) (tT X.K ow (bBin leI ma mb)) := mt_cmp op_le r2_intB ha hb (nomark _)
theorem mt_gt (ha : PE X a (tG .p X.K ow ma)) (hb : PE X b (tG .p X.K ow mb)) : PT X (.Compare a [.Gt] [b] pos) (tT X.K ow (bBin gtI ma mb)) := mt_cmp op_gt r2_intB ha hb (nomark _)
theorem mt_ge (ha : PE X a (tG .p X.K ow ma)) (hb : PE X b (tG .p X.K ow mb)) : PT X (.Compare a [.GtE] [b] pos) (tT X.K ow (bBin geI ma mb)) := mt_cmp op_ge r2_intB ha hb (nomark _)
theorem me_eq (hu : X.A.units + 64 < cLine) (ha : PE X a (tG .p X.K ow ma)) (hb : PE X b (tG .p X.K ow mb)) : PE X (.Compare a [.Eq] [b] pos) (tG .e X.K ow (eBin (bD eqF) ma mb)) := mk_cmp (op_eqD hu) r2_eq ha hb (nomark _)
theorem me_ne (hu : X.A.units + 64 < cLine) (ha : PE X a (tG .p X.K ow ma)) (hb : PE X b (tG .p X.K ow mb)) : PE X (.Compare a [.NotEq] [b] pos) (tG .e X.K ow (eBin (bD neF) ma mb)) := mk_cmp (op_neD hu) r2_ne ha hb (nomark _)
theorem mt_eq (hu : X.A.units + 64 < cLine) (ha : PE X a (tG .p X.K ow ma)) (hb : PE X b (tG .p X.K ow mb)) : PT X (.Compare a [.Eq] [b] pos) (tT X.K ow (bBin eqF ma mb)) := mt_cmp (op_eqD hu) r2_eq ha hb (nomark _)
theorem mt_ne (hu : X.A.units + 64 < cLine) (ha : PE X a (tG .p X.K ow ma)) (hb : PE X b (tG .p X.K ow mb)) : PT X (.Compare a [.NotEq] [b] pos) (tT X.K ow (bBin neF ma mb)) := mt_cmp (op_neD hu) r2_ne ha hb (nomark _)
theorem me_isN (ha : PE X a (tG .p X.K ow ma)) (hb : PE X b (tG .p X.K ow mb)) : PE X (.Compare a [.Is] [b] pos) (tG .e X.K ow (eBin (bD isNF) ma mb)) := mk_cmp op_isN r2_isN ha hb (nomark _)
theorem mt_isN (ha : PE X a (tG .p X.K ow ma)) (hb : PE X b (tG .p X.K ow mb)) : PT X (.Compare a [.Is] [b] pos) (tT X.K ow (bBin isNF ma mb)) := mt_cmp op_isN r2_isN ha hb (nomark _)
theorem me_isnt (ha : PE X a (tG .p X.K ow ma)) (hb : PE X b (tG .p X.K ow mb)) : PE X (.Compare a [.IsNot] [b] pos) (tG .e X.K ow (eBin (bD isntF) ma mb)) := mk_cmp op_notN r2_isnt ha hb (nomark _)
theorem mt_isnt (ha : PE X a (tG .p X.K ow ma)) (hb : PE X b (tG .p X.K ow mb)) : PT X (.Compare a [.IsNot] [b] pos) (tT X.K ow (bBin isntF ma mb)) := mt_cmp op_notN r2_isnt ha hb (nomark _)
theorem me_isB (ha : PE X a (tG .p X.K ow ma)) (hb : PE X b (tG .p X.K ow mb)) : PE X (.Compare a [.Is] [b] pos) (tG .e X.K ow (eBin (bD isBF) ma mb)) := mk_cmp op_isBl r2_isB ha hb (nomark _)
theorem mt_isB (ha : PE X a (tG .p X.K ow ma)) (hb : PE X b (tG .p X.K ow mb)) : PT X (.Compare a [.Is] [b] pos) (tT X.K ow (bBin isBF ma mb)) := mt_cmp op_isBl r2_isB ha hb (nomark _)
theorem me_isntB (ha : PE X a (tG .p X.K ow ma)) (hb : PE X b (tG .p X.K ow mb)) : PE X (.Compare a [.IsNot] [b] pos) (tG .e X.K ow (eBin (bD isntBF) ma mb)) := mk_cmp op_notBl r2_isntB ha hb (nomark _)
theorem mt_isntB (ha : PE X a (tG .p X.K ow ma)) (hb : PE X b (tG .p X.K ow mb)) : PT X (.Compare a [.IsNot] [b] pos) (tT X.K ow (bBin isntBF ma mb)) := mt_cmp op_notBl r2_isntB ha hb (nomark _)
theorem me_in (ha : PE X a (tG .p X.K ow ma)) (hb : PE X b (tG .p X.K ow mb)) (hm : behindInMarks .In b = false := by with_unfolding_all rfl) : PE X (.Compare a [.In] [b] pos) (tG .e X.K ow (eBin (bD inF) ma mb)) := mk_cmp op_in_seq r2_in ha hb hm
theorem mt_in (ha : PE X a (tG .p X.K ow ma)) (hb : PE X b (tG .p X.K ow mb)) (hm : behindInMarks .In b = false := by with_unfolding_all rfl) : PT X (.Compare a [.In] [b] pos) (tT X.K ow (bBin inF ma mb)) := mt_cmp op_in_seq r2_in ha hb hm
theorem mt_nin (ha : PE X a (tG .p X.K ow ma)) (hb : PE X b (tG .p X.K ow mb)) (hm : behindInMarks .NotIn b = false := by with_unfolding_all rfl) : PT X (.Compare a [.NotIn] [b] pos) (tT X.K ow (bBin ninF ma mb)) := mt_cmp op_notIn_seq r2_nin ha hb hm
end
end
end Mi

namespace Mi
open PySem PySem.Spec PyProof.Rows L2
noncomputable section

/-! ### and, or, not, if: values -/
def eAnd (ma mb : EM) : EM := fun ro S => (ma ro S).bind fun x S1 => match x with
  | .p (.bool true) => mb ro S1
  | .p (.bool false) => .ok (.p (.bool false)) S1
  | _ => .bad
def eOr (ma mb : EM) : EM := fun ro S => (ma ro S).bind fun x S1 => match x with
  | .p (.bool true) => .ok (.p (.bool true)) S1
  | .p (.bool false) => mb ro S1
  | _ => .bad
def eNot (ma : EM) : EM := fun ro S => (ma ro S).bind fun x S1 => match x with
  | .p (.bool b) => .ok (.p (.bool (!b))) S1
  | _ => .bad
def eIf (c : TM) (ma mb : EM) : EM := fun ro S => (c ro S).bind fun b S1 => if b = true then ma ro S1 else mb ro S1
def bAnd (c d : TM) : TM := fun ro S => (c ro S).bind fun b S1 => if b = true then d ro S1 else .ok false S1
def bOr (c d : TM) : TM := fun ro S => (c ro S).bind fun b S1 => if b = true then .ok true S1 else d ro S1
def bNot (c : TM) : TM := fun ro S => (c ro S).bind fun b S1 => .ok (!b) S1
def bVal (m : EM) : TM := fun ro S => (m ro S).bind fun x S1 => match x with
  | .p (.bool b) => .ok b S1
  | _ => .bad
section
variable {X : Cx} {ow : Nat → Bool} {a b c : Expr} {rest : List Expr} {op : BoolOp} {pos : Pos} {ma mb mc : EM} {ta tb tc : TM} {k : Kd}
theorem RR.scal {K : PySem.W.Frag} {ph : List Addr} {Ex Fr : Addr → Prop} {H : Hp} {S : Store} {d : PyData} {v : V} {k : Kd} (hs : sca d = some v) (hk : k ≠ .f) : RR k K ph Ex Fr H S (.p d) v := by
  cases k with
  | f => exact absurd rfl hk
  | e => exact sca_rep hs
  | p => exact RepD.toP (show RepD K ph Ex H (.p d) v from sca_rep hs)
theorem RR.asE {K : PySem.W.Frag} {ph : List Addr} {Ex Fr : Addr → Prop} {H : Hp} {S : Store} {d : D} {v : V} (h : RR .e K ph Ex Fr H S d v) : RepD K ph Ex H d v := h
theorem me_one (h : PE X a (tG k X.K ow ma)) : PE X (.BoolOp op [a] pos) (tG k X.K ow ma) := pe_one h
theorem me_and (ha : PE X a (tG .e X.K ow ma)) (hb : PE X (.BoolOp .And (b :: rest) pos) (tG .e X.K ow mb)) : PE X (.BoolOp .And (a :: b :: rest) pos) (tG .e X.K ow (eAnd ma mb)) :=
  PE.imp (pe_and ha hb) fun sg H Q ⟨ph, E, O, ro, S, st, d, S', ev, q⟩ => by
    obtain ⟨x, S1, e1, ev⟩ := Res.bind_ok ev
    refine ⟨ph, E, O, ro, S, st, x, S1, e1, fun vx H1 ph1 t1 r1 z1 => ?_⟩
    split at ev
    · refine ⟨true, (RepD.toP z1.asE).bool_, ?_⟩
      rw [if_pos rfl]
      exact ⟨ph1, E, O, ro, S1, st.step t1 r1, d, S', ev, fun v H2 ph2 t2 r2 z2 => q v H2 ph2 (t1.trans t2) r2 z2⟩
    · cases ev
      refine ⟨false, (RepD.toP z1.asE).bool_, ?_⟩
      rw [if_neg Bool.false_ne_true]
      exact q _ H1 ph1 t1 r1 (RR.scal rfl (by decide))
    · cases ev
theorem me_or (ha : PE X a (tG .e X.K ow ma)) (hb : PE X (.BoolOp .Or (b :: rest) pos) (tG .e X.K ow mb)) : PE X (.BoolOp .Or (a :: b :: rest) pos) (tG .e X.K ow (eOr ma mb)) :=
  PE.imp (pe_or ha hb) fun sg H Q ⟨ph, E, O, ro, S, st, d, S', ev, q⟩ => by
    obtain ⟨x, S1, e1, ev⟩ := Res.bind_ok ev
    refine ⟨ph, E, O, ro, S, st, x, S1, e1, fun vx H1 ph1 t1 r1 z1 => ?_⟩
    split at ev
    · cases ev
      refine ⟨true, (RepD.toP z1.asE).bool_, ?_⟩
      rw [if_pos rfl]
      exact q _ H1 ph1 t1 r1 (RR.scal rfl (by decide))
    · refine ⟨false, (RepD.toP z1.asE).bool_, ?_⟩
      rw [if_neg Bool.false_ne_true]
      exact ⟨ph1, E, O, ro, S1, st.step t1 r1, d, S', ev, fun v H2 ph2 t2 r2 z2 => q v H2 ph2 (t1.trans t2) r2 z2⟩
    · cases ev
theorem me_not (ha : PE X a (tG .e X.K ow ma)) : PE X (.UnaryOp .Not a pos) (tG .e X.K ow (eNot ma)) :=
  PE.imp (pe_not ha) fun sg H Q ⟨ph, E, O, ro, S, st, d, S', ev, q⟩ => by
    obtain ⟨x, S1, e1, ev⟩ := Res.bind_ok ev
    refine ⟨ph, E, O, ro, S, st, x, S1, e1, fun vx H1 ph1 t1 r1 z1 => ?_⟩
    split at ev
    · rename_i i
      cases ev
      exact ⟨i, (RepD.toP z1.asE).bool_, q _ H1 ph1 t1 r1 (RR.scal rfl (by decide))⟩
    · cases ev
theorem tT_bind {K : PySem.W.Frag} {sg : L2.St} {H : Hp} {Q : Bool → Hp → Prop} {tc : TM} {ph : List Addr} {E O : Addr → Prop} {ro : Env} {S S1 : Store} {b : Bool} (st : Sta K ow ph E O sg H ro S) (e1 : tc ro S = .ok b S1)
    (q : ∀ H1 ph1, Step ph ph1 H H1 → SRep K ph1 (EO E O) H1 S1 → Sta K ow ph1 E O sg H1 ro S1 → Q b H1) : tT K ow tc sg H Q :=
  ⟨ph, E, O, ro, S, st, b, S1, e1, fun H1 ph1 t1 r1 => q H1 ph1 t1 r1 (st.step t1 r1)⟩
theorem me_if (hc : PT X c (tT X.K ow tc)) (ha : PE X a (tG k X.K ow ma)) (hb : PE X b (tG k X.K ow mb)) : PE X (.IfExp c a b pos) (tG k X.K ow (eIf tc ma mb)) :=
  PE.imp (pe_ifExp hc ha hb) fun sg H Q ⟨ph, E, O, ro, S, st, d, S', ev, q⟩ => by
    obtain ⟨x, S1, e1, ev⟩ := Res.bind_ok ev
    refine tT_bind st e1 fun H1 ph1 t1 r1 st1 => ?_
    cases x with
    | true =>
      rw [if_pos rfl] at ev ⊢
      exact ⟨ph1, E, O, ro, S1, st1, d, S', ev, fun v H2 ph2 t2 r2 z2 => q v H2 ph2 (t1.trans t2) r2 (z2.back t1.dom)⟩
    | false =>
      rw [if_neg Bool.false_ne_true] at ev ⊢
      exact ⟨ph1, E, O, ro, S1, st1, d, S', ev, fun v H2 ph2 t2 r2 z2 => q v H2 ph2 (t1.trans t2) r2 (z2.back t1.dom)⟩
/-! tests -/
theorem PW.imp {t t' : TT} (h : PW X a t) (q : ∀ sg H Q, t' sg H Q → t sg H Q) : PW X a t' := ⟨fun wh pins s sg H Q I hw => h.run wh pins s sg H Q I (q sg H Q hw)⟩
theorem mt_val (h : PE X a (tG .e X.K ow ma)) (he : ∀ whole, isTrue a X.env whole = (do let v ← whole; standAt a.pos; holding [v] (truthy v)) := by intro _; rfl) : PT X a (tT X.K ow (bVal ma)) :=
  PT.imp (pt_val h he) fun sg H Q ⟨ph, E, O, ro, S, st, d, S', ev, q⟩ => by
    obtain ⟨x, S1, e1, ev⟩ := Res.bind_ok ev
    refine ⟨ph, E, O, ro, S, st, x, S1, e1, fun vx H1 ph1 t1 r1 z1 => ?_⟩
    split at ev
    · cases ev
      exact ⟨_, (RepD.toP z1.asE).bool_, q H1 ph1 t1 r1⟩
    · cases ev
theorem mw_and1 (ha : PT X a (tT X.K ow ta)) : PW X (.BoolOp .And [a] pos) (tT X.K ow ta) := pw_and1 ha
theorem mw_or1 (ha : PT X a (tT X.K ow ta)) : PW X (.BoolOp .Or [a] pos) (tT X.K ow ta) := pw_or1 ha
theorem mw_and (ha : PT X a (tT X.K ow ta)) (hb : PW X (.BoolOp .And (b :: rest) pos) (tT X.K ow tb)) : PW X (.BoolOp .And (a :: b :: rest) pos) (tT X.K ow (bAnd ta tb)) :=
  PW.imp (pw_and ha hb) fun sg H Q ⟨ph, E, O, ro, S, st, d, S', ev, q⟩ => by
    obtain ⟨x, S1, e1, ev⟩ := Res.bind_ok ev
    refine tT_bind st e1 fun H1 ph1 t1 r1 st1 => ?_
    cases x with
    | true =>
      rw [if_pos rfl] at ev ⊢
      exact ⟨ph1, E, O, ro, S1, st1, d, S', ev, fun H2 ph2 t2 r2 => q H2 ph2 (t1.trans t2) r2⟩
    | false =>
      rw [if_neg Bool.false_ne_true] at ev ⊢
      cases ev
      exact q H1 ph1 t1 r1
theorem mw_or (ha : PT X a (tT X.K ow ta)) (hb : PW X (.BoolOp .Or (b :: rest) pos) (tT X.K ow tb)) : PW X (.BoolOp .Or (a :: b :: rest) pos) (tT X.K ow (bOr ta tb)) :=
  PW.imp (pw_or ha hb) fun sg H Q ⟨ph, E, O, ro, S, st, d, S', ev, q⟩ => by
    obtain ⟨x, S1, e1, ev⟩ := Res.bind_ok ev
    refine tT_bind st e1 fun H1 ph1 t1 r1 st1 => ?_
    cases x with
    | true =>
      rw [if_pos rfl] at ev ⊢
      cases ev
      exact q H1 ph1 t1 r1
    | false =>
      rw [if_neg Bool.false_ne_true] at ev ⊢
      exact ⟨ph1, E, O, ro, S1, st1, d, S', ev, fun H2 ph2 t2 r2 => q H2 ph2 (t1.trans t2) r2⟩
theorem mt_not (ha : PT X a (tT X.K ow ta)) : PT X (.UnaryOp .Not a pos) (tT X.K ow (bNot ta)) :=
  PT.imp (pt_not ha) fun sg H Q ⟨ph, E, O, ro, S, st, d, S', ev, q⟩ => by
    obtain ⟨x, S1, e1, ev⟩ := Res.bind_ok ev
    cases ev
    exact tT_bind st e1 fun H1 ph1 t1 r1 st1 => q H1 ph1 t1 r1
/-! a chain of ints -/
def eChn (f g : Int → Int → Bool) (ma mb mc : EM) : EM := fun ro S => (ma ro S).bind fun x S1 => (mb ro S1).bind fun y S2 => match intB f x y with
  | some true => (mc ro S2).bind fun z S3 => optR (bD (intB g) y z) S3
  | some false => .ok (.bool false) S2
  | none => .bad
theorem intB_ok {f : Int → Int → Bool} {x y : D} {b : Bool} (h : intB f x y = some b) : ∃ i j, x = .int i ∧ y = .int j ∧ b = f i j := by
  unfold intB at h
  split at h
  · cases h; exact ⟨_, _, rfl, rfl, rfl⟩
  · cases h
theorem chn_go {K : PySem.W.Frag} {f g : Int → Int → Bool} : ∀ sg H Q, tG .e K ow (eChn f g ma mb mc) sg H Q → tChain (rI0 fun i j => .bl (f i j)) (rI0 fun i j => .bl (g i j)) (tG .p K ow ma) (tG .p K ow mb) (tG .p K ow mc) sg H Q := by
  rintro sg H Q ⟨ph, E, O, ro, S, st, d, S', ev1, q⟩
  obtain ⟨x, S1, e1, ev2⟩ := Res.bind_ok ev1
  obtain ⟨y, S2, e2, ev⟩ := Res.bind_ok ev2
  clear ev1 ev2
  refine ⟨ph, E, O, ro, S, st, x, S1, e1, fun vx H1 ph1 t1 r1 z1 => ?_⟩
  have st1 := st.step t1 r1
  refine ⟨ph1, E, O, ro, S1, st1, y, S2, e2, fun vy H2 ph2 t2 r2 z2 => ?_⟩
  have st2 := st1.step t2 r2
  split at ev
  · rename_i hf
    obtain ⟨i, j, ei, ej, eb⟩ := intB_ok hf
    subst ei ej
    obtain ⟨z, S3, e3, ev⟩ := Res.bind_ok ev
    obtain ⟨e4, e5⟩ := optR_ok ev
    subst e5
    obtain ⟨c, e6, e7⟩ := bD_ok e4
    subst e7
    obtain ⟨j', l, ej, el, ec⟩ := intB_ok e6
    cases ej
    subst el
    refine ⟨i, j, (RR.asP z1).int_, (RR.asP z2).int_, true, congrArg V.bl eb.symm, ?_⟩
    rw [if_pos rfl]
    refine ⟨ph2, E, O, ro, S2, st2, _, _, e3, fun vz H3 ph3 t3 r3 z3 => ?_⟩
    refine ⟨j, l, (RR.asP z2).int_, (RR.asP z3).int_, ?_⟩
    show Q (.bl (g j l)) H3
    rw [← ec]
    exact q _ H3 ph3 ((t1.trans t2).trans t3) r3 (RR.scal rfl (by decide))
  · rename_i hf
    obtain ⟨i, j, ei, ej, eb⟩ := intB_ok hf
    subst ei ej
    cases ev
    refine ⟨i, j, (RR.asP z1).int_, (RR.asP z2).int_, false, congrArg V.bl eb.symm, ?_⟩
    rw [if_neg Bool.false_ne_true]
    exact q _ H2 ph2 (t1.trans t2) r2 (RR.scal rfl (by decide))
  · cases ev
def bOf (m : EM) : TM := bVal m
theorem mk_chain {op op' : CmpOp} {f g : Int → Int → Bool} (ho : OpR X (compareOp op) (rI0 fun i j => .bl (f i j))) (ho' : OpR X (compareOp op') (rI0 fun i j => .bl (g i j))) (ha : PE X a (tG .p X.K ow ma)) (hb : PE X b (tG .p X.K ow mb)) (hc : PE X c (tG .p X.K ow mc))
    (hm : lastMarks [op, op'] [b, c] = false := by with_unfolding_all rfl) : PE X (.Compare a [op, op'] [b, c] pos) (tG .e X.K ow (eChn f g ma mb mc)) := PE.imp (pe_chain ho ho' ha hb hc hm) chn_go
theorem mkt_chain {op op' : CmpOp} {f g : Int → Int → Bool} (ho : OpR X (compareOp op) (rI0 fun i j => .bl (f i j))) (ho' : OpR X (compareOp op') (rI0 fun i j => .bl (g i j))) (ha : PE X a (tG .p X.K ow ma)) (hb : PE X b (tG .p X.K ow mb)) (hc : PE X c (tG .p X.K ow mc))
    (hm : lastMarks [op, op'] [b, c] = false := by with_unfolding_all rfl) : PT X (.Compare a [op, op'] [b, c] pos) (tT X.K ow (bVal (eChn f g ma mb mc))) :=
  PT.imp (pt_chain ho ho' ha hb hc hm) fun sg H Q ⟨ph, E, O, ro, S, st, d, S', ev, q⟩ => by
    obtain ⟨x, S1, e1, ev⟩ := Res.bind_ok ev
    split at ev
    · cases ev
      exact chn_go sg H _ ⟨ph, E, O, ro, S, st, _, _, e1, fun v H' ph' t1 r1 z1 => ⟨_, (RepD.toP (RR.asE z1)).bool_, q H' ph' t1 r1⟩⟩
    · cases ev
end

/-! ### argument lists, displays -/
def aNil : AM := fun _ S => .ok [] S
def aCons (m : EM) (r : AM) : AM := fun ro S => (m ro S).bind fun x S1 => (r ro S1).bind fun xs S2 => .ok (x :: xs) S2
def ALen (m : AM) (n : Nat) : Prop := ∀ ro S ds S', m ro S = .ok ds S' → ds.length = n
theorem al_nil : ALen aNil 0 := fun _ _ _ _ h => by cases h; rfl
theorem al_cons {m : EM} {r : AM} {n : Nat} (h : ALen r n) : ALen (aCons m r) (n + 1) := fun ro S ds S' e => by
  obtain ⟨x, S1, _, e⟩ := Res.bind_ok e
  obtain ⟨xs, S2, e2, e⟩ := Res.bind_ok e
  cases e
  rw [List.length_cons, h _ _ _ _ e2]
def pys : List D → Option (List PyData)
  | [] => some []
  | .p d :: r => (pys r).map (d :: ·)
  | _ :: _ => none
def eTup (m : AM) : EM := fun ro S => (m ro S).bind fun ds S1 => optR ((pys ds).map fun l => .tup l) S1
def eLst (m : AM) : EM := fun ro S => (m ro S).bind fun ds S1 => optR ((pys ds).map fun l => .lst l) S1
/-- a list by reference -/
def eLstR (m : AM) : EM := fun ro S => (m ro S).bind fun ds S1 => match pys ds with
  | some l => .ok (.ref S1.length) (S1 ++ [SO.lst l])
  | none => .bad
section
variable {K : PySem.W.Frag} {ph ph' : List Addr} {Ex : Addr → Prop} {H H' : Hp}
theorem pys_rep : ∀ {ds : List D} {l : List PyData} {vs : List V}, pys ds = some l → Paired (RA .e K ph Ex H) ds vs → RepAll K H (okx ph Ex) l vs ∧ l.length = ds.length
  | [], l, _, e, .nil => by
    cases e
    exact ⟨.nil, rfl⟩
  | .p d :: r, l, _, e, .cons h t => by
    unfold pys at e
    cases e2 : pys r with
    | none => rw [e2] at e; cases e
    | some l' =>
      rw [e2] at e
      cases e
      obtain ⟨h1, h2⟩ := pys_rep e2 t
      exact ⟨.cons (show Rep K H (okx ph Ex) d _ from h) h1, by rw [List.length_cons, List.length_cons, h2]⟩
  | .ref n :: r, l, _, e, .cons h t => by cases e
  | .scr n :: r, l, _, e, .cons h t => by cases e
end
section
variable {X : Cx} {ow : Nat → Bool} {e : Expr} {es : List Expr} {pos : Pos} {m : EM} {am : AM} {k : Kd} {n : Nat}
theorem ma_nil : PA X [] (tAs k X.K ow aNil) := PA.imp pa_nil fun sg H Q ⟨ph, E, O, ro, S, st, ds, S', ev, q⟩ => by
  cases ev
  exact q [] H ph (Step.refl _ _) st.sto .nil
theorem ma_cons (ha : PE X e (tG k X.K ow m)) (hr : PA X es (tAs k X.K ow am)) (hk : k ≠ .f := by decide) (hs : starEach (e :: es) X.env = (false, eval e X.env) :: starEach es X.env := by rfl) : PA X (e :: es) (tAs k X.K ow (aCons m am)) :=
  PA.imp (pa_cons ha hr hs) fun sg H Q ⟨ph, E, O, ro, S, st, ds, S', ev, q⟩ => by
    obtain ⟨x, S1, e1, ev⟩ := Res.bind_ok ev
    obtain ⟨xs, S2, e2, ev⟩ := Res.bind_ok ev
    cases ev
    refine ⟨ph, E, O, ro, S, st, x, S1, e1, fun vx H1 ph1 t1 r1 z1 => ?_⟩
    refine ⟨ph1, E, O, ro, S1, st.step t1 r1, xs, _, e2, fun vs H2 ph2 t2 r2 z2 => ?_⟩
    exact q _ H2 ph2 (t1.trans t2) r2 (.cons (RA.step t2 (z1.ra hk)) z2)
theorem me_tup {x1} (h : PA X es (tAs .e X.K ow am)) (hl : ALen am n) (hn : n ≤ lim := by decide) : PE X (.Tuple es x1 pos) (tG .e X.K ow (eTup am)) :=
  PE.imp (pe_tup h) fun sg H Q ⟨ph, E, O, ro, S, st, d, S', ev, q⟩ => by
    obtain ⟨ds, S1, e1, ev⟩ := Res.bind_ok ev
    obtain ⟨e2, e3⟩ := optR_ok ev
    subst e3
    cases e4 : pys ds with
    | none => rw [e4] at e2; cases e2
    | some l =>
      rw [e4] at e2
      cases e2
      refine ⟨ph, E, O, ro, S, st, ds, _, e1, fun vs H1 ph1 t1 r1 z1 => ?_⟩
      obtain ⟨h1, h2⟩ := pys_rep e4 z1
      have l1 := h1.length
      have l2 := hl _ _ _ _ e1
      have lz := lim_line
      exact ⟨by omega, fun p np => out_tup r1 (fun v H2 t2 r2 z2 => q v H2 ph1 (t1.trans t2) r2 z2) h1 p np⟩
theorem mf_lst (h : PA X es (tAs .e X.K ow am)) (hl : ALen am n) (hn : n ≤ lim := by decide) : PE X (.List es pos) (tG .f X.K ow (eLst am)) :=
  PE.imp (pe_lst h) fun sg H Q ⟨ph, E, O, ro, S, st, d, S', ev, q⟩ => by
    obtain ⟨ds, S1, e1, ev⟩ := Res.bind_ok ev
    obtain ⟨e2, e3⟩ := optR_ok ev
    subst e3
    cases e4 : pys ds with
    | none => rw [e4] at e2; cases e2
    | some l =>
      rw [e4] at e2
      cases e2
      refine ⟨ph, E, O, ro, S, st, ds, _, e1, fun vs H1 ph1 t1 r1 z1 => ?_⟩
      obtain ⟨h1, h2⟩ := pys_rep e4 z1
      have l1 := h1.length
      have l2 := hl _ _ _ _ e1
      have lz := lim_line
      exact ⟨by omega, fun p np => out_lst r1 (fun v H2 t2 r2 z2 => q v H2 ph1 (t1.trans t2) r2 (z2.back t1.dom)) h1 p np⟩
theorem mr_lst (h : PA X es (tAs .e X.K ow am)) (hl : ALen am n) (hn : n ≤ lim := by decide) : PE X (.List es pos) (tG .e X.K ow (eLstR am)) :=
  PE.imp (pe_lst h) fun sg H Q ⟨ph, E, O, ro, S, st, d, S', ev, q⟩ => by
    obtain ⟨ds, S1, e1, ev⟩ := Res.bind_ok ev
    split at ev
    · rename_i l e4
      cases ev
      refine ⟨ph, E, O, ro, S, st, ds, S1, e1, fun vs H1 ph1 t1 r1 z1 => ?_⟩
      obtain ⟨h1, h2⟩ := pys_rep e4 z1
      have l1 := h1.length
      have l2 := hl _ _ _ _ e1
      have lz := lim_line
      refine ⟨by omega, fun p np => ?_⟩
      obtain ⟨r2, t2⟩ := r1.push np h1
      refine q _ _ _ (t1.trans t2) r2 ⟨p, ?_, rfl⟩
      rw [← r1.len, List.getElem?_append_right (Nat.le_refl _)]
      simp
    · cases ev
end

/-! ### subscripts, slices -/
def idxF : D → D → Store → Option D
  | .p (.list ds), .p (.int i), _ => (atI ds i).map .p
  | .p (.tuple ds), .p (.int i), _ => (atI ds i).map .p
  | .p (.str z), .p (.int i), _ => if z.length ≤ lim then (atI z.cps.toList i).map fun c => .str ⟨#[c]⟩ else none
  | .scr ns, .p (.int i), _ => (atI ns i).map fun j => .int j
  | .ref n, .p (.int i), S => match S[n]? with
    | some (.lst ds) => (atI ds i).map .p
    | none => none
  | _, _, _ => none
theorem atI_rep {K : PySem.W.Frag} {H : Hp} {ok : Addr → Prop} {ds : List PyData} {xs : List V} {i : Int} {d : PyData} (r : RepAll K H ok ds xs) (h : atI ds i = some d) : ∃ v, atI xs i = some v ∧ Rep K H ok d v := by
  unfold atI at h ⊢
  rw [← r.length]
  cases e : ixN ds.length i with
  | none => rw [e] at h; cases h
  | some j =>
    rw [e] at h
    obtain ⟨v, h1, h2⟩ := r.get (i := j) h
    exact ⟨v, h1, h2⟩
theorem atI_map {a b : Type} (g : a → b) (xs : List a) (i : Int) : atI (xs.map g) i = (atI xs i).map g := by
  unfold atI
  rw [List.length_map]
  cases ixN xs.length i with
  | none => rfl
  | some j => show (xs.map g)[j]? = (xs[j]?).map g; rw [List.getElem?_map]
section
variable {K : PySem.W.Frag}
theorem map_p {o : Option PyData} {d : D} (h : o.map D.p = some d) : ∃ e, o = some e ∧ d = .p e := by
  cases o with
  | none => cases h
  | some e => cases h; exact ⟨e, rfl, rfl⟩
theorem map_i {o : Option Int} {d : D} (h : (o.map fun j => D.int j) = some d) : ∃ e, o = some e ∧ d = .int e := by
  cases o with
  | none => cases h
  | some e => cases h; exact ⟨e, rfl, rfl⟩
theorem r2_idx : R2st K .e idxF (rIx K) := by
  intro ph Ex H S dx dy x y d Q sr dm hx hy h q
  unfold idxF at h
  split at h
  · obtain ⟨e, h1, rfl⟩ := map_p h
    obtain ⟨a, xs, e1, h2, n1, r1⟩ := hx.list_
    obtain ⟨v, h3, h4⟩ := atI_rep r1 h1
    exact .inl ⟨a, xs, _, v, e1, hy.int_, SqL.of h2, h3, q v H (Step.refl _ _) sr h4⟩
  · obtain ⟨e, h1, rfl⟩ := map_p h
    obtain ⟨a, xs, e1, h2, r1⟩ := hx.tup_
    obtain ⟨v, h3, h4⟩ := atI_rep r1 h1
    exact .inr (.inl ⟨a, xs, _, v, e1, hy.int_, h2, h3, q v H (Step.refl _ _) sr h4⟩)
  · split at h
    · rename_i z i hz
      cases e : atI z.cps.toList i with
      | none => rw [e] at h; cases h
      | some c =>
        rw [e] at h
        cases h
        exact .inr (.inr ⟨z, i, c, hx.str_, hy.int_, Nat.le_trans hz lim_line, e, out_sca sr q rfl⟩)
    · cases h
  · obtain ⟨c, e, rfl⟩ := map_i h
    obtain ⟨a, e1, h1⟩ := hx.scr_
    exact .inl ⟨a, _, _, .int c, e1, hy.int_, h1.sqL, by rw [atI_map, e]; rfl, out_sca sr q rfl⟩
  · split at h
    · rename_i n i S ds hS
      obtain ⟨e, h1, rfl⟩ := map_p h
      obtain ⟨a, e1, e2⟩ := hx.ref_
      obtain ⟨xs, h2, r1⟩ := sr.at_ n a _ e1 hS
      obtain ⟨v, h3, h4⟩ := atI_rep r1 h1
      exact .inl ⟨a, xs, i, v, e2, hy.int_, SqL.of h2, h3, q v H (Step.refl _ _) sr h4⟩
    · cases h
  · cases h
end
section
variable {X : Cx} {ow : Nat → Bool} {a b c : Expr} {pos p2 : Pos} {ma mb : EM} {lo hi : Option Expr}
theorem me_ix (ha : PE X a (tG .p X.K ow ma)) (hb : PE X b (tG .p X.K ow mb)) (hs : PlainIx b := by exact fun _ _ => rfl) : PE X (.Subscript a b pos) (tG .e X.K ow (eBinS idxF ma mb)) := PE.imp (pe_ix ix_seq ha hb hs) (bin_go r2_idx)
/-! slices -/
abbrev OM := Env → M (Option Int)
def tOm (K : PySem.W.Frag) (ow : Nat → Bool) (m : OM) : L2.TO := fun sg H Q => ∃ (ph : List Addr) (E O : Addr → Prop) (ro : Env) (S : Store), Sta K ow ph E O sg H ro S ∧
  ∃ o S', m ro S = .ok o S' ∧ ∀ H' ph', Step ph ph' H H' → SRep K ph' (EO E O) H' S' → Q o H'
def oNone : OM := fun _ S => .ok none S
def oSome (m : EM) : OM := fun ro S => (m ro S).bind fun x S1 => match x with
  | .p (.int i) => .ok (some i) S1
  | .p .none => .ok none S1
  | _ => .bad
theorem mo_none : PO X none (tOm X.K ow oNone) := ⟨fun pins s sg H Q I hw => by
  obtain ⟨ph, E, O, ro, S, st, o, S', ev, q⟩ := hw
  cases ev
  exact po_none.run pins s sg H Q I (q H ph (Step.refl _ _) st.sto)⟩
theorem mo_some (h : PE X a (tG .p X.K ow ma)) : PO X (some a) (tOm X.K ow (oSome ma)) := ⟨fun pins s sg H Q I hw => by
  obtain ⟨ph, E, O, ro, S, st, o, S', ev, q⟩ := hw
  obtain ⟨x, S1, e1, ev⟩ := Res.bind_ok ev
  rw [evalPart_some]
  refine thn (h.run pins s sg H _ I ⟨ph, E, O, ro, S, st, x, S1, e1, fun v H1 ph1 t1 r1 z1 => (⟨ph1, t1, r1, z1⟩ : ∃ ph1, Step ph ph1 H H1 ∧ SRep X.K ph1 (EO E O) H1 S1 ∧ RR .p X.K ph1 (EO E O) (Fre H) H1 S1 x v)⟩) fun u s1 ⟨v, H1, I1, r, ph1, t1, r1, z1⟩ => ?_
  split at ev
  · cases ev
    have e := (RR.asP z1).int_
    subst e
    obtain ⟨t, e⟩ := r
    subst e
    exact ⟨_, H1, I1, .int _ t, q H1 ph1 t1 r1⟩
  · cases ev
    have e := (RR.asP z1).none_
    subst e
    cases r
    exact ⟨none, H1, I1, .none, q H1 ph1 t1 r1⟩
  · cases ev⟩
def cutG {a : Type} (xs : List a) (lo hi : Option Int) : List a := (xs.drop (HT.sIx xs.length 0 lo)).take (HT.sIx xs.length xs.length hi - HT.sIx xs.length 0 lo)
theorem cutG_rep {K : PySem.W.Frag} {H : Hp} {ok : Addr → Prop} {ds : List PyData} {xs : List V} {lo hi : Option Int} (r : RepAll K H ok ds xs) : RepAll K H ok (cutG ds lo hi) (cutV xs lo hi) := by
  unfold cutG cutV
  rw [← r.length]
  exact (r.drop _).take _
def slT : D → Option Int → Option Int → Option D
  | .p (.tuple ds), lo, hi => some (.tup (cutG ds lo hi))
  | .p (.list ds), lo, hi => some (.lst (cutG ds lo hi))
  | _, _, _ => none
def slL : D → Option Int → Option Int → Option D
  | .p (.list ds), lo, hi => some (.lst (cutG ds lo hi))
  | _, _, _ => none
def eSl (f : D → Option Int → Option Int → Option D) (m : EM) (ml mh : OM) : EM := fun ro S => (m ro S).bind fun x S1 => (ml ro S1).bind fun l S2 => (mh ro S2).bind fun h S3 => optR (f x l h) S3
def RSok (K : PySem.W.Frag) (k : Kd) (f : D → Option Int → Option Int → Option D) (r : V → Option Int → Option Int → Hp → VK → Prop) : Prop := ∀ (ph : List Addr) (Ex : Addr → Prop) (H : Hp) (S : Store) (dx : D) (x : V) (lo hi : Option Int) (d : D) (Q : VK), SRep K ph Ex H S → (∀ a, Ex a → H a ≠ none) → RepP K ph Ex H dx x → f dx lo hi = some d →
  (∀ v H', Step ph ph H H' → SRep K ph Ex H' S → RR k K ph Ex (Fre H) H' S d v → Q v H') → r x lo hi H Q
theorem sl_go {K : PySem.W.Frag} {k : Kd} {f : D → Option Int → Option Int → Option D} {r : V → Option Int → Option Int → Hp → VK → Prop} {ml mh : OM} (hr : RSok K k f r) : ∀ sg H Q, tG k K ow (eSl f ma ml mh) sg H Q → tSl r (tG .p K ow ma) (tOm K ow ml) (tOm K ow mh) sg H Q := by
  rintro sg H Q ⟨ph, E, O, ro, S, st, d, S', ev, q⟩
  obtain ⟨x, S1, e1, ev⟩ := Res.bind_ok ev
  obtain ⟨l, S2, e2, ev⟩ := Res.bind_ok ev
  obtain ⟨h, S3, e3, ev⟩ := Res.bind_ok ev
  obtain ⟨e4, rfl⟩ := optR_ok ev
  refine ⟨ph, E, O, ro, S, st, x, S1, e1, fun vx H1 ph1 t1 r1 z1 => ?_⟩
  have st1 := st.step t1 r1
  refine ⟨ph1, E, O, ro, S1, st1, l, S2, e2, fun H2 ph2 t2 r2 => ?_⟩
  have st2 := st1.step t2 r2
  refine ⟨ph2, E, O, ro, S2, st2, h, _, e3, fun H3 ph3 t3 r3 => ?_⟩
  have st3 := st2.step t3 r3
  exact hr ph3 (EO E O) H3 _ x vx l h d Q r3 st3.domX (RepP.step (t2.trans t3) z1) e4 fun v H4 t4 r4 z4 => q v H4 ph3 (((t1.trans t2).trans t3).trans t4) r4 (z4.back fun a z => ((t1.trans t2).trans t3).dom a z)
theorem rs_L {K : PySem.W.Frag} : RSok K .f slL (rSlL K) := by
  intro ph Ex H S dx x lo hi d Q sr dm hx h q
  unfold slL at h
  split at h
  · cases h
    obtain ⟨a, xs, e1, h2, n1, r1⟩ := hx.list_
    exact ⟨a, xs, e1, SqL.of h2, fun p np => out_lst sr q (cutG_rep r1) p np⟩
  · cases h
theorem rs_T {K : PySem.W.Frag} : RSok K .e slT (fun x lo hi H Q => rSlL K x lo hi H Q ∨ rSlA K x lo hi H Q) := by
  intro ph Ex H S dx x lo hi d Q sr dm hx h q
  unfold slT at h
  split at h
  · rename_i ds
    cases h
    obtain ⟨a, xs, e1, h2, r1⟩ := hx.tup_
    refine .inr ⟨a, xs, e1, h2, fun hw => ?_, fun _ p np => out_tup sr q (cutG_rep r1) p np⟩
    refine q _ H (Step.refl _ _) sr ?_
    show Rep K H (okx ph Ex) (.tuple (cutG ds lo hi)) (.ref a)
    simp only [Rep]
    refine ⟨a, xs, rfl, h2, ?_⟩
    have e : cutG ds lo hi = ds := by
      unfold cutG
      rw [r1.length, hw.1, hw.2, List.drop_zero, Nat.sub_zero, ← r1.length, List.take_length]
    rw [e]
    exact r1
  · refine .inl (rs_L ph Ex H S _ x _ _ d Q sr dm hx (by unfold slL; exact h) fun v H' t r z => q v H' t r (RR.fe z dm))
  · cases h
theorem me_sl {ml mh : OM} (ha : PE X a (tG .p X.K ow ma)) (hl : PO X lo (tOm X.K ow ml)) (hh : PO X hi (tOm X.K ow mh)) : PE X (.Subscript a (.Slice lo hi none p2) pos) (tG .e X.K ow (eSl slT ma ml mh)) := PE.imp (pe_slice (SlR.or sl_list sl_tupA) ha hl hh) (sl_go rs_T)
theorem mf_sl {ml mh : OM} (ha : PE X a (tG .p X.K ow ma)) (hl : PO X lo (tOm X.K ow ml)) (hh : PO X hi (tOm X.K ow mh)) : PE X (.Subscript a (.Slice lo hi none p2) pos) (tG .f X.K ow (eSl slL ma ml mh)) := PE.imp (pe_slice sl_list ha hl hh) (sl_go rs_L)
end
end
end Mi

namespace Mi
open PySem PySem.Spec PyProof.Rows L2
noncomputable section

/-! ### calls of built-in things -/
def RLok (K : PySem.W.Frag) (k : Kd) (f : List D → Store → Option D) (r : List V → Hp → VK → Prop) : Prop := ∀ (ph : List Addr) (Ex : Addr → Prop) (H : Hp) (S : Store) (ds : List D) (vs : List V) (d : D) (Q : VK), SRep K ph Ex H S → (∀ a, Ex a → H a ≠ none) → Paired (RepP K ph Ex H) ds vs → f ds S = some d →
  (∀ v H', Step ph ph H H' → SRep K ph Ex H' S → RR k K ph Ex (Fre H) H' S d v → Q v H') → r vs H Q
def eBlt (f : List D → Store → Option D) (am : AM) : EM := fun ro S => (am ro S).bind fun ds S1 => optR (f ds S1) S1
section
variable {X : Cx} {ow : Nat → Bool} {a b : Expr} {es : List Expr} {p pos : Pos} {am : AM} {ma : EM} {k : Kd} {x : Str} {id T : String} {f : List D → Store → Option D} {r : List V → Hp → VK → Prop}
theorem blt_go {K : PySem.W.Frag} (hr : RLok K k f r) : ∀ sg H Q, tG k K ow (eBlt f am) sg H Q → tCB r (tAs .p K ow am) sg H Q := by
  rintro sg H Q ⟨ph, E, O, ro, S, st, d, S', ev, q⟩
  obtain ⟨ds, S1, e1, ev⟩ := Res.bind_ok ev
  obtain ⟨e2, rfl⟩ := optR_ok ev
  refine ⟨ph, E, O, ro, S, st, ds, _, e1, fun vs H1 ph1 t1 r1 z1 => ?_⟩
  have st1 := st.step t1 r1
  exact hr ph1 (EO E O) H1 _ ds vs d Q r1 st1.domX z1 e2 fun v H2 t2 r2 z2 => q v H2 ph1 (t1.trans t2) r2 (z2.back t1.dom)
theorem mk_callB (hc : CallR X (.builtin id) r) (hr : RLok X.K k f r) (hg : Gl X x) (hm : X.mg x = none) (hv : bootBuiltins x = some (.builtin id)) (ha : PA X (a :: es) (tAs .p X.K ow am)) (hn : x ≠ "__name__" := by decide) (hdb : (x == ("__debug__" : Str)) = false := by decide)
    (he : starEach (a :: es) X.env = (false, eval a X.env) :: starEach es X.env := by rfl) (hpl : (backTo pos (starEach es X.env)).any (·.1) = false := by rfl) : PE X (.Call (.Name x p) (a :: es) [] pos) (tG k X.K ow (eBlt f am)) :=
  PE.imp (pe_callB hc hg hm hv ha hn hdb he hpl) (blt_go hr)
theorem mk_callTy (hc : CallR X (.type T) r) (hr : RLok X.K k f r) (hg : Gl X x) (hm : X.mg x = none) (hv : bootBuiltins x = some (.type T)) (ha : PA X (a :: es) (tAs .p X.K ow am)) (hn : x ≠ "__name__" := by decide) (hdb : (x == ("__debug__" : Str)) = false := by decide)
    (he : starEach (a :: es) X.env = (false, eval a X.env) :: starEach es X.env := by rfl) (hpl : (backTo pos (starEach es X.env)).any (·.1) = false := by rfl) : PE X (.Call (.Name x p) (a :: es) [] pos) (tG k X.K ow (eBlt f am)) :=
  PE.imp (pe_callTy hc hg hm hv ha hn hdb he hpl) (blt_go hr)
end
def lenF : List D → Store → Option D
  | [.p (.list ds)], _ => some (.int ds.length)
  | [.p (.tuple ds)], _ => some (.int ds.length)
  | [.p (.str z)], _ => if z.length ≤ lim then some (.int z.length) else none
  | [.scr ns], _ => some (.int ns.length)
  | _, _ => none
/-- of data: ints, truths -/
def asInts : List PyData → Option (List Int)
  | [] => some []
  | .int i :: r => (asInts r).map (i :: ·)
  | _ :: _ => none
def asBools : List PyData → Option (List Bool)
  | [] => some []
  | .bool i :: r => (asBools r).map (i :: ·)
  | _ :: _ => none
theorem asInts_ok : ∀ {ds : List PyData} {ns : List Int}, asInts ds = some ns → ds = ns.map PyData.int
  | [], ns, h => by cases h; rfl
  | .int i :: r, ns, h => by
    unfold asInts at h
    cases e : asInts r with
    | none => rw [e] at h; cases h
    | some l => rw [e] at h; cases h; rw [asInts_ok e]; rfl
  | .none :: r, ns, h => by cases h
  | .bool _ :: r, ns, h => by cases h
  | .str _ :: r, ns, h => by cases h
  | .list _ :: r, ns, h => by cases h
  | .tuple _ :: r, ns, h => by cases h
  | .dict _ :: r, ns, h => by cases h
theorem asBools_ok : ∀ {ds : List PyData} {ns : List Bool}, asBools ds = some ns → ds = ns.map PyData.bool
  | [], ns, h => by cases h; rfl
  | .bool i :: r, ns, h => by
    unfold asBools at h
    cases e : asBools r with
    | none => rw [e] at h; cases h
    | some l => rw [e] at h; cases h; rw [asBools_ok e]; rfl
  | .none :: r, ns, h => by cases h
  | .int _ :: r, ns, h => by cases h
  | .str _ :: r, ns, h => by cases h
  | .list _ :: r, ns, h => by cases h
  | .tuple _ :: r, ns, h => by cases h
  | .dict _ :: r, ns, h => by cases h
theorem asInts_map (ns : List Int) : asInts (ns.map PyData.int) = some ns := by
  induction ns with
  | nil => rfl
  | cons n ns ih => rw [List.map_cons]; unfold asInts; rw [ih]; rfl
theorem asBools_map (ns : List Bool) : asBools (ns.map PyData.bool) = some ns := by
  induction ns with
  | nil => rfl
  | cons n ns ih => rw [List.map_cons]; unfold asBools; rw [ih]; rfl
def allF : List D → Store → Option D
  | [.p (.list ds)], _ => (asBools ds).map fun bs => .bool (bs.all id)
  | _, _ => none
def sumF : List D → Store → Option D
  | [.p (.list ds)], _ => (asInts ds).map fun ns => .int ns.sum
  | _, _ => none
def greatest : List Int → Int
  | [] => 0
  | [x] => x
  | x :: y :: r => max x (greatest (y :: r))
def leastI : List Int → Int
  | [] => 0
  | [x] => x
  | x :: y :: r => min x (leastI (y :: r))
theorem greatest_ok : ∀ (ns : List Int), ns ≠ [] → greatest ns ∈ ns ∧ ∀ y, y ∈ ns → y ≤ greatest ns
  | [], h => absurd rfl h
  | [x], _ => ⟨by simp [greatest], fun y hy => by simp at hy; simp [greatest, hy]⟩
  | x :: y :: r, _ => by
    obtain ⟨h1, h2⟩ := greatest_ok (y :: r) (by simp)
    refine ⟨?_, fun z hz => ?_⟩
    · unfold greatest
      by_cases e : x ≤ greatest (y :: r)
      · rw [Int.max_eq_right e]; exact List.mem_cons_of_mem _ h1
      · rw [Int.max_eq_left (by omega)]; exact List.mem_cons_self
    · unfold greatest
      rcases List.mem_cons.mp hz with e | e
      · rw [e]; exact Int.le_max_left _ _
      · exact Int.le_trans (h2 z e) (Int.le_max_right _ _)
theorem leastI_ok : ∀ (ns : List Int), ns ≠ [] → leastI ns ∈ ns ∧ ∀ y, y ∈ ns → leastI ns ≤ y
  | [], h => absurd rfl h
  | [x], _ => ⟨by simp [leastI], fun y hy => by simp at hy; simp [leastI, hy]⟩
  | x :: y :: r, _ => by
    obtain ⟨h1, h2⟩ := leastI_ok (y :: r) (by simp)
    refine ⟨?_, fun z hz => ?_⟩
    · unfold leastI
      by_cases e : x ≤ leastI (y :: r)
      · rw [Int.min_eq_left e]; exact List.mem_cons_self
      · rw [Int.min_eq_right (by omega)]; exact List.mem_cons_of_mem _ h1
    · unfold leastI
      rcases List.mem_cons.mp hz with e | e
      · rw [e]; exact Int.min_le_left _ _
      · exact Int.le_trans (Int.min_le_right _ _) (h2 z e)
def maxLF : List D → Store → Option D
  | [.p (.list ds)], _ => match asInts ds with
    | some (n :: ns) => some (.int (greatest (n :: ns)))
    | _ => none
  | _, _ => none
def minLF : List D → Store → Option D
  | [.p (.list ds)], _ => match asInts ds with
    | some (n :: ns) => some (.int (leastI (n :: ns)))
    | _ => none
  | _, _ => none
def max2F : List D → Store → Option D
  | [.p (.int i), .p (.int j)], _ => some (.int (max i j))
  | _, _ => none
def min2F : List D → Store → Option D
  | [.p (.int i), .p (.int j)], _ => some (.int (min i j))
  | _, _ => none
def absF : List D → Store → Option D
  | [.p (.int i)], _ => some (.int i.natAbs)
  | _, _ => none
def tupF : List D → Store → Option D
  | [.p (.list ds)], _ => some (.tup ds)
  | [.p (.tuple ds)], _ => some (.tup ds)
  | _, _ => none
def lstF : List D → Store → Option D
  | [.p (.list ds)], _ => some (.lst ds)
  | [.p (.tuple ds)], _ => some (.lst ds)
  | _, _ => none
def intF : List D → Store → Option D
  | [.p (.int i)], _ => some (.int i)
  | [.p (.bool b)], _ => some (.int (if b then 1 else 0))
  | _, _ => none
def strF : List D → Store → Option D
  | [.p (.int i)], _ => if i.natAbs.log2 < 1920 then some (.str (toString i)) else none
  | _, _ => none
section
variable {K : PySem.W.Frag}
theorem p1 {R : D → V → Prop} {d : D} {vs : List V} (h : Paired R [d] vs) : ∃ v, vs = [v] ∧ R d v := by
  cases h with
  | cons a b => cases b; exact ⟨_, rfl, a⟩
theorem p2 {R : D → V → Prop} {d e : D} {vs : List V} (h : Paired R [d, e] vs) : ∃ v w, vs = [v, w] ∧ R d v ∧ R e w := by
  cases h with
  | cons a b =>
    cases b with
    | cons c g => cases g; exact ⟨_, _, rfl, a, c⟩
theorem rl_len : RLok K .e lenF (fun xs H Q => ∃ x n, xs = [x] ∧ LenV K x H n ∧ Q (.int n) H) := by
  intro ph Ex H S ds vs d Q sr dm hp h q
  unfold lenF at h
  split at h
  · cases h
    obtain ⟨v, rfl, hv⟩ := p1 hp
    obtain ⟨a, xs, rfl, h1, n1, r1⟩ := hv.list_
    exact ⟨.ref a, xs.length, rfl, .inl ⟨xs, SqL.of h1, rfl⟩, by rw [← r1.length]; exact out_sca sr q rfl⟩
  · cases h
    obtain ⟨v, rfl, hv⟩ := p1 hp
    obtain ⟨a, xs, rfl, h1, r1⟩ := hv.tup_
    exact ⟨.ref a, xs.length, rfl, .inr ⟨xs, h1, rfl⟩, by rw [← r1.length]; exact out_sca sr q rfl⟩
  · split at h
    · rename_i hz
      cases h
      obtain ⟨v, rfl, hv⟩ := p1 hp
      have e := hv.str_
      subst e
      exact ⟨_, _, rfl, ⟨Nat.le_trans hz lim_line, rfl⟩, out_sca sr q rfl⟩
    · cases h
  · cases h
    obtain ⟨v, rfl, hv⟩ := p1 hp
    obtain ⟨a, rfl, h1⟩ := hv.scr_
    refine ⟨.ref a, _, rfl, .inl ⟨_, h1.sqL, rfl⟩, ?_⟩
    rw [List.length_map]
    exact out_sca sr q rfl
  · cases h
theorem map_ok {a : Type} {o : Option a} {g : a → D} {d : D} (h : o.map g = some d) : ∃ e, o = some e ∧ d = g e := by
  cases o with
  | none => cases h
  | some e => cases h; exact ⟨e, rfl, rfl⟩
theorem rl_all : RLok K .e allF (rAll K) := by
  intro ph Ex H S ds vs d Q sr dm hp h q
  unfold allF at h
  split at h
  · obtain ⟨bs, e, rfl⟩ := map_ok h
    obtain ⟨v, rfl, hv⟩ := p1 hp
    obtain ⟨a, xs, rfl, h1, n1, r1⟩ := hv.list_
    rw [asBools_ok e] at r1
    have e2 := r1.bools
    subst e2
    exact ⟨a, bs, rfl, SqL.of h1, out_sca sr q rfl⟩
  · cases h
theorem rl_sum : RLok K .e sumF (rSum K) := by
  intro ph Ex H S ds vs d Q sr dm hp h q
  unfold sumF at h
  split at h
  · obtain ⟨bs, e, rfl⟩ := map_ok h
    obtain ⟨v, rfl, hv⟩ := p1 hp
    obtain ⟨a, xs, rfl, h1, n1, r1⟩ := hv.list_
    rw [asInts_ok e] at r1
    have e2 := r1.ints
    subst e2
    exact ⟨a, bs, rfl, SqL.of h1, out_sca sr q rfl⟩
  · cases h
theorem rl_maxL : RLok K .e maxLF (rMax K) := by
  intro ph Ex H S ds vs d Q sr dm hp h q
  unfold maxLF at h
  split at h
  · split at h
    · rename_i ds S n ns e
      cases h
      obtain ⟨v, rfl, hv⟩ := p1 hp
      obtain ⟨a, xs, rfl, h1, n1, r1⟩ := hv.list_
      rw [asInts_ok e] at r1
      have e2 := r1.ints
      subst e2
      refine ⟨a, n :: ns, rfl, SqL.of h1, by simp, fun m hm hy => ?_⟩
      obtain ⟨g1, g2⟩ := greatest_ok (n :: ns) (by simp)
      have em : m = greatest (n :: ns) := Int.le_antisymm (g2 m hm) (hy _ g1)
      rw [em]
      exact out_sca sr q rfl
    · cases h
  · cases h
theorem rl_minL : RLok K .e minLF (rMin K) := by
  intro ph Ex H S ds vs d Q sr dm hp h q
  unfold minLF at h
  split at h
  · split at h
    · rename_i ds S n ns e
      cases h
      obtain ⟨v, rfl, hv⟩ := p1 hp
      obtain ⟨a, xs, rfl, h1, n1, r1⟩ := hv.list_
      rw [asInts_ok e] at r1
      have e2 := r1.ints
      subst e2
      refine ⟨a, n :: ns, rfl, SqL.of h1, by simp, fun m hm hy => ?_⟩
      obtain ⟨g1, g2⟩ := leastI_ok (n :: ns) (by simp)
      have em : m = leastI (n :: ns) := Int.le_antisymm (hy _ g1) (g2 m hm)
      rw [em]
      exact out_sca sr q rfl
    · cases h
  · cases h
theorem if_max (i j : Int) : (if j > i then j else i) = max i j := by
  split
  · rw [Int.max_eq_right (by omega)]
  · rw [Int.max_eq_left (by omega)]
theorem if_min (i j : Int) : (if j < i then j else i) = min i j := by
  split
  · rw [Int.min_eq_right (by omega)]
  · rw [Int.min_eq_left (by omega)]
theorem if_abs (i : Int) : (if i < 0 then -i else i) = (i.natAbs : Int) := by split <;> omega
theorem rl_max2 : RLok K .e max2F (fun xs H Q => ∃ i j, xs = [.int i, .int j] ∧ Q (.int (if j > i then j else i)) H) := by
  intro ph Ex H S ds vs d Q sr dm hp h q
  unfold max2F at h
  split at h
  · cases h
    obtain ⟨v, w, rfl, hv, hw⟩ := p2 hp
    have e1 := hv.int_
    have e2 := hw.int_
    subst e1 e2
    refine ⟨_, _, rfl, ?_⟩
    rw [if_max]
    exact out_sca sr q rfl
  · cases h
theorem rl_min2 : RLok K .e min2F (fun xs H Q => ∃ i j, xs = [.int i, .int j] ∧ Q (.int (if j < i then j else i)) H) := by
  intro ph Ex H S ds vs d Q sr dm hp h q
  unfold min2F at h
  split at h
  · cases h
    obtain ⟨v, w, rfl, hv, hw⟩ := p2 hp
    have e1 := hv.int_
    have e2 := hw.int_
    subst e1 e2
    refine ⟨_, _, rfl, ?_⟩
    rw [if_min]
    exact out_sca sr q rfl
  · cases h
theorem rl_abs : RLok K .e absF (fun xs H Q => ∃ i, xs = [.int i] ∧ Q (.int (if i < 0 then -i else i)) H) := by
  intro ph Ex H S ds vs d Q sr dm hp h q
  unfold absF at h
  split at h
  · cases h
    obtain ⟨v, rfl, hv⟩ := p1 hp
    have e1 := hv.int_
    subst e1
    refine ⟨_, rfl, ?_⟩
    rw [if_abs]
    exact out_sca sr q rfl
  · cases h
theorem rl_tup : RLok K .e tupF (fun xs H Q => ∃ p ys, xs = [.ref p] ∧ ((SqL K H p ys ∧ ∀ l, H l = none → Q (.ref l) (upd H l (.tup ys))) ∨ (SqT K H p ys ∧ Q (.ref p) H))) := by
  intro ph Ex H S ds vs d Q sr dm hp h q
  unfold tupF at h
  split at h
  · cases h
    obtain ⟨v, rfl, hv⟩ := p1 hp
    obtain ⟨a, xs, rfl, h1, n1, r1⟩ := hv.list_
    exact ⟨a, xs, rfl, .inl ⟨SqL.of h1, fun p np => out_tup sr q r1 p np⟩⟩
  · cases h
    obtain ⟨v, rfl, hv⟩ := p1 hp
    obtain ⟨a, xs, e1, h1, r1⟩ := hv.tup_
    subst e1
    exact ⟨a, xs, rfl, .inr ⟨h1, q _ H (Step.refl _ _) sr hv⟩⟩
  · cases h
theorem rl_lst : RLok K .f lstF (fun xs H Q => ∃ p ys, xs = [.ref p] ∧ (SqL K H p ys ∨ SqT K H p ys) ∧ ∀ l, H l = none → Q (.ref l) (upd H l (.lst ys))) := by
  intro ph Ex H S ds vs d Q sr dm hp h q
  unfold lstF at h
  split at h
  · cases h
    obtain ⟨v, rfl, hv⟩ := p1 hp
    obtain ⟨a, xs, rfl, h1, n1, r1⟩ := hv.list_
    exact ⟨a, xs, rfl, .inl (SqL.of h1), fun p np => out_lst sr q r1 p np⟩
  · cases h
    obtain ⟨v, rfl, hv⟩ := p1 hp
    obtain ⟨a, xs, e1, h1, r1⟩ := hv.tup_
    subst e1
    exact ⟨a, xs, rfl, .inr h1, fun p np => out_lst sr q r1 p np⟩
  · cases h
theorem rl_int : RLok K .e intF (fun xs H Q => (∃ i, xs = [.int i] ∧ Q (.int i) H) ∨ ∃ k, xs = [.bl k] ∧ Q (.int (if k then 1 else 0)) H) := by
  intro ph Ex H S ds vs d Q sr dm hp h q
  unfold intF at h
  split at h
  · cases h
    obtain ⟨v, rfl, hv⟩ := p1 hp
    have e1 := hv.int_
    subst e1
    exact .inl ⟨_, rfl, out_sca sr q rfl⟩
  · cases h
    obtain ⟨v, rfl, hv⟩ := p1 hp
    have e1 := hv.bool_
    subst e1
    exact .inr ⟨_, rfl, out_sca sr q rfl⟩
  · cases h
theorem rl_str : RLok K .e strF (fun xs H Q => ∃ i, xs = [.int i] ∧ i.natAbs.log2 < 1920 ∧ Q (.str (toString i)) H) := by
  intro ph Ex H S ds vs d Q sr dm hp h q
  unfold strF at h
  split at h
  · split at h
    · rename_i hz
      cases h
      obtain ⟨v, rfl, hv⟩ := p1 hp
      have e1 := hv.int_
      subst e1
      exact ⟨_, rfl, hz, out_sca sr q rfl⟩
    · cases h
  · cases h
end
section
variable {X : Cx} {ow : Nat → Bool} {a b : Expr} {es : List Expr} {p pos : Pos} {am : AM} {ma : EM}
theorem me_len (hg : Gl X "len") (hm : X.mg "len" = none) (ha : PA X [a] (tAs .p X.K ow am)) (he : starEach [a] X.env = (false, eval a X.env) :: starEach [] X.env := by rfl) (hpl : (backTo pos (starEach [] X.env)).any (·.1) = false := by rfl) :
    PE X (.Call (.Name "len" p) [a] [] pos) (tG .e X.K ow (eBlt lenF am)) := mk_callB call_len rl_len hg hm PySem.boot_len ha (by decide) (by decide) he hpl
theorem me_all (hc : X.calm = true) (hg : Gl X "all") (hm : X.mg "all" = none) (ha : PA X [a] (tAs .p X.K ow am)) (he : starEach [a] X.env = (false, eval a X.env) :: starEach [] X.env := by rfl) (hpl : (backTo pos (starEach [] X.env)).any (·.1) = false := by rfl) :
    PE X (.Call (.Name "all" p) [a] [] pos) (tG .e X.K ow (eBlt allF am)) := mk_callB (cr_all hc) rl_all hg hm (by decide +kernel) ha (by decide) (by decide) he hpl
theorem me_sum (hc : X.calm = true) (hg : Gl X "sum") (hm : X.mg "sum" = none) (ha : PA X [a] (tAs .p X.K ow am)) (he : starEach [a] X.env = (false, eval a X.env) :: starEach [] X.env := by rfl) (hpl : (backTo pos (starEach [] X.env)).any (·.1) = false := by rfl) :
    PE X (.Call (.Name "sum" p) [a] [] pos) (tG .e X.K ow (eBlt sumF am)) := mk_callB (cr_sum hc) rl_sum hg hm (by decide +kernel) ha (by decide) (by decide) he hpl
theorem me_maxL (hc : X.calm = true) (hg : Gl X "max") (hm : X.mg "max" = none) (ha : PA X [a] (tAs .p X.K ow am)) (he : starEach [a] X.env = (false, eval a X.env) :: starEach [] X.env := by rfl) (hpl : (backTo pos (starEach [] X.env)).any (·.1) = false := by rfl) :
    PE X (.Call (.Name "max" p) [a] [] pos) (tG .e X.K ow (eBlt maxLF am)) := mk_callB (cr_max hc) rl_maxL hg hm (by decide +kernel) ha (by decide) (by decide) he hpl
theorem me_minL (hc : X.calm = true) (hg : Gl X "min") (hm : X.mg "min" = none) (ha : PA X [a] (tAs .p X.K ow am)) (he : starEach [a] X.env = (false, eval a X.env) :: starEach [] X.env := by rfl) (hpl : (backTo pos (starEach [] X.env)).any (·.1) = false := by rfl) :
    PE X (.Call (.Name "min" p) [a] [] pos) (tG .e X.K ow (eBlt minLF am)) := mk_callB (cr_min hc) rl_minL hg hm (by decide +kernel) ha (by decide) (by decide) he hpl
theorem me_max2 (hc : X.calm = true) (hg : Gl X "max") (hm : X.mg "max" = none) (ha : PA X [a, b] (tAs .p X.K ow am)) (he : starEach [a, b] X.env = (false, eval a X.env) :: starEach [b] X.env := by rfl) (hpl : (backTo pos (starEach [b] X.env)).any (·.1) = false := by rfl) :
    PE X (.Call (.Name "max" p) [a, b] [] pos) (tG .e X.K ow (eBlt max2F am)) := mk_callB (call_max2 hc) rl_max2 hg hm (by decide +kernel) ha (by decide) (by decide) he hpl
theorem me_min2 (hc : X.calm = true) (hg : Gl X "min") (hm : X.mg "min" = none) (ha : PA X [a, b] (tAs .p X.K ow am)) (he : starEach [a, b] X.env = (false, eval a X.env) :: starEach [b] X.env := by rfl) (hpl : (backTo pos (starEach [b] X.env)).any (·.1) = false := by rfl) :
    PE X (.Call (.Name "min" p) [a, b] [] pos) (tG .e X.K ow (eBlt min2F am)) := mk_callB (call_min2 hc) rl_min2 hg hm (by decide +kernel) ha (by decide) (by decide) he hpl
theorem me_abs (hg : Gl X "abs") (hm : X.mg "abs" = none) (ha : PA X [a] (tAs .p X.K ow am)) (he : starEach [a] X.env = (false, eval a X.env) :: starEach [] X.env := by rfl) (hpl : (backTo pos (starEach [] X.env)).any (·.1) = false := by rfl) :
    PE X (.Call (.Name "abs" p) [a] [] pos) (tG .e X.K ow (eBlt absF am)) := mk_callB call_abs rl_abs hg hm (by decide +kernel) ha (by decide) (by decide) he hpl
theorem me_tuple (hg : Gl X "tuple") (hm : X.mg "tuple" = none) (ha : PA X [a] (tAs .p X.K ow am)) (he : starEach [a] X.env = (false, eval a X.env) :: starEach [] X.env := by rfl) (hpl : (backTo pos (starEach [] X.env)).any (·.1) = false := by rfl) :
    PE X (.Call (.Name "tuple" p) [a] [] pos) (tG .e X.K ow (eBlt tupF am)) := mk_callTy call_tuple_of rl_tup hg hm (by decide +kernel) ha (by decide) (by decide) he hpl
theorem mf_list (hg : Gl X "list") (hm : X.mg "list" = none) (ha : PA X [a] (tAs .p X.K ow am)) (he : starEach [a] X.env = (false, eval a X.env) :: starEach [] X.env := by rfl) (hpl : (backTo pos (starEach [] X.env)).any (·.1) = false := by rfl) :
    PE X (.Call (.Name "list" p) [a] [] pos) (tG .f X.K ow (eBlt lstF am)) := mk_callTy call_list_of rl_lst hg hm (by decide +kernel) ha (by decide) (by decide) he hpl
theorem me_intc (hg : Gl X "int") (hm : X.mg "int" = none) (ha : PA X [a] (tAs .p X.K ow am)) (he : starEach [a] X.env = (false, eval a X.env) :: starEach [] X.env := by rfl) (hpl : (backTo pos (starEach [] X.env)).any (·.1) = false := by rfl) :
    PE X (.Call (.Name "int" p) [a] [] pos) (tG .e X.K ow (eBlt intF am)) := mk_callTy call_int1 rl_int hg hm (by decide +kernel) ha (by decide) (by decide) he hpl
theorem me_strc (hg : Gl X "str") (hm : X.mg "str" = none) (ha : PA X [a] (tAs .p X.K ow am)) (he : starEach [a] X.env = (false, eval a X.env) :: starEach [] X.env := by rfl) (hpl : (backTo pos (starEach [] X.env)).any (·.1) = false := by rfl) :
    PE X (.Call (.Name "str" p) [a] [] pos) (tG .e X.K ow (eBlt strF am)) := mk_callTy call_str_int rl_str hg hm (by decide +kernel) ha (by decide) (by decide) he hpl
end

/-! ### isinstance -/
def tyN : D → String
  | .p .none => "NoneType"
  | .p (.bool _) => "bool"
  | .p (.int _) => "int"
  | .p (.str _) => "str"
  | .p (.list _) => "list"
  | .p (.tuple _) => "tuple"
  | .p (.dict _) => "dict"
  | .ref _ => "list"
  | .scr _ => "list"
def isT (T n : String) : Bool := n == T || (n == "bool" && T == "int")
def kinds : List String := ["NoneType", "bool", "int", "str", "list", "tuple", "dict"]
def asked : List String := ["bool", "int", "str", "list", "tuple"]
theorem kit_all : ∀ T ∈ asked, ∀ n ∈ kinds, kitB n T = some (isT T n) := by decide +kernel
theorem tyN_mem (d : D) : tyN d ∈ kinds := by
  cases d with
  | p d => cases d <;> simp [tyN, kinds]
  | ref n => simp [tyN, kinds]
  | scr n => simp [tyN, kinds]
theorem ty_of {K : PySem.W.Frag} {ph : List Addr} {Ex : Addr → Prop} {H : Hp} {S : Store} {d : D} {v : V} (sr : SRep K ph Ex H S) (h : RepP K ph Ex H d v) : TyX K H v (.type (tyN d)) := by
  cases d with
  | scr ns =>
    obtain ⟨a, e, h1⟩ := h.scr_
    subst e
    rcases h1 with ⟨o, h1⟩ | h1
    · exact .base (.frz h1)
    · rcases h1 (fun _ => none) with h2 | ⟨o, its, n, e1, e2, _⟩
      · rcases h2 with h2 | ⟨_, h2⟩ <;> cases h2
      · exact .kList e1 e2
  | ref n =>
    obtain ⟨a, e1, e2⟩ := h.ref_
    subst e2
    have l := sr.len
    have hn := (List.getElem?_eq_some_iff.mp e1).1
    have k := sr.at_ n a _ e1 (List.getElem?_eq_getElem (by rw [← l]; exact hn))
    revert k
    cases S[n]'(by rw [← l]; exact hn) with
    | lst ds =>
      rintro ⟨xs, h1, _⟩
      exact .base (.lst h1)
  | p d =>
    cases d with
    | none => rw [h.none_]; exact .base .non
    | bool b => rw [h.bool_]; exact .base (.bl b)
    | int b => rw [h.int_]; exact .base (.int b)
    | str b => rw [h.str_]; exact .base (.str b)
    | list b =>
      obtain ⟨a, xs, e, h1, _⟩ := h.list_
      subst e
      exact .base (.lst h1)
    | dict b =>
      obtain ⟨a, xs, e, h1, _⟩ := h.dict_
      subst e
      exact .base (.dK h1)
    | tuple b =>
      obtain ⟨a, xs, e, h1, _⟩ := h.tup_
      subst e
      rcases h1 with (h1 | ⟨o, h1⟩) | ⟨o, its, n, e1, e2, _⟩
      · exact .base (.tup h1)
      · exact .fTuple h1
      · exact .kTuple e1 e2
theorem kit_two {K : PySem.W.Frag} {T U n : String} (hT : T ∈ asked) (hU : U ∈ asked) (hn : n ∈ kinds) : PySem.W.kitAny K (.type n) [.type T, .type U] = some (isT T n || isT U n) := by
  refine kitAny_cons (kit_ty (kit_all T hT n hn)) (fun hb => ?_) (fun hb => by rw [hb]; rfl)
  rw [hb]
  refine kitAny_cons (kit_ty (kit_all U hU n hn)) (fun hc => ?_) (fun hc => by rw [hc]; rfl)
  rw [hc]
  exact kitAny_nil
def eIsi (T : String) (m : EM) : EM := fun ro S => (m ro S).bind fun x S1 => .ok (.bool (isT T (tyN x))) S1
def eIsi2 (T U : String) (m : EM) : EM := fun ro S => (m ro S).bind fun x S1 => .ok (.bool (isT T (tyN x) || isT U (tyN x))) S1
section
variable {X : Cx} {ow : Nat → Bool} {a b : Expr} {es : List Expr} {p p2 p3 pos : Pos} {am : AM} {ma : EM}
theorem me_isi (T : String) {x : Str} (hT : T ∈ asked) (hg : Gl X "isinstance") (hm : X.mg "isinstance" = none) (hgT : Gl X x) (hmT : X.mg x = none) (hvT : bootBuiltins x = some (.type T)) (ha : PE X a (tG .p X.K ow ma)) (hnT : x ≠ "__name__" := by decide) (hdT : (x == ("__debug__" : Str)) = false := by decide)
    (h1 : starEach [a, .Name x p2] X.env = (false, eval a X.env) :: starEach [.Name x p2] X.env := by rfl) (h2 : starEach [.Name x p2] X.env = (false, eval (.Name x p2) X.env) :: starEach [] X.env := by rfl) (hpl : (backTo pos (starEach [.Name x p2] X.env)).any (·.1) = false := by rfl) :
    PE X (.Call (.Name "isinstance" p) [a, .Name x p2] [] pos) (tG .e X.K ow (eIsi T ma)) :=
  PE.imp (pe_callB call_isi hg hm (by decide +kernel) (pa_cons ha (pa_cons (pe_bltn (v := .ty T) hgT hmT hvT rfl hnT hdT) pa_nil h2) h1) (by decide) (by decide) h1 hpl) fun sg H Q ⟨ph, E, O, ro, S, st, d, S', ev, q⟩ => by
    obtain ⟨y, S1, e1, ev⟩ := Res.bind_ok ev
    cases ev
    refine ⟨ph, E, O, ro, S, st, y, _, e1, fun v H1 ph1 t1 r1 z1 => ?_⟩
    exact ⟨v, .ty T, _, .type T, _, rfl, .ty T, ty_of r1 (RR.asP z1), kit_ty (kit_all T hT _ (tyN_mem y)), q _ H1 ph1 t1 r1 (RR.scal rfl (by decide))⟩
theorem me_isi2 (T U : String) {x y : Str} {x1} (hT : T ∈ asked) (hU : U ∈ asked) (hg : Gl X "isinstance") (hm : X.mg "isinstance" = none) (hgT : Gl X x) (hmT : X.mg x = none) (hvT : bootBuiltins x = some (.type T)) (hgU : Gl X y) (hmU : X.mg y = none) (hvU : bootBuiltins y = some (.type U)) (ha : PE X a (tG .p X.K ow ma))
    (hnT : x ≠ "__name__" := by decide) (hdT : (x == ("__debug__" : Str)) = false := by decide) (hnU : y ≠ "__name__" := by decide) (hdU : (y == ("__debug__" : Str)) = false := by decide)
    (h1 : starEach [a, .Tuple [.Name x p2, .Name y p3] x1 pos'] X.env = (false, eval a X.env) :: starEach [.Tuple [.Name x p2, .Name y p3] x1 pos'] X.env := by rfl) (h2 : starEach [.Tuple [.Name x p2, .Name y p3] x1 pos'] X.env = (false, eval (.Tuple [.Name x p2, .Name y p3] x1 pos') X.env) :: starEach [] X.env := by rfl)
    (h3 : starEach [.Name x p2, .Name y p3] X.env = (false, eval (.Name x p2) X.env) :: starEach [.Name y p3] X.env := by rfl) (h4 : starEach [.Name y p3] X.env = (false, eval (.Name y p3) X.env) :: starEach [] X.env := by rfl)
    (hpl : (backTo pos (starEach [.Tuple [.Name x p2, .Name y p3] x1 pos'] X.env)).any (·.1) = false := by rfl) :
    PE X (.Call (.Name "isinstance" p) [a, .Tuple [.Name x p2, .Name y p3] x1 pos'] [] pos) (tG .e X.K ow (eIsi2 T U ma)) :=
  PE.imp (pe_callB call_isiT hg hm (by decide +kernel) (pa_cons ha (pa_cons (pe_tup (pa_cons (pe_bltn (v := .ty T) hgT hmT hvT rfl hnT hdT) (pa_cons (pe_bltn (v := .ty U) hgU hmU hvU rfl hnU hdU) pa_nil h4) h3)) pa_nil h2) h1) (by decide) (by decide) h1 hpl) fun sg H Q ⟨ph, E, O, ro, S, st, d, S', ev, q⟩ => by
    obtain ⟨z, S1, e1, ev⟩ := Res.bind_ok ev
    cases ev
    refine ⟨ph, E, O, ro, S, st, z, _, e1, fun v H1 ph1 t1 r1 z1 => ?_⟩
    refine ⟨by show 2 ≤ sizeLine; rw [sizeLine_eq]; decide, fun tp np => ?_⟩
    have sf : Step ph1 ph1 H1 (upd H1 tp (.tup [.ty T, .ty U])) := Step.fresh np
    have r2 := r1.fresh (o := .tup [.ty T, .ty U]) np
    have tz := ty_of r2 (RepP.step sf (RR.asP z1))
    exact ⟨v, tp, [.ty T, .ty U], _, [.type T, .type U], _, rfl, upd_same, .cons (.ty T) (.cons (.ty U) .nil), tz, kit_two hT hU (tyN_mem z), q _ _ ph1 (t1.trans sf) r2 (RR.scal rfl (by decide))⟩
end
end
end Mi

namespace Mi
open PySem PySem.Spec PyProof.Rows L2
noncomputable section

/-! ### statements -/
inductive Fl where
  | nx (ro : Env)
  | rt (d : D)
  | bk (ro : Env)
  | ct (ro : Env)
abbrev SM := Env → M Fl
/-- what a statement leaves: lists of one's own (O) may be changed -/
structure Go (ph : List Addr) (O : Addr → Prop) (H : Hp) (ph' : List Addr) (O' : Addr → Prop) (H' : Hp) : Prop where
  keep : ∀ a o, H a = some o → a ∉ ph → ¬ O a → (∀ q, o ≠ .tbl q) → H' a = some o
  tup : ∀ a xs, H a = some (.tup xs) → H' a = some (.tup xs)
  frz : ∀ a o u, H a = some (.frz o u) → H' a = some (.frz o u)
  dom : ∀ a, H' a = none → H a = none
  pre : ∃ r, ph' = ph ++ r
  new : ∀ a, a ∈ ph' → a ∈ ph ∨ H a = none
  sub : ∀ a, O a → O' a
  newO : ∀ a, O' a → O a ∨ H a = none
section
variable {K : PySem.W.Frag} {ow : Nat → Bool} {ph ph1 ph2 : List Addr} {E O O1 O2 : Addr → Prop} {H H1 H2 : Hp} {sg : L2.St} {ro : Env} {S S1 : Store}
theorem Go.of (s : Step ph ph1 H H1) : Go ph O H ph1 O H1 := ⟨fun a o h n _ q => s.keep a o h n q, s.tup, s.frz, s.dom, s.pre, s.new, fun _ h => h, fun _ h => .inl h⟩
theorem Go.refl : Go ph O H ph O H := Go.of (Step.refl _ _)
theorem Go.trans (s : Go ph O H ph1 O1 H1) (t : Go ph1 O1 H1 ph2 O2 H2) : Go ph O H ph2 O2 H2 := by
  refine ⟨fun a o h n m q => ?_, fun a xs h => t.tup a xs (s.tup a xs h), fun a o u h => t.frz a o u (s.frz a o u h), fun a h => s.dom a (t.dom a h), ?_, fun a h => ?_, fun a h => t.sub a (s.sub a h), fun a h => ?_⟩
  · refine t.keep a o (s.keep a o h n m q) (fun z => ?_) (fun z => ?_) q
    · rcases s.new a z with k | k
      · exact n k
      · rw [h] at k; cases k
    · rcases s.newO a z with k | k
      · exact m k
      · rw [h] at k; cases k
  · obtain ⟨r, e⟩ := s.pre
    obtain ⟨r', e'⟩ := t.pre
    exact ⟨r ++ r', by rw [e', e, List.append_assoc]⟩
  · rcases t.new a h with k | k
    · exact s.new a k
    · exact .inr (s.dom a k)
  · rcases t.newO a h with k | k
    · exact s.newO a k
    · exact .inr (s.dom a k)
theorem Go.step (s : Go ph (fun _ => False) H ph1 O1 H1) : Step ph ph1 H H1 := ⟨fun a o h n q => s.keep a o h n (fun z => z) q, s.tup, s.frz, s.dom, s.pre, s.new⟩
/-- the end of a def -/
def RT (k : Kd) (K : PySem.W.Frag) (ph : List Addr) (E O : Addr → Prop) (H0 H : Hp) (S : Store) : D → V → Prop := RR k K ph E (fun a => H0 a = none ∨ O a) H S
theorem RT.back {k : Kd} {d : D} {v : V} (g : Go ph O H ph1 O1 H1) (h : RT k K ph2 E O1 H1 H2 S d v) : RT k K ph2 E O H H2 S d v := RR.back h fun a q => by
  rcases q with q | q
  · exact .inl (g.dom a q)
  · exact (g.newO a q).symm
end
/-- what is wanted behind a result -/
def Aft (k : Kd) (K : PySem.W.Frag) (ow : Nat → Bool) (ph : List Addr) (E O : Addr → Prop) (H : Hp) (D : Ends) : Res Fl → Prop
  | .ok (.nx ro') S' => ∀ sg' H' ph' O', Go ph O H ph' O' H' → Sta K ow ph' E O' sg' H' ro' S' → D.nx sg' H'
  | .ok (.bk ro') S' => ∀ sg' H' ph' O', Go ph O H ph' O' H' → Sta K ow ph' E O' sg' H' ro' S' → D.bk sg' H'
  | .ok (.ct ro') S' => ∀ sg' H' ph' O', Go ph O H ph' O' H' → Sta K ow ph' E O' sg' H' ro' S' → D.ct sg' H'
  | .ok (.rt d) S' => ∀ v H' ph' O', Go ph O H ph' O' H' → SRep K ph' E H' S' → RT k K ph' E O H H' S' d v → D.rt v H'
  | .bad => False
  | .exn _ _ => False
/-- a statement's meaning, as the layer reads it; k: what is returned -/
def tS (k : Kd) (K : PySem.W.Frag) (ow : Nat → Bool) (m : SM) : TS := fun D sg H => ∃ (ph : List Addr) (E O : Addr → Prop) (ro : Env) (S : Store), Sta K ow ph E O sg H ro S ∧ Aft k K ow ph E O H D (m ro S)
theorem Aft.back {k : Kd} {K : PySem.W.Frag} {ow : Nat → Bool} {ph ph1 : List Addr} {E O O1 : Addr → Prop} {H H1 : Hp} {D : Ends} {r : Res Fl} (g : Go ph O H ph1 O1 H1) (h : Aft k K ow ph E O H D r) : Aft k K ow ph1 E O1 H1 D r := by
  cases r with
  | bad => exact h
  | exn x S => exact h
  | ok f S =>
    cases f with
    | nx ro => exact fun sg2 H2 ph2 O2 g2 s2 => h sg2 H2 ph2 O2 (g.trans g2) s2
    | bk ro => exact fun sg2 H2 ph2 O2 g2 s2 => h sg2 H2 ph2 O2 (g.trans g2) s2
    | ct ro => exact fun sg2 H2 ph2 O2 g2 s2 => h sg2 H2 ph2 O2 (g.trans g2) s2
    | rt d => exact fun v H2 ph2 O2 g2 r2 z => h v H2 ph2 O2 (g.trans g2) r2 (RT.back g z)
section
variable {K : PySem.W.Frag} {ow : Nat → Bool} {ph ph1 : List Addr} {E O O1 : Addr → Prop} {H H1 : Hp} {sg : L2.St} {ro : Env} {S S1 : Store} {i : Nat} {d : D} {v : V}
theorem Sta.set (s : Sta K ow ph E O sg H ro S) (hi : ow i = false) (r : RepD K ph (EO E O) H d v) : Sta K ow ph E O (sg.set i (some v)) H (ro.set i (some d)) S := by
  refine ⟨s.domE, s.domO, s.dis, s.sto, by simp [s.len], fun j e hj q => ?_, fun j e hj q => ?_, fun j l e f a hj hl q1 q2 q3 q4 => ?_⟩
  · by_cases z : j = i
    · subst z
      have hl : j < ro.length := by
        have := (List.getElem?_eq_some_iff.mp q).1
        simpa using this
      rw [List.getElem?_set_self hl] at q
      cases q
      exact ⟨v, List.getElem?_set_self (by rw [← s.len]; exact hl), r⟩
    · rw [List.getElem?_set_ne (Ne.symm z)] at q
      rw [List.getElem?_set_ne (Ne.symm z)]
      exact s.slot j e hj q
  · have z : j ≠ i := fun z => by rw [z, hi] at hj; cases hj
    rw [List.getElem?_set_ne (Ne.symm z)] at q
    rw [List.getElem?_set_ne (Ne.symm z)]
    exact s.own j e hj q
  · have z1 : j ≠ i := fun z => by rw [z, hi] at hj; cases hj
    have z2 : l ≠ i := fun z => by rw [z, hi] at hl; cases hl
    rw [List.getElem?_set_ne (Ne.symm z1)] at q1 q3
    rw [List.getElem?_set_ne (Ne.symm z2)] at q2 q4
    exact s.apart j l e f a hj hl q1 q2 q3 q4
/-- more is one's own -/
theorem Sta.more {a : Addr} (s : Sta K ow ph E O sg H ro S) (n : H a = none) (t : Step ph ph1 H H1) (h1 : H1 a ≠ none) (r : SRep K ph1 (fun b => EO E O b ∨ b = a) H1 S1) : Sta K ow ph1 E (fun b => O b ∨ b = a) sg H1 ro S1 := by
  have mo : ∀ b, EO E (fun b => O b ∨ b = a) b → EO E O b ∨ H b = none := fun b h => by
    rcases h with h | h | h
    · exact .inl (.inl h)
    · exact .inl (.inr h)
    · exact .inr (by rw [h]; exact n)
  have le : ∀ b, EO E (fun b => O b ∨ b = a) b → (EO E O b ∨ b = a) ∨ H1 b = none := fun b h => by
    rcases h with h | h | h
    · exact .inl (.inl (.inl h))
    · exact .inl (.inl (.inr h))
    · exact .inl (.inr h)
  refine ⟨fun b h z => s.domE b h (t.dom b z), fun b h z => ?_, fun b h z => ?_, r.ex le, s.len, fun j e hj q => ?_, fun j e hj q => ?_, s.apart⟩
  · rcases h with h | h
    · exact s.domO b h (t.dom b z)
    · rw [h] at z; exact h1 z
  · rcases h with h | h
    · exact s.dis b h z
    · rw [h] at z; exact s.domE a z n
  · obtain ⟨w, q1, q2⟩ := s.slot j e hj q
    exact ⟨w, q1, (q2.ex mo).step t⟩
  · obtain ⟨w, q1, q2, q3, q4⟩ := s.own j e hj q
    refine ⟨w, q1, .inl q2, q3, RepP.step t ?_⟩
    cases e with
    | ref _ => exact q3.elim
    | scr _ => exact q3.elim
    | p e =>
      cases e with
      | list es =>
        obtain ⟨b, xs, w1, w2, w3, w4⟩ := (show RepP K ph (EO E O) H (.p (.list es)) (.ref w) from q4).list_
        exact ⟨b, xs, w1, w2, w3, w4.ex mo⟩
      | dict es =>
        obtain ⟨b, xs, w1, w2, w3, w4⟩ := (show RepP K ph (EO E O) H (.p (.dict es)) (.ref w) from q4).dict_
        exact ⟨b, xs, w1, w2, w3, w4.ex mo⟩
      | _ => exact q3.elim
theorem Sta.oset {ds : List PyData} {a : Addr} {xs : List V} (s : Sta K ow ph E O sg H ro S) (hi : ow i = true) (oa : O a) (ha : H a = some (.lst xs)) (na : a ∉ ph) (r : RepAll K H (okx ph (EO E O)) ds xs)
    (fr : ∀ (j : Nat) (e : D), ow j = true → j ≠ i → ro[j]? = some (some e) → sg[j]? ≠ some (some (.ref a))) : Sta K ow ph E O (sg.set i (some (.ref a))) H (ro.set i (some (.p (.list ds)))) S := by
  have lt : ∀ (j : Nat) (e : D) (f : Option D), j = i → (ro.set i f)[j]? = some (some e) → i < ro.length := fun j e f z q => by
    have := (List.getElem?_eq_some_iff.mp q).1
    rw [z] at this
    simpa using this
  refine ⟨s.domE, s.domO, s.dis, s.sto, by simp [s.len], fun j e hj q => ?_, fun j e hj q => ?_, fun j l e f b hj hl q1 q2 q3 q4 => ?_⟩
  · have z : j ≠ i := fun z => by rw [z, hi] at hj; cases hj
    rw [List.getElem?_set_ne (Ne.symm z)] at q
    rw [List.getElem?_set_ne (Ne.symm z)]
    exact s.slot j e hj q
  · by_cases z : j = i
    · have hl := lt j e _ z q
      subst z
      rw [List.getElem?_set_self hl] at q
      cases q
      exact ⟨a, List.getElem?_set_self (by rw [← s.len]; exact hl), oa, trivial, a, xs, rfl, ha, na, r⟩
    · rw [List.getElem?_set_ne (Ne.symm z)] at q
      rw [List.getElem?_set_ne (Ne.symm z)]
      exact s.own j e hj q
  · by_cases z1 : j = i
    · by_cases z2 : l = i
      · rw [z1, z2]
      · have hl := lt j e _ z1 q1
        subst z1
        rw [List.getElem?_set_self (by rw [← s.len]; exact hl)] at q3
        cases q3
        rw [List.getElem?_set_ne (Ne.symm z2)] at q2 q4
        exact absurd q4 (fr l f (by assumption) z2 q2)
    · by_cases z2 : l = i
      · have hl := lt l f _ z2 q2
        subst z2
        rw [List.getElem?_set_self (by rw [← s.len]; exact hl)] at q4
        cases q4
        rw [List.getElem?_set_ne (Ne.symm z1)] at q1 q3
        exact absurd q3 (fr j e hj z1 q1)
      · rw [List.getElem?_set_ne (Ne.symm z1)] at q1 q3
        rw [List.getElem?_set_ne (Ne.symm z2)] at q2 q4
        exact s.apart j l e f b hj hl q1 q2 q3 q4
end

/-! ### the rules -/
section
variable {X : Cx} {ow : Nat → Bool} {kr k : Kd} {st st2 : Stmt} {sts : List Stmt} {e a b : Expr} {pos pos' : Pos} {m m1 m2 : SM} {ma mb : EM} {tc : TM} {i j : Nat} {x y : Str}
theorem PS.imp {t t' : TS} (h : PS X st t) (q : ∀ D sg H, t' D sg H → t D sg H) : PS X st t' := ⟨fun pins s sg H D I hw => h.run pins s sg H D I (q D sg H hw)⟩
theorem PSs.imp {t t' : TS} (h : PSs X sts t) (q : ∀ D sg H, t' D sg H → t D sg H) : PSs X sts t' := ⟨fun pins s sg H D I hw => h.run pins s sg H D I (q D sg H hw)⟩
def sNil : SM := fun ro S => .ok (.nx ro) S
def sSeq (m1 m2 : SM) : SM := fun ro S => (m1 ro S).bind fun f S1 => match f with
  | .nx ro1 => m2 ro1 S1
  | g => .ok g S1
theorem ms_nil : PSs X [] (tS kr X.K ow sNil) := PSs.imp pss_nil fun D sg H ⟨ph, E, O, ro, S, sta, q⟩ => q sg H ph O Go.refl sta
theorem ms_cons (h1 : PS X st (tS kr X.K ow m1)) (h2 : PSs X sts (tS kr X.K ow m2)) : PSs X (st :: sts) (tS kr X.K ow (sSeq m1 m2)) :=
  PSs.imp (pss_cons h1 h2) fun D sg H ⟨ph, E, O, ro, S, sta, q⟩ => by
    refine ⟨ph, E, O, ro, S, sta, ?_⟩
    unfold sSeq at q
    revert q
    cases m1 ro S with
    | bad => exact fun q => q
    | exn x S1 => exact fun q => q
    | ok f S1 =>
      cases f with
      | rt d => exact fun q => q
      | bk r => exact fun q => q
      | ct r => exact fun q => q
      | nx ro1 => exact fun q sg1 H1 ph1 O1 g1 s1 => ⟨ph1, E, O1, ro1, S1, s1, Aft.back g1 q⟩
theorem ms_one (h1 : PS X st (tS kr X.K ow m1)) : PSs X [st] (tS kr X.K ow m1) := pss_one h1
theorem ms_never : PS X st (tS kr X.K ow fun _ _ => .bad) := PS.imp ps_never fun D sg H ⟨ph, E, O, ro, S, sta, q⟩ => q
theorem mss_never : PSs X sts (tS kr X.K ow fun _ _ => .bad) := PSs.imp pss_never fun D sg H ⟨ph, E, O, ro, S, sta, q⟩ => q
/-- what follows an expression -/
theorem bind_e {kr k : Kd} {K : PySem.W.Frag} {g : D → Store → Env → Res Fl} {D : Ends} {sg : L2.St} {H : Hp} {Q : VK} (h : tS kr K ow (fun ro S => (ma ro S).bind fun d S1 => g d S1 ro) D sg H)
    (q : ∀ (ph ph1 : List Addr) (E O : Addr → Prop) (ro : Env) (S S1 : Store) (d : Mi.D) (v : V) (H1 : Hp), Sta K ow ph E O sg H ro S → Step ph ph1 H H1 → SRep K ph1 (EO E O) H1 S1 → RR k K ph1 (EO E O) (Fre H) H1 S1 d v → Aft kr K ow ph E O H D (g d S1 ro) → Q v H1) : tG k K ow ma sg H Q := by
  obtain ⟨ph, E, O, ro, S, sta, h⟩ := h
  cases e : ma ro S with
  | bad => simp only [e, Res.bind, Aft] at h
  | exn x S1 => simp only [e, Res.bind, Aft] at h
  | ok d S1 =>
    simp only [e, Res.bind] at h
    exact ⟨ph, E, O, ro, S, sta, d, S1, e, fun v H1 ph1 t1 r1 z1 => q ph ph1 E O ro S S1 d v H1 sta t1 r1 z1 h⟩
def sSet (i : Nat) (m : EM) : SM := fun ro S => (m ro S).bind fun d S1 => .ok (.nx (ro.set i (some d))) S1
theorem ms_set (hN : X.N.Nodup) (hi : X.N[i]? = some x) (hx : Loc X.env.scope x) (he : PE X e (tG .e X.K ow ma)) (ho : ow i = false := by rfl) (hs : swapsWith e (some (.Name x pos')) pos.line X.env = pure false := by rfl)
    (hf : X.fn x = true ∨ X.env.scope.names.lookup x = some .local := by first | exact .inl rfl | exact .inr rfl) : PS X (.Assign [.Name x pos'] e pos) (tS kr X.K ow (sSet i ma)) :=
  PS.imp (ps_set hN hi hx he hs hf) fun D sg H h => bind_e h fun ph ph1 E O ro S S1 d v H1 sta t1 r1 z1 q => q _ H1 ph1 O (Go.of t1) ((sta.step t1 r1).set ho z1)
theorem oset_go {K : PySem.W.Frag} {D : Ends} {sg : L2.St} {H : Hp} (hi : ow i = true) (h : tS kr K ow (sSet i ma) D sg H) : tG .f K ow ma sg H fun v H1 => D.nx (sg.set i (some v)) H1 :=
  bind_e h fun ph ph1 E O ro S S1 d v H1 sta t1 r1 z1 q => by
    obtain ⟨p, ds, xs, e1, e2, h3, h4, h5, h6, h7⟩ := z1
    subst e1 e2
    have s1 := sta.more h3 t1 (by rw [h4]; exact fun z => by cases z) h7
    refine q _ H1 ph1 _ ⟨fun a o k1 k2 k3 k4 => t1.keep a o k1 k2 k4, t1.tup, t1.frz, t1.dom, t1.pre, t1.new, fun a k1 => .inl k1, fun a k1 => k1.imp id fun k2 => by rw [k2]; exact h3⟩
      (s1.oset hi (.inr rfl) h4 h5 (h6.ex fun b k1 => ?_) fun j e hj hn k1 k2 => ?_)
    · rcases k1 with k1 | k1 | k1
      · exact .inl (.inl (.inl k1))
      · exact .inl (.inl (.inr k1))
      · exact .inl (.inr k1)
    · obtain ⟨b, k3, k4, _⟩ := sta.own j e hj k1
      rw [k2] at k3
      cases k3
      exact sta.domO _ k4 h3
theorem ms_oset (hN : X.N.Nodup) (hi : X.N[i]? = some x) (hx : Loc X.env.scope x) (he : PE X e (tG .f X.K ow ma)) (ho : ow i = true := by rfl) (hs : swapsWith e (some (.Name x pos')) pos.line X.env = pure false := by rfl)
    (hf : X.fn x = true ∨ X.env.scope.names.lookup x = some .local := by first | exact .inl rfl | exact .inr rfl) : PS X (.Assign [.Name x pos'] e pos) (tS kr X.K ow (sSet i ma)) :=
  PS.imp (ps_set hN hi hx he hs hf) fun D sg H h => oset_go ho h
def sDrop (m : EM) : SM := fun ro S => (m ro S).bind fun _ S1 => .ok (.nx ro) S1
theorem ms_drop (he : PE X e (tG .p X.K ow ma)) (hs : swapsWith e none pos.line X.env = pure false := by rfl) : PS X (.Expr e pos) (tS kr X.K ow (sDrop ma)) :=
  PS.imp (ps_expr he hs) fun D sg H h => bind_e h fun ph ph1 E O ro S S1 d v H1 sta t1 r1 z1 q => q _ H1 ph1 O (Go.of t1) (sta.step t1 r1)
def sRet (m : EM) : SM := fun ro S => (m ro S).bind fun d S1 => .ok (.rt d) S1
theorem EO_less {E O : Addr → Prop} {H : Hp} : ∀ a, E a → EO E O a ∨ H a = none := fun a h => .inl (.inl h)
theorem ms_ret (he : PE X e (tG .e X.K ow ma)) : PS X (.Return (some e) pos) (tS .e X.K ow (sRet ma)) :=
  PS.imp (ps_ret he) fun D sg H h => bind_e h fun ph ph1 E O ro S S1 d v H1 sta t1 r1 z1 q => q v H1 ph1 O (Go.of t1) (r1.ex EO_less) (RepD.ex EO_less z1)
theorem ms_retF (he : PE X e (tG .f X.K ow ma)) : PS X (.Return (some e) pos) (tS .f X.K ow (sRet ma)) :=
  PS.imp (ps_ret he) fun D sg H h => bind_e h fun ph ph1 E O ro S S1 d v H1 sta t1 r1 z1 q => by
    obtain ⟨p, ds, xs, e1, e2, h3, h4, h5, h6, h7⟩ := z1
    have le : ∀ a, (E a ∨ a = p) → (EO E O a ∨ a = p) ∨ H1 a = none := fun a k => k.elim (fun k => .inl (.inl (.inl k))) fun k => .inl (.inr k)
    exact q v H1 ph1 O (Go.of t1) (r1.ex EO_less) ⟨p, ds, xs, e1, e2, .inl h3, h4, h5, h6.ex le, h7.ex le⟩
end
end
end Mi

namespace Mi
open PySem PySem.Spec PyProof.Rows L2
noncomputable section

/-! ### if, while -/
section
variable {X : Cx} {ow : Nat → Bool} {kr k : Kd} {st st2 : Stmt} {sts sts2 : List Stmt} {e a b c : Expr} {pos pos' : Pos} {m m1 m2 : SM} {ma mb : EM} {tc : TM} {i j : Nat} {x y : Str}
def sIf (c : TM) (m1 m2 : SM) : SM := fun ro S => (c ro S).bind fun b S1 => if b = true then m1 ro S1 else m2 ro S1
theorem bind_t {K : PySem.W.Frag} {g : Bool → Store → Env → Res Fl} {D : Ends} {sg : L2.St} {H : Hp} {Q : Bool → Hp → Prop} (h : tS kr K ow (fun ro S => (tc ro S).bind fun d S1 => g d S1 ro) D sg H)
    (q : ∀ (ph ph1 : List Addr) (E O : Addr → Prop) (ro : Env) (S S1 : Store) (b : Bool) (H1 : Hp), Sta K ow ph E O sg H ro S → Step ph ph1 H H1 → Sta K ow ph1 E O sg H1 ro S1 → Aft kr K ow ph1 E O H1 D (g b S1 ro) → Q b H1) : tT K ow tc sg H Q := by
  obtain ⟨ph, E, O, ro, S, sta, h⟩ := h
  cases e : tc ro S with
  | bad => simp only [e, Res.bind, Aft] at h
  | exn x S1 => simp only [e, Res.bind, Aft] at h
  | ok d S1 =>
    simp only [e, Res.bind] at h
    exact ⟨ph, E, O, ro, S, sta, d, S1, e, fun H1 ph1 t1 r1 => q ph ph1 E O ro S S1 d H1 sta t1 (sta.step t1 r1) (Aft.back (Go.of t1) h)⟩
theorem ms_if (hc : PT X c (tT X.K ow tc)) (h1 : PSs X sts (tS kr X.K ow m1)) (h2 : PSs X sts2 (tS kr X.K ow m2)) : PS X (.If c sts sts2 pos) (tS kr X.K ow (sIf tc m1 m2)) :=
  PS.imp (ps_if hc h1 h2) fun D sg H h => bind_t h fun ph ph1 E O ro S S1 b H1 sta t1 s1 q => by
    cases b with
    | true =>
      rw [if_pos rfl] at q ⊢
      exact ⟨ph1, E, O, ro, S1, s1, q⟩
    | false =>
      rw [if_neg Bool.false_ne_true] at q ⊢
      exact ⟨ph1, E, O, ro, S1, s1, q⟩
theorem ms_pass : PS X (.Pass pos) (tS kr X.K ow sNil) := PS.imp ps_pass fun D sg H ⟨ph, E, O, ro, S, sta, q⟩ => q sg H ph O Go.refl sta
def sBrk : SM := fun ro S => .ok (.bk ro) S
def sCnt : SM := fun ro S => .ok (.ct ro) S
theorem ms_break : PS X (.Break pos) (tS kr X.K ow sBrk) := PS.imp ps_break fun D sg H ⟨ph, E, O, ro, S, sta, q⟩ => q sg H ph O Go.refl sta
theorem ms_continue : PS X (.Continue pos) (tS kr X.K ow sCnt) := PS.imp ps_continue fun D sg H ⟨ph, E, O, ro, S, sta, q⟩ => q sg H ph O Go.refl sta
/-- at most n turns -/
def whl (c : TM) (m : SM) : Nat → SM
  | 0 => fun _ _ => .bad
  | n + 1 => fun ro S => (c ro S).bind fun b S1 => if b = true then (m ro S1).bind fun f S2 => (match f with
      | .nx r => whl c m n r S2
      | .ct r => whl c m n r S2
      | .bk r => .ok (.nx r) S2
      | .rt d => .ok (.rt d) S2) else .ok (.nx ro) S1
/-- the turns that it takes -/
def sWhile (c : TM) (m : SM) : SM := fun ro S => open Classical in if h : ∃ n f S', whl c m n ro S = .ok f S' then whl c m h.choose ro S else .bad
theorem whl_more {c : TM} {m : SM} : ∀ {n : Nat} {ro : Env} {S S' : Store} {f : Fl}, whl c m n ro S = .ok f S' → ∀ k, whl c m (n + k) ro S = .ok f S'
  | 0, _, _, _, _, h, _ => by cases h
  | n + 1, ro, S, S', f, h, k => by
    rw [Nat.add_right_comm]
    unfold whl at h ⊢
    cases e : c ro S with
    | bad => rw [e] at h; cases h
    | exn x S1 => rw [e] at h; cases h
    | ok b S1 =>
      rw [e] at h
      simp only [Res.bind] at h ⊢
      cases b with
      | false => exact h
      | true =>
        rw [if_pos rfl] at h ⊢
        cases e2 : m ro S1 with
        | bad => rw [e2] at h; cases h
        | exn x S1 => rw [e2] at h; cases h
        | ok g S2 =>
          rw [e2] at h
          cases g with
          | nx r => exact whl_more (n := n) h k
          | ct r => exact whl_more (n := n) h k
          | bk r => exact h
          | rt d => exact h
theorem sWhile_of {c : TM} {m : SM} {n : Nat} {ro : Env} {S S' : Store} {f : Fl} (h : whl c m n ro S = .ok f S') : sWhile c m ro S = .ok f S' := by
  unfold sWhile
  have hx : ∃ n f S', whl c m n ro S = .ok f S' := ⟨n, f, S', h⟩
  rw [dif_pos hx]
  obtain ⟨f2, S2, h2⟩ := hx.choose_spec
  have h3 := whl_more h2 n
  have h4 := whl_more h hx.choose
  rw [Nat.add_comm] at h4
  rw [h3] at h4
  rw [h2]
  exact h4
theorem sWhile_ok {c : TM} {m : SM} {ro : Env} {S S' : Store} {f : Fl} (h : sWhile c m ro S = .ok f S') : ∃ n, whl c m n ro S = .ok f S' := by
  unfold sWhile at h
  split at h
  · exact ⟨_, h⟩
  · cases h
/-- one turn -/
theorem sWhile_turn (c : TM) (m : SM) (ro : Env) (S : Store) {f : Fl} {S' : Store}
    (h : ((c ro S).bind fun b S1 => if b = true then (m ro S1).bind fun f S2 => (match f with
      | .nx r => sWhile c m r S2
      | .ct r => sWhile c m r S2
      | .bk r => .ok (.nx r) S2
      | .rt d => .ok (.rt d) S2) else .ok (.nx ro) S1) = .ok f S') : sWhile c m ro S = .ok f S' := by
  obtain ⟨b, S1, e1, h⟩ := Res.bind_ok h
  cases b with
  | false =>
    rw [if_neg Bool.false_ne_true] at h
    refine sWhile_of (n := 1) ?_
    unfold whl
    rw [e1]
    exact h
  | true =>
    rw [if_pos rfl] at h
    obtain ⟨g, S2, e2, h⟩ := Res.bind_ok h
    have go : ∀ r, sWhile c m r S2 = .ok f S' → (∀ n, whl c m n r S2 = .ok f S' → whl c m (n + 1) ro S = .ok f S') → sWhile c m ro S = .ok f S' := fun r h1 h2 => by
      obtain ⟨n, hn⟩ := sWhile_ok h1
      exact sWhile_of (h2 n hn)
    cases g with
    | nx r =>
      refine go r h fun n hn => ?_
      unfold whl
      simp only [e1, Res.bind, ↓reduceIte, e2]
      exact hn
    | ct r =>
      refine go r h fun n hn => ?_
      unfold whl
      simp only [e1, Res.bind, ↓reduceIte, e2]
      exact hn
    | bk r =>
      refine sWhile_of (n := 1) ?_
      unfold whl
      simp only [e1, Res.bind, ↓reduceIte, e2]
      exact h
    | rt d =>
      refine sWhile_of (n := 1) ?_
      unfold whl
      simp only [e1, Res.bind, ↓reduceIte, e2]
      exact h
theorem ms_while (hp : PassesOwn (model X.prog X.w) X.A X.env X.xe) (hc : PT X c (tT X.K ow tc)) (hb : PSs X sts (tS kr X.K ow m)) : PS X (.While c sts [] pos) (tS kr X.K ow (sWhile tc m)) :=
  PS.imp (ps_while hp hc hb) fun D sg H ⟨ph, E, O, ro, S, sta, q⟩ => by
    cases ew : sWhile tc m ro S with
    | bad => rw [ew] at q; exact q.elim
    | exn x S1 => rw [ew] at q; exact q.elim
    | ok f S' =>
    rw [ew] at q
    obtain ⟨n, hn⟩ := sWhile_ok ew
    refine ⟨fun n sg H => ∃ ph O ro S, Sta X.K ow ph E O sg H ro S ∧ whl tc m n ro S = .ok f S' ∧ Aft kr X.K ow ph E O H D (.ok f S'), ⟨n, ph, O, ro, S, sta, hn, q⟩, ?_⟩
    rintro n sg H ⟨ph, O, ro, S, sta, hn, q⟩
    cases n with
    | zero => cases hn
    | succ n =>
      unfold whl at hn
      obtain ⟨b, S1, e1, hn⟩ := Res.bind_ok hn
      refine tT_bind sta e1 fun H1 ph1 t1 r1 s1 => ?_
      have q1 := Aft.back (Go.of t1) q
      cases b with
      | false =>
        rw [if_neg Bool.false_ne_true] at hn ⊢
        cases hn
        exact q1 sg H1 ph1 O Go.refl s1
      | true =>
        rw [if_pos rfl] at hn ⊢
        obtain ⟨g, S2, e2, hn⟩ := Res.bind_ok hn
        refine ⟨fun sg H => ∃ ph O ro S, Sta X.K ow ph E O sg H ro S ∧ whl tc m n ro S = .ok f S' ∧ Aft kr X.K ow ph E O H D (.ok f S'), fun sg H h => ⟨n, Nat.lt_succ_self n, h⟩, ph1, E, O, ro, S1, s1, ?_⟩
        rw [e2]
        cases g with
        | nx r => exact fun sg2 H2 ph2 O2 g2 s2 => ⟨ph2, O2, r, S2, s2, hn, Aft.back g2 q1⟩
        | ct r => exact fun sg2 H2 ph2 O2 g2 s2 => ⟨ph2, O2, r, S2, s2, hn, Aft.back g2 q1⟩
        | bk r => cases hn; exact fun sg2 H2 ph2 O2 g2 s2 => q1 sg2 H2 ph2 O2 g2 s2
        | rt d => cases hn; exact fun v H2 ph2 O2 g2 r2 z2 => q1 v H2 ph2 O2 g2 r2 z2
end

/-! ### targets -/
inductive Pt where
  | nm (i : Nat)
  | tp (ps : List Pt)
mutual
def bindP : Pt → D → Env → Option Env
  | .nm i, d, ro => some (ro.set i (some d))
  | .tp ps, .p (.tuple ds), ro => bindPs ps ds ro
  | .tp _, _, _ => none
def bindPs : List Pt → List PyData → Env → Option Env
  | [], [], ro => some ro
  | p :: ps, d :: ds, ro => (bindP p (.p d) ro).bind fun ro1 => bindPs ps ds ro1
  | _, _, _ => none
end
mutual
def Pt.slots : Pt → List Nat
  | .nm i => [i]
  | .tp ps => slotsAll ps
def slotsAll : List Pt → List Nat
  | [] => []
  | p :: ps => p.slots ++ slotsAll ps
end
/-- the slots but these are as they were -/
def But (is : List Nat) (sg sg' : L2.St) : Prop := sg'.length = sg.length ∧ ∀ j, j ∉ is → sg'[j]? = sg[j]?
theorem But.refl {is : List Nat} {sg : L2.St} : But is sg sg := ⟨rfl, fun _ _ => rfl⟩
theorem But.trans {is js : List Nat} {a b c : L2.St} (h : But is a b) (g : But js b c) : But (is ++ js) a c :=
  ⟨g.1.trans h.1, fun j hj => (g.2 j fun z => hj (List.mem_append_right _ z)).trans (h.2 j fun z => hj (List.mem_append_left _ z))⟩
def tPt (K : PySem.W.Frag) (ow : Nat → Bool) (p : Pt) : TG := fun v sg H Q => ∃ (ph : List Addr) (E O : Addr → Prop) (ro : Env) (S : Store) (d : D), Sta K ow ph E O sg H ro S ∧ RepD K ph (EO E O) H d v ∧
  ∃ ro', bindP p d ro = some ro' ∧ ∀ sg', But p.slots sg sg' → Sta K ow ph E O sg' H ro' S → Q sg' H
def tPts (K : PySem.W.Frag) (ow : Nat → Bool) (ps : List Pt) : TGs := fun vs sg H Q => ∃ (ph : List Addr) (E O : Addr → Prop) (ro : Env) (S : Store) (ds : List PyData), Sta K ow ph E O sg H ro S ∧ RepAll K H (okx ph (EO E O)) ds vs ∧
  ∃ ro', bindPs ps ds ro = some ro' ∧ ∀ sg', But (slotsAll ps) sg sg' → Sta K ow ph E O sg' H ro' S → Q sg' H
section
variable {X : Cx} {ow : Nat → Bool} {e : Expr} {es : List Expr} {pos : Pos} {i : Nat} {x : Str} {p : Pt} {ps : List Pt}
theorem PG.imp {t t' : TG} (h : PG X e t) (q : ∀ v sg H Q, t' v sg H Q → t v sg H Q) : PG X e t' := ⟨fun pins s sg H v u Q I r hw => h.run pins s sg H v u Q I r (q v sg H Q hw)⟩
theorem PGs.imp {t t' : TGs} (h : PGs X es t) (q : ∀ v sg H Q, t' v sg H Q → t v sg H Q) : PGs X es t' := ⟨fun pins s sg H v u Q I r hw => h.run pins s sg H v u Q I r (q v sg H Q hw)⟩
theorem mg_nm (hN : X.N.Nodup) (hi : X.N[i]? = some x) (hx : Loc X.env.scope x) (ho : ow i = false := by rfl) (hf : X.fn x = true ∨ X.env.scope.names.lookup x = some .local := by first | exact .inl rfl | exact .inr rfl) : PG X (.Name x pos) (tPt X.K ow (.nm i)) :=
  PG.imp (pg_name hN hi hx hf) fun v sg H Q ⟨ph, E, O, ro, S, d, sta, r, ro', e, q⟩ => by
    simp only [bindP] at e
    cases e
    refine q _ ⟨by simp, fun j hj => ?_⟩ (sta.set ho r)
    rw [List.getElem?_set_ne (fun z => hj (by simp [Pt.slots, z]))]
theorem mgs_nil : PGs X [] (tPts X.K ow []) := PGs.imp pgs_nil fun vs sg H Q ⟨ph, E, O, ro, S, ds, sta, r, ro', e, q⟩ => by
  cases ds with
  | nil =>
    simp only [bindPs] at e
    cases e
    simp only [RepAll] at r
    exact ⟨r, q sg But.refl sta⟩
  | cons d ds => simp [bindPs] at e
theorem mgs_cons (h1 : PG X e (tPt X.K ow p)) (h2 : PGs X es (tPts X.K ow ps)) (hs : (assignEach (e :: es) X.env).map (·.2) = assign e X.env :: (assignEach es X.env).map (·.2) := by rfl) : PGs X (e :: es) (tPts X.K ow (p :: ps)) :=
  PGs.imp (pgs_cons h1 h2 hs) fun vs sg H Q ⟨ph, E, O, ro, S, ds, sta, r, ro', e, q⟩ => by
    cases ds with
    | nil => simp [bindPs] at e
    | cons d ds =>
      simp only [bindPs] at e
      simp only [RepAll] at r
      obtain ⟨v, vs', e1, r1, r2⟩ := r
      cases e2 : bindP p (.p d) ro with
      | none => rw [e2] at e; cases e
      | some ro1 =>
        rw [e2] at e
        exact ⟨v, vs', e1, ph, E, O, ro, S, .p d, sta, r1, ro1, e2, fun sg1 b1 s1 => ⟨ph, E, O, ro1, S, ds, s1, r2, ro', e, fun sg2 b2 s2 => q sg2 (b1.trans b2) s2⟩⟩
theorem mg_tp {k : Nat} (hc : X.calm = true) (h : PGs X es (tPts X.K ow ps)) (hl : ps.length = es.length := by rfl) (hn : (assignEach es X.env).length = es.length := by rfl) (hst : (assignEach es X.env).findIdx? (·.1) = none := by rfl) : PG X (.Tuple es k pos) (tPt X.K ow (.tp ps)) :=
  PG.imp (pg_tup hc h hn hst) fun v sg H Q ⟨ph, E, O, ro, S, d, sta, r, ro', e, q⟩ => by
    cases d with
    | ref n => simp [bindP] at e
    | scr n => simp [bindP] at e
    | p d =>
      cases d with
      | tuple ds =>
        simp only [bindP] at e
        obtain ⟨a, xs, e1, h1, r1⟩ := (RepD.toP r).tup_
        have len : ∀ (ps : List Pt) (ds : List PyData) (ro ro' : Env), bindPs ps ds ro = some ro' → ds.length = ps.length := by
          intro ps
          induction ps with
          | nil =>
            intro ds ro ro' h
            cases ds with
            | nil => rfl
            | cons d ds => simp [bindPs] at h
          | cons p ps ih =>
            intro ds ro ro' h
            cases ds with
            | nil => simp [bindPs] at h
            | cons d ds =>
              simp only [bindPs] at h
              cases e2 : bindP p (.p d) ro with
              | none => rw [e2] at h; cases h
              | some ro1 =>
                rw [e2] at h
                rw [List.length_cons, List.length_cons, ih ds ro1 ro' h]
        exact ⟨a, xs, e1, h1, by rw [← r1.length, len ps ds ro ro' e, hl], ph, E, O, ro, S, ds, sta, r1, ro', e, q⟩
      | _ => simp [bindP] at e
end
end
end Mi

namespace Mi
open PySem PySem.Spec PyProof.Rows L2
noncomputable section

/-! ### more stores -/
section
variable {K : PySem.W.Frag} {ow : Nat → Bool} {ph ph1 : List Addr} {E O O1 : Addr → Prop} {H H1 : Hp} {sg : L2.St} {ro : Env} {S S1 : Store} {i : Nat} {d : D} {v : V}
/-- one's own list changed -/
theorem Sta.write {ds ds' : List PyData} {a : Addr} {xs ys : List V} (s : Sta K ow ph E O sg H ro S) (hi : ow i = true) (hr : ro[i]? = some (some (.p (.list ds)))) (hs : sg[i]? = some (some (.ref a))) (oa : O a) (ha : H a = some (.lst xs)) (na : a ∉ ph)
    (r : RepAll K H (okx ph (EO E O)) ds' ys) : Sta K ow ph E O sg (upd H a (.lst ys)) (ro.set i (some (.p (.list ds')))) S ∧ Go ph O H ph O (upd H a (.lst ys)) := by
  have go : Go ph O H ph O (upd H a (.lst ys)) := by
    refine ⟨fun b o e _ nb _ => by rw [upd_ne (fun z => nb (by rw [z]; exact oa))]; exact e, fun b zs e => by rw [upd_ne (fun z => by rw [z, ha] at e; cases e)]; exact e, fun b o u e => by rw [upd_ne (fun z => by rw [z, ha] at e; cases e)]; exact e, fun b e => ?_, ⟨[], by simp⟩, fun _ e => .inl e, fun _ e => e, fun _ e => .inl e⟩
    by_cases z : b = a
    · rw [z, upd_same] at e; cases e
    · rw [upd_ne z] at e; exact e
  have kl : ∀ b zs, H b = some (.lst zs) → okx ph (EO E O) b → upd H a (.lst ys) b = some (.lst zs) ∧ okx ph (EO E O) b := fun b zs e k => ⟨by rw [upd_ne (fun z => k.2 (.inr (by rw [z]; exact oa)))]; exact e, k⟩
  have kd : ∀ b zs, H b = some (.dK zs) → okx ph (EO E O) b → upd H a (.lst ys) b = some (.dK zs) ∧ okx ph (EO E O) b := fun b zs e k => ⟨by rw [upd_ne (fun z => k.2 (.inr (by rw [z]; exact oa)))]; exact e, k⟩
  have kt : ∀ b zs, SqT K H b zs → SqT K (upd H a (.lst ys)) b zs := fun b zs h => by
    rcases h with (h | ⟨o, h⟩) | h
    · exact .inl (.inl (go.tup _ _ h))
    · exact .inl (.inr ⟨o, go.frz _ _ _ h⟩)
    · exact .inr h
  have rp : ∀ d v, Rep K H (okx ph (EO E O)) d v → Rep K (upd H a (.lst ys)) (okx ph (EO E O)) d v := Rep.mono kl kt kd
  have rpA : ∀ d v, RepAll K H (okx ph (EO E O)) d v → RepAll K (upd H a (.lst ys)) (okx ph (EO E O)) d v := RepAll.mono kl kt kd
  have rpK : ∀ d v, RepKv K H (okx ph (EO E O)) d v → RepKv K (upd H a (.lst ys)) (okx ph (EO E O)) d v := RepKv.mono kl kt kd
  have li : i < ro.length := (List.getElem?_eq_some_iff.mp hr).1
  refine ⟨⟨fun b h z => s.domE b h (go.dom b z), fun b h z => s.domO b h (go.dom b z), s.dis, ⟨s.sto.len, s.sto.nd, fun n b o e1 e2 => ?_⟩, by simp [s.len], fun j e hj q => ?_, fun j e hj q => ?_, fun j l e f b hj hl q1 q2 q3 q4 => ?_⟩, go⟩
  · have z := s.sto.at_ n b o e1 e2
    cases o with
    | lst es =>
      obtain ⟨zs, e3, r3⟩ := z
      exact ⟨zs, by rw [upd_ne (fun z => na (by rw [← z]; exact List.mem_of_getElem? e1))]; exact e3, rpA _ _ r3⟩
  · have z : j ≠ i := fun z => by rw [z, hi] at hj; cases hj
    rw [List.getElem?_set_ne (Ne.symm z)] at q
    obtain ⟨w, q1, q2⟩ := s.slot j e hj q
    refine ⟨w, q1, ?_⟩
    cases e with
    | p e => exact rp e w q2
    | ref n => exact q2
    | scr n =>
      obtain ⟨b, w1, k⟩ := q2
      rcases k with ⟨o, k⟩ | k
      · exact ⟨b, w1, .inl ⟨o, go.frz _ _ _ k⟩⟩
      · exact ⟨b, w1, .inr k⟩
  · by_cases z : j = i
    · subst z
      rw [List.getElem?_set_self li] at q
      cases q
      exact ⟨a, hs, oa, trivial, a, ys, rfl, upd_same, na, rpA _ _ r⟩
    · rw [List.getElem?_set_ne (Ne.symm z)] at q
      obtain ⟨w, q1, q2, q3, q4⟩ := s.own j e hj q
      have nw : w ≠ a := fun k => z (s.apart j i e _ a hj hi q hr (by rw [q1, k]) hs)
      refine ⟨w, q1, q2, q3, ?_⟩
      cases e with
      | ref _ => exact q3.elim
      | scr _ => exact q3.elim
      | p e =>
        cases e with
        | list es =>
          obtain ⟨b, zs, w1, w2, w3, w4⟩ := q4.list_
          cases w1
          exact ⟨w, zs, rfl, by rw [upd_ne nw]; exact w2, w3, rpA _ _ w4⟩
        | dict es =>
          obtain ⟨b, zs, w1, w2, w3, w4⟩ := q4.dict_
          cases w1
          exact ⟨w, zs, rfl, by rw [upd_ne nw]; exact w2, w3, rpK _ _ w4⟩
        | _ => exact q3.elim
  · have same : ∀ (j : Nat) (e : D), (ro.set i (some (.p (.list ds'))))[j]? = some (some e) → ∃ e', ro[j]? = some (some e') := fun j e q => by
      by_cases z : j = i
      · rw [z]; exact ⟨_, hr⟩
      · rw [List.getElem?_set_ne (Ne.symm z)] at q
        exact ⟨e, q⟩
    obtain ⟨e1, q1⟩ := same j e q1
    obtain ⟨e2, q2⟩ := same l f q2
    exact s.apart j l e1 e2 b hj hl q1 q2 q3 q4
end
section
variable {X : Cx} {ow : Nat → Bool} {kr k : Kd} {e a b c o ix : Expr} {es : List Expr} {pos pos' apos cpos px py pz pt : Pos} {m m1 m2 : SM} {ma mb mc mi : EM} {tc : TM} {i j l : Nat} {x y z : Str} {p : Pt}
/-- target = value -/
def sAsg (p : Pt) (m : EM) : SM := fun ro S => (m ro S).bind fun d S1 => match bindP p d ro with
  | some r => .ok (.nx r) S1
  | none => .bad
theorem ms_asg {tg : Expr} (he : PE X e (tG .e X.K ow ma)) (hg : PG X tg (tPt X.K ow p)) (hs : swapsWithSole [tg] e pos.line X.env = pure false := by rfl) (hw : swappedStores [tg] e X.env = pure none := by rfl)
    (h1 : (assignEach [tg] X.env).map (·.2) = [assign tg X.env] := by rfl) : PS X (.Assign [tg] e pos) (tS kr X.K ow (sAsg p ma)) :=
  PS.imp (ps_asg he hg hs hw h1) fun D sg H h => bind_e h fun ph ph1 E O ro S S1 d v H1 sta t1 r1 z1 q => by
    cases e2 : bindP p d ro with
    | none => rw [e2] at q; exact q.elim
    | some r =>
      rw [e2] at q
      exact ⟨ph1, E, O, ro, S1, d, sta.step t1 r1, z1, r, e2, fun sg2 b2 s2 => q sg2 H1 ph1 O (Go.of t1) s2⟩
/-- x, y = a, b -/
def sPar (i j : Nat) (ma mb : EM) : SM := fun ro S => (ma ro S).bind fun d S1 => (mb ro S1).bind fun f S2 => .ok (.nx ((ro.set i (some d)).set j (some f))) S2
theorem par_pa {K : PySem.W.Frag} {ta tb : TE} {sg : L2.St} {H : Hp} {Q : List V → Hp → Prop} (h : ta sg H fun v H1 => tb sg H1 fun w H2 => Q [v, w] H2) : tCons ta (tCons tb tNil) sg H Q := h
theorem ms_par (hc : X.calm = true) (hN : X.N.Nodup) (hi : X.N[i]? = some x) (hj : X.N[j]? = some y) (hij : i ≠ j) {kt k2 pt2}
    (hx : X.env.scope.names.lookup x = some .local) (hy : X.env.scope.names.lookup y = some .local) (ha : PE X a (tG .e X.K ow ma)) (hb : PE X b (tG .e X.K ow mb)) (hw : swappedStores [.Tuple [.Name x px, .Name y py] kt pt] (.Tuple [a, b] k2 pt2) X.env = pure (some [x, y]))
    (hoi : ow i = false := by rfl) (hoj : ow j = false := by rfl)
    (h1 : starEach [a, b] X.env = (false, eval a X.env) :: starEach [b] X.env := by rfl) (h2 : starEach [b] X.env = (false, eval b X.env) :: starEach [] X.env := by rfl)
    (hs : swapsWithSole [.Tuple [.Name x px, .Name y py] kt pt] (.Tuple [a, b] k2 pt2) pos.line X.env = pure false := by rfl) :
    PS X (.Assign [.Tuple [.Name x px, .Name y py] kt pt] (.Tuple [a, b] k2 pt2) pos) (tS kr X.K ow (sPar i j ma mb)) :=
  PS.imp (ps_par hc hN hi hj hij hx hy (pa_cons ha (pa_cons hb pa_nil h2) h1) hw hs) fun D sg H h => par_pa (K := X.K) <| bind_e h fun ph ph1 E O ro S S1 d v H1 sta t1 r1 z1 q => by
    have s1 := sta.step t1 r1
    cases e2 : mb ro S1 with
    | bad => rw [e2] at q; exact q.elim
    | exn x S => rw [e2] at q; exact q.elim
    | ok f S2 =>
      rw [e2] at q
      refine ⟨ph1, E, O, ro, S1, s1, f, S2, e2, fun w H2 ph2 t2 r2 z2 => ⟨v, w, rfl, ?_⟩⟩
      exact q _ H2 ph2 O ((Go.of t1).trans (Go.of t2)) (((s1.step t2 r2).set hoi (RepD.step t2 (RR.asE z1))).set hoj z2)
/-- x, y = [..], b: the first a list of one's own -/
theorem ms_parO (hc : X.calm = true) (hN : X.N.Nodup) (hi : X.N[i]? = some x) (hj : X.N[j]? = some y) (hij : i ≠ j) {kt k2 pt2}
    (hx : X.env.scope.names.lookup x = some .local) (hy : X.env.scope.names.lookup y = some .local) (ha : PE X a (tG .f X.K ow ma)) (hb : PE X b (tG .e X.K ow mb)) (hw : swappedStores [.Tuple [.Name x px, .Name y py] kt pt] (.Tuple [a, b] k2 pt2) X.env = pure (some [x, y]))
    (hoi : ow i = true := by rfl) (hoj : ow j = false := by rfl)
    (h1 : starEach [a, b] X.env = (false, eval a X.env) :: starEach [b] X.env := by rfl) (h2 : starEach [b] X.env = (false, eval b X.env) :: starEach [] X.env := by rfl)
    (hs : swapsWithSole [.Tuple [.Name x px, .Name y py] kt pt] (.Tuple [a, b] k2 pt2) pos.line X.env = pure false := by rfl) :
    PS X (.Assign [.Tuple [.Name x px, .Name y py] kt pt] (.Tuple [a, b] k2 pt2) pos) (tS kr X.K ow (sPar i j ma mb)) :=
  PS.imp (ps_par hc hN hi hj hij hx hy (pa_cons ha (pa_cons hb pa_nil h2) h1) hw hs) fun D sg H h => par_pa (K := X.K) <| bind_e h fun ph ph1 E O ro S S1 d v H1 sta t1 r1 z1 q => by
    cases e2 : mb ro S1 with
    | bad => rw [e2] at q; exact q.elim
    | exn x S => rw [e2] at q; exact q.elim
    | ok f S2 =>
      rw [e2] at q
      obtain ⟨p, ds, xs, ed, ev, h3, h4, h5, h6, h7⟩ := z1
      subst ed ev
      have s1 := sta.more h3 t1 (by rw [h4]; exact fun z => by cases z) h7
      refine ⟨ph1, E, fun b => O b ∨ b = p, ro, S1, s1, f, S2, e2, fun w H2 ph2 t2 r2 z2 => ⟨.ref p, w, rfl, ?_⟩⟩
      have s2 := s1.step t2 r2
      have g1 : Go ph O H ph1 (fun b => O b ∨ b = p) H1 := ⟨fun a o k1 k2 k3 k4 => t1.keep a o k1 k2 k4, t1.tup, t1.frz, t1.dom, t1.pre, t1.new, fun a k1 => .inl k1, fun a k1 => k1.imp id fun k2 => by rw [k2]; exact h3⟩
      refine q _ H2 ph2 _ (g1.trans (Go.of t2)) ((s2.oset hoi (.inr rfl) (t2.keep p _ h4 h5 (fun _ z => by cases z)) (t2.out h4 h5) ((h6.ex fun b k1 => ?_).step t2) fun j e hj hn k1 k2 => ?_).set hoj z2)
      · rcases k1 with k1 | k1 | k1
        · exact .inl (.inl (.inl k1))
        · exact .inl (.inl (.inr k1))
        · exact .inl (.inr k1)
      · obtain ⟨b, k3, k4, _⟩ := sta.own j e hj k1
        rw [k2] at k3
        cases k3
        exact sta.domO _ k4 h3
def sPar3 (i j l : Nat) (ma mb mc : EM) : SM := fun ro S => (ma ro S).bind fun d S1 => (mb ro S1).bind fun f S2 => (mc ro S2).bind fun g S3 => .ok (.nx (((ro.set i (some d)).set j (some f)).set l (some g))) S3
theorem par_pa3 {K : PySem.W.Frag} {ta tb tc : TE} {sg : L2.St} {H : Hp} {Q : List V → Hp → Prop} (h : ta sg H fun v H1 => tb sg H1 fun w H2 => tc sg H2 fun u H3 => Q [v, w, u] H3) : tCons ta (tCons tb (tCons tc tNil)) sg H Q := h
theorem ms_par3 (hc : X.calm = true) (hN : X.N.Nodup) (hi : X.N[i]? = some x) (hj : X.N[j]? = some y) (hl : X.N[l]? = some z) (hij : i ≠ j) (hil : i ≠ l) (hjl : j ≠ l) {kt k2 pt2}
    (hx : X.env.scope.names.lookup x = some .local) (hy : X.env.scope.names.lookup y = some .local) (hz : X.env.scope.names.lookup z = some .local) (ha : PE X a (tG .e X.K ow ma)) (hb : PE X b (tG .e X.K ow mb)) (hcc : PE X c (tG .e X.K ow mc))
    (hw : swappedStores [.Tuple [.Name x px, .Name y py, .Name z pz] kt pt] (.Tuple [a, b, c] k2 pt2) X.env = pure (some [x, y, z]))
    (hoi : ow i = false := by rfl) (hoj : ow j = false := by rfl) (hol : ow l = false := by rfl)
    (h1 : starEach [a, b, c] X.env = (false, eval a X.env) :: starEach [b, c] X.env := by rfl) (h2 : starEach [b, c] X.env = (false, eval b X.env) :: starEach [c] X.env := by rfl) (h3 : starEach [c] X.env = (false, eval c X.env) :: starEach [] X.env := by rfl)
    (hs : swapsWithSole [.Tuple [.Name x px, .Name y py, .Name z pz] kt pt] (.Tuple [a, b, c] k2 pt2) pos.line X.env = pure false := by rfl) :
    PS X (.Assign [.Tuple [.Name x px, .Name y py, .Name z pz] kt pt] (.Tuple [a, b, c] k2 pt2) pos) (tS kr X.K ow (sPar3 i j l ma mb mc)) :=
  PS.imp (ps_par3 hc hN hi hj hl hij hil hjl hx hy hz (pa_cons ha (pa_cons hb (pa_cons hcc pa_nil h3) h2) h1) hw hs) fun D sg H h => par_pa3 (K := X.K) <| bind_e h fun ph ph1 E O ro S S1 d v H1 sta t1 r1 z1 q => by
    have s1 := sta.step t1 r1
    cases e2 : mb ro S1 with
    | bad => rw [e2] at q; exact q.elim
    | exn x S => rw [e2] at q; exact q.elim
    | ok f S2 =>
      rw [e2] at q
      refine ⟨ph1, E, O, ro, S1, s1, f, S2, e2, fun w H2 ph2 t2 r2 z2 => ?_⟩
      have s2 := s1.step t2 r2
      cases e3 : mc ro S2 with
      | bad => simp only [Res.bind, e3, Aft] at q
      | exn x S => simp only [Res.bind, e3, Aft] at q
      | ok g S3 =>
        simp only [Res.bind, e3] at q
        refine ⟨ph2, E, O, ro, S2, s2, g, S3, e3, fun u H3 ph3 t3 r3 z3 => ⟨v, w, u, rfl, ?_⟩⟩
        exact q _ H3 ph3 O (((Go.of t1).trans (Go.of t2)).trans (Go.of t3)) ((((s2.step t3 r3).set hoi (RepD.step (t2.trans t3) (RR.asE z1))).set hoj (RepD.step t3 (RR.asE z2))).set hol z3)
/-- x.append(e), x one's own -/
def sApp (i : Nat) (m : EM) : SM := fun ro S => (m ro S).bind fun d S1 => match ro[i]?, d with
  | some (some (.p (.list ds))), .p f => if ds.length < lim then .ok (.nx (ro.set i (some (.p (.list (ds ++ [f])))))) S1 else .bad
  | _, _ => .bad
theorem ms_app (hN : X.N[i]? = some x) (hv : Vis X.env.scope x) (he : PE X e (tG .e X.K ow ma)) (ho : ow i = true := by rfl) (hd : (x == ("__debug__" : Str)) = false := by decide) (hcd : (x == ("__classdict__" : Str)) = false := by decide)
    (hbase : attributeBase (.Name x px) "append" X.env (eval (.Name x px) X.env) = eval (.Name x px) X.env := by rfl)
    (hfew : ((backTo cpos (starEach [e] X.env)).all (fun x => !x.1) && (backToKw cpos (keywordEach [] X.env)).all (fun x => x.1.isSome) && decide ([e].length + ([] : List Keyword).length + (if ([] : List Keyword).isEmpty then 0 else 1) < 30)) = true := by rfl)
    (hline : (apos.endLine == cpos.line) = true := by rfl) (hst : starEach [e] X.env = (false, eval e X.env) :: starEach [] X.env := by rfl) (hpl : (backTo cpos (starEach [] X.env)).any (·.1) = false := by rfl)
    (hs : swapsWith (.Call (.Attribute (.Name x px) "append" apos) [e] [] cpos) none pos.line X.env = pure false := by rfl) :
    PS X (.Expr (.Call (.Attribute (.Name x px) "append" apos) [e] [] cpos) pos) (tS kr X.K ow (sApp i ma)) :=
  PS.imp (ps_expr (pe_bm PySem.F.plainAttrs_list PySem.F.slot_list_append PySem.F.type_list_append mt_append (pe_var hN hv hd hcd) (pa_cons he pa_nil hst) hbase hfew hline hst hpl) hs) fun D sg H ⟨ph, E, O, ro, S, sta, q⟩ => by
    unfold sApp at q
    cases e1 : ma ro S with
    | bad => simp only [e1, Res.bind, Aft] at q
    | exn x S => simp only [e1, Res.bind, Aft] at q
    | ok d S1 =>
      simp only [e1, Res.bind] at q
      split at q
      · rename_i ds f hr
        split at q
        · rename_i hl
          obtain ⟨p, k1, k2, k3, k4⟩ := sta.own i _ ho hr
          obtain ⟨p', xs, k5, k6, k7, k8⟩ := k4.list_
          cases k5
          refine ⟨.ref p, k1, .inl ⟨rfl, xs, SqL.of k6⟩, ph, E, O, ro, S, sta, .p f, S1, e1, fun v H1 ph1 t1 r1 z1 => ?_⟩
          have s1 := sta.step t1 r1
          have k9 := t1.keep p _ k6 k7 (fun _ z => by cases z)
          have l1 := k8.length
          have lz := lim_line
          refine ⟨p, xs, v, rfl, rfl, k9, by omega, ?_⟩
          obtain ⟨s2, g2⟩ := s1.write (ds' := ds ++ [f]) (ys := xs ++ [v]) ho hr k1 k2 k9 (t1.out k6 k7) ((k8.step t1).append (.cons z1 .nil))
          exact q sg _ ph1 O ((Go.of t1).trans g2) s2
        · exact q.elim
      · exact q.elim
/-- x[i] = e, x one's own -/
def sPut (i : Nat) (mi me : EM) : SM := fun ro S => (me ro S).bind fun d S1 => (mi ro S1).bind fun k S2 => match ro[i]?, k, d with
  | some (some (.p (.list ds))), .p (.int j), .p f => (match ixN ds.length j with
      | some n => .ok (.nx (ro.set i (some (.p (.list (ds.set n f)))))) S2
      | none => .bad)
  | _, _, _ => .bad
theorem ms_put (hN : X.N[i]? = some x) (hv : Vis X.env.scope x) (hi : PE X ix (tG .e X.K ow mi)) (he : PE X e (tG .e X.K ow ma)) (ho : ow i = true := by rfl) (hd : (x == ("__debug__" : Str)) = false := by decide) (hcd : (x == ("__classdict__" : Str)) = false := by decide)
    (ha : ∀ v, assign (.Subscript (.Name x px) ix pos') X.env v = (do
      let ov ← holding [v] (eval (.Name x px) X.env)
      let iv ← holding [v, ov] (eval ix X.env)
      standAt pos'
      holding [v, ov, iv] (setItem ov iv v)
      release [v, ov, iv] []) := by intro _; rfl)
    (hs : swapsWithSole [.Subscript (.Name x px) ix pos'] e pos.line X.env = pure false := by rfl) (hw : swappedStores [.Subscript (.Name x px) ix pos'] e X.env = pure none := by rfl)
    (h1 : (assignEach [.Subscript (.Name x px) ix pos'] X.env).map (·.2) = [assign (.Subscript (.Name x px) ix pos') X.env] := by rfl) :
    PS X (.Assign [.Subscript (.Name x px) ix pos'] e pos) (tS kr X.K ow (sPut i mi ma)) :=
  PS.imp (ps_asg he (pg_sub (pe_var hN hv hd hcd) hi set_list ha) hs hw h1) fun D sg H h => bind_e h fun ph ph1 E O ro S S1 d v H1 sta t1 r1 z1 q => by
    have s1 := sta.step t1 r1
    cases e2 : mi ro S1 with
    | bad => rw [e2] at q; exact q.elim
    | exn x S => rw [e2] at q; exact q.elim
    | ok k S2 =>
      simp only [e2, Res.bind] at q
      split at q
      · rename_i ds j f hr
        split at q
        · rename_i n hn
          obtain ⟨p, k1, k2, k3, k4⟩ := s1.own i _ ho hr
          obtain ⟨p', xs, k5, k6, k7, k8⟩ := k4.list_
          cases k5
          refine ⟨.ref p, k1, ph1, E, O, ro, S1, s1, .p (.int j), S2, e2, fun w H2 ph2 t2 r2 z2 => ?_⟩
          have s2 := s1.step t2 r2
          have k9 := t2.keep p _ k6 k7 (fun _ z => by cases z)
          have ew := (RepD.toP (RR.asE z2)).int_
          subst ew
          refine ⟨p, xs, j, n, rfl, rfl, k9, by rw [← k8.length]; exact hn, ?_⟩
          obtain ⟨s3, g3⟩ := s2.write (ds' := ds.set n f) (ys := xs.set n v) ho hr k1 k2 k9 (t2.out k6 k7) ((k8.step t2).set n (RepD.step t2 (RR.asE z1)))
          exact q sg _ ph2 O (((Go.of t1).trans (Go.of t2)).trans g3) s3
        · exact q.elim
      · exact q.elim
/-- x[i] = e, x by reference -/
def sPutR (i : Nat) (mi me : EM) : SM := fun ro S => (me ro S).bind fun d S1 => (mi ro S1).bind fun k S2 => match ro[i]?, k, d with
  | some (some (.ref r)), .p (.int j), .p f => (match S2[r]? with
      | some (.lst ds) => (match ixN ds.length j with
          | some n => .ok (.nx ro) (S2.set r (.lst (ds.set n f)))
          | none => .bad)
      | none => .bad)
  | _, _, _ => .bad
theorem ms_putR (hN : X.N[i]? = some x) (hv : Vis X.env.scope x) (hi : PE X ix (tG .e X.K ow mi)) (he : PE X e (tG .e X.K ow ma)) (ho : ow i = false := by rfl) (hd : (x == ("__debug__" : Str)) = false := by decide) (hcd : (x == ("__classdict__" : Str)) = false := by decide)
    (ha : ∀ v, assign (.Subscript (.Name x px) ix pos') X.env v = (do
      let ov ← holding [v] (eval (.Name x px) X.env)
      let iv ← holding [v, ov] (eval ix X.env)
      standAt pos'
      holding [v, ov, iv] (setItem ov iv v)
      release [v, ov, iv] []) := by intro _; rfl)
    (hs : swapsWithSole [.Subscript (.Name x px) ix pos'] e pos.line X.env = pure false := by rfl) (hw : swappedStores [.Subscript (.Name x px) ix pos'] e X.env = pure none := by rfl)
    (h1 : (assignEach [.Subscript (.Name x px) ix pos'] X.env).map (·.2) = [assign (.Subscript (.Name x px) ix pos') X.env] := by rfl) :
    PS X (.Assign [.Subscript (.Name x px) ix pos'] e pos) (tS kr X.K ow (sPutR i mi ma)) :=
  PS.imp (ps_asg he (pg_sub (pe_var hN hv hd hcd) hi set_list ha) hs hw h1) fun D sg H h => bind_e h fun ph ph1 E O ro S S1 d v H1 sta t1 r1 z1 q => by
    have s1 := sta.step t1 r1
    cases e2 : mi ro S1 with
    | bad => rw [e2] at q; exact q.elim
    | exn x S => rw [e2] at q; exact q.elim
    | ok k S2 =>
      simp only [e2, Res.bind] at q
      split at q
      · rename_i r j f hr
        split at q
        · rename_i ds hS
          split at q
          · rename_i n hn
            obtain ⟨w0, k1, k2⟩ := s1.slot i _ ho hr
            obtain ⟨p, k3, k4⟩ := k2
            subst k4
            refine ⟨.ref p, k1, ph1, E, O, ro, S1, s1, .p (.int j), S2, e2, fun w H2 ph2 t2 r2 z2 => ?_⟩
            have s2 := s1.step t2 r2
            have k5 := t2.at_ k3
            obtain ⟨xs, k6, k7⟩ := r2.at_ r p _ k5 hS
            have ew := (RepD.toP (RR.asE z2)).int_
            subst ew
            refine ⟨p, xs, j, n, rfl, rfl, k6, by rw [← k7.length]; exact hn, ?_⟩
            obtain ⟨r3, t3⟩ := r2.write k5 hS (k7.set n (RepD.step t2 (RR.asE z1)))
            exact q sg _ ph2 O (((Go.of t1).trans (Go.of t2)).trans (Go.of t3)) (s2.step t3 r3)
          · exact q.elim
        · exact q.elim
      · exact q.elim
/-- return x, x one's own -/
theorem ms_retO (hN : X.N[i]? = some x) (hv : Vis X.env.scope x) (ho : ow i = true := by rfl) (hd : (x == ("__debug__" : Str)) = false := by decide) (hcd : (x == ("__classdict__" : Str)) = false := by decide) :
    PS X (.Return (some (.Name x px)) pos) (tS .e X.K ow (sRet (eVar i))) :=
  PS.imp (ps_ret (pe_var hN hv hd hcd)) fun D sg H ⟨ph, E, O, ro, S, sta, q⟩ => by
    unfold sRet at q
    cases e1 : eVar i ro S with
    | bad => simp only [e1, Res.bind, Aft] at q
    | exn x S => simp only [e1, Res.bind, Aft] at q
    | ok d S1 =>
      simp only [e1, Res.bind] at q
      obtain ⟨e2, e3⟩ := eVar_ok e1
      subst e3
      obtain ⟨p, k1, k2, k3, k4⟩ := sta.own i _ ho e2
      refine ⟨.ref p, k1, q (.ref p) H ph O Go.refl (sta.sto.ex EO_less) ?_⟩
      show RepD X.K ph E H d (.ref p)
      cases d with
      | ref _ => exact k3.elim
      | scr _ => exact k3.elim
      | p d =>
        cases d with
        | list es =>
          obtain ⟨b, zs, w1, w2, w3, w4⟩ := k4.list_
          cases w1
          show Rep X.K H (okx ph E) (.list es) (.ref p)
          simp only [Rep]
          exact ⟨p, zs, rfl, w2, ⟨w3, sta.dis p k2⟩, w4.ex EO_less⟩
        | dict es =>
          obtain ⟨b, zs, w1, w2, w3, w4⟩ := k4.dict_
          cases w1
          show Rep X.K H (okx ph E) (.dict es) (.ref p)
          simp only [Rep]
          exact ⟨p, zs, rfl, w2, ⟨w3, sta.dis p k2⟩, w4.ex EO_less⟩
        | _ => exact k3.elim
/-- .. the caller's own from now on -/
def sRetL (i : Nat) : SM := fun ro S => match ro[i]? with
  | some (some (.p (.list ds))) => .ok (.rt (.p (.list ds))) S
  | _ => .bad
theorem ms_retOF (hN : X.N[i]? = some x) (hv : Vis X.env.scope x) (ho : ow i = true := by rfl) (hd : (x == ("__debug__" : Str)) = false := by decide) (hcd : (x == ("__classdict__" : Str)) = false := by decide) :
    PS X (.Return (some (.Name x px)) pos) (tS .f X.K ow (sRetL i)) :=
  PS.imp (ps_ret (pe_var hN hv hd hcd)) fun D sg H ⟨ph, E, O, ro, S, sta, q⟩ => by
    unfold sRetL at q
    split at q
    · rename_i ds e2
      obtain ⟨p, k1, k2, k3, k4⟩ := sta.own i _ ho e2
      obtain ⟨b, zs, w1, w2, w3, w4⟩ := k4.list_
      cases w1
      have less : ∀ a, (E a ∨ a = p) → EO E O a ∨ H a = none := fun a h => .inl (h.imp id fun z => by rw [z]; exact k2)
      exact ⟨.ref p, k1, q (.ref p) H ph O Go.refl (sta.sto.ex EO_less) ⟨p, ds, zs, rfl, rfl, .inr k2, w2, w3, w4.ex less, sta.sto.ex less⟩⟩
    · exact q.elim
end
end
end Mi

namespace Mi
open PySem PySem.Spec PyProof.Rows L2
noncomputable section

/-! ### what is walked -/
abbrev LM := Env → M (List D)
/-- what the turns may change: nothing (a comprehension's), lists of one's own (a for's) -/
def Mu : Bool → (Addr → Prop) → Addr → Prop
  | true, _ => fun _ => False
  | false, O => O
/-- J goes over the items, whatever the turns do -/
def Walks (K : PySem.W.Frag) (ph : List Addr) (Ex U : Addr → Prop) (H : Hp) (J : It) (ds : List D) : Prop :=
  ∀ (ph2 : List Addr) (U2 : Addr → Prop) (H2 : Hp), Go ph U H ph2 U2 H2 → ∀ i : Nat,
    (∀ d, ds[i]? = some d → J.go i H2 ∧ ∀ x H3, J.yld i H2 x H3 → (H3 = H2 ∨ ∃ p o, H2 p = none ∧ H3 = upd H2 p o) ∧ RepD K ph2 (fun b => Ex b ∨ U2 b) H3 d x) ∧ (ds[i]? = none → i ≤ ds.length → J.stop i H2)
def tI (c : Bool) (K : PySem.W.Frag) (ow : Nat → Bool) (m : LM) : TI := fun sg H R => ∃ (ph : List Addr) (E O : Addr → Prop) (ro : Env) (S : Store), Sta K ow ph E O sg H ro S ∧
  ∃ ds S', m ro S = .ok ds S' ∧ ∀ J H1 ph1, Step ph ph1 H H1 → SRep K ph1 (EO E O) H1 S' → Walks K ph1 (EO E O) (Mu c O) H1 J ds → R J H1
section
variable {K : PySem.W.Frag} {ph ph2 : List Addr} {E O U U2 Ex : Addr → Prop} {H H2 : Hp}
theorem Go.lst (g : Go ph U H ph2 U2 H2) {a : Addr} {xs : List V} (h : H a = some (.lst xs)) (n : a ∉ ph) (m : ¬ U a) : H2 a = some (.lst xs) := g.keep a _ h n m fun _ z => by cases z
theorem Go.sqT (g : Go ph U H ph2 U2 H2) {a : Addr} {xs : List V} (h : SqT K H a xs) : SqT K H2 a xs := by
  rcases h with (h | ⟨o, h⟩) | h
  · exact .inl (.inl (g.tup _ _ h))
  · exact .inl (.inr ⟨o, g.frz _ _ _ h⟩)
  · exact .inr h
theorem Go.okk (g : Go ph U H ph2 U2 H2) (us : ∀ a, U a → Ex a) {a : Addr} {o : HO} (h : H a = some o) (k : okx ph Ex a) : okx ph2 (fun b => Ex b ∨ U2 b) a := by
  refine ⟨fun z => ?_, fun z => ?_⟩
  · rcases g.new a z with q | q
    · exact k.1 q
    · rw [h] at q; cases q
  · rcases z with z | z
    · exact k.2 z
    · rcases g.newO a z with q | q
      · exact k.2 (us a q)
      · rw [h] at q; cases q
theorem RepAll.go (g : Go ph U H ph2 U2 H2) (us : ∀ a, U a → Ex a) {d : List PyData} {v : List V} (h : RepAll K H (okx ph Ex) d v) : RepAll K H2 (okx ph2 (fun b => Ex b ∨ U2 b)) d v :=
  RepAll.mono (fun a xs e k => ⟨g.lst e k.1 (fun z => k.2 (us a z)), g.okk us e k⟩) (fun a xs e => g.sqT e) (fun a xs e k => ⟨g.keep a _ e k.1 (fun z => k.2 (us a z)) (fun _ z => by cases z), g.okk us e k⟩) d v h
end
theorem Mu.sub {c : Bool} {E O : Addr → Prop} : ∀ a, Mu c O a → EO E O a := fun a h => by
  cases c with
  | true => exact h.elim
  | false => exact .inr h
/-- the items of a list, of a tuple -/
def itemsF : D → Option (List D)
  | .p (.list ds) => some (ds.map .p)
  | .p (.tuple ds) => some (ds.map .p)
  | _ => none
def iSeq (m : EM) : LM := fun ro S => (m ro S).bind fun d S1 => match itemsF d with
  | some l => .ok l S1
  | none => .bad
def intR (lo : Int) (n : Nat) : List D := (List.range n).map fun i => .p (.int (lo + (i : Nat)))
def bnd (i : Int) : Prop := -(2 ^ 62) ≤ i ∧ i < 2 ^ 62
instance (i : Int) : Decidable (bnd i) := Classical.propDecidable _
def iR1 (m : EM) : LM := fun ro S => (m ro S).bind fun d S1 => match d with
  | .p (.int j) => if bnd j then .ok (intR 0 j.toNat) S1 else .bad
  | _ => .bad
def iR2 (ma mb : EM) : LM := fun ro S => (ma ro S).bind fun x S1 => (mb ro S1).bind fun y S2 => match x, y with
  | .p (.int i), .p (.int j) => if bnd i ∧ bnd j then .ok (intR i (j - i).toNat) S2 else .bad
  | _, _ => .bad
def pairsF (xs ys : List PyData) : List D := (xs.zip ys).map fun p => .p (.tuple [p.1, p.2])
def iZ (ma mb : EM) : LM := fun ro S => (ma ro S).bind fun x S1 => (mb ro S1).bind fun y S2 => match x, y with
  | .p (.list a), .p (.list b) => .ok (pairsF a b) S2
  | .p (.tuple a), .p (.tuple b) => .ok (pairsF a b) S2
  | _, _ => .bad
section
variable {X : Cx} {ow : Nat → Bool} {tg e e2 : Expr} {p pos tpos : Pos} {ma mb : EM} {elts : List Expr} {kk : Nat}
theorem PI.imp {t t' : TI} (h : PI X tg e t) (q : ∀ sg H R, t' sg H R → t sg H R) : PI X tg e t' := ⟨fun pins s sg H R I hw => h.run pins s sg H R I (q sg H R hw)⟩
theorem PI.or {t t' : TI} (h : PI X tg e t) (h' : PI X tg e t') : PI X tg e (fun sg H R => t sg H R ∨ t' sg H R) := ⟨fun pins s sg H R I hw => hw.elim (h.run pins s sg H R I) (h'.run pins s sg H R I)⟩
theorem items_at {ds : List PyData} {i : Nat} : (ds.map D.p)[i]? = (ds[i]?).map D.p := List.getElem?_map
theorem walks_l {K : PySem.W.Frag} {ph : List Addr} {Ex U : Addr → Prop} {H : Hp} {a : Addr} {xs : List V} {ds : List PyData} (us : ∀ a, U a → Ex a) (h : H a = some (.lst xs)) (k : a ∉ ph) (k2 : ¬ U a) (r : RepAll K H (okx ph Ex) ds xs) : Walks K ph Ex U H (Itl K a) (ds.map D.p) := by
  intro ph2 O2 H2 g i
  have h2 := g.lst h k k2
  have r2 := r.go g us
  refine ⟨fun d e => ?_, fun e _ => ?_⟩
  · rw [items_at] at e
    cases e1 : ds[i]? with
    | none => rw [e1] at e; cases e
    | some f =>
      rw [e1] at e
      cases e
      obtain ⟨x, h3, h4⟩ := r2.get e1
      refine ⟨⟨xs, x, SqL.of h2, h3⟩, fun y H3 hy => ?_⟩
      obtain ⟨rfl, hy⟩ := hy
      have e2 := hy xs (SqL.of h2)
      rw [h3] at e2
      cases e2
      exact ⟨.inl rfl, h4⟩
  · rw [items_at] at e
    cases e1 : ds[i]? with
    | some f => rw [e1] at e; cases e
    | none =>
      refine ⟨xs, SqL.of h2, ?_⟩
      rw [← r.length]
      exact List.getElem?_eq_none_iff.mp e1
theorem walks_t {K : PySem.W.Frag} {ph : List Addr} {Ex U : Addr → Prop} {H : Hp} {a : Addr} {xs : List V} {ds : List PyData} (us : ∀ a, U a → Ex a) (h : SqT K H a xs) (r : RepAll K H (okx ph Ex) ds xs) : Walks K ph Ex U H (Itt K a) (ds.map D.p) := by
  intro ph2 O2 H2 g i
  have h2 := g.sqT h
  have r2 := r.go g us
  refine ⟨fun d e => ?_, fun e _ => ?_⟩
  · rw [items_at] at e
    cases e1 : ds[i]? with
    | none => rw [e1] at e; cases e
    | some f =>
      rw [e1] at e
      cases e
      obtain ⟨x, h3, h4⟩ := r2.get e1
      refine ⟨⟨xs, x, h2, h3⟩, fun y H3 hy => ?_⟩
      obtain ⟨rfl, hy⟩ := hy
      have e2 := hy xs h2
      rw [h3] at e2
      cases e2
      exact ⟨.inl rfl, h4⟩
  · rw [items_at] at e
    cases e1 : ds[i]? with
    | some f => rw [e1] at e; cases e
    | none =>
      refine ⟨xs, h2, ?_⟩
      rw [← r.length]
      exact List.getElem?_eq_none_iff.mp e1
theorem walks_r {K : PySem.W.Frag} {ph : List Addr} {Ex U : Addr → Prop} {H : Hp} {lo : Int} {n : Nat} : Walks K ph Ex U H (Itr lo n) (intR lo n) := by
  intro ph2 O2 H2 g i
  unfold intR
  rw [List.getElem?_map]
  refine ⟨fun d e => ?_, fun e _ => ?_⟩
  · by_cases hi : i < n
    · rw [List.getElem?_range hi] at e
      cases e
      refine ⟨hi, fun y H3 hy => ?_⟩
      obtain ⟨e1, e2⟩ := hy
      subst e2
      exact ⟨.inl e1, (show Rep K _ (okx ph2 fun b => Ex b ∨ O2 b) _ _ from rep_int)⟩
    · rw [List.getElem?_eq_none (by simpa using hi)] at e
      cases e
  · by_cases hi : i < n
    · rw [List.getElem?_range hi] at e
      cases e
    · exact Nat.le_of_not_lt hi
theorem seq_go {K : PySem.W.Frag} {c : Bool} {k : Kd} (hk : c = true ∨ k = .e) (hf : k ≠ .f) : ∀ sg H R, tI c K ow (iSeq ma) sg H R → iList K (tG k K ow ma) sg H R ∨ iTup K (tG k K ow ma) sg H R := by
  rintro sg H R ⟨ph, E, O, ro, S, sta, ds, S', ev, q⟩
  obtain ⟨d, S1, e1, ev⟩ := Res.bind_ok ev
  cases e2 : itemsF d with
  | none => rw [e2] at ev; cases ev
  | some l =>
    rw [e2] at ev
    cases ev
    have asP : ∀ {ph1 : List Addr} {H1 : Hp} {v : V}, RR k K ph1 (EO E O) (Fre H) H1 S' d v → RepP K ph1 (EO E O) H1 d v := fun {ph1 H1 v} z => by
      cases k with
      | e => exact RepD.toP (RR.asE z)
      | p => exact RR.asP z
      | f => exact absurd rfl hf
    unfold itemsF at e2
    split at e2
    · cases e2
      refine .inl ⟨ph, E, O, ro, S, sta, _, _, e1, fun v H1 ph1 t1 r1 z1 => ?_⟩
      obtain ⟨a, xs, ea, h1, h2, h3⟩ := (asP z1).list_
      refine ⟨a, ea, ⟨xs, SqL.of h1⟩, q _ H1 ph1 t1 r1 (walks_l Mu.sub h1 h2 (fun z => ?_) h3)⟩
      rcases hk with hk | hk
      · rw [hk] at z; exact z
      · subst hk
        have z2 : Rep K H1 (okx ph1 (EO E O)) (.list _) v := z1
        simp only [Rep] at z2
        obtain ⟨a', xs', ea', _, h4, _⟩ := z2
        rw [ea] at ea'
        cases ea'
        exact h4.2 (Mu.sub a z)
    · cases e2
      refine .inr ⟨ph, E, O, ro, S, sta, _, _, e1, fun v H1 ph1 t1 r1 z1 => ?_⟩
      obtain ⟨a, xs, ea, h1, h3⟩ := (asP z1).tup_
      exact ⟨a, ea, ⟨xs, h1⟩, q _ H1 ph1 t1 r1 (walks_t Mu.sub h1 h3)⟩
    · cases e2
theorem mi_seq {c : Bool} (he : PE X e (tG .e X.K ow ma)) : PI X tg e (tI c X.K ow (iSeq ma)) := PI.imp (PI.or (pi_list he) (pi_tup he)) (seq_go (.inr rfl) (by decide))
theorem mi_seqP (he : PE X e (tG .p X.K ow ma)) : PI X tg e (tI true X.K ow (iSeq ma)) := PI.imp (PI.or (pi_list he) (pi_tup he)) (seq_go (.inl rfl) (by decide))
theorem mi_r1 {c : Bool} (hg : Gl X "range") (hm : X.mg "range" = none) (he : PE X e (tG .p X.K ow ma)) (hs : starEach [e] X.env = [(false, eval e X.env)] := by rfl) : PI X tg (.Call (.Name "range" p) [e] [] pos) (tI c X.K ow (iR1 ma)) :=
  PI.imp (pi_range1 hg hm (pa_cons he pa_nil hs) hs) fun sg H R ⟨ph, E, O, ro, S, sta, ds, S', ev, q⟩ => by
    obtain ⟨d, S1, e1, ev⟩ := Res.bind_ok ev
    refine ⟨ph, E, O, ro, S, sta, d, S1, e1, fun v H1 ph1 t1 r1 z1 => ?_⟩
    split at ev
    · split at ev
      · rename_i hb
        cases ev
        exact ⟨_, by rw [(RR.asP z1).int_], hb.1, hb.2, q _ H1 ph1 t1 r1 walks_r⟩
      · cases ev
    · cases ev
theorem mi_r2 {c : Bool} (hg : Gl X "range") (hm : X.mg "range" = none) (ha : PE X e (tG .p X.K ow ma)) (hb : PE X e2 (tG .p X.K ow mb)) (hs : starEach [e, e2] X.env = [(false, eval e X.env), (false, eval e2 X.env)] := by rfl) (hs2 : starEach [e2] X.env = [(false, eval e2 X.env)] := by rfl) :
    PI X tg (.Call (.Name "range" p) [e, e2] [] pos) (tI c X.K ow (iR2 ma mb)) :=
  PI.imp (pi_range2 hg hm (pa_cons ha (pa_cons hb pa_nil hs2) (by rw [hs, hs2])) hs hs2) fun sg H R ⟨ph, E, O, ro, S, sta, ds, S', ev, q⟩ => by
    obtain ⟨d, S1, e1, ev⟩ := Res.bind_ok ev
    obtain ⟨f, S2, e2, ev⟩ := Res.bind_ok ev
    refine ⟨ph, E, O, ro, S, sta, d, S1, e1, fun v H1 ph1 t1 r1 z1 => ?_⟩
    refine ⟨ph1, E, O, ro, S1, sta.step t1 r1, f, S2, e2, fun w H2 ph2 t2 r2 z2 => ?_⟩
    split at ev
    · split at ev
      · rename_i hb
        cases ev
        exact ⟨_, _, by rw [(RR.asP z1).int_, (RR.asP z2).int_], ⟨hb.1.1, hb.1.2, hb.2.1, hb.2.2⟩, q _ H2 ph2 (t1.trans t2) r2 walks_r⟩
      · cases ev
    · cases ev
theorem pairs_at : ∀ (xs ys : List PyData) (i : Nat), (pairsF xs ys)[i]? = match xs[i]?, ys[i]? with
    | some x, some y => some (.p (.tuple [x, y]))
    | _, _ => none
  | [], ys, i => by simp [pairsF]
  | x :: xs, [], i => by
    simp only [pairsF, List.zip_nil_right, List.map_nil]
    cases (x :: xs)[i]? <;> rfl
  | x :: xs, y :: ys, 0 => rfl
  | x :: xs, y :: ys, i + 1 => by
    have h := pairs_at xs ys i
    simp only [pairsF] at h ⊢
    simpa using h
theorem z_item {K : PySem.W.Frag} {ph : List Addr} {Ex : Addr → Prop} {H : Hp} {x y : PyData} {vx vy : V} {T : Addr} (h1 : Rep K H (okx ph Ex) x vx) (h2 : Rep K H (okx ph Ex) y vy) (nT : H T = none) : RepD K ph Ex (upd H T (.tup [vx, vy])) (.p (.tuple [x, y])) (.ref T) := by
  have s : Step ph ph H (upd H T (.tup [vx, vy])) := Step.fresh nT
  show Rep K _ (okx ph Ex) (.tuple [x, y]) (.ref T)
  simp only [Rep]
  exact ⟨T, [vx, vy], rfl, SqT.of upd_same, .cons (h1.step s) (.cons (h2.step s) .nil)⟩
theorem walks_zl {K : PySem.W.Frag} {ph : List Addr} {Ex U : Addr → Prop} {H : Hp} {a b : Addr} {xs ys : List V} {ds es : List PyData} (us : ∀ a, U a → Ex a) (h : H a = some (.lst xs)) (k : a ∉ ph) (k2 : ¬ U a) (r : RepAll K H (okx ph Ex) ds xs)
    (h' : H b = some (.lst ys)) (k' : b ∉ ph) (k2' : ¬ U b) (r' : RepAll K H (okx ph Ex) es ys) : Walks K ph Ex U H (Itz K a b) (pairsF ds es) := by
  intro ph2 O2 H2 g i
  have h2 := g.lst h k k2
  have r2 := r.go g us
  have h3 := g.lst h' k' k2'
  have r3 := r'.go g us
  rw [pairs_at]
  cases e1 : ds[i]? with
  | none =>
    refine ⟨fun d e => (by cases e), fun _ _ => ⟨xs, ys, SqL.of h2, SqL.of h3, .inl ?_⟩⟩
    exact List.getElem?_eq_none_iff.mp (r2.get_none e1)
  | some f =>
    cases e2 : es[i]? with
    | none =>
      refine ⟨fun d e => (by cases e), fun _ _ => ⟨xs, ys, SqL.of h2, SqL.of h3, .inr ?_⟩⟩
      exact List.getElem?_eq_none_iff.mp (r3.get_none e2)
    | some f' =>
      obtain ⟨x, h4, h5⟩ := r2.get e1
      obtain ⟨y, h6, h7⟩ := r3.get e2
      refine ⟨fun d e => ?_, fun e _ => by cases e⟩
      cases e
      refine ⟨⟨xs, ys, x, y, SqL.of h2, SqL.of h3, h4, h6⟩, fun v H3 hy => ?_⟩
      obtain ⟨T, x', y', rfl, nT, rfl, q1, q2⟩ := hy
      have e3 := q1 xs (SqL.of h2)
      have e4 := q2 ys (SqL.of h3)
      rw [h4] at e3
      rw [h6] at e4
      cases e3
      cases e4
      exact ⟨.inr ⟨T, _, nT, rfl⟩, z_item h5 h7 nT⟩
theorem walks_zt {K : PySem.W.Frag} {ph : List Addr} {Ex U : Addr → Prop} {H : Hp} {a b : Addr} {xs ys : List V} {ds es : List PyData} (us : ∀ a, U a → Ex a) (h : SqT K H a xs) (r : RepAll K H (okx ph Ex) ds xs)
    (h' : SqT K H b ys) (r' : RepAll K H (okx ph Ex) es ys) : Walks K ph Ex U H (RZ.ItzT K a b) (pairsF ds es) := by
  intro ph2 O2 H2 g i
  have h2 := g.sqT h
  have r2 := r.go g us
  have h3 := g.sqT h'
  have r3 := r'.go g us
  rw [pairs_at]
  cases e1 : ds[i]? with
  | none =>
    refine ⟨fun d e => (by cases e), fun _ _ => ⟨xs, ys, h2, h3, .inl ?_⟩⟩
    exact List.getElem?_eq_none_iff.mp (r2.get_none e1)
  | some f =>
    cases e2 : es[i]? with
    | none =>
      refine ⟨fun d e => (by cases e), fun _ _ => ⟨xs, ys, h2, h3, .inr ?_⟩⟩
      exact List.getElem?_eq_none_iff.mp (r3.get_none e2)
    | some f' =>
      obtain ⟨x, h4, h5⟩ := r2.get e1
      obtain ⟨y, h6, h7⟩ := r3.get e2
      refine ⟨fun d e => ?_, fun e _ => by cases e⟩
      cases e
      refine ⟨⟨xs, ys, x, y, h2, h3, h4, h6⟩, fun v H3 hy => ?_⟩
      obtain ⟨T, x', y', rfl, nT, rfl, q1, q2⟩ := hy
      have e3 := q1 xs h2
      have e4 := q2 ys h3
      rw [h4] at e3
      rw [h6] at e4
      cases e3
      cases e4
      exact ⟨.inr ⟨T, _, nT, rfl⟩, z_item h5 h7 nT⟩
theorem z_go {K : PySem.W.Frag} {c : Bool} {k : Kd} (hk : c = true ∨ k = .e) (hf : k ≠ .f) : ∀ sg H R, tI c K ow (iZ ma mb) sg H R → RZ.iZipA K (tCons (tG k K ow ma) (tCons (tG k K ow mb) tNil)) sg H R := by
  rintro sg H R ⟨ph, E, O, ro, S, sta, ds, S', ev, q⟩
  obtain ⟨d, S1, e1, ev⟩ := Res.bind_ok ev
  obtain ⟨f, S2, e2, ev⟩ := Res.bind_ok ev
  have asP : ∀ {ph1 : List Addr} {H0 H1 : Hp} {S : Store} {d : D} {v : V}, RR k K ph1 (EO E O) (Fre H0) H1 S d v → RepP K ph1 (EO E O) H1 d v := fun {ph1 H0 H1 S d v} z => by
    cases k with
    | e => exact RepD.toP (RR.asE z)
    | p => exact RR.asP z
    | f => exact absurd rfl hf
  have out : ∀ {ph1 : List Addr} {H0 H1 : Hp} {S : Store} {l : List PyData} {a : Addr}, RR k K ph1 (EO E O) (Fre H0) H1 S (.p (.list l)) (.ref a) → ¬ Mu c O a := fun {ph1 H0 H1 S l a} z u => by
    rcases hk with hk | hk
    · rw [hk] at u; exact u
    · subst hk
      have z2 : Rep K H1 (okx ph1 (EO E O)) (.list _) (.ref a) := z
      simp only [Rep] at z2
      obtain ⟨a', xs', ea', _, h4, _⟩ := z2
      cases ea'
      exact h4.2 (Mu.sub a u)
  refine ⟨ph, E, O, ro, S, sta, d, S1, e1, fun v H1 ph1 t1 r1 z1 => ?_⟩
  refine ⟨ph1, E, O, ro, S1, sta.step t1 r1, f, S2, e2, fun w H2 ph2 t2 r2 z2 => ?_⟩
  split at ev
  · cases ev
    obtain ⟨a, xs, ea, h1, h2, h3⟩ := (asP z1).list_
    obtain ⟨b, ys, eb, h4, h5, h6⟩ := (asP z2).list_
    subst ea eb
    refine ⟨a, b, xs, ys, rfl, .inl ⟨SqL.of (t2.keep a _ h1 h2 fun _ z => by cases z), SqL.of h4, q _ H2 ph2 (t1.trans t2) r2 (walks_zl Mu.sub (t2.keep a _ h1 h2 fun _ z => by cases z) (t2.out h1 h2) (out z1) (h3.step t2) h4 h5 (out z2) h6)⟩⟩
  · cases ev
    obtain ⟨a, xs, ea, h1, h3⟩ := (asP z1).tup_
    obtain ⟨b, ys, eb, h4, h6⟩ := (asP z2).tup_
    subst ea eb
    exact ⟨a, b, xs, ys, rfl, .inr ⟨t2.sqT h1, h4, q _ H2 ph2 (t1.trans t2) r2 (walks_zt Mu.sub (t2.sqT h1) (h3.step t2) h4 h6)⟩⟩
  · cases ev
theorem mi_z {c : Bool} {k : Kd} (hg : Gl X "zip") (hm : X.mg "zip" = none) (ha : PE X e (tG k X.K ow ma)) (hb : PE X e2 (tG k X.K ow mb)) (hk : c = true ∨ k = .e := by first | exact .inl rfl | exact .inr rfl) (hf : k ≠ .f := by decide) (hs : starEach [e, e2] X.env = (false, eval e X.env) :: starEach [e2] X.env := by rfl) (hs2 : starEach [e2] X.env = (false, eval e2 X.env) :: starEach [] X.env := by rfl)
    (hpl : (backTo pos (starEach [e2] X.env)).any (·.1) = false := by rfl) : PI X (.Tuple elts kk tpos) (.Call (.Name "zip" p) [e, e2] [] pos) (tI c X.K ow (iZ ma mb)) :=
  PI.imp (RZ.pi_zipA hg hm (pa_cons ha (pa_cons hb pa_nil hs2) hs) hs hpl) (z_go hk hf)
end

/-! ### for -/
def forL (p : Pt) (m : SM) : List D → SM
  | [] => fun ro S => .ok (.nx ro) S
  | d :: r => fun ro S => match bindP p d ro with
    | none => .bad
    | some ro1 => (m ro1 S).bind fun f S1 => match f with
      | .nx ro2 => forL p m r ro2 S1
      | .ct ro2 => forL p m r ro2 S1
      | .bk ro2 => .ok (.nx ro2) S1
      | .rt v => .ok (.rt v) S1
def sFor (p : Pt) (it : LM) (m : SM) : SM := fun ro S => (it ro S).bind fun ds S1 => forL p m ds ro S1
section
variable {X : Cx} {ow : Nat → Bool} {kr : Kd} {tg iter : Expr} {body : List Stmt} {pos : Pos} {p : Pt} {it : LM} {m : SM}
theorem Go.more {ph ph2 : List Addr} {O O2 : Addr → Prop} {H H2 H3 : Hp} (g : Go ph O H ph2 O2 H2) (h : H3 = H2 ∨ ∃ p o, H2 p = none ∧ H3 = upd H2 p o) : Go ph O H ph2 O2 H3 := by
  rcases h with h | ⟨p, o, n, h⟩
  · rw [h]; exact g
  · rw [h]; exact g.trans (Go.of (Step.fresh n))
theorem Sta.grow {K : PySem.W.Frag} {ph : List Addr} {E O : Addr → Prop} {sg : L2.St} {H2 H3 : Hp} {ro : Env} {S : Store} (s : Sta K ow ph E O sg H2 ro S) (h : H3 = H2 ∨ ∃ p o, H2 p = none ∧ H3 = upd H2 p o) : Sta K ow ph E O sg H3 ro S := by
  rcases h with h | ⟨p, o, n, h⟩
  · rw [h]; exact s
  · rw [h]; exact s.step (Step.fresh n) (s.sto.fresh n)
theorem ms_for (hp : PassesOwn (model X.prog X.w) X.A X.env X.xe) (hc : X.calm = true) (hi : PI X tg iter (tI false X.K ow it)) (hg : PG X tg (tPt X.K ow p)) (hb : PSs X body (tS kr X.K ow m))
    (hs : ∀ x, foldedSetIterable iter X.env x = pure x := by intro _; rfl) : PS X (.For tg iter body [] pos) (tS kr X.K ow (sFor p it m)) :=
  PS.imp (ps_for hp hc hi hg hb hs) fun D sg H ⟨ph, E, O, ro, S, sta, q⟩ => by
    cases e1 : it ro S with
    | bad => unfold sFor at q; rw [e1] at q; exact q.elim
    | exn x S1 => unfold sFor at q; rw [e1] at q; exact q.elim
    | ok ds S1 =>
      unfold sFor at q
      rw [e1] at q
      have q : Aft kr X.K ow ph E O H D (forL p m ds ro S1) := q
      refine ⟨ph, E, O, ro, S, sta, ds, S1, e1, fun J H1 ph1 t1 r1 wk => ?_⟩
      have wk : Walks X.K ph1 (EO E O) O H1 J ds := wk
      refine ⟨fun i n sg2 H2 => n = ds.length - i ∧ i ≤ ds.length ∧ ∃ ph2 O2 ro2 S2, Go ph1 O H1 ph2 O2 H2 ∧ Sta X.K ow ph2 E O2 sg2 H2 ro2 S2 ∧ Aft kr X.K ow ph2 E O2 H2 D (forL p m (ds.drop i) ro2 S2), ⟨ds.length, by simp, Nat.zero_le _, ph1, O, ro, S1, Go.refl, sta.step t1 r1, by rw [List.drop_zero]; exact Aft.back (Go.of t1) q⟩, ?_⟩
      rintro i n sg2 H2 ⟨en, hl, ph2, O2, ro2, S2, g2, s2, q2⟩
      subst en
      obtain ⟨w1, w2⟩ := wk ph2 O2 H2 g2 i
      cases e2 : ds[i]? with
      | none =>
        have hd : ds.drop i = [] := List.drop_eq_nil_iff.mpr (List.getElem?_eq_none_iff.mp e2)
        rw [hd] at q2
        exact .inl ⟨w2 e2 hl, q2 sg2 H2 ph2 O2 Go.refl s2⟩
      | some d =>
        have hlt : i < ds.length := (List.getElem?_eq_some_iff.mp e2).1
        have hd : ds.drop i = d :: ds.drop (i + 1) := by
          rw [List.drop_eq_getElem_cons hlt]
          congr 1
          exact (List.getElem?_eq_some_iff.mp e2).2
        rw [hd] at q2
        obtain ⟨w3, w4⟩ := w1 d e2
        refine .inr ⟨w3, fun sg2 H2 => ∃ ph2 O2 ro2 S2, Go ph1 O H1 ph2 O2 H2 ∧ Sta X.K ow ph2 E O2 sg2 H2 ro2 S2 ∧ Aft kr X.K ow ph2 E O2 H2 D (forL p m (ds.drop (i + 1)) ro2 S2), fun sg3 H3 h3 => ⟨ds.length - (i + 1), by omega, rfl, hlt, h3⟩, fun x H3 hy => ?_⟩
        obtain ⟨k1, k2⟩ := w4 x H3 hy
        have g3 := g2.more k1
        have s3 := s2.grow k1
        have g23 : Go ph2 O2 H2 ph2 O2 H3 := (Go.refl).more k1
        have q3 := Aft.back g23 q2
        unfold forL at q3
        cases e3 : bindP p d ro2 with
        | none => rw [e3] at q3; exact q3.elim
        | some ro3 =>
          rw [e3] at q3
          refine ⟨ph2, E, O2, ro2, S2, d, s3, RepD.ex (fun b z => ?_) k2, ro3, e3, fun sg4 b4 s4 => ⟨ph2, E, O2, ro3, S2, s4, ?_⟩⟩
          · rcases z with z | z
            · exact .inl (.inl (.inl z))
            · exact .inl (.inr z)
          · have q3 : Aft kr X.K ow ph2 E O2 H3 D ((m ro3 S2).bind fun f S1 => match f with
              | .nx ro2 => forL p m (ds.drop (i + 1)) ro2 S1
              | .ct ro2 => forL p m (ds.drop (i + 1)) ro2 S1
              | .bk ro2 => .ok (.nx ro2) S1
              | .rt v => .ok (.rt v) S1) := q3
            cases e4 : m ro3 S2 with
            | bad => rw [e4] at q3; exact q3
            | exn x S => rw [e4] at q3; exact q3
            | ok f S3 =>
              simp only [e4, Res.bind] at q3
              cases f with
              | nx ro4 => exact fun sg5 H5 ph5 O5 g5 s5 => ⟨ph5, O5, ro4, S3, g3.trans g5, s5, Aft.back g5 q3⟩
              | ct ro4 => exact fun sg5 H5 ph5 O5 g5 s5 => ⟨ph5, O5, ro4, S3, g3.trans g5, s5, Aft.back g5 q3⟩
              | bk ro4 => exact q3
              | rt v => exact q3
end
end
end Mi

namespace Mi
open PySem PySem.Spec PyProof.Rows L2
noncomputable section

/-! ### comprehensions -/
def wipeE (ro : Env) : List Nat → Env
  | [] => ro
  | v :: vs => (wipeE ro vs).set v none
theorem wipeE_len (ro : Env) : ∀ vs : List Nat, (wipeE ro vs).length = ro.length
  | [] => rfl
  | v :: vs => by unfold wipeE; rw [List.length_set, wipeE_len ro vs]
theorem wipeE_some {ro : Env} {i : Nat} {d : D} : ∀ {vs : List Nat}, (wipeE ro vs)[i]? = some (some d) → ro[i]? = some (some d) ∧ i ∉ vs
  | [], h => ⟨h, by simp⟩
  | v :: vs, h => by
    unfold wipeE at h
    by_cases hi : v = i
    · subst hi
      by_cases hv : v < (wipeE ro vs).length
      · rw [List.getElem?_set_self hv] at h; cases h
      · rw [List.getElem?_eq_none (by simpa using hv)] at h; cases h
    · rw [List.getElem?_set_ne hi] at h
      obtain ⟨h1, h2⟩ := wipeE_some h
      refine ⟨h1, fun z => ?_⟩
      rcases List.mem_cons.mp z with z | z
      · exact hi z.symm
      · exact h2 z
theorem wipe_at {s : L2.St} {j : Nat} : ∀ {vs : List Nat}, (wipe s vs)[j]? = if j ∈ vs then (s[j]?).map (fun _ => Option.none) else s[j]?
  | [] => by simp [wipe]
  | v :: vs => by
    unfold wipe
    by_cases hv : v = j
    · subst hv
      rw [if_pos List.mem_cons_self]
      by_cases hl : v < (wipe s vs).length
      · have hl2 : v < s.length := by rw [wipe_length] at hl; exact hl
        rw [List.getElem?_set_self hl, List.getElem?_eq_getElem hl2]
        rfl
      · have hl2 : ¬ v < s.length := by rw [wipe_length] at hl; exact hl
        rw [List.getElem?_eq_none (by simpa using hl), List.getElem?_eq_none (by simpa using hl2)]
        rfl
    · rw [List.getElem?_set_ne hv, wipe_at]
      have e : (j ∈ v :: vs) ↔ j ∈ vs := by
        constructor
        · intro z
          rcases List.mem_cons.mp z with z | z
          · exact absurd z.symm hv
          · exact z
        · exact List.mem_cons_of_mem _
      simp only [e]
theorem wipe_but {s s' : L2.St} {is vs : List Nat} (h : But is (wipe s vs) s') (sub : ∀ j, j ∈ is → j ∈ vs) : wipe s' vs = wipe s vs := by
  refine List.ext_getElem? fun j => ?_
  rw [wipe_at]
  by_cases hj : j ∈ vs
  · rw [if_pos hj]
    have e1 : s'.length = s.length := by rw [h.1, wipe_length]
    have e2 := wipe_at (s := s) (j := j) (vs := vs)
    rw [if_pos hj] at e2
    rw [e2]
    by_cases hl : j < s.length
    · rw [List.getElem?_eq_getElem hl, List.getElem?_eq_getElem (by rw [e1]; exact hl)]
      rfl
    · rw [List.getElem?_eq_none (l := s') (by rw [e1]; omega), List.getElem?_eq_none (l := s) (by omega)]
  · rw [if_neg hj]
    exact h.2 j fun z => hj (sub j z)
section
variable {K : PySem.W.Frag} {ow : Nat → Bool} {ph ph1 : List Addr} {E O : Addr → Prop} {H H1 : Hp} {sg : L2.St} {ro : Env} {S S1 : Store}
theorem Sta.wipe (s : Sta K ow ph E O sg H ro S) (vs : List Nat) : Sta K ow ph E O (wipe sg vs) H (wipeE ro vs) S := by
  have at_ : ∀ (j : Nat) (d : D), (wipeE ro vs)[j]? = some (some d) → ro[j]? = some (some d) ∧ (L2.wipe sg vs)[j]? = sg[j]? := fun j d q => by
    obtain ⟨h1, h2⟩ := wipeE_some q
    rw [wipe_at, if_neg h2]
    exact ⟨h1, rfl⟩
  refine ⟨s.domE, s.domO, s.dis, s.sto, by rw [wipeE_len, wipe_length, s.len], fun j d hj q => ?_, fun j d hj q => ?_, fun j l d e a hj hl q1 q2 q3 q4 => ?_⟩
  · obtain ⟨h1, h2⟩ := at_ j d q
    rw [h2]
    exact s.slot j d hj h1
  · obtain ⟨h1, h2⟩ := at_ j d q
    rw [h2]
    exact s.own j d hj h1
  · obtain ⟨h1, h2⟩ := at_ j d q1
    obtain ⟨h3, h4⟩ := at_ l e q2
    rw [h2] at q3
    rw [h4] at q4
    exact s.apart j l d e a hj hl h1 h3 q3 q4
/-- a list of one's own that stands in no slot -/
theorem Sta.wrO {a : Addr} {xs ys : List V} (s : Sta K ow ph E O sg H ro S) (oa : O a) (ha : H a = some (.lst xs)) (na : a ∉ ph) (no : ∀ (j : Nat) (e : D), ow j = true → ro[j]? = some (some e) → sg[j]? ≠ some (some (.ref a))) :
    Sta K ow ph E O sg (upd H a (.lst ys)) ro S ∧ (∀ d v, RepAll K H (okx ph (EO E O)) d v → RepAll K (upd H a (.lst ys)) (okx ph (EO E O)) d v) ∧ ∀ U : Addr → Prop, U a → Go ph U H ph U (upd H a (.lst ys)) := by
  have go : ∀ U : Addr → Prop, U a → Go ph U H ph U (upd H a (.lst ys)) := by
    intro U ua
    refine ⟨fun b o e _ nb _ => by rw [upd_ne (fun z => nb (by rw [z]; exact ua))]; exact e, fun b zs e => by rw [upd_ne (fun z => by rw [z, ha] at e; cases e)]; exact e, fun b o u e => by rw [upd_ne (fun z => by rw [z, ha] at e; cases e)]; exact e, fun b e => ?_, ⟨[], by simp⟩, fun _ e => .inl e, fun _ e => e, fun _ e => .inl e⟩
    by_cases z : b = a
    · rw [z, upd_same] at e; cases e
    · rw [upd_ne z] at e; exact e
  have gO := go O oa
  have kl : ∀ b zs, H b = some (.lst zs) → okx ph (EO E O) b → upd H a (.lst ys) b = some (.lst zs) ∧ okx ph (EO E O) b := fun b zs e k => ⟨by rw [upd_ne (fun z => k.2 (.inr (by rw [z]; exact oa)))]; exact e, k⟩
  have kd : ∀ b zs, H b = some (.dK zs) → okx ph (EO E O) b → upd H a (.lst ys) b = some (.dK zs) ∧ okx ph (EO E O) b := fun b zs e k => ⟨by rw [upd_ne (fun z => k.2 (.inr (by rw [z]; exact oa)))]; exact e, k⟩
  have kt : ∀ b zs, SqT K H b zs → SqT K (upd H a (.lst ys)) b zs := fun b zs h => gO.sqT h
  have rpA : ∀ d v, RepAll K H (okx ph (EO E O)) d v → RepAll K (upd H a (.lst ys)) (okx ph (EO E O)) d v := RepAll.mono kl kt kd
  refine ⟨⟨fun b h z => s.domE b h (gO.dom b z), fun b h z => s.domO b h (gO.dom b z), s.dis, ⟨s.sto.len, s.sto.nd, fun n b o e1 e2 => ?_⟩, s.len, fun j e hj q => ?_, fun j e hj q => ?_, s.apart⟩, rpA, go⟩
  · have z := s.sto.at_ n b o e1 e2
    cases o with
    | lst es =>
      obtain ⟨zs, e3, r3⟩ := z
      exact ⟨zs, by rw [upd_ne (fun z => na (by rw [← z]; exact List.mem_of_getElem? e1))]; exact e3, rpA _ _ r3⟩
  · obtain ⟨w, q1, q2⟩ := s.slot j e hj q
    refine ⟨w, q1, ?_⟩
    cases e with
    | p e => exact Rep.mono kl kt kd e w q2
    | ref n => exact q2
    | scr n =>
      obtain ⟨b, w1, k⟩ := q2
      rcases k with ⟨o, k⟩ | k
      · exact ⟨b, w1, .inl ⟨o, gO.frz _ _ _ k⟩⟩
      · exact ⟨b, w1, .inr k⟩
  · obtain ⟨w, q1, q2, q3, q4⟩ := s.own j e hj q
    have nw : w ≠ a := fun k => no j e hj q (by rw [q1, k])
    refine ⟨w, q1, q2, q3, ?_⟩
    cases e with
    | ref _ => exact q3.elim
    | scr _ => exact q3.elim
    | p e =>
      cases e with
      | list es =>
        obtain ⟨b, zs, w1, w2, w3, w4⟩ := q4.list_
        cases w1
        exact ⟨w, zs, rfl, by rw [upd_ne nw]; exact w2, w3, rpA _ _ w4⟩
      | dict es =>
        obtain ⟨b, zs, w1, w2, w3, w4⟩ := q4.dict_
        cases w1
        exact ⟨w, zs, rfl, by rw [upd_ne nw]; exact w2, w3, RepKv.mono kl kt kd _ _ w4⟩
      | _ => exact q3.elim
end
def bTrue : TM := fun _ S => .ok true S
def compL (p : Pt) (c : TM) (elt : EM) (ro : Env) : List D → M (List PyData)
  | [] => fun S => .ok [] S
  | d :: r => fun S => match bindP p d ro with
    | none => .bad
    | some ro1 => (c ro1 S).bind fun b S1 => if b = true then (elt ro1 S1).bind fun y S2 => (match y with
        | .p y => (compL p c elt ro r S2).bind fun l S3 => .ok (y :: l) S3
        | _ => .bad) else compL p c elt ro r S1
def eComp (vs : List Nat) (p : Pt) (it : LM) (c : TM) (elt : EM) : EM := fun ro S => (it ro S).bind fun ds S1 => if ds.length ≤ lim then (compL p c elt (wipeE ro vs) ds S1).bind fun l S2 => .ok (.p (.list l)) S2 else .bad
theorem lc_go {K : PySem.W.Frag} {ow : Nat → Bool} {vs : List Nat} {p : Pt} {it : LM} {c : TM} {elt : EM} (hsub : ∀ j, j ∈ p.slots → j ∈ vs) {tt : TT} (htt : ∀ sg H Q, tT K ow c sg H Q → tt sg H Q) : ∀ sg H Q, tG .f K ow (eComp vs p it c elt) sg H Q → tLc (tI true K ow it) (tPt K ow p) tt (tG .e K ow elt) vs sg H Q := by
  rintro sg H Q ⟨ph, E, O, ro, S, sta, d, S', ev, q⟩
  obtain ⟨ds, S1, e1, ev⟩ := Res.bind_ok ev
  split at ev
  · rename_i hlim
    obtain ⟨l, S2, e2, ev⟩ := Res.bind_ok ev
    cases ev
    refine ⟨ph, E, O, ro, S, sta, ds, S1, e1, fun J H1 ph1 t1 r1 wk Dd nD => ?_⟩
    have nH : H Dd = none := t1.dom Dd nD
    have tD : Step ph1 ph1 H1 (upd H1 Dd (.lst [])) := Step.fresh nD
    have moD : ∀ a, (EO E O a ∨ a = Dd) → EO E O a ∨ H1 a = none := fun a h => h.imp id fun e => by rw [e]; exact nD
    have rD : SRep K ph1 (fun b => EO E O b ∨ b = Dd) (upd H1 Dd (.lst [])) S1 := (r1.ex moD).fresh nD
    have s0 := (sta.more nH (t1.trans tD) (by rw [upd_same]; exact fun z => by cases z) rD).wipe vs
    have nslot : ∀ (j : Nat) (e : D), ow j = true → (wipeE ro vs)[j]? = some (some e) → (L2.wipe sg vs)[j]? ≠ some (some (.ref Dd)) := fun j e hj q z => by
      obtain ⟨q1, q2⟩ := wipeE_some q
      obtain ⟨b, k1, k2, _⟩ := sta.own j e hj q1
      rw [wipe_at, if_neg q2, k1] at z
      cases z
      exact sta.domO _ k2 nH
    have ex1 : ∀ b, EO E (fun b => O b ∨ b = Dd) b → (EO E O b ∨ b = Dd) := fun b h => by
      rcases h with h | h | h
      · exact .inl (.inl h)
      · exact .inl (.inr h)
      · exact .inr h
    have ex2 : ∀ b, (EO E O b ∨ b = Dd) → EO E (fun b => O b ∨ b = Dd) b := fun b h => by
      rcases h with (h | h) | h
      · exact .inl h
      · exact .inr (.inl h)
      · exact .inr (.inr h)
    have gD : Go ph1 (fun _ => False) H1 ph1 (fun b => b = Dd) (upd H1 Dd (.lst [])) := ⟨fun a o h n _ k => tD.keep a o h n k, tD.tup, tD.frz, tD.dom, tD.pre, tD.new, fun _ h => h.elim, fun a h => .inr (by rw [h]; exact nD)⟩
    have B : Nat → Hp → Prop := fun i H2 => True
    refine ⟨fun i n H2 => n = ds.length - i ∧ i ≤ ds.length ∧ ∃ ph2 S3 acc es l', Go ph1 (fun _ => False) H1 ph2 (fun b => b = Dd) H2 ∧ Sta K ow ph2 E (fun b => O b ∨ b = Dd) (L2.wipe sg vs) H2 (wipeE ro vs) S3 ∧ H2 Dd = some (.lst acc) ∧ Dd ∉ ph2 ∧
        RepAll K H2 (okx ph2 (EO E fun b => O b ∨ b = Dd)) es acc ∧ acc.length ≤ i ∧ compL p c elt (wipeE ro vs) (ds.drop i) S3 = .ok l' S' ∧ es ++ l' = l,
      ⟨ds.length, by simp, Nat.zero_le _, ph1, S1, [], [], l, gD, s0, upd_same, r1.out nD, .nil, Nat.le_refl _, by rw [List.drop_zero]; exact e2, rfl⟩, ?_⟩
    rintro i n H2 ⟨en, hl, ph2, S3, acc, es, l', g2, s2, hD, nDp, ra, hacc, ec, el⟩
    subst en
    obtain ⟨w1, w2⟩ := wk ph2 _ H2 g2 i
    cases e3 : ds[i]? with
    | none =>
      have hd : ds.drop i = [] := List.drop_eq_nil_iff.mpr (List.getElem?_eq_none_iff.mp e3)
      rw [hd] at ec
      cases ec
      rw [List.append_nil] at el
      subst el
      refine .inl ⟨w2 e3 hl, ?_⟩
      have st : Step ph ph2 H H2 := ⟨fun a o h n k => g2.keep a o (t1.keep a o h n k) (t1.out h n) (fun z => z) k, fun a xs h => g2.tup a xs (t1.tup a xs h), fun a o u h => g2.frz a o u (t1.frz a o u h), fun a h => t1.dom a (g2.dom a h), by
        obtain ⟨r, e⟩ := t1.pre
        obtain ⟨r', e'⟩ := g2.pre
        exact ⟨r ++ r', by rw [e', e, List.append_assoc]⟩, fun a h => by
        rcases g2.new a h with z | z
        · exact t1.new a z
        · exact .inr (t1.dom a z)⟩
      exact q _ H2 ph2 st (s2.sto.ex fun b z => .inl (ex2 b (.inl z))) ⟨Dd, es, acc, rfl, rfl, nH, hD, nDp, ra.ex fun b z => .inl (ex2 b z), s2.sto.ex fun b z => .inl (ex2 b z)⟩
    | some d =>
      have hlt : i < ds.length := (List.getElem?_eq_some_iff.mp e3).1
      have hd : ds.drop i = d :: ds.drop (i + 1) := by
        rw [List.drop_eq_getElem_cons hlt]
        congr 1
        exact (List.getElem?_eq_some_iff.mp e3).2
      rw [hd] at ec
      unfold compL at ec
      obtain ⟨w3, w4⟩ := w1 d e3
      refine .inr ⟨w3, fun H2 => ∃ ph2 S3 acc es l', Go ph1 (fun _ => False) H1 ph2 (fun b => b = Dd) H2 ∧ Sta K ow ph2 E (fun b => O b ∨ b = Dd) (L2.wipe sg vs) H2 (wipeE ro vs) S3 ∧ H2 Dd = some (.lst acc) ∧ Dd ∉ ph2 ∧
        RepAll K H2 (okx ph2 (EO E fun b => O b ∨ b = Dd)) es acc ∧ acc.length ≤ i + 1 ∧ compL p c elt (wipeE ro vs) (ds.drop (i + 1)) S3 = .ok l' S' ∧ es ++ l' = l, fun H3 h3 => ⟨ds.length - (i + 1), by omega, rfl, hlt, h3⟩, fun x H3 hy => ?_⟩
      obtain ⟨k1, k2⟩ := w4 x H3 hy
      have g3 := g2.more k1
      have s3 := s2.grow k1
      have st23 : Step ph2 ph2 H2 H3 := by
        rcases k1 with k1 | ⟨p, o, n, k1⟩
        · rw [k1]; exact Step.refl _ _
        · rw [k1]; exact Step.fresh n
      cases e4 : bindP p d (wipeE ro vs) with
      | none => rw [e4] at ec; cases ec
      | some ro3 =>
        simp only [e4] at ec
        obtain ⟨b, S4, e5, ec⟩ := Res.bind_ok ec
        refine ⟨ph2, E, _, wipeE ro vs, S3, d, s3, RepD.ex (fun b z => .inl (ex1 b z)) k2, ro3, e4, fun sg4 b4 s4 => ⟨wipe_but b4 hsub, htt _ _ _ ⟨ph2, E, _, ro3, S3, s4, b, S4, e5, fun H4 ph4 t4 r4 => ?_⟩⟩⟩
        have st24 := st23.trans t4
        have s5 := s4.step t4 r4
        have hD4 := st24.keep Dd _ hD nDp (fun _ z => by cases z)
        have nD4 := st24.out hD nDp
        cases b with
        | false =>
          rw [if_neg Bool.false_ne_true] at ec
          refine (if_neg Bool.false_ne_true).mpr ?_
          exact ⟨ph4, S4, acc, es, l', g3.trans (Go.of t4), s3.step t4 r4, hD4, nD4, ra.step st24, Nat.le_succ_of_le hacc, ec, el⟩
        | true =>
          rw [if_pos rfl] at ec
          refine (if_pos rfl).mpr ?_
          obtain ⟨y, S5, e6, ec⟩ := Res.bind_ok ec
          split at ec
          · rename_i y
            obtain ⟨l2, S6, e7, ec⟩ := Res.bind_ok ec
            cases ec
            refine ⟨ph4, E, _, ro3, S4, s5, .p y, S5, e6, fun v H5 ph5 t5 r5 z5 => ?_⟩
            have st25 := st24.trans t5
            have hD5 := st25.keep Dd _ hD nDp (fun _ z => by cases z)
            have nD5 := st25.out hD nDp
            have lz := lim_line
            refine ⟨acc, hD5, by omega, ?_⟩
            obtain ⟨s6, rA, go6⟩ := (((s3.step t4 r4).step t5 r5)).wrO (ys := acc ++ [v]) (.inr rfl) hD5 nD5 nslot
            refine ⟨ph5, S5, acc ++ [v], es ++ [y], l2, ((g3.trans (Go.of t4)).trans (Go.of t5)).trans (go6 _ rfl), s6, upd_same, nD5, rA _ _ ((ra.step st25).append (.cons z5 .nil)), by rw [List.length_append, List.length_singleton]; omega, e7, ?_⟩
            rw [List.append_assoc]
            exact el
          · cases ec
  · cases ev
section
variable {X : Cx} {ow : Nat → Bool} {kr : Kd} {tg iter elt cnd : Expr} {pos spos py : Pos} {p : Pt} {it : LM} {c : TM} {me : EM} {scope : Scope} {own : List (Str × Nat)} {i : Nat} {y : Str}
theorem mf_lc (hc : X.calm = true) (hN : X.N.Nodup) (hi : PI X tg iter (tI true X.K ow it)) (ok : BlkOk X.N X.env.scope scope own) (hsub : ∀ j, j ∈ p.slots → j ∈ own.map (·.2))
    (hg : ∀ (s : Shared) (H : Hp) (C : Addr) (cl : List (Str × Addr)) (fp : List Addr), PG (X.blk s H scope (compEnvC scope cl C X.env) fp) tg (tPt X.K ow p))
    (he : ∀ (s : Shared) (H : Hp) (C : Addr) (cl : List (Str × Addr)) (fp : List Addr), PE (X.blk s H scope (compEnvC scope cl C X.env) fp) elt (tG .e X.K ow me)) (hs : ∀ x, foldedSetIterable iter X.env x = pure x := by intro _; rfl) :
    PE X (.ListComp elt [⟨tg, iter, [], 0⟩] scope pos) (tG .f X.K ow (eComp (own.map (·.2)) p it bTrue me)) :=
  PE.imp (pe_lc hc hN hi ok hg (fun s H C cl fp => pts_nil) he hs) (lc_go hsub fun sg H Q ⟨ph, E, O, ro, S, sta, b, S', ev, q⟩ => by cases ev; exact q H ph (Step.refl _ _) sta.sto)
theorem mf_lcif (hc : X.calm = true) (hN : X.N.Nodup) (hi : PI X tg iter (tI true X.K ow it)) (ok : BlkOk X.N X.env.scope scope own) (hsub : ∀ j, j ∈ p.slots → j ∈ own.map (·.2))
    (hg : ∀ (s : Shared) (H : Hp) (C : Addr) (cl : List (Str × Addr)) (fp : List Addr), PG (X.blk s H scope (compEnvC scope cl C X.env) fp) tg (tPt X.K ow p))
    (ht : ∀ (s : Shared) (H : Hp) (C : Addr) (cl : List (Str × Addr)) (fp : List Addr), PT (X.blk s H scope (compEnvC scope cl C X.env) fp) cnd (tT X.K ow c))
    (he : ∀ (s : Shared) (H : Hp) (C : Addr) (cl : List (Str × Addr)) (fp : List Addr), PE (X.blk s H scope (compEnvC scope cl C X.env) fp) elt (tG .e X.K ow me)) (hs : ∀ x, foldedSetIterable iter X.env x = pure x := by intro _; rfl) :
    PE X (.ListComp elt [⟨tg, iter, [cnd], 0⟩] scope pos) (tG .f X.K ow (eComp (own.map (·.2)) p it c me)) :=
  PE.imp (pe_lc hc hN hi ok hg (fun s H C cl fp => pts_one (ht s H C cl fp)) he hs) (lc_go hsub fun sg H Q h => h)
/-- name = [..] -/
theorem ms_setLc (hc : X.calm = true) (hN : X.N.Nodup) (hy : X.N[i]? = some y) (hyl : X.env.scope.names.lookup y = some .local) (hsw : swapsWith (.ListComp elt [⟨tg, iter, [], 0⟩] scope pos) (some (.Name y py)) spos.line X.env = pure true) (ho : ow i = false)
    (hi : PI X tg iter (tI true X.K ow it)) (ok : BlkOk X.N X.env.scope scope own) (hsub : ∀ j, j ∈ p.slots → j ∈ own.map (·.2))
    (hg : ∀ (s : Shared) (H : Hp) (C : Addr) (cl : List (Str × Addr)) (fp : List Addr), PG (X.blk s H scope (compEnvC scope cl C X.env) fp) tg (tPt X.K ow p))
    (he : ∀ (s : Shared) (H : Hp) (C : Addr) (cl : List (Str × Addr)) (fp : List Addr), PE (X.blk s H scope (compEnvC scope cl C X.env) fp) elt (tG .e X.K ow me)) (hs : ∀ x, foldedSetIterable iter X.env x = pure x := by intro _; rfl) :
    PS X (.Assign [.Name y py] (.ListComp elt [⟨tg, iter, [], 0⟩] scope pos) spos) (tS kr X.K ow (sSet i (eComp (own.map (·.2)) p it bTrue me))) :=
  PS.imp (ps_setLc hc hN hy hyl hsw hi ok hg (fun s H C cl fp => pts_nil) he hs) fun D sg H h => lc_go hsub (fun sg H Q ⟨ph, E, O, ro, S, sta, b, S', ev, q⟩ => by cases ev; exact q H ph (Step.refl _ _) sta.sto) sg H _ <| bind_e h fun ph ph1 E O ro S S1 d v H1 sta t1 r1 z1 q => q _ H1 ph1 O (Go.of t1) ((sta.step t1 r1).set ho (RR.fe z1 fun a k1 k2 => sta.domX a k1 k2))
theorem ms_setLcif (hc : X.calm = true) (hN : X.N.Nodup) (hy : X.N[i]? = some y) (hyl : X.env.scope.names.lookup y = some .local) (hsw : swapsWith (.ListComp elt [⟨tg, iter, [cnd], 0⟩] scope pos) (some (.Name y py)) spos.line X.env = pure true) (ho : ow i = false)
    (hi : PI X tg iter (tI true X.K ow it)) (ok : BlkOk X.N X.env.scope scope own) (hsub : ∀ j, j ∈ p.slots → j ∈ own.map (·.2))
    (hg : ∀ (s : Shared) (H : Hp) (C : Addr) (cl : List (Str × Addr)) (fp : List Addr), PG (X.blk s H scope (compEnvC scope cl C X.env) fp) tg (tPt X.K ow p))
    (ht : ∀ (s : Shared) (H : Hp) (C : Addr) (cl : List (Str × Addr)) (fp : List Addr), PT (X.blk s H scope (compEnvC scope cl C X.env) fp) cnd (tT X.K ow c))
    (he : ∀ (s : Shared) (H : Hp) (C : Addr) (cl : List (Str × Addr)) (fp : List Addr), PE (X.blk s H scope (compEnvC scope cl C X.env) fp) elt (tG .e X.K ow me)) (hs : ∀ x, foldedSetIterable iter X.env x = pure x := by intro _; rfl) :
    PS X (.Assign [.Name y py] (.ListComp elt [⟨tg, iter, [cnd], 0⟩] scope pos) spos) (tS kr X.K ow (sSet i (eComp (own.map (·.2)) p it c me))) :=
  PS.imp (ps_setLc hc hN hy hyl hsw hi ok hg (fun s H C cl fp => pts_one (ht s H C cl fp)) he hs) fun D sg H h => lc_go hsub (fun sg H Q h => h) sg H _ <| bind_e h fun ph ph1 E O ro S S1 d v H1 sta t1 r1 z1 q => q _ H1 ph1 O (Go.of t1) ((sta.step t1 r1).set ho (RR.fe z1 fun a k1 k2 => sta.domX a k1 k2))
/-- .. a list of one's own -/
theorem ms_osetLc (hc : X.calm = true) (hN : X.N.Nodup) (hy : X.N[i]? = some y) (hyl : X.env.scope.names.lookup y = some .local) (hsw : swapsWith (.ListComp elt [⟨tg, iter, [], 0⟩] scope pos) (some (.Name y py)) spos.line X.env = pure true) (ho : ow i = true)
    (hi : PI X tg iter (tI true X.K ow it)) (ok : BlkOk X.N X.env.scope scope own) (hsub : ∀ j, j ∈ p.slots → j ∈ own.map (·.2))
    (hg : ∀ (s : Shared) (H : Hp) (C : Addr) (cl : List (Str × Addr)) (fp : List Addr), PG (X.blk s H scope (compEnvC scope cl C X.env) fp) tg (tPt X.K ow p))
    (he : ∀ (s : Shared) (H : Hp) (C : Addr) (cl : List (Str × Addr)) (fp : List Addr), PE (X.blk s H scope (compEnvC scope cl C X.env) fp) elt (tG .e X.K ow me)) (hs : ∀ x, foldedSetIterable iter X.env x = pure x := by intro _; rfl) :
    PS X (.Assign [.Name y py] (.ListComp elt [⟨tg, iter, [], 0⟩] scope pos) spos) (tS kr X.K ow (sSet i (eComp (own.map (·.2)) p it bTrue me))) :=
  PS.imp (ps_setLc hc hN hy hyl hsw hi ok hg (fun s H C cl fp => pts_nil) he hs) fun D sg H h => lc_go hsub (fun sg H Q ⟨ph, E, O, ro, S, sta, b, S', ev, q⟩ => by cases ev; exact q H ph (Step.refl _ _) sta.sto) sg H _ (oset_go ho h)
end
end
end Mi

namespace Mi
open PySem PySem.Spec PyProof.Rows L2
noncomputable section

/-! ### defs -/
def spG (kd : Kd) (K : PySem.W.Frag) (c : List D → M D) (vs : List V) (H : Hp) (Q : VK) : Prop := ∃ (ph : List Addr) (Ex : Addr → Prop) (ds : List D) (S : Store), (∀ a, Ex a → H a ≠ none) ∧ SRep K ph Ex H S ∧ RepDs K ph Ex H ds vs ∧
  ∃ d S', c ds S = .ok d S' ∧ ∀ v H' ph', Step ph ph' H H' → SRep K ph' Ex H' S' → RR kd K ph' Ex (Fre H) H' S' d v → Q v H'
/-- the def at f computes c, in at most lv calls -/
structure FnG (P : Program) (w : World) (K : PySem.W.Frag) (mg : Str → Option Value) (base : Heap) (lv : Nat) (kd : Kd) (f : Addr) (fd : FuncData) (ps : List Str) (c : List D → M D) : Prop where
  go : ∀ (A : Around) (fr : List PySem.Env) (s : Shared) (H : Hp) (args : Args) (us : List Value) (vs : List V) (Q : VK), Room lv A → A.guards = some [] → Env0 P w K mg base A fr s H → BindsTo s fd args (ps.zip us) → Vals vs us → vs.length = ps.length →
    spG kd K c vs H Q → codeAny (model P w) A (.call (.ref f) args) (CR CX0 fr P w H s Q E0) s
theorem FnG.mono {P : Program} {w : World} {K : PySem.W.Frag} {mg : Str → Option Value} {base : Heap} {i j : Nat} {kd : Kd} {f : Addr} {fd : FuncData} {ps : List Str} {c : List D → M D} (F : FnG P w K mg base i kd f fd ps c) (h : i ≤ j) : FnG P w K mg base j kd f fd ps c :=
  ⟨fun A fr s H args us vs Q hr => F.go A fr s H args us vs Q (hr.mono h)⟩
theorem FnG.imp {P : Program} {w : World} {K : PySem.W.Frag} {mg : Str → Option Value} {base : Heap} {i : Nat} {kd : Kd} {f : Addr} {fd : FuncData} {ps : List Str} {c c' : List D → M D} (F : FnG P w K mg base i kd f fd ps c) (h : ∀ ds S d S', c' ds S = .ok d S' → c ds S = .ok d S') : FnG P w K mg base i kd f fd ps c' :=
  ⟨fun A fr s H args us vs Q hr hg e hb r hl ⟨ph, Ex, ds, S, h1, h2, h3, d, S', h4, h5⟩ => F.go A fr s H args us vs Q hr hg e hb r hl ⟨ph, Ex, ds, S, h1, h2, h3, d, S', h _ _ _ _ h4, h5⟩⟩
def eCall (c : List D → M D) (am : AM) : EM := fun ro S => (am ro S).bind fun ds S1 => c ds S1
section
variable {X : Cx} {ow : Nat → Bool} {lv : Nat} {kd : Kd} {f : Addr} {fd : FuncData} {ps : List Str} {c : List D → M D} {x : Str} {p pos : Pos} {e : Expr} {es : List Expr} {am : AM}
/-- f(e, ..) -/
theorem mk_call (F : FnG X.prog X.w X.K X.mg X.base lv kd f fd ps c) (hr : Room lv X.A) (hgd : X.A.guards = some []) (hg : Gl X x) (hm : X.mg x = some (.ref f)) (hk : PySem.W.keepIn X.K (.ref f) = true) (hb : Binds X.K fd ps [])
    (ha : PA X (e :: es) (tAs .e X.K ow am)) (hl : ALen am ps.length) (hdb : (x == ("__debug__" : Str)) = false := by decide) (he : starEach (e :: es) X.env = (false, eval e X.env) :: starEach es X.env := by rfl) (hpl : (backTo pos (starEach es X.env)).any (·.1) = false := by rfl) :
    PE X (.Call (.Name x p) (e :: es) [] pos) (tG kd X.K ow (eCall c am)) := by
  constructor
  intro pins s sg H Q I hw
  obtain ⟨ph, E, O, ro, S, st, d, S', ev, q⟩ := hw
  obtain ⟨ds, S1, e1, e2⟩ := Res.bind_ok ev
  have args := ha.run pos pins s sg H (fun vs H1 => vs.length = ps.length ∧ spG kd X.K c vs H1 Q) I
    ⟨ph, E, O, ro, S, st, ds, S1, e1, fun vs H1 ph1 t1 r1 z1 => by
      have st1 := st.step t1 r1
      refine ⟨by rw [← hl _ _ _ _ e1]; exact (Paired.length z1).symm, ph1, EO E O, ds, S1, st1.domX, r1, z1, d, S', e2, fun v H2 ph2 t2 r2 z2 => ?_⟩
      exact q v H2 ph2 (t1.trans t2) r2 (z2.back t1.dom)⟩
  have kin := I.ok.mod.kin
  refine wpAny_Call_Name_kw (ld_glob I hg hm ?_ hdb)
  refine PySem.W.callWith_K kin hk (thn args fun us s1 hs => ?_) he hpl
  obtain ⟨vs, H1, I1, rv, len, sp⟩ := hs
  refine ⟨I1.kIn, ?_⟩
  have bind := hb s1 us I1.kIn (by rw [List.append_nil, ← rv.length]; exact len)
  rw [List.append_nil] at bind
  have run := F.go X.A X.stack s1 H1 ⟨us, []⟩ us vs Q hr hgd I1.env0 bind rv len sp
  refine wpAny_call (codeAny_mono run fun r s2 back => ?_)
  match r, back with
  | .ok (.ret u), back => exact I1.after back
  | .ok .next, back => exact (show False from back).elim
  | .ok .brk, back => exact (show False from back).elim
  | .ok .cont, back => exact (show False from back).elim
  | .error x, back => exact (show False from back).elim
end
def bodyF (kd : Kd) (n N : Nat) (m : SM) : List D → M D := fun ds S => if ds.length = n then (match m (ds.map some ++ List.replicate (N - n) none) S with
    | .ok (.rt d) S' => .ok d S'
    | .ok (.nx _) S' => if kd = .e then .ok .non S' else .bad
    | .exn x S' => .exn x S'
    | _ => .bad) else .bad
theorem sta_start {K : PySem.W.Frag} {ow : Nat → Bool} {ph : List Addr} {Ex : Addr → Prop} {H : Hp} {S : Store} {ds : List D} {vs : List V} {N : List Str} (dm : ∀ a, Ex a → H a ≠ none) (sr : SRep K ph Ex H S) (r : RepDs K ph Ex H ds vs) (hN : ds.length ≤ N.length) (ho : ∀ i, i < ds.length → ow i = false) :
    Sta K ow ph Ex (fun _ => False) (L2.start N vs) H (ds.map some ++ List.replicate (N.length - ds.length) none) S := by
  have lv : ds.length = vs.length := Paired.length r
  have le : ∀ a, EO Ex (fun _ => False) a → Ex a ∨ H a = none := fun a h => h.elim .inl fun z => z.elim
  have at_ : ∀ (i : Nat) (d : D), (ds.map some ++ List.replicate (N.length - ds.length) none)[i]? = some (some d) → i < ds.length ∧ ds[i]? = some d := by
    intro i d h
    by_cases hi : i < ds.length
    · rw [List.getElem?_append_left (by rw [List.length_map]; exact hi), List.getElem?_map] at h
      refine ⟨hi, ?_⟩
      cases e : ds[i]? with
      | none => rw [e] at h; cases h
      | some x => rw [e] at h; cases h; rfl
    · rw [List.getElem?_append_right (by rw [List.length_map]; omega), List.getElem?_replicate] at h
      split at h <;> cases h
  have pair : ∀ {ds : List D} {vs : List V} {i : Nat} {d : D}, RepDs K ph Ex H ds vs → ds[i]? = some d → ∃ v, vs[i]? = some v ∧ RepD K ph Ex H d v := by
    intro ds vs i d h
    induction h generalizing i with
    | nil => intro e; simp at e
    | cons h1 h2 ih =>
      intro e
      cases i with
      | zero => simp at e; subst e; exact ⟨_, rfl, h1⟩
      | succ i =>
        obtain ⟨v, q1, q2⟩ := ih (i := i) (by simpa using e)
        exact ⟨v, by simpa using q1, q2⟩
  refine ⟨dm, fun _ h => h.elim, fun _ h => h.elim, sr.ex le, ?_, fun i d _ h => ?_, fun i d h1 h => ?_, fun i j d e a h1 _ h _ _ _ => ?_⟩
  · unfold L2.start
    simp [lv]
  · obtain ⟨hi, e⟩ := at_ i d h
    obtain ⟨v, q1, q2⟩ := pair r e
    refine ⟨v, ?_, q2.ex le⟩
    unfold L2.start
    rw [List.getElem?_append_left (by rw [List.length_map, ← lv]; exact hi), List.getElem?_map, q1]
    rfl
  · obtain ⟨hi, e⟩ := at_ i d h
    rw [ho i hi] at h1
    cases h1
  · obtain ⟨hi, e⟩ := at_ i d h
    rw [ho i hi] at h1
    cases h1
section
variable {P : Program} {w : World} {K : PySem.W.Frag} {mg : Str → Option Value} {base : Heap}
/-- a def by its body -/
theorem fn_body {x qual : Str} {st : Stmt} {f : Addr} {fd : FuncData} {N ps : List Str} {lv : Nat} {kd : Kd} {ow : Nat → Bool} {m : SM} (F : Fun K x qual st f fd) (Sc : FnScope N ps (defScope st)) (hk : kd ≠ .p) (ho : ∀ i, i < ps.length → ow i = false)
    (hbody : ∀ (cdv : Value) (A : Around) (fr : List PySem.Env) (s : Shared) (H : Hp), Room lv (A.deeper (envOfC qual (defScope st) s.heap.objs.size f cdv)) → A.guards = some [] →
      PSs (cxOf CX0 P w K mg base N qual (defScope st) f cdv A fr s H E0).nox (defBody st) (tS kd K ow m)) : FnG P w K mg base (lv + 1) kd f fd ps (bodyF kd ps.length N.length m) := by
  obtain ⟨oc, od, kV, doc, pm, an, cdv, ct, osl, efd, lk, hcd⟩ := F.ex
  subst efd
  constructor
  intro A fr s H args us vs Q hr hgd e0 hb rv hlen sp
  obtain ⟨ph, Ex, ds, S, dm, sr, rd, d, S', ec, q⟩ := sp
  have old : ∀ b o, base.get? b = some o → s.heap.get? b = some o := fun b o e => (e0.bs b o e).1
  have KX : K.In s.heap := e0.mod.kin.keeps old
  have nolim : s.heap.NoLimit := e0.mod.nolimit.keeps old
  have kinds : ∀ y ∈ ps.zip us, (defScope st).names.lookup y.1 = some .local ∨ ((defScope st).names.lookup y.1 = some .cell ∧ ((cellsFrom (s.heap.objs.size + 1) (defScope st).names []).lookup y.1).isSome = true) := by
    intro y hy
    have hm : y.1 ∈ ps := (List.of_mem_zip (a := y.1) (b := y.2) hy).1
    exact (Sc.par y.1 hm).imp id fun z => ⟨z, PySem.W.cellsFrom_some _ _ _ (.inl z)⟩
  have code := PySem.W.codeRec_of KX hcd
  refine codeAny_call_function hr.depth (KX _ _ lk) rfl Sc.co Sc.gen rfl code (hb _ _ _ _ ?_)
  refine wpAny_newFunctionEnv_cells Sc.kind kinds fun env he s1 into => ?_
  subst he
  refine ⟨nolim.keeps into.toInCall.keep, codeAny_func ?_⟩
  have I := inv_start (CX := CX0) (P := P) (w := w) (K := K) (mg := mg) (base := base) (E := E0) Sc hr.hd e0 hlen rv into
  have lds : ds.length = ps.length := (Paired.length rd).trans hlen
  have lN : ps.length ≤ N.length := by
    have z := congrArg List.length Sc.pre
    rw [List.length_take] at z
    omega
  have body := (PSs.nox (hbody cdv A fr s H (hr.deeper _) hgd)).run [] s1 (L2.start N vs) H { nx := fun _ H' => Q .non H', rt := Q } I ⟨ph, Ex, fun _ => False, ds.map some ++ List.replicate (N.length - ds.length) none, S, sta_start dm sr rd (by omega) (fun i hi => ho i (by omega)), by
    unfold bodyF at ec
    rw [if_pos lds, ← lds] at ec
    revert ec
    cases m (ds.map some ++ List.replicate (N.length - ds.length) none) S with
    | bad => intro ec; cases ec
    | exn x S1 => intro ec; cases ec
    | ok g S1 =>
      cases g with
      | bk r => intro ec; cases ec
      | ct r => intro ec; cases ec
      | rt d1 =>
        intro ec
        cases ec
        intro v H' ph' O' g r z
        refine q v H' ph' g.step r (RR.back z fun a k => ?_)
        exact k.elim (fun k => k) fun k => k.elim
      | nx r =>
        intro ec
        have ec : (if kd = .e then Res.ok D.non S1 else .bad) = .ok d S' := ec
        by_cases hkd : kd = .e
        · rw [if_pos hkd] at ec
          cases ec
          intro sg' H' ph' O' g s2
          refine q .non H' ph' g.step (s2.sto.ex fun a h => .inl (.inl h)) ?_
          rw [hkd]
          show Rep K H' (okx ph' Ex) .none .non
          simp only [Rep]
        · rw [if_neg hkd] at ec
          cases ec⟩
  refine wpAny_mono body (fun fl s2 back => ?_) (fun _ _ z => z)
  match fl, back with
  | .ret u, ⟨v, sg', H', J, r, z⟩ => exact ⟨v, H', J.os, J.bare, J.base, J.hok, r, z⟩
  | .next, ⟨sg', H', J, z⟩ => exact ⟨.non, H', J.os, J.bare, J.base, J.hok, rfl, z⟩
  | .brk, ⟨_, _, _, z⟩ => exact z.elim
  | .cont, ⟨_, _, _, z⟩ => exact z.elim
end

/-! ### the law -/
theorem law_go {P : Program} {w : World} {K : PySem.W.Frag} {mg mb : Str → Option Value} {lv : Nat} {kd : Kd} {fa a : Addr} {fd : FuncData} {x : Str} {c : List D → M D} {s : Shared} {vs : List Value} {ns : List Int}
    (KX : K.In s.heap) (hns : s.heap.Ns mainGlobals mg) (hb : s.heap.Ns builtinsNs mb) (hbb : ∀ y : Str, y ≠ "__name__" → mb y = bootBuiltins y) (hlim : s.heap.NoLimit) (hgen : s.gens = #[]) (ha : s.heap.get? a = some { cls := .type "list", data := .seq vs.toArray })
    (hi : IntsAre vs ns) (hl : ns.length ≤ sizeLine) (hr : Room lv callerA) (F : ∀ base : Heap, K.In base → base.Ns mainGlobals mg → FnG P w K mg base lv kd fa fd [x] c) (hbind : ∀ (s : Shared) (u : Value), BindsTo s fd ⟨[u], []⟩ [(x, u)])
    (hc : ∃ S', c [.scr ns] [] = .ok (.bool true) S') :
    codeAny (model P w) callerA (.call (.ref fa) ⟨[.ref a], []⟩) (fun r s' => r = .ok (.ret (.bool true)) ∧ OldK s.heap s'.heap ∧ s'.os = s.os ∧ AllBare s'.gens) s := by
  have rv : Vals (ns.map V.int) vs := vals_ints hi
  have sz := hi.length
  obtain ⟨S', hc⟩ := hc
  -- the heap is told as H; nothing but the script is in it
  have main : ∀ H : Hp, (∀ b u, H b = some u → b = a ∧ K.lookup a = none ∧ ∃ o, u = .frz o (.lst (ns.map V.int))) → FroAt K H a (ns.map V.int) → HOk P w H s.heap →
      codeAny (model P w) callerA (.call (.ref fa) ⟨[.ref a], []⟩) (fun r s' => r = .ok (.ret (.bool true)) ∧ OldK s.heap s'.heap ∧ s'.os = s.os ∧ AllBare s'.gens) s := by
    intro H hO hF hok
    have out : ∀ {b : Addr} {o : Obj}, s.heap.get? b = some o → (∀ z, o.data ≠ .seq vs.toArray z) → H b = none := fun {b o} e d => by
      cases q : H b with
      | none => rfl
      | some u =>
        obtain ⟨eb, _⟩ := hO b u q
        rw [eb, ha] at e
        cases e
        exact absurd rfl (d _)
    have nsH : ∀ {b : Addr} {m : Str → Option Value}, s.heap.Ns b m → (hidT s.heap H).Ns b m := fun {b m} ⟨o, es, ep, e, d, r⟩ => ⟨o, es, ep, hidT_get e (out e fun z k => by rw [d] at k; cases k), d, r⟩
    have kb : K.In (hidT s.heap H) := fun b o e => hidT_get (KX b o e) (by
      cases q : H b with
      | none => rfl
      | some u =>
        obtain ⟨eb, ek, _⟩ := hO b u q
        rw [eb, ek] at e
        cases e)
    obtain ⟨mc, m1, m2⟩ := hlim
    have e0 : Env0 P w K mg (hidT s.heap H) callerA [] s H :=
      { frames := rfl, mod := ⟨kb, nsH hns, ⟨mb, nsH hb, hbb⟩, ⟨mc, nsH m1, m2⟩⟩, bs := fun b o e => of_hidT e, bsz := Nat.le_of_eq (hidT_size _ _), funs := trivial, frf := fun b h => (nomatch h), hok := hok, bare := .of_eq hgen }
    have sp : spG kd K c [.ref a] H (fun v _ => v = .bl true) := by
      refine ⟨[], fun _ => False, [.scr ns], [], fun _ h => h.elim, ⟨rfl, fun n m b ds es e => by simp at e, fun n b o e => by simp at e⟩, .cons ⟨a, rfl, hF⟩ .nil, .bool true, S', hc, fun v H' ph' t r z => ?_⟩
      cases kd with
      | e => exact (RepD.toP (RR.asE z)).bool_
      | p => exact (RR.asP z).bool_
      | f =>
        obtain ⟨_, _, _, e, _⟩ := z
        cases e
    have run := (F _ kb (nsH hns)).go callerA [] s H ⟨[.ref a], []⟩ [.ref a] [.ref a] _ hr rfl e0 (hbind s (.ref a)) (.cons rfl .nil) rfl sp
    refine codeAny_mono run fun r s' back => ?_
    match r, back with
    | .error z, back => exact (show False from back).elim
    | .ok .next, back => exact (show False from back).elim
    | .ok .brk, back => exact (show False from back).elim
    | .ok .cont, back => exact (show False from back).elim
    | .ok (.ret u), back =>
      obtain ⟨v, H', os, bare, un, hok', rel, ev⟩ := back
      have ev : v = .bl true := ev
      subst ev
      have eu : u = Value.bool true := rel
      subst eu
      refine ⟨rfl, OldK.of_keep fun b o e => ?_, os, bare⟩
      cases q : H b with
      | none => exact un.keep b o e q (fun z => nomatch z) (fun z => nomatch z)
      | some u =>
        obtain ⟨_, _, ob, eu⟩ := hO b u q
        subst eu
        have k1 : s.heap.get? b = some ob := (hok b _ q).1
        have k2 : s'.heap.get? b = some ob := (hok' b _ (un.frzs b ob _ q)).1
        rw [k1] at e
        cases e
        exact k2
  cases hk : K.lookup a with
  | some o =>
    have e := KX a o hk
    rw [ha] at e
    cases e
    refine main (fun _ => none) (fun b u h => by cases h) (.inr fun G => .inr ⟨_, vs.toArray, _, hk, rfl, rfl, rfl, ?_, by simpa using rv⟩) (fun b u h => by cases h)
    rw [List.size_toArray, sz]
    exact hl
  | none =>
    have at_ : ∀ b, (fun b => if b = a then some (HO.frz { cls := .type "list", data := .seq vs.toArray } (.lst (ns.map V.int))) else none : Hp) b = if b = a then some (HO.frz { cls := .type "list", data := .seq vs.toArray } (.lst (ns.map V.int))) else none := fun b => rfl
    refine main (fun b => if b = a then some (.frz { cls := .type "list", data := .seq vs.toArray } (.lst (ns.map V.int))) else none) (fun b u h => ?_) (.inl ⟨{ cls := .type "list", data := .seq vs.toArray }, if_pos rfl⟩) (fun b u h => ?_)
    · by_cases hb : b = a
      · have h := (at_ b).symm.trans h; rw [if_pos hb] at h
        cases h
        exact ⟨hb, hk, _, rfl⟩
      · have h := (at_ b).symm.trans h; rw [if_neg hb] at h
        cases h
    · by_cases hb : b = a
      · have h := (at_ b).symm.trans h; rw [if_pos hb] at h
        cases h
        subst hb
        exact ⟨ha, by rw [List.length_map]; exact hl, vs, _, rv, ha⟩
      · have h := (at_ b).symm.trans h; rw [if_neg hb] at h
        cases h
/-- the goal that the head leaves -/
theorem walk_go {l : PySem.W.OpenLaw} {n lv : Nat} {kd : Kd} {q : Program} {loose : List Str} {XP : (Str → Option Value) → Heap → Prop} {YP : World → Heap → Prop} {d : DefRec} {K : Params → PySem.W.Frag} {x : Str} {c : List D → M D}
    (hn : l.most = some n) (hn2 : n ≤ sizeLine) (hdf : d.params.defaults = []) (hr : Room lv callerA) (hY : ∀ (w : World) (h : Heap), YP w h → (K w.params).In h)
    (F : ∀ (w : World) (mg : Str → Option Value) (fa : Addr) (h : Heap), (K w.params).In h → h.Ns mainGlobals mg → mg d.name = some (.ref fa) →
      ∃ fd : FuncData, (∀ (s : Shared) (u : Value), BindsTo s fd ⟨[u], []⟩ [(x, u)]) ∧ ∀ base : Heap, (K w.params).In base → base.Ns mainGlobals mg → FnG l.prog w (K w.params) mg base lv kd fa fd [x] c)
    (hc : ∀ ns : List Int, ns.length ≤ n → ∃ S', c [.scr ns] [] = .ok (.bool true) S') : PySem.W.WalkO q loose XP YP l.row.toRowW d [] (fun f vs => PySem.call f vs) := by
  refine Att.attach_call hn hdf fun w s0 s1 mg mb fa o pm cd doc a vs ns G Y ho hd hcd hmg hobj hints hlen hg => ?_
  have KX := hY w _ Y
  obtain ⟨fd, hb, hF⟩ := F w mg fa _ KX G.T.g hmg
  exact law_go KX G.T.g G.T.b G.T.builtins G.T.nolimit hg hobj hints (Nat.le_trans hlen hn2) hr hF hb (hc ns hlen)
end
end Mi

namespace Mi
open PySem PySem.Spec PyProof.Rows L2
noncomputable section

/-! ### short names -/
abbrev xAdd (a b : EM) : EM := eBin addF a b
abbrev xCat (a b : EM) : EM := eBin catL a b
abbrev xRep (a b : EM) : EM := eBin repL a b
abbrev xSub (a b : EM) : EM := eBin (int2 fun i j => some (.int (i - j))) a b
abbrev xMul (a b : EM) : EM := eBin (arI CMul fun i j => i * j) a b
abbrev xDiv (a b : EM) : EM := eBin (arI CDiv fun i j => i / j) a b
abbrev xMod (a b : EM) : EM := eBin (arI (fun _ j => 0 < j) fun i j => i % j) a b
abbrev xPow (a b : EM) : EM := eBin (arI CPow fun i j => i ^ j.toNat) a b
abbrev cLt (i j : Int) : Bool := decide (i < j)
abbrev cLe (i j : Int) : Bool := decide (i ≤ j)
abbrev cGt (i j : Int) : Bool := decide (j < i)
abbrev cGe (i j : Int) : Bool := decide (j ≤ i)
def sBad : SM := fun _ _ => .bad
section
variable {X : Cx} {ow : Nat → Bool} {pos : Pos} {kr : Kd} {x : Str}
theorem me_gintE {i : Int} (hg : Gl X x) (hm : ∃ t, X.mg x = some (.int i t)) (hd : (x == ("__debug__" : Str)) = false := by decide) : PE X (.Name x pos) (tG .e X.K ow (eCon (.p (.int i)))) := by
  obtain ⟨t, hm⟩ := hm
  exact me_gint hg hm hd
theorem me_gstrE {i : Str} (hg : Gl X x) (hm : ∃ t, X.mg x = some (.str i t)) (hd : (x == ("__debug__" : Str)) = false := by decide) : PE X (.Name x pos) (tG .e X.K ow (eCon (.p (.str i)))) := by
  obtain ⟨t, hm⟩ := hm
  exact me_gstr hg hm hd
end

/-! ### list(range(..)) -/
def eLr1 (m : EM) : EM := fun ro S => (m ro S).bind fun d S1 => match d with
  | .p (.int j) => if bnd j ∧ j ≤ lim then .ok (.p (.list ((List.range j.toNat).map fun i => .int (0 + (i : Nat))))) S1 else .bad
  | _ => .bad
def eLr2 (ma mb : EM) : EM := fun ro S => (ma ro S).bind fun x S1 => (mb ro S1).bind fun y S2 => match x, y with
  | .p (.int i), .p (.int j) => if bnd i ∧ bnd j ∧ (j - i) ≤ lim then .ok (.p (.list ((List.range (j - i).toNat).map fun k => .int (i + (k : Nat))))) S2 else .bad
  | _, _ => .bad
theorem rep_rg {K : PySem.W.Frag} {H : Hp} {ok : Addr → Prop} (f : Nat → Int) : ∀ ns : List Nat, RepAll K H ok (ns.map fun k => PyData.int (f k)) (ns.map fun k => V.int (f k))
  | [] => by simp only [List.map_nil, RepAll]
  | n :: ns => by
    simp only [List.map_cons, RepAll]
    refine ⟨_, _, rfl, ?_, rep_rg f ns⟩
    simp only [Rep]
section
variable {X : Cx} {ow : Nat → Bool} {a b : Expr} {p q pos pos2 : Pos} {ma mb : EM}
theorem mf_lr1 (hg : Gl X "list") (hm : X.mg "list" = none) (hg2 : Gl X "range") (hm2 : X.mg "range" = none) (ha : PE X a (tG .p X.K ow ma)) (hc : X.calm = true := by rfl) (na : starEach [a] X.env = (false, eval a X.env) :: starEach [] X.env := by rfl)
    (nb : starEach [.Call (.Name "range" q) [a] [] pos2] X.env = (false, eval (.Call (.Name "range" q) [a] [] pos2) X.env) :: starEach [] X.env := by rfl) : PE X (.Call (.Name "list" p) [.Call (.Name "range" q) [a] [] pos2] [] pos) (tG .f X.K ow (eLr1 ma)) :=
  PE.imp (pe_listRg hc hg hm (prg_1 hg2 hm2 ha na) nb) fun sg H Q ⟨ph, E, O, ro, S, st, d, S', ev, q⟩ => by
    obtain ⟨x, S1, e1, ev⟩ := Res.bind_ok ev
    split at ev
    · split at ev
      · rename_i hb
        cases ev
        refine ⟨ph, E, O, ro, S, st, _, _, e1, fun v H1 ph1 t1 r1 z1 => ⟨_, (RR.asP z1).int_, ?_, fun c nc => ?_⟩⟩
        · have := hb.2
          have h3 := hb.1
          unfold bnd at h3
          refine ⟨by omega, by omega, h3.1, h3.2, ?_⟩
          have : lim = 1000000 := rfl
          omega
        · have e : rgV 0 ‹Int› = (List.range (‹Int›).toNat).map fun i => V.int (0 + (i : Nat)) := by unfold rgV; simp
          rw [e]
          exact out_lst (ph := ph1) r1 (fun v H2 t2 r2 z2 => q v H2 ph1 (t1.trans t2) r2 (z2.back t1.dom)) (rep_rg _ _) c nc
      · cases ev
    · cases ev
theorem mf_lr2 (hg : Gl X "list") (hm : X.mg "list" = none) (hg2 : Gl X "range") (hm2 : X.mg "range" = none) (ha : PE X a (tG .p X.K ow ma)) (hb : PE X b (tG .p X.K ow mb)) (hc : X.calm = true := by rfl) (na : starEach [a, b] X.env = (false, eval a X.env) :: starEach [b] X.env := by rfl)
    (nb : starEach [b] X.env = (false, eval b X.env) :: starEach [] X.env := by rfl) (hp : (backTo pos2 (starEach [b] X.env)).any (·.1) = false := by rfl)
    (nc : starEach [.Call (.Name "range" q) [a, b] [] pos2] X.env = (false, eval (.Call (.Name "range" q) [a, b] [] pos2) X.env) :: starEach [] X.env := by rfl) : PE X (.Call (.Name "list" p) [.Call (.Name "range" q) [a, b] [] pos2] [] pos) (tG .f X.K ow (eLr2 ma mb)) :=
  PE.imp (pe_listRg hc hg hm (prg_2 hg2 hm2 ha hb na nb hp) nc) fun sg H Q ⟨ph, E, O, ro, S, st, d, S', ev, q⟩ => by
    obtain ⟨x, S1, e1, ev⟩ := Res.bind_ok ev
    obtain ⟨y, S2, e2, ev⟩ := Res.bind_ok ev
    split at ev
    · split at ev
      · rename_i i j _ hb
        cases ev
        refine ⟨ph, E, O, ro, S, st, _, _, e1, fun v H1 ph1 t1 r1 z1 => ⟨ph1, E, O, ro, S1, st.step t1 r1, _, _, e2, fun w H2 ph2 t2 r2 z2 => ⟨i, j, (RR.asP z1).int_, (RR.asP z2).int_, ⟨hb.1.1, hb.1.2, hb.2.1.1, hb.2.1.2, ?_⟩, fun c nc => ?_⟩⟩⟩
        · have := hb.2.2
          have : lim = 1000000 := rfl
          omega
        · exact out_lst (ph := ph2) r2 (fun v H3 t3 r3 z3 => q v H3 ph2 ((t1.trans t2).trans t3) r3 (z3.back (t1.trans t2).dom)) (rep_rg _ _) c nc
      · cases ev
    · cases ev
end

/-! ### defs by name -/
structure DefG (K : PySem.W.Frag) (mg : Str → Option Value) (x : Str) (st : Stmt) (ps : List Str) : Prop where
  ex : ∃ (f : Addr) (fd : FuncData) (oc : Value) (od : Option Addr) (osl : Array (Option Value)), mg x = some (.ref f) ∧ K.lookup f = some ⟨oc, od, .func fd, osl⟩ ∧ Fun K x x st f fd ∧ ∀ us : List Value, us.length = ps.length → bindArgs fd ⟨us, []⟩ = pure (ps.zip us)
structure CalG (P : Program) (w : World) (K : PySem.W.Frag) (mg : Str → Option Value) (base : Heap) (lv : Nat) (kd : Kd) (x : Str) (ps : List Str) (c : List D → M D) : Prop where
  ex : ∃ (f : Addr) (fd : FuncData) (oc : Value) (od : Option Addr) (osl : Array (Option Value)), mg x = some (.ref f) ∧ K.lookup f = some ⟨oc, od, .func fd, osl⟩ ∧ PySem.W.keepIn K (.ref f) = true ∧ (∀ us : List Value, us.length = ps.length → bindArgs fd ⟨us, []⟩ = pure (ps.zip us)) ∧ FnG P w K mg base lv kd f fd ps c
section
variable {P : Program} {w : World} {K : PySem.W.Frag} {mg : Str → Option Value} {base : Heap} {x : Str} {st : Stmt} {ps N : List Str} {lv : Nat} {kd : Kd} {ow : Nat → Bool} {m : SM} {c : List D → M D}
theorem cal_zero (D : DefG K mg x st ps) : CalG P w K mg base 0 kd x ps (fun _ _ => .bad) := by
  obtain ⟨f, fd, oc, od, osl, h1, h2, h3, h4⟩ := D.ex
  exact ⟨f, fd, oc, od, osl, h1, h2, h3.kp, h4, ⟨fun A fr s H args us vs Q _ _ _ _ _ _ ⟨_, _, _, _, _, _, _, _, _, e, _⟩ => by cases e⟩⟩
theorem cal_of {sc : Scope} {bd : List Stmt} (D : DefG K mg x st ps) (hsc : defScope st = sc) (hbd : defBody st = bd) (Sc : FnScope N ps sc) (hk : kd ≠ .p) (ho : ∀ i, i < ps.length → ow i = false)
    (hbody : ∀ (f : Addr) (fd : FuncData) (cdv : Value) (A : Around) (fr : List PySem.Env) (s : Shared) (H : Hp), Room lv (A.deeper (envOfC x sc s.heap.objs.size f cdv)) → A.guards = some [] →
      PSs (cxOf CX0 P w K mg base N x sc f cdv A fr s H E0).nox bd (tS kd K ow m)) : CalG P w K mg base (lv + 1) kd x ps (bodyF kd ps.length N.length m) := by
  subst hsc hbd
  obtain ⟨f, fd, oc, od, osl, h1, h2, h3, h4⟩ := D.ex
  exact ⟨f, fd, oc, od, osl, h1, h2, h3.kp, h4, fn_body h3 Sc hk ho (hbody f fd)⟩
theorem def_mk {h : Heap} (KX : K.In h) (G : h.Ns mainGlobals mg) {f : Addr} {oc : Value} {od an : Option Addr} {osl : Array (Option Value)} {kV doc pm cdv ct : Value} (a : PySem.W.nsIn K mainGlobals x = some (some (.ref f)))
    (l : K.lookup f = some ⟨oc, od, .func (PySem.W.fnOf x x (defArgs st) (defBody st) (defScope st) .none kV doc pm an cdv ct), osl⟩) (c : PySem.W.codeIn K cdv x = true) (k : PySem.W.keepIn K (.ref f) = true)
    (hb : ∀ (kV doc pm : Value) (an : Option Addr) (cdv ct : Value) (us : List Value), us.length = ps.length → bindArgs (PySem.W.fnOf x x (defArgs st) (defBody st) (defScope st) .none kV doc pm an cdv ct) ⟨us, []⟩ = pure (ps.zip us)) : DefG K mg x st ps :=
  ⟨f, _, oc, od, osl, PySem.W.mg_of KX G a, l, fun_mk l c k, hb _ _ _ _ _ _⟩
theorem gint_mk {h : Heap} (KX : K.In h) (G : h.Ns mainGlobals mg) {i : Int} {t : Tok} (a : PySem.W.nsIn K mainGlobals x = some (some (.int i t))) : ∃ t, mg x = some (.int i t) := ⟨t, PySem.W.mg_of KX G a⟩
theorem gstr_mk {h : Heap} (KX : K.In h) (G : h.Ns mainGlobals mg) {i : Str} {t : Tok} (a : PySem.W.nsIn K mainGlobals x = some (some (.str i t))) : ∃ t, mg x = some (.str i t) := ⟨t, PySem.W.mg_of KX G a⟩
/-- the law's own -/
theorem law_mk {fa : Addr} {y : Str} (hmg : mg x = some (.ref fa)) (D : DefG K mg x st [y]) (F : ∀ base : Heap, K.In base → base.Ns mainGlobals mg → CalG P w K mg base lv kd x [y] c) :
    ∃ fd : FuncData, (∀ (s : Shared) (u : Value), BindsTo s fd ⟨[u], []⟩ [(y, u)]) ∧ ∀ base : Heap, K.In base → base.Ns mainGlobals mg → FnG P w K mg base lv kd fa fd [y] c := by
  obtain ⟨f, fd, oc, od, osl, h1, h2, h3, h4⟩ := D.ex
  have e := hmg.symm.trans h1
  cases e
  refine ⟨fd, fun s u => .of_eq (h4 [u] rfl), fun base b1 b2 => ?_⟩
  obtain ⟨f2, fd2, oc2, od2, osl2, g1, g2, g3, g4, g5⟩ := (F base b1 b2).ex
  have e := hmg.symm.trans g1
  cases e
  have e := h2.symm.trans g2
  cases e
  exact g5
end
section
variable {X : Cx} {ow : Nat → Bool} {lv : Nat} {kd : Kd} {ps : List Str} {c : List D → M D} {x : Str} {p pos : Pos} {e : Expr} {es : List Expr} {am : AM}
theorem mk_callC (C : CalG X.prog X.w X.K X.mg X.base lv kd x ps c) (hr : Room lv X.A) (hgd : X.A.guards = some []) (hg : Gl X x)
    (ha : PA X (e :: es) (tAs .e X.K ow am)) (hl : ALen am ps.length) (hdb : (x == ("__debug__" : Str)) = false := by decide) (he : starEach (e :: es) X.env = (false, eval e X.env) :: starEach es X.env := by rfl) (hpl : (backTo pos (starEach es X.env)).any (·.1) = false := by rfl) :
    PE X (.Call (.Name x p) (e :: es) [] pos) (tG kd X.K ow (eCall c am)) := by
  obtain ⟨f, fd, oc, od, osl, h1, h2, h3, h4, h5⟩ := C.ex
  exact mk_call h5 hr hgd hg h1 h3 (.all fun us hl => h4 us hl) ha hl hdb he hpl
end
end
end Mi

namespace Mi
open PySem PySem.Spec PyProof.Rows L2
noncomputable section

/-! ### plain: what a run ends with -/
def wE {a : Type} (r : Res a) (Q : a → Store → Prop) : Prop := match r with
  | .ok x S => Q x S
  | _ => False
theorem wE_ok {a : Type} {x : a} {S : Store} {Q : a → Store → Prop} : wE (.ok x S) Q = Q x S := rfl
theorem wE_ex {a : Type} {r : Res a} {Q : a → Store → Prop} (h : wE r Q) : ∃ x S, r = .ok x S ∧ Q x S := by
  cases r with
  | bad => exact h.elim
  | exn x S => exact h.elim
  | ok x S => exact ⟨x, S, rfl, h⟩
theorem wE_of {a : Type} {r : Res a} {x : a} {S : Store} {Q : a → Store → Prop} (e : r = .ok x S) (h : Q x S) : wE r Q := by rw [e]; exact h
theorem wE_mono {a : Type} {r : Res a} {Q R : a → Store → Prop} (h : wE r Q) (q : ∀ x S, Q x S → R x S) : wE r R := by
  obtain ⟨x, S, rfl, h⟩ := wE_ex h
  exact q x S h
theorem bind_k {a b : Type} {x : a} {S : Store} {f : a → M b} : (Res.ok x S).bind f = f x S := rfl
theorem bind_b {a b : Type} {f : a → M b} : (Res.bad : Res a).bind f = .bad := rfl
theorem wE_bind {a b : Type} {r : Res a} {f : a → M b} {Q : b → Store → Prop} (h : wE r fun x S => wE (f x S) Q) : wE (r.bind f) Q := by
  obtain ⟨x, S, rfl, h⟩ := wE_ex h
  exact h
theorem wE_bind_of {a b : Type} {r : Res a} {f : a → M b} {Q : b → Store → Prop} {R : a → Store → Prop} (h : wE r R) (q : ∀ x S, R x S → wE (f x S) Q) : wE (r.bind f) Q := wE_bind (wE_mono h q)
theorem bind_ite {a b : Type} {c : Prop} [Decidable c] {x y : Res a} {f : a → M b} : (if c then x else y).bind f = if c then x.bind f else y.bind f := by split <;> rfl
theorem optR_some {d : D} {S : Store} : optR (some d) S = .ok d S := rfl
theorem addF_int {i j : Int} : addF (.p (.int i)) (.p (.int j)) = some (.p (.int (i + j))) := rfl
theorem int2_int {g : Int → Int → Option D} {i j : Int} : int2 g (.p (.int i)) (.p (.int j)) = g i j := rfl
theorem intB_int {g : Int → Int → Bool} {i j : Int} : intB g (.p (.int i)) (.p (.int j)) = some (g i j) := rfl
theorem idx_ref {n : Nat} {i : Int} {S : Store} {ds : List PyData} (h : S[n]? = some (.lst ds)) : idxF (.ref n) (.p (.int i)) S = (atI ds i).map .p := by
  show (match S[n]? with | some (.lst ds) => (atI ds i).map D.p | none => none) = _
  rw [h]

theorem bind_cg {a b : Type} {r r' : Res a} {f : a → M b} (h : r = r') : r.bind f = r'.bind f := by rw [h]
theorem wE_cg {a : Type} {r r' : Res a} {Q : a → Store → Prop} (h : r = r') : wE r Q = wE r' Q := by rw [h]
theorem ite_cg {a : Type} {c c' : Prop} [Decidable c] [Decidable c'] {x y : Res a} (h : c ↔ c') : (if c then x else y) = (if c' then x else y) := by
  by_cases hc : c
  · rw [if_pos hc, if_pos (h.mp hc)]
  · rw [if_neg hc, if_neg (fun z => hc (h.mpr z))]


theorem optR_none {S : Store} : optR none S = .bad := rfl
theorem wE_bad {a : Type} {Q : a → Store → Prop} : wE (.bad : Res a) Q = False := rfl
/-! the evaluator's equations -/
def kSeq (m2 : SM) (f : Fl) (S : Store) : Res Fl := match f with
  | .nx ro => m2 ro S
  | g => .ok g S
def kSet (i : Nat) (ro : Env) (d : D) (S : Store) : Res Fl := .ok (.nx (ro.set i (some d))) S
def kDrop (ro : Env) (_ : D) (S : Store) : Res Fl := .ok (.nx ro) S
def kRet (d : D) (S : Store) : Res Fl := .ok (.rt d) S
def kIf (m1 m2 : SM) (ro : Env) (b : Bool) (S : Store) : Res Fl := if b = true then m1 ro S else m2 ro S
def varR (o : Option (Option D)) (S : Store) : Res D := match o with
  | some (some d) => .ok d S
  | _ => .bad
def asgR (o : Option Env) (S : Store) : Res Fl := match o with
  | some r => .ok (.nx r) S
  | none => .bad
def appR (i : Nat) (ro : Env) (o : Option (Option D)) (d : D) (S : Store) : Res Fl := match o, d with
  | some (some (.p (.list ds))), .p f => if ds.length < lim then .ok (.nx (ro.set i (some (.p (.list (ds ++ [f])))))) S else .bad
  | _, _ => .bad
def kAsg (p : Pt) (ro : Env) (d : D) (S : Store) : Res Fl := match bindP p d ro with
  | some r => .ok (.nx r) S
  | none => .bad
def kPar (i j : Nat) (mb : EM) (ro : Env) (d : D) (S : Store) : Res Fl := (mb ro S).bind fun f S2 => .ok (.nx ((ro.set i (some d)).set j (some f))) S2
def kPar3 (i j l : Nat) (mb mc : EM) (ro : Env) (d : D) (S : Store) : Res Fl := (mb ro S).bind fun f S2 => (mc ro S2).bind fun g S3 => .ok (.nx (((ro.set i (some d)).set j (some f)).set l (some g))) S3
def kApp (i : Nat) (ro : Env) (d : D) (S : Store) : Res Fl := match ro[i]?, d with
  | some (some (.p (.list ds))), .p f => if ds.length < lim then .ok (.nx (ro.set i (some (.p (.list (ds ++ [f])))))) S else .bad
  | _, _ => .bad
def kPut (i : Nat) (mi : EM) (ro : Env) (d : D) (S : Store) : Res Fl := (mi ro S).bind fun k S2 => match ro[i]?, k, d with
  | some (some (.p (.list ds))), .p (.int j), .p f => (match ixN ds.length j with
      | some n => .ok (.nx (ro.set i (some (.p (.list (ds.set n f)))))) S2
      | none => .bad)
  | _, _, _ => .bad
def putR (r : Nat) (j : Int) (f : PyData) (ro : Env) (S2 : Store) : Res Fl := match S2[r]? with
  | some (.lst ds) => (match ixN ds.length j with
      | some n => .ok (.nx ro) (S2.set r (.lst (ds.set n f)))
      | none => .bad)
  | none => .bad
def putR2 (ro : Env) (o : Option (Option D)) (d k : D) (S2 : Store) : Res Fl := match o, k, d with
  | some (some (.ref r)), .p (.int j), .p f => putR r j f ro S2
  | _, _, _ => .bad
def kPutR2 (i : Nat) (ro : Env) (d k : D) (S2 : Store) : Res Fl := match ro[i]?, k, d with
  | some (some (.ref r)), .p (.int j), .p f => putR r j f ro S2
  | _, _, _ => .bad
def kPutR (i : Nat) (mi : EM) (ro : Env) (d : D) (S1 : Store) : Res Fl := (mi ro S1).bind (kPutR2 i ro d)
def kFor (p : Pt) (m : SM) (ro : Env) (ds : List D) (S : Store) : Res Fl := forL p m ds ro S
def kBin2 (f : D → D → Option D) (x y : D) (S : Store) : Res D := optR (f x y) S
def kBin (f : D → D → Option D) (mb : EM) (ro : Env) (x : D) (S : Store) : Res D := (mb ro S).bind (kBin2 f x)
def kBinS2 (f : D → D → Store → Option D) (x y : D) (S : Store) : Res D := optR (f x y S) S
def kBinS (f : D → D → Store → Option D) (mb : EM) (ro : Env) (x : D) (S : Store) : Res D := (mb ro S).bind (kBinS2 f x)
def optB (o : Option Bool) (S : Store) : Res Bool := match o with
  | some b => .ok b S
  | none => .bad
def kBB2 (f : D → D → Option Bool) (x y : D) (S : Store) : Res Bool := optB (f x y) S
def kBB (f : D → D → Option Bool) (mb : EM) (ro : Env) (x : D) (S : Store) : Res Bool := (mb ro S).bind (kBB2 f x)
def kUn (f : D → Option D) (x : D) (S : Store) : Res D := optR (f x) S
def kAnd (mb : EM) (ro : Env) (x : D) (S : Store) : Res D := match x with
  | .p (.bool true) => mb ro S
  | .p (.bool false) => .ok (.p (.bool false)) S
  | _ => .bad
def kOr (mb : EM) (ro : Env) (x : D) (S : Store) : Res D := match x with
  | .p (.bool true) => .ok (.p (.bool true)) S
  | .p (.bool false) => mb ro S
  | _ => .bad
def kNot (x : D) (S : Store) : Res D := match x with
  | .p (.bool b) => .ok (.p (.bool (!b))) S
  | _ => .bad
def kIfE (ma mb : EM) (ro : Env) (b : Bool) (S : Store) : Res D := if b = true then ma ro S else mb ro S
def kBAnd (d : TM) (ro : Env) (b : Bool) (S : Store) : Res Bool := if b = true then d ro S else .ok false S
def kBOr (d : TM) (ro : Env) (b : Bool) (S : Store) : Res Bool := if b = true then .ok true S else d ro S
def kBNot (b : Bool) (S : Store) : Res Bool := .ok (!b) S
def kVal (x : D) (S : Store) : Res Bool := match x with
  | .p (.bool b) => .ok b S
  | _ => .bad
def kChn3 (g : Int → Int → Bool) (y z : D) (S : Store) : Res D := optR (bD (intB g) y z) S
def chn (g : Int → Int → Bool) (mc : EM) (ro : Env) (y : D) (S : Store) (o : Option Bool) : Res D := match o with
  | some true => (mc ro S).bind (kChn3 g y)
  | some false => .ok (.bool false) S
  | none => .bad
def kChn2 (f g : Int → Int → Bool) (mc : EM) (ro : Env) (x y : D) (S : Store) : Res D := chn g mc ro y S (intB f x y)
def kChn (f g : Int → Int → Bool) (mb mc : EM) (ro : Env) (x : D) (S : Store) : Res D := (mb ro S).bind (kChn2 f g mc ro x)
def kCons2 (x : D) (xs : List D) (S : Store) : Res (List D) := .ok (x :: xs) S
def kCons (r : AM) (ro : Env) (x : D) (S : Store) : Res (List D) := (r ro S).bind (kCons2 x)
def kTup (ds : List D) (S : Store) : Res D := optR ((pys ds).map fun l => .tup l) S
def kLst (ds : List D) (S : Store) : Res D := optR ((pys ds).map fun l => .lst l) S
def lstR (o : Option (List PyData)) (S1 : Store) : Res D := match o with
  | some l => .ok (.ref S1.length) (S1 ++ [SO.lst l])
  | none => .bad
def kLstR (ds : List D) (S : Store) : Res D := lstR (pys ds) S
def kSome (x : D) (S : Store) : Res (Option Int) := match x with
  | .p (.int i) => .ok (some i) S
  | .p .none => .ok none S
  | _ => .bad
def kSl3 (f : D → Option Int → Option Int → Option D) (x : D) (l h : Option Int) (S : Store) : Res D := optR (f x l h) S
def kSl2 (f : D → Option Int → Option Int → Option D) (mh : OM) (ro : Env) (x : D) (l : Option Int) (S : Store) : Res D := (mh ro S).bind (kSl3 f x l)
def kSl (f : D → Option Int → Option Int → Option D) (ml mh : OM) (ro : Env) (x : D) (S : Store) : Res D := (ml ro S).bind (kSl2 f mh ro x)
def kBlt (f : List D → Store → Option D) (ds : List D) (S : Store) : Res D := optR (f ds S) S
def kIsi (T : String) (x : D) (S : Store) : Res D := .ok (.bool (isT T (tyN x))) S
def kIsi2 (T U : String) (x : D) (S : Store) : Res D := .ok (.bool (isT T (tyN x) || isT U (tyN x))) S
def kSeqI (d : D) (S : Store) : Res (List D) := match itemsF d with
  | some ds => .ok ds S
  | none => .bad
def kR1 (d : D) (S : Store) : Res (List D) := match d with
  | .p (.int j) => if bnd j then .ok (intR 0 j.toNat) S else .bad
  | _ => .bad
def kR22 (x y : D) (S : Store) : Res (List D) := match x, y with
  | .p (.int i), .p (.int j) => if bnd i ∧ bnd j then .ok (intR i (j - i).toNat) S else .bad
  | _, _ => .bad
def kR2 (mb : EM) (ro : Env) (x : D) (S : Store) : Res (List D) := (mb ro S).bind (kR22 x)
def kZ2 (x y : D) (S : Store) : Res (List D) := match x, y with
  | .p (.list a), .p (.list b) => .ok (pairsF a b) S
  | .p (.tuple a), .p (.tuple b) => .ok (pairsF a b) S
  | _, _ => .bad
def kZ (mb : EM) (ro : Env) (x : D) (S : Store) : Res (List D) := (mb ro S).bind (kZ2 x)
def kLr1 (d : D) (S : Store) : Res D := match d with
  | .p (.int j) => if bnd j ∧ j ≤ lim then .ok (.p (.list ((List.range j.toNat).map fun i => .int (0 + (i : Nat))))) S else .bad
  | _ => .bad
def kLr22 (x y : D) (S : Store) : Res D := match x, y with
  | .p (.int i), .p (.int j) => if bnd i ∧ bnd j ∧ (j - i) ≤ lim then .ok (.p (.list ((List.range (j - i).toNat).map fun k => .int (i + (k : Nat))))) S else .bad
  | _, _ => .bad
def kLr2 (mb : EM) (ro : Env) (x : D) (S : Store) : Res D := (mb ro S).bind (kLr22 x)
def kComp2 (l : List PyData) (S : Store) : Res D := .ok (.p (.list l)) S
def kComp (vs : List Nat) (p : Pt) (c : TM) (elt : EM) (ro : Env) (ds : List D) (S : Store) : Res D := if ds.length ≤ lim then (compL p c elt (wipeE ro vs) ds S).bind kComp2 else .bad
def kBody (kd : Kd) (f : Fl) (S : Store) : Res D := match f with
  | .rt d => .ok d S
  | .nx _ => if kd = .e then .ok .non S else .bad
  | _ => .bad
section
variable {ma mb mc me : EM} {ta tb : TM} {am : AM} {m m1 m2 : SM} {ro r : Env} {S S1 : Store} {i j l n N : Nat} {p : Pt} {lm : LM} {om oh : OM} {f : D → D → Option D} {fs : D → D → Store → Option D} {fb : D → D → Option Bool} {fu : D → Option D} {d x y z : D} {b : Bool} {ds es : List D} {c : List D → M D} {T U : String} {kd : Kd} {fl : List D → Store → Option D} {k h : Int} {e : PyData} {is : List Nat} {g g2 : Int → Int → Bool}
theorem q_seq : sSeq m1 m2 ro S = (m1 ro S).bind (kSeq m2) := rfl
theorem q_set : sSet i ma ro S = (ma ro S).bind (kSet i ro) := rfl
theorem q_nil : sNil ro S = .ok (.nx ro) S := rfl
theorem q_drop : sDrop ma ro S = (ma ro S).bind (kDrop ro) := rfl
theorem q_ret : sRet ma ro S = (ma ro S).bind kRet := rfl
theorem q_if : sIf ta m1 m2 ro S = (ta ro S).bind (kIf m1 m2 ro) := rfl
theorem q_brk : sBrk ro S = .ok (.bk ro) S := rfl
theorem q_cnt : sCnt ro S = .ok (.ct ro) S := rfl
theorem q_bad : sBad ro S = .bad := rfl
theorem q_asg : sAsg p ma ro S = (ma ro S).bind (kAsg p ro) := rfl
theorem q_par : sPar i j ma mb ro S = (ma ro S).bind (kPar i j mb ro) := rfl
theorem q_par3 : sPar3 i j l ma mb mc ro S = (ma ro S).bind (kPar3 i j l mb mc ro) := rfl
theorem q_app : sApp i ma ro S = (ma ro S).bind (kApp i ro) := rfl
theorem q_put : sPut i mb ma ro S = (ma ro S).bind (kPut i mb ro) := rfl
theorem q_putR : sPutR i mb ma ro S = (ma ro S).bind (kPutR i mb ro) := rfl
theorem q_for : sFor p lm m ro S = (lm ro S).bind (kFor p m ro) := rfl
theorem q_var : eVar i ro S = varR ro[i]? S := rfl
theorem varR_some : varR (some (some d)) S = .ok d S := rfl
theorem q_con : eCon d ro S = .ok d S := rfl
theorem q_bin : eBin f ma mb ro S = (ma ro S).bind (kBin f mb ro) := rfl
theorem q_binS : eBinS fs ma mb ro S = (ma ro S).bind (kBinS fs mb ro) := rfl
theorem q_bb : bBin fb ma mb ro S = (ma ro S).bind (kBB fb mb ro) := rfl
theorem q_un : eUn fu ma ro S = (ma ro S).bind (kUn fu) := rfl
theorem q_and : eAnd ma mb ro S = (ma ro S).bind (kAnd mb ro) := rfl
theorem q_or : eOr ma mb ro S = (ma ro S).bind (kOr mb ro) := rfl
theorem q_not : eNot ma ro S = (ma ro S).bind kNot := rfl
theorem q_ife : eIf ta ma mb ro S = (ta ro S).bind (kIfE ma mb ro) := rfl
theorem q_band : bAnd ta tb ro S = (ta ro S).bind (kBAnd tb ro) := rfl
theorem q_bor : bOr ta tb ro S = (ta ro S).bind (kBOr tb ro) := rfl
theorem q_bnot : bNot ta ro S = (ta ro S).bind kBNot := rfl
theorem q_val : bVal ma ro S = (ma ro S).bind kVal := rfl
theorem q_true : bTrue ro S = .ok true S := rfl
theorem q_chn : eChn g g2 ma mb mc ro S = (ma ro S).bind (kChn g g2 mb mc ro) := rfl
theorem q_anil : aNil ro S = .ok [] S := rfl
theorem q_acons : aCons ma am ro S = (ma ro S).bind (kCons am ro) := rfl
theorem q_tup : eTup am ro S = (am ro S).bind kTup := rfl
theorem q_lst : eLst am ro S = (am ro S).bind kLst := rfl
theorem q_lstR : eLstR am ro S = (am ro S).bind kLstR := rfl
theorem q_none : oNone ro S = .ok none S := rfl
theorem q_some : oSome ma ro S = (ma ro S).bind kSome := rfl
theorem q_sl {fsl : D → Option Int → Option Int → Option D} : eSl fsl ma om oh ro S = (ma ro S).bind (kSl fsl om oh ro) := rfl
theorem q_blt : eBlt fl am ro S = (am ro S).bind (kBlt fl) := rfl
theorem q_isi : eIsi T ma ro S = (ma ro S).bind (kIsi T) := rfl
theorem q_isi2 : eIsi2 T U ma ro S = (ma ro S).bind (kIsi2 T U) := rfl
theorem q_iseq : iSeq ma ro S = (ma ro S).bind kSeqI := rfl
theorem q_r1 : iR1 ma ro S = (ma ro S).bind kR1 := rfl
theorem q_r2 : iR2 ma mb ro S = (ma ro S).bind (kR2 mb ro) := rfl
theorem q_z : iZ ma mb ro S = (ma ro S).bind (kZ mb ro) := rfl
theorem q_lr1 : eLr1 ma ro S = (ma ro S).bind kLr1 := rfl
theorem q_lr2 : eLr2 ma mb ro S = (ma ro S).bind (kLr2 mb ro) := rfl
theorem q_comp : eComp is p lm ta me ro S = (lm ro S).bind (kComp is p ta me ro) := rfl
theorem q_call : eCall c am ro S = (am ro S).bind c := rfl
theorem bindR_eq {a : Res Fl} : (match a with | .ok (.rt d) S' => Res.ok d S' | .ok (.nx _) S' => if kd = .e then .ok .non S' else .bad | .exn x S' => .exn x S' | _ => .bad) = a.bind (kBody kd) := by
  cases a with
  | bad => rfl
  | exn x S => rfl
  | ok f S => cases f <;> rfl
theorem q_body (h : ds.length = n) : bodyF kd n N m ds S = (m (ds.map some ++ List.replicate (N - n) none) S).bind (kBody kd) := by
  unfold bodyF
  rw [if_pos h]
  generalize m (List.map some ds ++ List.replicate (N - n) none) S = a
  cases a with
  | bad => rfl
  | exn x S => rfl
  | ok f S => cases f <;> rfl
theorem k_seq_nx : kSeq m2 (.nx ro) S = m2 ro S := rfl
theorem k_seq_rt : kSeq m2 (.rt d) S = .ok (.rt d) S := rfl
theorem k_seq_bk : kSeq m2 (.bk ro) S = .ok (.bk ro) S := rfl
theorem k_seq_ct : kSeq m2 (.ct ro) S = .ok (.ct ro) S := rfl
theorem k_set : kSet i ro d S = .ok (.nx (ro.set i (some d))) S := rfl
theorem k_drop : kDrop ro d S = .ok (.nx ro) S := rfl
theorem k_ret : kRet d S = .ok (.rt d) S := rfl
theorem k_if : kIf m1 m2 ro b S = if b = true then m1 ro S else m2 ro S := rfl
theorem k_asg : kAsg p ro d S = asgR (bindP p d ro) S := rfl
theorem asgR_some : asgR (some r) S = .ok (.nx r) S := rfl
theorem k_par : kPar i j mb ro d S = (mb ro S).bind fun f S2 => .ok (.nx ((ro.set i (some d)).set j (some f))) S2 := rfl
theorem k_par3 : kPar3 i j l mb mc ro d S = (mb ro S).bind fun f S2 => (mc ro S2).bind fun g S3 => .ok (.nx (((ro.set i (some d)).set j (some f)).set l (some g))) S3 := rfl
theorem k_app : kApp i ro d S = appR i ro ro[i]? d S := rfl
theorem appR_l {es : List PyData} : appR i ro (some (some (.p (.list es)))) (.p e) S = if es.length < lim then .ok (.nx (ro.set i (some (.p (.list (es ++ [e])))))) S else .bad := rfl
theorem k_putR : kPutR i mb ro d S = (mb ro S).bind (kPutR2 i ro d) := rfl
theorem k_putR2 : kPutR2 i ro d x S = putR2 ro ro[i]? d x S := rfl
theorem putR2_ref : putR2 ro (some (some (.ref n))) (.p e) (.p (.int k)) S = putR n k e ro S := rfl
theorem k_for : kFor p m ro ds S = forL p m ds ro S := rfl
theorem k_bin : kBin f mb ro x S = (mb ro S).bind (kBin2 f x) := rfl
theorem k_bin2 : kBin2 f x y S = optR (f x y) S := rfl
theorem k_binS : kBinS fs mb ro x S = (mb ro S).bind (kBinS2 fs x) := rfl
theorem k_binS2 : kBinS2 fs x y S = optR (fs x y S) S := rfl
theorem k_bb : kBB fb mb ro x S = (mb ro S).bind (kBB2 fb x) := rfl
theorem k_bb2 : kBB2 fb x y S = optB (fb x y) S := rfl
theorem optB_some : optB (some b) S = .ok b S := rfl
theorem k_un : kUn fu x S = optR (fu x) S := rfl
theorem k_and_t : kAnd mb ro (.p (.bool true)) S = mb ro S := rfl
theorem k_and_f : kAnd mb ro (.p (.bool false)) S = .ok (.p (.bool false)) S := rfl
theorem k_or_t : kOr mb ro (.p (.bool true)) S = .ok (.p (.bool true)) S := rfl
theorem k_or_f : kOr mb ro (.p (.bool false)) S = mb ro S := rfl
theorem k_not : kNot (.p (.bool b)) S = .ok (.p (.bool (!b))) S := rfl
theorem k_ife : kIfE ma mb ro b S = if b = true then ma ro S else mb ro S := rfl
theorem k_band : kBAnd tb ro b S = if b = true then tb ro S else .ok false S := rfl
theorem k_bor : kBOr tb ro b S = if b = true then .ok true S else tb ro S := rfl
theorem k_bnot : kBNot b S = .ok (!b) S := rfl
theorem k_val : kVal (.p (.bool b)) S = .ok b S := rfl
theorem k_chn : kChn g g2 mb mc ro x S = (mb ro S).bind (kChn2 g g2 mc ro x) := rfl
theorem k_chn2 : kChn2 g g2 mc ro (.p (.int k)) (.p (.int h)) S = if g k h = true then (mc ro S).bind (kChn3 g2 (.p (.int h))) else .ok (.p (.bool false)) S := by
  show chn g2 mc ro _ S (some (g k h)) = _
  cases g k h <;> rfl
theorem k_chn3 : kChn3 g (.p (.int k)) (.p (.int h)) S = .ok (.p (.bool (g k h))) S := rfl
theorem k_cons : kCons am ro x S = (am ro S).bind (kCons2 x) := rfl
theorem k_cons2 : kCons2 x ds S = .ok (x :: ds) S := rfl
theorem k_tup : kTup ds S = optR ((pys ds).map fun l => .p (.tuple l)) S := rfl
theorem k_lst : kLst ds S = optR ((pys ds).map fun l => .p (.list l)) S := rfl
theorem k_lstR : kLstR ds S = lstR (pys ds) S := rfl
theorem lstR_some {es : List PyData} : lstR (some es) S = .ok (.ref S.length) (S ++ [SO.lst es]) := rfl
theorem pys_nil : pys [] = some [] := rfl
theorem pys_cons : pys (.p e :: ds) = (pys ds).map (e :: ·) := rfl
theorem k_some_i : kSome (.p (.int k)) S = .ok (some k) S := rfl
theorem k_some_n : kSome (.p .none) S = .ok none S := rfl
theorem k_sl {fsl : D → Option Int → Option Int → Option D} : kSl fsl om oh ro x S = (om ro S).bind (kSl2 fsl oh ro x) := rfl
theorem k_sl2 {fsl : D → Option Int → Option Int → Option D} {lo : Option Int} : kSl2 fsl oh ro x lo S = (oh ro S).bind (kSl3 fsl x lo) := rfl
theorem k_sl3T {lo hi : Option Int} {es : List PyData} : kSl3 slT (.p (.tuple es)) lo hi S = .ok (.p (.tuple (cutG es lo hi))) S := rfl
theorem k_sl3L {lo hi : Option Int} {es : List PyData} : kSl3 slL (.p (.list es)) lo hi S = .ok (.p (.list (cutG es lo hi))) S := rfl
theorem k_blt : kBlt fl ds S = optR (fl ds S) S := rfl
theorem k_isi : kIsi T x S = .ok (.p (.bool (isT T (tyN x)))) S := rfl
theorem k_isi2 : kIsi2 T U x S = .ok (.p (.bool (isT T (tyN x) || isT U (tyN x)))) S := rfl
theorem k_seqI_l {es : List PyData} : kSeqI (.p (.list es)) S = .ok (es.map .p) S := rfl
theorem k_seqI_t {es : List PyData} : kSeqI (.p (.tuple es)) S = .ok (es.map .p) S := rfl
theorem k_r1 : kR1 (.p (.int k)) S = if bnd k then .ok (intR 0 k.toNat) S else .bad := rfl
theorem k_r2 : kR2 mb ro x S = (mb ro S).bind (kR22 x) := rfl
theorem k_r22 : kR22 (.p (.int k)) (.p (.int h)) S = if bnd k ∧ bnd h then .ok (intR k (h - k).toNat) S else .bad := rfl
theorem k_z : kZ mb ro x S = (mb ro S).bind (kZ2 x) := rfl
theorem k_z2l {as bs : List PyData} : kZ2 (.p (.list as)) (.p (.list bs)) S = .ok (pairsF as bs) S := rfl
theorem k_z2t {as bs : List PyData} : kZ2 (.p (.tuple as)) (.p (.tuple bs)) S = .ok (pairsF as bs) S := rfl
theorem k_lr1 : kLr1 (.p (.int k)) S = if bnd k ∧ k ≤ lim then .ok (.p (.list ((List.range k.toNat).map fun i => .int (0 + (i : Nat))))) S else .bad := rfl
theorem k_lr2 : kLr2 mb ro x S = (mb ro S).bind (kLr22 x) := rfl
theorem k_lr22 : kLr22 (.p (.int k)) (.p (.int h)) S = if bnd k ∧ bnd h ∧ (h - k) ≤ lim then .ok (.p (.list ((List.range (h - k).toNat).map fun i => .int (k + (i : Nat))))) S else .bad := rfl
theorem k_comp : kComp is p ta me ro ds S = if ds.length ≤ lim then (compL p ta me (wipeE ro is) ds S).bind kComp2 else .bad := rfl
theorem k_comp2 {es : List PyData} : kComp2 es S = .ok (.p (.list es)) S := rfl
theorem k_body_rt : kBody kd (.rt d) S = .ok d S := rfl
theorem k_body_nx : kBody .e (.nx ro) S = .ok (.p .none) S := rfl
/-! its steps -/
theorem v_add_t {as bs : List PyData} : addF (.p (.tuple as)) (.p (.tuple bs)) = if as.length + bs.length ≤ lim then some (.p (.tuple (as ++ bs))) else none := rfl
theorem v_cat {as bs : List PyData} : catL (.p (.list as)) (.p (.list bs)) = if as.length + bs.length ≤ lim then some (.p (.list (as ++ bs))) else none := rfl
theorem v_rep {as : List PyData} : repL (.p (.list as)) (.p (.int k)) = @ite _ (-(2 ^ 63) ≤ k ∧ k < 2 ^ 63 ∧ as.length * k.toNat ≤ lim) (Classical.propDecidable _) (some (.p (.list (List.replicate k.toNat as).flatten))) none := rfl
theorem v_mul : arI CMul (fun i j => i * j) (.p (.int k)) (.p (.int h)) = if CMul k h then some (.p (.int (k * h))) else none := rfl
theorem v_div : arI CDiv (fun i j => i / j) (.p (.int k)) (.p (.int h)) = if CDiv k h then some (.p (.int (k / h))) else none := rfl
theorem v_mod : arI (fun _ j => 0 < j) (fun i j => i % j) (.p (.int k)) (.p (.int h)) = if 0 < h then some (.p (.int (k % h))) else none := rfl
theorem v_pow : arI CPow (fun i j => i ^ j.toNat) (.p (.int k)) (.p (.int h)) = if CPow k h then some (.p (.int (k ^ h.toNat))) else none := rfl
theorem v_neg : negF (.p (.int k)) = some (.p (.int (-k))) := rfl
theorem v_lt : ltI (.p (.int k)) (.p (.int h)) = some (decide (k < h)) := rfl
theorem v_le : leI (.p (.int k)) (.p (.int h)) = some (decide (k ≤ h)) := rfl
theorem v_gt : gtI (.p (.int k)) (.p (.int h)) = some (decide (h < k)) := rfl
theorem v_ge : geI (.p (.int k)) (.p (.int h)) = some (decide (h ≤ k)) := rfl
theorem v_bD : bD fb x y = (fb x y).map fun b => .p (.bool b) := rfl
theorem v_eq {as bs : PyData} : eqF (.p as) (.p bs) = if SeqAt.shaped as = true ∧ SeqAt.shaped bs = true then some (PyData.eqv as bs) else none := rfl
theorem v_ne : neF x y = (eqF x y).map (!·) := rfl
theorem v_eqI : eqF (.p (.int k)) (.p (.int h)) = some (k == h) := by
  rw [v_eq, if_pos ⟨rfl, rfl⟩]
  simp only [PyData.eqv]
theorem v_eqB {b c : Bool} : eqF (.p (.bool b)) (.p (.bool c)) = some (b == c) := by
  rw [v_eq, if_pos ⟨rfl, rfl⟩]
  simp only [PyData.eqv]
theorem v_isN_n : isNF (.p .none) (.p .none) = some true := rfl
theorem v_isN_i : isNF (.p (.int k)) (.p .none) = some false := rfl
theorem v_isN_t {as : List PyData} : isNF (.p (.tuple as)) (.p .none) = some false := rfl
theorem v_isnt : isntF x y = (isNF x y).map (!·) := rfl
theorem v_ix_l {as : List PyData} : idxF (.p (.list as)) (.p (.int k)) S = (atI as k).map .p := rfl
theorem v_ix_t {as : List PyData} : idxF (.p (.tuple as)) (.p (.int k)) S = (atI as k).map .p := rfl
theorem v_ix_s {ns : List Int} : idxF (.scr ns) (.p (.int k)) S = (atI ns k).map fun j => .p (.int j) := rfl
theorem v_len_l {as : List PyData} : lenF [.p (.list as)] S = some (.p (.int as.length)) := rfl
theorem v_len_t {as : List PyData} : lenF [.p (.tuple as)] S = some (.p (.int as.length)) := rfl
theorem v_len_s {ns : List Int} : lenF [.scr ns] S = some (.p (.int ns.length)) := rfl
theorem v_max2 : max2F [.p (.int k), .p (.int h)] S = some (.p (.int (max k h))) := rfl
theorem v_min2 : min2F [.p (.int k), .p (.int h)] S = some (.p (.int (min k h))) := rfl
theorem v_tup_l {as : List PyData} : tupF [.p (.list as)] S = some (.p (.tuple as)) := rfl
theorem v_lst_t {as : List PyData} : lstF [.p (.tuple as)] S = some (.p (.list as)) := rfl
theorem v_all {as : List PyData} : allF [.p (.list as)] S = (asBools as).map fun bs => .p (.bool (bs.all id)) := rfl
theorem v_sum {as : List PyData} : sumF [.p (.list as)] S = (asInts as).map fun ns => .p (.int ns.sum) := rfl
theorem asInts_mapG {α : Type} (g : α → Int) : ∀ l : List α, asInts (l.map fun x => PyData.int (g x)) = some (l.map g)
  | [] => rfl
  | x :: r => by
    show (asInts (r.map fun x => PyData.int (g x))).map (g x :: ·) = _
    rw [asInts_mapG g r]
    rfl
theorem asBools_mapG {α : Type} (g : α → Bool) : ∀ l : List α, asBools (l.map fun x => PyData.bool (g x)) = some (l.map g)
  | [] => rfl
  | x :: r => by
    show (asBools (r.map fun x => PyData.bool (g x))).map (g x :: ·) = _
    rw [asBools_mapG g r]
    rfl
theorem atI0 {α : Type} {x : α} {r : List α} : atI (x :: r) 0 = some x := atI_nat (j := 0) rfl
theorem atI1 {α : Type} {x y : α} {r : List α} : atI (x :: y :: r) 1 = some y := atI_nat (j := 1) rfl
theorem atI2 {α : Type} {x y z : α} {r : List α} : atI (x :: y :: z :: r) 2 = some z := atI_nat (j := 2) rfl
theorem ixN0 {n : Nat} : ixN (n + 1) 0 = some 0 := by unfold ixN; rw [if_pos (by omega), if_pos (by omega)]; rfl
theorem ixN1 {n : Nat} : ixN (n + 2) 1 = some 1 := by unfold ixN; rw [if_pos (by omega), if_pos (by omega)]; rfl
theorem b_nm {i : Nat} {d : D} {ro : Env} : bindP (.nm i) d ro = some (ro.set i (some d)) := by unfold bindP; rfl
theorem b_tp {ps : List Pt} {ds : List PyData} {ro : Env} : bindP (.tp ps) (.p (.tuple ds)) ro = bindPs ps ds ro := by simp only [bindP]
theorem b_cons {p : Pt} {ps : List Pt} {e : PyData} {es : List PyData} {ro : Env} : bindPs (p :: ps) (e :: es) ro = (bindP p (.p e) ro).bind fun r => bindPs ps es r := by simp only [bindPs]
theorem b_nil {ro : Env} : bindPs [] [] ro = some ro := by simp only [bindPs]
theorem putR_ok {as : List PyData} {q : Nat} (h : S[n]? = some (.lst as)) (hq : ixN as.length k = some q) : putR n k e ro S = .ok (.nx ro) (S.set n (.lst (as.set q e))) := by
  unfold putR
  rw [h]
  simp only [hq]
end

/-! ### loops -/
theorem forL_inv {p : Pt} {m : SM} (I : Nat → Env → Store → Prop) {Q : Fl → Store → Prop} (ds : List D)
    (step : ∀ k d ro S, ds[k]? = some d → I k ro S → ∃ ro1, bindP p d ro = some ro1 ∧ wE (m ro1 S) fun f S1 => match f with
      | .nx ro2 => I (k + 1) ro2 S1
      | .ct ro2 => I (k + 1) ro2 S1
      | .bk ro2 => Q (.nx ro2) S1
      | .rt d => Q (.rt d) S1)
    (fin : ∀ ro S, I ds.length ro S → Q (.nx ro) S) : ∀ {ro : Env} {S : Store}, I 0 ro S → wE (forL p m ds ro S) Q := by
  suffices h : ∀ (r : List D) (k : Nat), ds.drop k = r → k ≤ ds.length → ∀ (ro : Env) (S : Store), I k ro S → wE (forL p m r ro S) Q from fun {ro S} h0 => h ds 0 rfl (Nat.zero_le _) ro S h0
  intro r
  induction r with
  | nil =>
    intro k e hk ro S h
    have : ds.length ≤ k := List.drop_eq_nil_iff.mp e
    have : k = ds.length := Nat.le_antisymm hk this
    subst this
    exact fin ro S h
  | cons d r ih =>
    intro k e hk ro S h
    have hd : ds[k]? = some d := by
      have := List.getElem?_drop (xs := ds) (i := k) (j := 0)
      rw [e] at this
      simpa using this.symm
    have hk2 : k < ds.length := (List.getElem?_eq_some_iff.mp hd).1
    have hr : ds.drop (k + 1) = r := by
      rw [← List.drop_drop, e]
      rfl
    obtain ⟨ro1, e1, w1⟩ := step k d ro S hd h
    unfold forL
    rw [e1]
    refine wE_bind_of w1 fun f S1 hf => ?_
    cases f with
    | nx ro2 => exact ih (k + 1) hr hk2 ro2 S1 hf
    | ct ro2 => exact ih (k + 1) hr hk2 ro2 S1 hf
    | bk ro2 => exact hf
    | rt v => exact hf
/-- a loop that comes to its end -/
theorem forL_go {p : Pt} {m : SM} (I : Nat → Env → Store → Prop) (ds : List D)
    (step : ∀ k d ro S, ds[k]? = some d → k < ds.length → I k ro S → ∃ ro1, bindP p d ro = some ro1 ∧ ∃ ro2 S1, m ro1 S = .ok (.nx ro2) S1 ∧ I (k + 1) ro2 S1) {ro : Env} {S : Store} (h : I 0 ro S) :
    ∃ ro' S', forL p m ds ro S = .ok (.nx ro') S' ∧ I ds.length ro' S' := by
  obtain ⟨f, S', e, ro', rfl, h'⟩ := wE_ex (forL_inv (p := p) (m := m) I (Q := fun f S => ∃ ro', f = .nx ro' ∧ I ds.length ro' S) ds (fun k d ro S hd hI => by
    obtain ⟨ro1, e1, ro2, S1, e2, h2⟩ := step k d ro S hd (List.getElem?_eq_some_iff.mp hd).1 hI
    exact ⟨ro1, e1, wE_of e2 h2⟩) (fun ro S hI => ⟨ro, rfl, hI⟩) h)
  exact ⟨ro', S', e, h'⟩
/-- a comprehension of which each element is a value -/
theorem compL_pure {p : Pt} {elt : EM} {ro : Env} {S : Store} {α : Type} (en : α → D) (g : α → PyData) : ∀ (ds : List α), (∀ d ∈ ds, ∃ ro1, bindP p (en d) ro = some ro1 ∧ elt ro1 S = .ok (.p (g d)) S) → compL p bTrue elt ro (ds.map en) S = .ok (ds.map g) S
  | [], _ => rfl
  | d :: r, h => by
    obtain ⟨ro1, e1, e2⟩ := h d List.mem_cons_self
    have ih := compL_pure en g r fun d hd => h d (List.mem_cons_of_mem _ hd)
    simp only [List.map_cons, compL, e1, bTrue, Res.bind, ↓reduceIte, e2, ih]
theorem compL_filter {p : Pt} {c : TM} {elt : EM} {ro : Env} {S : Store} {α : Type} (en : α → D) (q : α → Bool) (g : α → PyData) : ∀ (ds : List α), (∀ d ∈ ds, ∃ ro1, bindP p (en d) ro = some ro1 ∧ c ro1 S = .ok (q d) S ∧ (q d = true → elt ro1 S = .ok (.p (g d)) S)) → compL p c elt ro (ds.map en) S = .ok ((ds.filter q).map g) S
  | [], _ => rfl
  | d :: r, h => by
    obtain ⟨ro1, e1, e2, e3⟩ := h d List.mem_cons_self
    have ih := compL_filter en q g r fun d hd => h d (List.mem_cons_of_mem _ hd)
    cases hq : q d with
    | true => simp only [List.map_cons, compL, e1, e2, Res.bind, hq, ↓reduceIte, e3 hq, ih, List.filter_cons]
    | false => simp only [List.map_cons, compL, e1, e2, Res.bind, hq, ↓reduceIte, ih, List.filter_cons, Bool.false_eq_true]
/-- .. is drawn -/
theorem compL_draw {p : Pt} {elt : EM} {ro : Env} {α : Type} (en : α → PyData) (P : α → Prop) (I : Store → Prop) : ∀ (ds : List D) (S : Store), I S → (∀ d ∈ ds, ∀ S, I S → ∃ ro1, bindP p d ro = some ro1 ∧ wE (elt ro1 S) fun y S2 => ∃ z, y = .p (en z) ∧ P z ∧ I S2) →
    wE (compL p bTrue elt ro ds S) fun l S2 => ∃ zs : List α, l = zs.map en ∧ zs.length = ds.length ∧ (∀ z ∈ zs, P z) ∧ I S2
  | [], S, h0, _ => ⟨[], rfl, rfl, (by intro z hz; cases hz), h0⟩
  | d :: r, S, h0, h => by
    obtain ⟨ro1, e1, w1⟩ := h d List.mem_cons_self S h0
    unfold compL
    simp only [e1, bTrue, Res.bind, ↓reduceIte]
    refine wE_bind_of w1 fun y S2 ⟨z, ey, pz, i2⟩ => ?_
    subst ey
    refine wE_bind_of (compL_draw en P I r S2 i2 fun d hd => h d (List.mem_cons_of_mem _ hd)) fun l S3 ⟨zs, e3, e4, e5, e6⟩ => ?_
    subst e3
    refine ⟨z :: zs, rfl, by simp [e4], fun x hx => ?_, e6⟩
    rcases List.mem_cons.mp hx with hx | hx
    · rw [hx]; exact pz
    · exact e5 x hx
end
end Mi

namespace Mi
open PySem PySem.Spec PyProof.Rows L2
noncomputable section

/-! ### repr of tuples and lists -/
def isSq : PyData → Bool
  | .tuple _ => true
  | .list _ => true
  | _ => false
def reprF : List D → Store → Option D
  | [.p d], _ => if isSq d = true ∧ d.canLay0 = true ∧ d.showable = true ∧ d.depth ≤ 60 ∧ d.shown.length ≤ lim then some (.p (.str d.shown)) else none
  | _, _ => none
mutual
theorem noDict : ∀ d : PyData, d.canLay0 = true → d.hasDict = false
  | .none, _ => rfl
  | .bool _, _ => rfl
  | .int _, _ => rfl
  | .str _, _ => rfl
  | .tuple ds, h => by
    simp only [PyData.hasDict]
    exact noDictAll ds (by simpa only [PyData.canLay0] using h)
  | .list ds, h => by
    simp only [PyData.hasDict]
    exact noDictAll ds (by simpa only [PyData.canLay0] using h)
  | .dict _, h => by simp [PyData.canLay0] at h
theorem noDictAll : ∀ ds : List PyData, PyData.canLayAll0 ds = true → PyData.hasDictAll ds = false
  | [], _ => rfl
  | d :: ds, h => by
    have c : d.canLay0 = true ∧ PyData.canLayAll0 ds = true := by simpa [PyData.canLayAll0] using h
    simp only [PyData.hasDictAll, noDict d c.1, noDictAll ds c.2, Bool.or_self]
end
section
variable {X : Cx}
theorem call_reprD (hgd : X.A.guards = some []) (hu : X.A.units + 64 < cLine) : CallR X (.builtin "repr") (fun xs H Q => ∃ (a : Addr) (d : PyData), xs = [.ref a] ∧ Dp X.K H (.ref a) d ∧ d.canLay0 = true ∧ d.showable = true ∧ d.depth ≤ 60 ∧ d.shown.length ≤ sizeLine ∧ Q (.str d.shown) H) := by
  intro pins s σ H xs us Q I rv h
  obtain ⟨a, d, rfl, hd, h0, h1, h2, h3, q⟩ := h
  cases rv with
  | cons rx r =>
    cases r
    rename_i u
    obtain rfl : u = .ref a := rx
    obtain ⟨as, rd⟩ := Dp.reads I d (.ref a) (.ref a) hd rfl
    exact repr_of_reads' rd h1 (fun z => by rw [noDict d h0] at z; cases z) hgd (by omega) (fun b o e => e) (fun h' u tk hk => ⟨.str d.shown, H, I.kept (t' := tk) hk, ⟨_, rfl⟩, q⟩) h3
theorem rl_repr {K : PySem.W.Frag} : RLok K .e reprF (fun xs H Q => ∃ (a : Addr) (d : PyData), xs = [.ref a] ∧ Dp K H (.ref a) d ∧ d.canLay0 = true ∧ d.showable = true ∧ d.depth ≤ 60 ∧ d.shown.length ≤ sizeLine ∧ Q (.str d.shown) H) := by
  intro ph Ex H S ds vs d Q sr dm hp h q
  unfold reprF at h
  split at h
  · rename_i e
    split at h
    · rename_i hc
      obtain ⟨c1, c2, c3, c4, c5⟩ := hc
      cases h
      obtain ⟨v, rfl, hv⟩ := p1 hp
      have lz := lim_line
      have ev : ∃ a, v = .ref a := by
        cases e with
        | tuple ds => obtain ⟨a, xs, e1, _⟩ := hv.tup_; exact ⟨a, e1⟩
        | list ds => obtain ⟨a, xs, e1, _⟩ := hv.list_; exact ⟨a, e1⟩
        | none => simp [isSq] at c1
        | bool b => simp [isSq] at c1
        | int b => simp [isSq] at c1
        | str b => simp [isSq] at c1
        | dict b => simp [isSq] at c1
      obtain ⟨a, rfl⟩ := ev
      exact ⟨a, e, rfl, hv.dp c2, c2, c3, c4, by omega, out_sca sr q rfl⟩
    · cases h
  · cases h
variable {ow : Nat → Bool} {a : Expr} {p pos : Pos} {am : AM}
theorem me_repr (hgd : X.A.guards = some []) (hu : X.A.units + 64 < cLine) (hg : Gl X "repr") (hm : X.mg "repr" = none) (ha : PA X [a] (tAs .p X.K ow am)) (he : starEach [a] X.env = (false, eval a X.env) :: starEach [] X.env := by rfl) (hpl : (backTo pos (starEach [] X.env)).any (·.1) = false := by rfl) :
    PE X (.Call (.Name "repr" p) [a] [] pos) (tG .e X.K ow (eBlt reprF am)) := mk_callB (call_reprD hgd hu) rl_repr hg hm (by decide +kernel) ha (by decide) (by decide) he hpl
end
/-! how long a value's text is at most -/
mutual
def wideD : PyData → Nat
  | .none => 4
  | .bool _ => 5
  | .int _ => 31
  | .str _ => 1000000000
  | .list xs => wideAll xs + 3
  | .tuple xs => wideAll xs + 3
  | .dict _ => 1000000000
def wideAll : List PyData → Nat
  | [] => 0
  | x :: xs => wideD x + 2 + wideAll xs
end
mutual
/-- ints of at most thirty figures, nothing but these, truths, None in tuples and lists -/
def tame : PyData → Bool
  | .none => true
  | .bool _ => true
  | .int i => decide (i.natAbs < 10 ^ 30)
  | .str _ => false
  | .list xs => tameAll xs
  | .tuple xs => tameAll xs
  | .dict _ => false
def tameAll : List PyData → Bool
  | [] => true
  | x :: xs => tame x && tameAll xs
end
theorem log2_30 {n : Nat} (h : n < 10 ^ 30) : n.log2 < 1920 := by
  by_cases h0 : n = 0
  · subst h0; decide
  · exact Nat.lt_trans ((Nat.log2_lt h0).mpr (Nat.lt_trans h (by decide : 10 ^ 30 < 2 ^ 100))) (by decide)
mutual
theorem tame_of : ∀ d : PyData, tame d = true → d.canLay0 = true ∧ d.showable = true ∧ d.shown.length ≤ wideD d
  | .none, _ => ⟨rfl, rfl, by decide⟩
  | .bool b, _ => ⟨rfl, rfl, by cases b <;> decide⟩
  | .int i, h => by
    simp only [tame, decide_eq_true_eq] at h
    refine ⟨rfl, ?_, ?_⟩
    · simp only [PyData.showable, decide_eq_true_eq]
      exact log2_30 h
    · simp only [PyData.shown, wideD]
      rw [PySem.ofString_length]
      exact int_text_length_le10 (by decide) h
  | .str _, h => by simp [tame] at h
  | .dict _, h => by simp [tame] at h
  | .list ds, h => by
    obtain ⟨h1, h2, h3, h4⟩ := tame_all ds (by simpa only [tame] using h)
    refine ⟨by simpa only [PyData.canLay0] using h1, by simpa only [PyData.showable] using h2, ?_⟩
    have := listText_len_le (PyData.shownAll ds)
    simp only [PyData.shown, wideD]
    omega
  | .tuple ds, h => by
    obtain ⟨h1, h2, h3, h4⟩ := tame_all ds (by simpa only [tame] using h)
    refine ⟨by simpa only [PyData.canLay0] using h1, by simpa only [PyData.showable] using h2, ?_⟩
    have := tupleText_len_le (PyData.shownAll ds)
    simp only [PyData.shown, wideD]
    omega
theorem tame_all : ∀ ds : List PyData, tameAll ds = true → PyData.canLayAll0 ds = true ∧ PyData.showableAll ds = true ∧ ((PyData.shownAll ds).map (·.length)).sum + 2 * (PyData.shownAll ds).length ≤ wideAll ds ∧ True
  | [], _ => ⟨rfl, rfl, by decide, trivial⟩
  | d :: ds, h => by
    have c : tame d = true ∧ tameAll ds = true := by simpa [tameAll] using h
    obtain ⟨h1, h2, h3⟩ := tame_of d c.1
    obtain ⟨g1, g2, g3, _⟩ := tame_all ds c.2
    refine ⟨by simp only [PyData.canLayAll0, h1, g1, Bool.and_self], by simp only [PyData.showableAll, h2, g2, Bool.and_self], ?_, trivial⟩
    simp only [PyData.shownAll, List.map_cons, List.sum_cons, List.length_cons, wideAll]
    omega
end
/-! .. and that it is a text of signs -/
theorem sok_app {a b : Str} (ha : PyData.strOk a = true) (hb : PyData.strOk b = true) : PyData.strOk (a ++ b) = true := by
  show (a.cps ++ b.cps).all _ = true
  rw [Array.all_append]
  exact Bool.and_eq_true_iff.mpr ⟨ha, hb⟩
theorem sok_of (s : String) : PyData.strOk (Str.ofString s) = true := by
  rw [Str.ofString_eq_toList]
  show (s.toList.map Char.toNat).toArray.all _ = true
  rw [List.all_toArray, List.all_eq_true]
  intro n hn
  obtain ⟨c, _, rfl⟩ := List.mem_map.mp hn
  have h := c.valid
  show decide (c.val.toNat < 0x110000) = true
  rw [decide_eq_true_eq]
  rcases h with h | h
  · have : c.val.toNat < 0xd800 := h
    omega
  · exact h.2
theorem sok_join : ∀ ts : List Str, (∀ t ∈ ts, PyData.strOk t = true) → PyData.strOk (Str.join ", " ts) = true
  | [], _ => by
    show (#[] : Array Nat).all _ = true
    exact Array.all_empty
  | [x], h => h x List.mem_cons_self
  | x :: y :: r, h => sok_app (sok_app (h x List.mem_cons_self) (sok_of ", ")) (sok_join (y :: r) fun t ht => h t (List.mem_cons_of_mem _ ht))
theorem sok_tup (ts : List Str) (h : ∀ t ∈ ts, PyData.strOk t = true) : PyData.strOk (tupleText ts) = true := by
  unfold tupleText
  exact sok_app (sok_app (sok_of "(") (sok_join ts h)) (sok_of _)
theorem sok_from : ∀ (ts : List Str) (k : Nat) (acc : Str), PyData.strOk acc = true → (∀ t ∈ ts, PyData.strOk t = true) → PyData.strOk (textFrom k acc ts) = true
  | [], _, acc, h, _ => h
  | t :: ts, k, acc, h, q => sok_from ts (k + 1) _ (sok_app (sok_app h (sok_of _)) (q t List.mem_cons_self)) fun u hu => q u (List.mem_cons_of_mem _ hu)
theorem sok_lst (ts : List Str) (h : ∀ t ∈ ts, PyData.strOk t = true) : PyData.strOk (listText ts) = true := by
  unfold listText
  exact sok_app (sok_from ts 0 _ (sok_of "[") h) (sok_of "]")
mutual
theorem sok_shown : ∀ d : PyData, tame d = true → PyData.strOk d.shown = true
  | .none, _ => sok_of "None"
  | .bool b, _ => by cases b <;> exact sok_of _
  | .int i, _ => sok_of _
  | .str _, h => by simp [tame] at h
  | .dict _, h => by simp [tame] at h
  | .list ds, h => by
    simp only [PyData.shown]
    exact sok_lst _ (sok_all ds (by simpa only [tame] using h))
  | .tuple ds, h => by
    simp only [PyData.shown]
    exact sok_tup _ (sok_all ds (by simpa only [tame] using h))
theorem sok_all : ∀ ds : List PyData, tameAll ds = true → ∀ t ∈ PyData.shownAll ds, PyData.strOk t = true
  | [], _, t, ht => by simp [PyData.shownAll] at ht
  | d :: ds, h, t, ht => by
    have c : tame d = true ∧ tameAll ds = true := by simpa [tameAll] using h
    simp only [PyData.shownAll, List.mem_cons] at ht
    rcases ht with ht | ht
    · rw [ht]; exact sok_shown d c.1
    · exact sok_all ds c.2 t ht
end
theorem v_repr {S : Store} {d : PyData} (h1 : isSq d = true) (h2 : tame d = true) (h3 : d.depth ≤ 60) (h4 : wideD d ≤ 1000000) : reprF [.p d] S = some (.p (.str d.shown)) := by
  obtain ⟨c1, c2, c3⟩ := tame_of d h2
  show (if _ then _ else _) = _
  rw [if_pos ⟨h1, c1, c2, h3, by have : lim = 1000000 := rfl; omega⟩]
end
end Mi

namespace Mi
open PySem PySem.Spec PyProof.Rows L2
noncomputable section

/-! ### a call that is handed a list of one's own: it answers a value that stands alone -/
def scaD (d : PyData) : Bool := (sca d).isSome
def flatSO : SO → Bool
  | .lst ds => ds.all scaD
def FlatS (S : Store) : Prop := ∀ o ∈ S, flatSO o = true
instance (S : Store) : Decidable (FlatS S) := by unfold FlatS; exact inferInstance
def kCallP (r : Res D) : Res D := match r with
  | .ok (.p d) S' => if scaD d = true ∧ FlatS S' then .ok (.p d) S' else .bad
  | _ => .bad
def eCallP (c : List D → M D) (am : AM) : EM := fun ro S => (am ro S).bind fun ds S1 => kCallP (c ds S1)
section
variable {K : PySem.W.Frag} {H H' : Hp} {ph ph' : List Addr} {ok ok' : Addr → Prop} {Ex Ex' : Addr → Prop} {S : Store}
theorem rep_sca {d : PyData} {v : V} (h : scaD d = true) (r : Rep K H ok d v) : Rep K H ok' d v := by
  cases d with
  | none => simp only [Rep] at r ⊢; exact r
  | bool b => simp only [Rep] at r ⊢; exact r
  | int b => simp only [Rep] at r ⊢; exact r
  | str b => simp only [Rep] at r ⊢; exact r
  | list b => simp [scaD, sca] at h
  | tuple b => simp [scaD, sca] at h
  | dict b => simp [scaD, sca] at h
theorem repAll_sca : ∀ {ds : List PyData} {vs : List V}, ds.all scaD = true → RepAll K H ok ds vs → RepAll K H ok' ds vs
  | [], _, _, r => by simp only [RepAll] at r ⊢; exact r
  | d :: ds, vs, h, r => by
    simp only [RepAll] at r ⊢
    obtain ⟨x, xs, e, r1, r2⟩ := r
    simp only [List.all_cons, Bool.and_eq_true] at h
    exact ⟨x, xs, e, rep_sca h.1 r1, repAll_sca h.2 r2⟩
theorem SRep.flat (h : SRep K ph Ex H S) (f : FlatS S) : SRep K ph Ex' H S := by
  refine ⟨h.len, h.nd, fun n a o e1 e2 => ?_⟩
  have k := h.at_ n a o e1 e2
  cases o with
  | lst ds =>
    obtain ⟨xs, e, r⟩ := k
    exact ⟨xs, e, repAll_sca (f _ (List.mem_of_getElem? e2)) r⟩
theorem RepP.none {d : D} {v : V} (h : RepP K ph Ex H d v) : RepD K ph (fun _ => False) H d v := by
  have less : ∀ a, (fun _ : Addr => False) a → Ex a ∨ H a = Option.none := fun a z => z.elim
  cases d with
  | ref n => exact h
  | scr ns => exact h
  | p d =>
    cases d with
    | list ds =>
      obtain ⟨a, xs, e, h1, h2, r⟩ := h.list_
      show Rep K H _ (.list ds) v
      simp only [Rep]
      exact ⟨a, xs, e, h1, ⟨h2, fun z => z⟩, r.ex less⟩
    | dict ds =>
      obtain ⟨a, xs, e, h1, h2, r⟩ := h.dict_
      show Rep K H _ (.dict ds) v
      simp only [Rep]
      exact ⟨a, xs, e, h1, ⟨h2, fun z => z⟩, RepKv.mono (fun b ys e k => ⟨e, k.1, fun z => z⟩) (fun _ _ h => h) (fun b ys e k => ⟨e, k.1, fun z => z⟩) _ _ r⟩
    | none => exact RepD.ex less h
    | bool b => exact RepD.ex less h
    | int b => exact RepD.ex less h
    | str b => exact RepD.ex less h
    | tuple b => exact RepD.ex less h
theorem RepDs.none : ∀ {ds : List D} {vs : List V}, Paired (RA .p K ph Ex H) ds vs → RepDs K ph (fun _ => False) H ds vs
  | _, _, .nil => .nil
  | _, _, .cons a b => .cons (RepP.none a) (RepDs.none b)
end
section
variable {X : Cx} {ow : Nat → Bool} {lv : Nat} {kd : Kd} {ps : List Str} {c : List D → M D} {x : Str} {p pos : Pos} {e : Expr} {es : List Expr} {am : AM}
/-- f(e, ..), lists of one's own among them -/
theorem mk_callP (C : CalG X.prog X.w X.K X.mg X.base lv .e x ps c) (hr : Room lv X.A) (hgd : X.A.guards = some []) (hg : Gl X x)
    (ha : PA X (e :: es) (tAs .p X.K ow am)) (hl : ALen am ps.length) (hdb : (x == ("__debug__" : Str)) = false := by decide) (he : starEach (e :: es) X.env = (false, eval e X.env) :: starEach es X.env := by rfl) (hpl : (backTo pos (starEach es X.env)).any (·.1) = false := by rfl) :
    PE X (.Call (.Name x p) (e :: es) [] pos) (tG .e X.K ow (eCallP c am)) := by
  obtain ⟨f, fd, oc, od, osl, hm, hlk, hk, hbd, F⟩ := C.ex
  have hb : Binds X.K fd ps [] := .all fun us hl => hbd us hl
  constructor
  intro pins s sg H Q I hw
  obtain ⟨ph, E, O, ro, S, st, d, S', ev, q⟩ := hw
  obtain ⟨ds, S1, e1, e2⟩ := Res.bind_ok ev
  obtain ⟨d0, e3, rfl, sc, fl⟩ : ∃ d0, c ds S1 = .ok (.p d0) S' ∧ d = .p d0 ∧ scaD d0 = true ∧ FlatS S' := by
    unfold kCallP at e2
    split at e2
    · split at e2
      · rename_i hc
        cases e2
        exact ⟨_, by assumption, rfl, hc.1, hc.2⟩
      · cases e2
    · cases e2
  have args := ha.run pos pins s sg H (fun vs H1 => vs.length = ps.length ∧ spG .e X.K c vs H1 Q) I
    ⟨ph, E, O, ro, S, st, ds, S1, e1, fun vs H1 ph1 t1 r1 z1 => by
      refine ⟨by rw [← hl _ _ _ _ e1]; exact (Paired.length z1).symm, ph1, (fun _ => False), ds, S1, fun _ z => z.elim, r1.ex (fun _ z => z.elim), RepDs.none z1, .p d0, S', e3, fun v H2 ph2 t2 r2 z2 => ?_⟩
      exact q v H2 ph2 (t1.trans t2) (r2.flat fl) (rep_sca sc z2)⟩
  have kin := I.ok.mod.kin
  refine wpAny_Call_Name_kw (ld_glob I hg hm ?_ hdb)
  refine PySem.W.callWith_K kin hk (thn args fun us s1 hs => ?_) he hpl
  obtain ⟨vs, H1, I1, rv, len, sp⟩ := hs
  refine ⟨I1.kIn, ?_⟩
  have bind := hb s1 us I1.kIn (by rw [List.append_nil, ← rv.length]; exact len)
  rw [List.append_nil] at bind
  have run := F.go X.A X.stack s1 H1 ⟨us, []⟩ us vs Q hr hgd I1.env0 bind rv len sp
  refine wpAny_call (codeAny_mono run fun r s2 back => ?_)
  match r, back with
  | .ok (.ret u), back => exact I1.after back
  | .ok .next, back => exact (show False from back).elim
  | .ok .brk, back => exact (show False from back).elim
  | .ok .cont, back => exact (show False from back).elim
  | .error x, back => exact (show False from back).elim
end
def kCallP2 (c : List D → M D) (ds : List D) (S : Store) : Res D := kCallP (c ds S)
theorem q_callP {c : List D → M D} {am : AM} {ro : Env} {S : Store} : eCallP c am ro S = (am ro S).bind (kCallP2 c) := rfl
theorem k_callP {c : List D → M D} {ds : List D} {S S' : Store} {d : PyData} (h : c ds S = .ok (.p d) S') (hs : scaD d = true) (hf : FlatS S') : kCallP2 c ds S = .ok (.p d) S' := by
  show kCallP (c ds S) = _
  rw [h]
  show (if _ then _ else _) = _
  rw [if_pos ⟨hs, hf⟩]
end
end Mi

namespace Mi
open PySem PySem.Spec PyProof.Rows L2
noncomputable section

/-! ### range(i, j, c) -/
def intRC (lo c : Int) (n : Nat) : List D := (List.range n).map fun i => .p (.int (lo + (i : Nat) * c))
def rSz (i j c : Int) : Nat := (Builtin.Range.rangeSize i j c).toNat
def rOk (i j c : Int) : Bool := decide (c ≠ 0) && decide (c.natAbs < 1073741824) && Builtin.Range.small i j c && decide (Builtin.Range.rangeSize i j c = (rSz i j c : Nat))
def kR33 (x y z : D) (S : Store) : Res (List D) := match x, y, z with
  | .p (.int i), .p (.int j), .p (.int c) => if rOk i j c = true then .ok (intRC i c (rSz i j c)) S else .bad
  | _, _, _ => .bad
def iR3 (ma mb mc : EM) : LM := fun ro S => (ma ro S).bind fun x S1 => (mb ro S1).bind fun y S2 => (mc ro S2).bind fun z S3 => kR33 x y z S3
theorem q_r3 {ma mb mc : EM} {ro : Env} {S : Store} : iR3 ma mb mc ro S = (ma ro S).bind fun x S1 => (mb ro S1).bind fun y S2 => (mc ro S2).bind fun z S3 => kR33 x y z S3 := rfl
theorem k_r33 {i j c : Int} {S : Store} (h : rOk i j c = true) : kR33 (.p (.int i)) (.p (.int j)) (.p (.int c)) S = .ok (intRC i c (rSz i j c)) S := by
  show (if _ then _ else _) = _
  rw [if_pos h]
theorem walks_rc {K : PySem.W.Frag} {ph : List Addr} {Ex U : Addr → Prop} {H : Hp} {lo c : Int} {n : Nat} : Walks K ph Ex U H (Itc lo c n) (intRC lo c n) := by
  intro ph2 O2 H2 g i
  unfold intRC
  rw [List.getElem?_map]
  refine ⟨fun d e => ?_, fun e _ => ?_⟩
  · by_cases hi : i < n
    · rw [List.getElem?_range hi] at e
      cases e
      refine ⟨hi, fun y H3 hy => ?_⟩
      obtain ⟨e1, e2⟩ := hy
      subst e2
      exact ⟨.inl e1, (show Rep K _ (okx ph2 fun b => Ex b ∨ O2 b) _ _ from rep_int)⟩
    · rw [List.getElem?_eq_none (by simpa using hi)] at e
      cases e
  · by_cases hi : i < n
    · rw [List.getElem?_range hi] at e
      cases e
    · exact Nat.le_of_not_lt hi
section
variable {X : Cx} {ow : Nat → Bool} {tg e e2 e3 : Expr} {p pos : Pos} {ma mb mc : EM}
theorem mi_r3 {c : Bool} (hg : Gl X "range") (hm : X.mg "range" = none) (ha : PE X e (tG .p X.K ow ma)) (hb : PE X e2 (tG .p X.K ow mb)) (hd : PE X e3 (tG .p X.K ow mc)) (hs : starEach [e, e2, e3] X.env = (false, eval e X.env) :: starEach [e2, e3] X.env := by rfl) (hs2 : starEach [e2, e3] X.env = (false, eval e2 X.env) :: starEach [e3] X.env := by rfl) (hs3 : starEach [e3] X.env = (false, eval e3 X.env) :: starEach [] X.env := by rfl)
    (hpl : (backTo pos (starEach [e2, e3] X.env)).any (·.1) = false := by rfl) : PI X tg (.Call (.Name "range" p) [e, e2, e3] [] pos) (tI c X.K ow (iR3 ma mb mc)) :=
  PI.imp (pi_range3 hg hm (pa_cons ha (pa_cons hb (pa_cons hd pa_nil hs3) hs2) hs) hs hpl) fun sg H R ⟨ph, E, O, ro, S, sta, ds, S', ev, q⟩ => by
    obtain ⟨d, S1, e1, ev⟩ := Res.bind_ok ev
    obtain ⟨f, S2, e2, ev⟩ := Res.bind_ok ev
    obtain ⟨g, S3, e3, ev⟩ := Res.bind_ok ev
    refine ⟨ph, E, O, ro, S, sta, d, S1, e1, fun v H1 ph1 t1 r1 z1 => ?_⟩
    refine ⟨ph1, E, O, ro, S1, sta.step t1 r1, f, S2, e2, fun w H2 ph2 t2 r2 z2 => ?_⟩
    refine ⟨ph2, E, O, ro, S2, (sta.step t1 r1).step t2 r2, g, S3, e3, fun u H3 ph3 t3 r3 z3 => ?_⟩
    unfold kR33 at ev
    split at ev
    · split at ev
      · rename_i hb
        cases ev
        simp only [rOk, Bool.and_eq_true, decide_eq_true_eq] at hb
        obtain ⟨⟨⟨b1, b2⟩, b3⟩, b4⟩ := hb
        exact ⟨_, _, _, _, by rw [(RR.asP z1).int_, (RR.asP z2).int_, (RR.asP z3).int_], ⟨b1, b2, b3, b4⟩, q _ H3 ph3 ((t1.trans t2).trans t3) r3 walks_rc⟩
      · cases ev
    · cases ev
end
end
end Mi

namespace Lw
open PySem PySem.Spec PyProof.Rows L2 Mi
def stO (a b : Int) : SO := .lst [.int a, .int b]
theorem flat_set {S : Store} {n : Nat} {a b : Int} (h : FlatS S) : FlatS (S.set n (.lst [.int a, .int b])) := fun o ho => by
  rcases List.mem_or_eq_of_mem_set ho with h1 | h1
  · exact h o h1
  · rw [h1]; rfl
def Good (S : Store) (n : Nat) : Prop := FlatS S ∧ ∃ a b : Int, S[n]? = some (stO a b) ∧ 0 ≤ a ∧ 0 ≤ b ∧ b < 2147483647
theorem cmul_l {i j : Int} (h0 : 0 ≤ i) (h1 : i < 18446744073709551616) : CMul i j := .inl ⟨by omega, by omega⟩
theorem Good.put {S : Store} {n : Nat} (hF : FlatS S) (hn : n < S.length) {a b : Int} (ha : 0 ≤ a) (hb : 0 ≤ b) (hb2 : b < 2147483647) : Good (S.set n (.lst [.int a, .int b])) n := ⟨flat_set hF, a, b, by rw [List.getElem?_set_self hn]; rfl, ha, hb, hb2⟩
/-! ### draws -/
def encO : Option Int → PyData
  | none => .none
  | some i => .int i
theorem atI_any {α : Type} (P : α → Prop) (ds : List α) {i : Int} (h0 : 0 ≤ i) (h1 : i < ds.length) (h : ∀ x ∈ ds, P x) : ∃ x, atI ds i = some x ∧ P x := by
  have hn : i.toNat < ds.length := by omega
  refine ⟨ds[i.toNat], ?_, h _ (List.getElem_mem hn)⟩
  have e : ((i.toNat : Nat) : Int) = i := by omega
  have := atI_nat (xs := ds) (j := i.toNat) (List.getElem?_eq_getElem hn)
  rw [e] at this
  exact this
theorem intR_len {a : Int} {n : Nat} : (intR a n).length = n := by unfold intR; rw [List.length_map, List.length_range]
theorem bnd_of {i : Int} (h : -1000000000000 ≤ i) (h2 : i ≤ 1000000000000) : bnd i := by unfold bnd; omega
theorem compL_enc {p : Pt} {elt : EM} {ro : Mi.Env} {S : Store} {α : Type} (en : α → PyData) (g : α → PyData) (ds : List α) (h : ∀ d ∈ ds, ∃ ro1, bindP p (.p (en d)) ro = some ro1 ∧ elt ro1 S = .ok (.p (g d)) S) : compL p bTrue elt ro ((ds.map en).map D.p) S = .ok (ds.map g) S := by
  rw [List.map_map]
  exact compL_pure (D.p ∘ en) g ds h
/-! ### looks -/
theorem lim_v : lim = 1000000 := rfl
def isW : PyData → Bool
  | .int _ => true
  | _ => false
def btw (l h : Int) : PyData → Bool
  | .int i => decide (l ≤ i) && decide (i ≤ h)
  | _ => false
def tupN (l h : Int) : PyData → Bool
  | .tuple ds => decide (l ≤ ds.length) && decide ((ds.length : Int) ≤ h)
  | _ => false
theorem tupN_2 {d : PyData} (h : tupN 2 2 d = true) : ∃ a b, d = .tuple [a, b] := by
  cases d with
  | tuple ds =>
    simp only [tupN, Bool.and_eq_true, decide_eq_true_eq] at h
    match ds, h with
    | [a, b], _ => exact ⟨a, b, rfl⟩
    | [], h => exact absurd h.1 (by decide)
    | [a], h => exact absurd h.1 (by simp only [List.length_cons, List.length_nil]; omega)
    | a :: b :: c :: r, h => exact absurd h.2 (by simp only [List.length_cons]; omega)
  | _ => simp only [tupN, Bool.false_eq_true] at h
theorem tupN_3 {d : PyData} (h : tupN 3 3 d = true) : ∃ a b c, d = .tuple [a, b, c] := by
  cases d with
  | tuple ds =>
    simp only [tupN, Bool.and_eq_true, decide_eq_true_eq] at h
    match ds, h with
    | [a, b, c], _ => exact ⟨a, b, c, rfl⟩
    | [], h => exact absurd h.1 (by decide)
    | [a], h => exact absurd h.1 (by simp only [List.length_cons, List.length_nil]; omega)
    | [a, b], h => exact absurd h.1 (by simp only [List.length_cons, List.length_nil]; omega)
    | a :: b :: c :: e :: r, h => exact absurd h.2 (by simp only [List.length_cons]; omega)
  | _ => simp only [tupN, Bool.false_eq_true] at h
theorem tupN_0 {d : PyData} {h : Int} (e : tupN 0 h d = true) : ∃ ds, d = .tuple ds ∧ (ds.length : Int) ≤ h := by
  cases d with
  | tuple ds =>
    simp only [tupN, Bool.and_eq_true, decide_eq_true_eq] at e
    exact ⟨ds, rfl, e.2⟩
  | _ => simp only [tupN, Bool.false_eq_true] at e
theorem all_map {α : Type} (f : α → Bool) (l : List α) : (l.map f).all id = l.all f := by
  rw [List.all_map]
  rfl
theorem all_rows (rows : List PyData) (ro : Mi.Env) (S : Store) (f : PyData → Bool) (c : List D → M D) (hc : ∀ d S, c [.p d] S = .ok (.p (.bool (f d))) S) (i : Nat) (hi : i < ro.length) :
    compL (.nm i) bTrue (eCall c (aCons (eVar i) aNil)) ro (rows.map .p) S = .ok (rows.map fun d => .bool (f d)) S := by
  refine compL_pure D.p (fun d => .bool (f d)) rows fun d _ => ⟨ro.set i (some (.p d)), b_nm, ?_⟩
  simp only [Mi.wE_ok, Mi.bind_k, Mi.bind_b, Mi.bind_ite, Mi.optR_some, Mi.addF_int, Mi.int2_int, Mi.intB_int, Mi.q_seq, Mi.q_set, Mi.q_nil, Mi.q_drop, Mi.q_ret, Mi.q_if, Mi.q_brk, Mi.q_cnt, Mi.q_bad, Mi.q_asg, Mi.q_par, Mi.q_par3, Mi.q_app, Mi.q_put, Mi.q_putR, Mi.q_for, Mi.q_var, Mi.varR_some, Mi.q_con, Mi.q_bin, Mi.q_binS, Mi.q_bb, Mi.q_un, Mi.q_and, Mi.q_or, Mi.q_not, Mi.q_ife, Mi.q_band, Mi.q_bor, Mi.q_bnot, Mi.q_val, Mi.q_true, Mi.q_chn, Mi.q_anil, Mi.q_acons, Mi.q_tup, Mi.q_lst, Mi.q_lstR, Mi.q_none, Mi.q_some, Mi.q_sl, Mi.q_blt, Mi.q_isi, Mi.q_isi2, Mi.q_iseq, Mi.q_r1, Mi.q_r2, Mi.q_z, Mi.q_lr1, Mi.q_lr2, Mi.q_comp, Mi.q_call, Mi.k_seq_nx, Mi.k_seq_rt, Mi.k_seq_bk, Mi.k_seq_ct, Mi.k_set, Mi.k_drop, Mi.k_ret, Mi.k_if, Mi.k_asg, Mi.asgR_some, Mi.k_par, Mi.k_par3, Mi.k_app, Mi.appR_l, Mi.k_putR, Mi.k_putR2, Mi.putR2_ref, Mi.k_for, Mi.k_bin, Mi.k_bin2, Mi.k_binS, Mi.k_binS2, Mi.k_bb, Mi.k_bb2, Mi.optB_some, Mi.k_un, Mi.k_and_t, Mi.k_and_f, Mi.k_or_t, Mi.k_or_f, Mi.k_not, Mi.k_ife, Mi.k_band, Mi.k_bor, Mi.k_bnot, Mi.k_val, Mi.k_chn, Mi.k_chn2, Mi.k_chn3, Mi.k_cons, Mi.k_cons2, Mi.k_tup, Mi.k_lst, Mi.k_lstR, Mi.lstR_some, Mi.pys_nil, Mi.pys_cons, Mi.k_some_i, Mi.k_some_n, Mi.k_sl, Mi.k_sl2, Mi.k_sl3T, Mi.k_sl3L, Mi.k_blt, Mi.k_isi, Mi.k_isi2, Mi.k_seqI_l, Mi.k_seqI_t, Mi.k_r1, Mi.k_r2, Mi.k_r22, Mi.k_z, Mi.k_z2l, Mi.k_z2t, Mi.k_lr1, Mi.k_lr2, Mi.k_lr22, Mi.k_comp, Mi.k_comp2, Mi.k_body_rt, Mi.k_body_nx, Mi.v_add_t, Mi.v_cat, Mi.v_rep, Mi.v_mul, Mi.v_div, Mi.v_mod, Mi.v_pow, Mi.v_neg, Mi.v_lt, Mi.v_le, Mi.v_gt, Mi.v_ge, Mi.v_bD, Mi.v_ne, Mi.v_eqI, Mi.v_eqB, Mi.v_isN_n, Mi.v_isN_i, Mi.v_isN_t, Mi.v_isnt, Mi.v_ix_l, Mi.v_ix_t, Mi.v_ix_s, Mi.v_len_l, Mi.v_len_t, Mi.v_len_s, Mi.v_max2, Mi.v_min2, Mi.v_tup_l, Mi.v_lst_t, Mi.v_all, Mi.v_sum, Mi.b_nm, Mi.b_tp, Mi.b_cons, Mi.b_nil, Mi.D.int, Mi.D.bool, Mi.D.tup, Mi.D.lst, Mi.D.non, Mi.wipeE, List.map_cons, List.map_nil, List.length_cons, List.length_nil, List.cons_append, List.nil_append, List.getElem?_cons_zero, List.getElem?_cons_succ, List.set_cons_zero, List.set_cons_succ, Option.map_some, Option.bind_some, decide_eq_true_eq, ↓reduceIte, Nat.reduceAdd, Nat.reduceSub, Mi.atI0, Mi.atI1, Mi.atI2, Mi.ixN0, Mi.ixN1, Bool.not_true, Bool.not_false, Bool.false_eq_true, decide_true, decide_false, List.getElem?_set_self hi, hc]
def isRow : PyData → Bool
  | .tuple [a, b] => btw 0 9 a && btw 1 24 b
  | _ => false
theorem isRow_no {d : PyData} (h : tupN 2 2 d = false) : isRow d = false := by
  unfold isRow
  split
  · exact absurd h (by simp [tupN])
  · rfl
def isLayer : PyData → Bool
  | .tuple [.tuple rows, b] => decide (rows.length ≤ 8) && rows.all isRow && (match b with | .none => true | b => btw 0 (rows.length - 1) b)
  | _ => false
def isMove : PyData → Bool
  | .tuple [a, b, c] => btw 0 24 c && btw (-20) 20 a && btw (-20) 20 b
  | _ => false
def isWindow : PyData → Bool
  | .tuple [a, b, .tuple ms] => btw (-20) 20 a && btw (-20) 20 b && decide (ms.length ≤ 8) && ms.all isMove
  | _ => false
def isSheet : PyData → Bool
  | .tuple [.tuple ls, w] => decide (1 ≤ ls.length) && decide (ls.length ≤ 4) && ls.all isLayer && isWindow w
  | _ => false
theorem tupN_1 {d : PyData} {h : Int} (e : tupN 1 h d = true) : ∃ ds, d = .tuple ds ∧ 1 ≤ ds.length ∧ (ds.length : Int) ≤ h := by
  cases d with
  | tuple ds =>
    simp only [tupN, Bool.and_eq_true, decide_eq_true_eq] at e
    exact ⟨ds, rfl, by omega, e.2⟩
  | _ => simp only [tupN, Bool.false_eq_true] at e
/-! ### what is drawn -/
abbrev Row := Int × Int
def encR (r : Row) : PyData := .tuple [.int r.1, .int r.2]
def RowOk (r : Row) : Prop := 0 ≤ r.1 ∧ r.1 ≤ 9 ∧ 1 ≤ r.2 ∧ r.2 ≤ 24
structure Lay where
  rows : List Row
  back : Option Int
def encL (l : Lay) : PyData := .tuple [.tuple (l.rows.map encR), encO l.back]
structure LayOk (l : Lay) : Prop where
  len : l.rows.length ≤ 8
  rows : ∀ r ∈ l.rows, RowOk r
  back : ∀ b, l.back = some b → 0 ≤ b ∧ b < l.rows.length
theorem encR_len (l : List Row) : (l.map encR).length = l.length := List.length_map ..
/-- windows -/
abbrev Mov := Int × Int × Int
def encM (m : Mov) : PyData := .tuple [.int m.1, .int m.2.1, .int m.2.2]
def MovOk (m : Mov) : Prop := (-20 ≤ m.1 ∧ m.1 ≤ 20) ∧ (-20 ≤ m.2.1 ∧ m.2.1 ≤ 20) ∧ 0 ≤ m.2.2 ∧ m.2.2 ≤ 24
structure Win where
  x : Int
  y : Int
  ms : List Mov
def encW (w : Win) : PyData := .tuple [.int w.x, .int w.y, .tuple (w.ms.map encM)]
structure WinOk (w : Win) : Prop where
  x : -20 ≤ w.x ∧ w.x ≤ 20
  y : -20 ≤ w.y ∧ w.y ≤ 20
  len : w.ms.length ≤ 8
  ms : ∀ m ∈ w.ms, MovOk m
/-! ### a value is the same as itself -/
mutual
def dep : PyData → Nat
  | .list xs => depAll xs + 1
  | .tuple xs => depAll xs + 1
  | _ => 0
def depAll : List PyData → Nat
  | [] => 0
  | x :: xs => max (dep x) (depAll xs)
end
theorem dep_mem : ∀ {ds : List PyData} {x : PyData}, x ∈ ds → dep x ≤ depAll ds
  | [], _, h => by cases h
  | d :: ds, x, h => by
    simp only [depAll]
    rcases List.mem_cons.mp h with h | h
    · rw [h]; omega
    · have := dep_mem h; omega
theorem wide_mem : ∀ {ds : List PyData} {x : PyData}, x ∈ ds → wideD x ≤ wideAll ds
  | [], _, h => by cases h
  | d :: ds, x, h => by
    simp only [wideAll]
    rcases List.mem_cons.mp h with h | h
    · rw [h]; omega
    · have := wide_mem h; omega
theorem wide_len : ∀ (ds : List PyData), ds.length ≤ wideAll ds
  | [] => Nat.le_refl _
  | d :: ds => by
    have := wide_len ds
    simp only [wideAll, List.length_cons]
    omega
theorem tame_mem : ∀ {ds : List PyData} {x : PyData}, tameAll ds = true → x ∈ ds → tame x = true
  | [], _, _, h => by cases h
  | d :: ds, x, t, h => by
    simp only [tameAll, Bool.and_eq_true] at t
    rcases List.mem_cons.mp h with h | h
    · rw [h]; exact t.1
    · exact tame_mem t.2 h
theorem pairs_self : ∀ ds : List PyData, pairsF ds ds = ds.map fun x => D.p (.tuple [x, x])
  | [] => rfl
  | d :: ds => by
    have := pairs_self ds
    unfold pairsF at this ⊢
    simp only [List.zip_cons_cons, List.map_cons, this]
theorem all_true {α : Type} : ∀ ds : List α, asBools (ds.map fun _ => PyData.bool true) = some (ds.map fun _ => true)
  | [] => rfl
  | d :: ds => by
    show (asBools (ds.map fun _ => PyData.bool true)).map (true :: ·) = _
    rw [all_true ds]
    rfl
theorem all_true2 {α : Type} (ds : List α) : (ds.map fun _ => true).all id = true := by
  rw [List.all_eq_true]
  intro x hx
  obtain ⟨_, _, rfl⟩ := List.mem_map.mp hx
  rfl
/-! ### the program's answers -/
def holds (rows : List Row) : Int := (rows.map (·.2)).sum
theorem isRow_enc {r : Row} (h : RowOk r) : isRow (encR r) = true := by
  obtain ⟨h1, h2, h3, h4⟩ := h
  simp only [encR, isRow, btw, h1, h2, h3, h4, decide_true, Bool.and_true]
theorem isLayer_enc {l : Lay} (h : LayOk l) : isLayer (encL l) = true := by
  obtain ⟨rows, back⟩ := l
  have a := h.len
  have b : (rows.map encR).all isRow = true := by
    rw [List.all_map, List.all_eq_true]
    intro r hr
    exact isRow_enc (h.rows r hr)
  simp only at a
  cases back with
  | none => simp only [encL, encO, isLayer, List.length_map, a, b, decide_true, Bool.and_true]
  | some c =>
    obtain ⟨h1, h2⟩ := h.back c rfl
    have h3 : c ≤ (rows.length : Int) - 1 := by simp only at h2; omega
    simp only [encL, encO, isLayer, List.length_map, a, b, btw, h1, h3, decide_true, Bool.and_true]
def lend (l : Lay) : Option Int := match l.back with
  | none => some (holds l.rows)
  | some _ => none
theorem isWindow_enc {w : Win} (h : WinOk w) : isWindow (encW w) = true := by
  have a := h.len
  have b : (w.ms.map encM).all isMove = true := by
    rw [List.all_map, List.all_eq_true]
    intro m hm
    obtain ⟨⟨h1, h2⟩, ⟨h3, h4⟩, h5, h6⟩ := h.ms m hm
    simp only [Function.comp, encM, isMove, btw, h1, h2, h3, h4, h5, h6, decide_true, Bool.and_true]
  simp only [encW, isWindow, List.length_map, a, b, btw, h.x.1, h.x.2, h.y.1, h.y.2, decide_true, Bool.and_true]
def wend (w : Win) : Int := (w.ms.map (·.2.2)).sum
structure Sht where
  ls : List Lay
  w : Win
def encS (s : Sht) : PyData := .tuple [.tuple (s.ls.map encL), encW s.w]
structure ShtOk (s : Sht) : Prop where
  one : 1 ≤ s.ls.length
  len : s.ls.length ≤ 4
  ls : ∀ l ∈ s.ls, LayOk l
  w : WinOk s.w
theorem isSheet_enc {s : Sht} (h : ShtOk s) : isSheet (encS s) = true := by
  have b : (s.ls.map encL).all isLayer = true := by
    rw [List.all_map, List.all_eq_true]
    intro m hm
    exact isLayer_enc (h.ls m hm)
  simp only [encS, isSheet, List.length_map, h.one, h.len, b, isWindow_enc h.w, decide_true, Bool.and_true]
/-- the greatest of them, or None -/
def sendO (es : List (Option Int)) (last : Int) : Option Int := if es.any Option.isNone then none else some (greatest (es.map (·.getD 0) ++ [last]))
theorem in_none (es : List (Option Int)) : inF (.p .none) (.p (.list (es.map encO))) = some (es.any Option.isNone) := by
  have h1 : (es.map encO).all flatD = true := by
    rw [List.all_map, List.all_eq_true]
    intro o _
    cases o <;> rfl
  show inL .none (es.map encO) = _
  unfold inL
  rw [if_pos ⟨rfl, h1⟩, List.any_map]
  congr 1
  congr 1
  funext o
  cases o <;> rfl
theorem asInts_o : ∀ (es : List (Option Int)) (last : Int), es.any Option.isNone = false → asInts (es.map encO ++ [.int last]) = some (es.map (·.getD 0) ++ [last])
  | [], last, _ => rfl
  | none :: r, last, h => by simp at h
  | some i :: r, last, h => by
    have ih := asInts_o r last (by simpa using h)
    show (asInts (r.map encO ++ [.int last])).map (i :: ·) = _
    rw [ih]
    rfl
theorem max_o (es : List (Option Int)) (last : Int) (S : Store) (h : es.any Option.isNone = false) : maxLF [.p (.list (es.map encO ++ [.int last]))] S = some (.p (.int (greatest (es.map (·.getD 0) ++ [last])))) := by
  show (match asInts (es.map encO ++ [.int last]) with | some (n :: ns) => some (D.int (greatest (n :: ns))) | _ => none) = _
  rw [asInts_o es last h]
  cases es <;> rfl
/-! ### the law -/
theorem pairs_get {α : Type} {en : α → PyData} {xs : List α} {k : Nat} {d : D} (h : ((xs.map en).map D.p)[k]? = some d) : ∃ x, xs[k]? = some x ∧ d = .p (en x) := by
  rw [List.map_map, List.getElem?_map] at h
  cases e : xs[k]? with
  | none => rw [e] at h; cases h
  | some x => rw [e] at h; cases h; exact ⟨x, rfl, rfl⟩
theorem take_map_succ {α β : Type} (f : α → β) {xs : List α} {k : Nat} {x : α} (h : xs[k]? = some x) : (xs.take (k + 1)).map f = (xs.take k).map f ++ [f x] := by
  rw [List.take_add_one, h, List.map_append]
  rfl
theorem sum_snoc (l : List Int) (x : Int) : (l ++ [x]).sum = l.sum + x := by
  rw [List.sum_append]
  simp
/-! ### while -/
theorem while_go {c : TM} {m : SM} (I : Nat → Mi.Env → Store → Prop) (Q : Fl → Store → Prop)
    (step : ∀ n ro S, I n ro S → ∃ b, c ro S = .ok b S ∧ (b = false → Q (.nx ro) S) ∧ (b = true → wE (m ro S) fun f S1 => match f with
      | .nx ro2 => ∃ n', n' < n ∧ I n' ro2 S1
      | .rt d => Q (.rt d) S1
      | _ => False)) : ∀ (n : Nat) (ro : Mi.Env) (S : Store), I n ro S → wE (sWhile c m ro S) Q := by
  intro n
  induction n using Nat.strongRecOn with
  | ind n ih =>
    intro ro S h
    obtain ⟨b, e, h1, h2⟩ := step n ro S h
    cases b with
    | false =>
      have : sWhile c m ro S = .ok (.nx ro) S := sWhile_of (n := 1) (by unfold whl; rw [e]; rfl)
      exact wE_of this (h1 rfl)
    | true =>
      obtain ⟨f, S1, e2, q⟩ := wE_ex (h2 rfl)
      cases f with
      | rt d =>
        have : sWhile c m ro S = .ok (.rt d) S1 := sWhile_of (n := 1) (by unfold whl; rw [e]; simp only [Res.bind, ↓reduceIte, e2])
        exact wE_of this q
      | bk r => exact q.elim
      | ct r => exact q.elim
      | nx ro2 =>
        obtain ⟨n', hn, hI⟩ := q
        obtain ⟨g, S2, e3, q3⟩ := wE_ex (ih n' hn ro2 S1 hI)
        obtain ⟨k, e4⟩ := sWhile_ok e3
        have : sWhile c m ro S = .ok g S2 := sWhile_of (n := k + 1) (by unfold whl; rw [e]; simp only [Res.bind, ↓reduceIte, e2, e4])
        exact wE_of this q3
def kForT (p : Pt) (m : SM) (r : List D) (f : Fl) (S1 : Store) : Res Fl := match f with
  | .nx ro2 => forL p m r ro2 S1
  | .ct ro2 => forL p m r ro2 S1
  | .bk ro2 => .ok (.nx ro2) S1
  | .rt v => .ok (.rt v) S1
theorem forL_cons {p : Pt} {m : SM} {d : D} {r : List D} {ro ro1 : Mi.Env} {S : Store} (h : bindP p d ro = some ro1) : forL p m (d :: r) ro S = (m ro1 S).bind (kForT p m r) := by
  show (match bindP p d ro with | none => Res.bad | some ro1 => _) = _
  rw [h]
  rfl
theorem kForT_rt {p : Pt} {m : SM} {r : List D} {v : D} {S : Store} : kForT p m r (.rt v) S = .ok (.rt v) S := rfl
theorem kForT_nx {p : Pt} {m : SM} {r : List D} {ro : Mi.Env} {S : Store} : kForT p m r (.nx ro) S = forL p m r ro S := rfl
/-! ### laying -/
def walkR : List Row → Int → Int
  | [], _ => 0
  | (d, h) :: r, m => if m < h then d else walkR r (m - h)
def RowsOk (rows : List Row) : Prop := ∀ r ∈ rows, RowOk r
theorem holds_cons (r : Row) (rows : List Row) : holds (r :: rows) = r.2 + holds rows := by unfold holds; rw [List.map_cons, List.sum_cons]
theorem holds_nn : ∀ {rows : List Row}, RowsOk rows → 0 ≤ holds rows
  | [], _ => Int.le_refl _
  | r :: rows, h => by
    have := holds_nn (rows := rows) fun x hx => h x (List.mem_cons_of_mem _ hx)
    have h2 := (h r List.mem_cons_self).2.2.1
    rw [holds_cons]
    omega
theorem holds_le : ∀ {rows : List Row}, RowsOk rows → holds rows ≤ 24 * rows.length
  | [], _ => Int.le_refl _
  | r :: rows, h => by
    have := holds_le (rows := rows) fun x hx => h x (List.mem_cons_of_mem _ hx)
    have h2 := (h r List.mem_cons_self).2.2.2
    rw [holds_cons, List.length_cons]
    omega
theorem RowsOk.take {rows : List Row} (h : RowsOk rows) (n : Nat) : RowsOk (rows.take n) := fun r hr => h r (List.mem_of_mem_take hr)
theorem holds_take_le {rows : List Row} (h : RowsOk rows) (n : Nat) : holds (rows.take n) ≤ holds rows := by
  have e : holds rows = holds (rows.take n) + holds (rows.drop n) := by
    unfold holds
    rw [← List.sum_append, ← List.map_append, List.take_append_drop]
  have := holds_nn (rows := rows.drop n) fun r hr => h r (List.mem_of_mem_drop hr)
  omega
theorem holds_take_succ {rows : List Row} {p : Nat} {r : Row} (h : rows[p]? = some r) : holds (rows.take (p + 1)) = holds (rows.take p) + r.2 := by
  unfold holds
  rw [take_map_succ _ h, sum_snoc]
theorem holds_take_mono {rows : List Row} (h : RowsOk rows) {a b : Nat} (hab : a ≤ b) : holds (rows.take a) ≤ holds (rows.take b) := by
  have e : rows.take a = (rows.take b).take a := by rw [List.take_take, Nat.min_eq_left hab]
  rw [e]
  exact holds_take_le (h.take b) a
theorem holds_take_lt {rows : List Row} (h : RowsOk rows) {b : Nat} (hb : b < rows.length) : holds (rows.take b) < holds rows := by
  have h1 := holds_take_succ (List.getElem?_eq_getElem hb)
  have h2 := (h _ (List.getElem_mem hb)).2.2.1
  have h3 := holds_take_le h (b + 1)
  omega
theorem walk_end : ∀ {rows : List Row} {m : Int}, RowsOk rows → holds rows ≤ m → walkR rows m = 0
  | [], _, _, _ => rfl
  | (d, h) :: r, m, ok, hm => by
    have ok' : RowsOk r := fun x hx => ok x (List.mem_cons_of_mem _ hx)
    have nn := holds_nn ok'
    rw [holds_cons] at hm
    simp only at hm
    unfold walkR
    rw [if_neg (by omega)]
    exact walk_end ok' (by omega)
theorem walk_at : ∀ {rows : List Row} {p : Nat} {d h j : Int}, RowsOk rows → rows[p]? = some (d, h) → 0 ≤ j → j < h → walkR rows (holds (rows.take p) + j) = d
  | [], p, d, h, j, _, e, _, _ => by simp at e
  | (d', h') :: r, 0, d, h, j, _, e, h0, h1 => by
    simp only [List.getElem?_cons_zero, Option.some.injEq, Prod.mk.injEq] at e
    obtain ⟨rfl, rfl⟩ := e
    have z : holds (List.take 0 ((d', h') :: r)) = 0 := rfl
    rw [z, Int.zero_add]
    unfold walkR
    rw [if_pos h1]
  | (d', h') :: r, p + 1, d, h, j, ok, e, h0, h1 => by
    have ok' : RowsOk r := fun x hx => ok x (List.mem_cons_of_mem _ hx)
    have z : holds (List.take (p + 1) ((d', h') :: r)) = h' + holds (r.take p) := by rw [List.take_succ_cons, holds_cons]
    have nn := holds_nn (ok'.take p)
    rw [z]
    unfold walkR
    rw [if_neg (by omega), show h' + holds (r.take p) + j - h' = holds (r.take p) + j by omega]
    exact walk_at ok' (by simpa using e) h0 h1
def aheadL (l : Lay) (b : Int) : Int := holds (l.rows.take b.toNat)
def dAt (l : Lay) (m : Int) : Int := match l.back with
  | none => walkR l.rows m
  | some b => if m < holds l.rows then walkR l.rows m else walkR l.rows (aheadL l b + (m - aheadL l b) % (holds l.rows - aheadL l b))
def sizeL (l : Lay) : Int := match l.back with
  | none => 1
  | some b => holds l.rows - aheadL l b
theorem size_pos {l : Lay} (h : LayOk l) : 0 < sizeL l := by
  unfold sizeL
  cases hb : l.back with
  | none =>
    show (0 : Int) < 1
    decide
  | some b =>
    obtain ⟨h1, h2⟩ := h.back b hb
    have := holds_take_lt h.rows (b := b.toNat) (by omega)
    show 0 < holds l.rows - holds (l.rows.take b.toNat)
    omega
/-- the row at place p is shown at its moments, in each round -/
theorem dAt_at {l : Lay} (ok : LayOk l) {p : Nat} {d h j : Int} {q : Nat} (hr : l.rows[p]? = some (d, h)) (h0 : 0 ≤ j) (h1 : j < h) (hq : 0 < q → ∃ b, l.back = some b ∧ b ≤ p) : dAt l (holds (l.rows.take p) + q * sizeL l + j) = d := by
  have hp : p < l.rows.length := (List.getElem?_eq_some_iff.mp hr).1
  have t1 := holds_take_succ hr
  have t2 := holds_take_le ok.rows (p + 1)
  have w := walk_at ok.rows hr h0 h1
  simp only at t1
  cases q with
  | zero =>
    have e : holds (l.rows.take p) + ((0 : Nat) : Int) * sizeL l + j = holds (l.rows.take p) + j := by simp
    rw [e]
    unfold dAt
    cases hb : l.back with
    | none => exact w
    | some b =>
      show (if _ then _ else _) = d
      rw [if_pos (by omega)]
      exact w
  | succ q =>
    obtain ⟨b, hb, hbp⟩ := hq (Nat.succ_pos _)
    have sp := size_pos ok
    have hb0 := (ok.back b hb).1
    have m1 : aheadL l b ≤ holds (l.rows.take p) := holds_take_mono ok.rows (by omega)
    have es : sizeL l = holds l.rows - aheadL l b := by unfold sizeL; rw [hb]
    have ge : ¬ (holds (l.rows.take p) + ((q + 1 : Nat) : Int) * sizeL l + j < holds l.rows) := by
      have : sizeL l ≤ ((q + 1 : Nat) : Int) * sizeL l := by
        have : ((q + 1 : Nat) : Int) * sizeL l = (q : Int) * sizeL l + sizeL l := by
          rw [Int.natCast_add, Int.add_mul]
          simp
        have := Int.mul_nonneg (Int.natCast_nonneg q) (Int.le_of_lt sp)
        omega
      omega
    unfold dAt
    rw [hb]
    show (if _ then _ else _) = d
    rw [if_neg ge, ← es]
    have e2 : holds (l.rows.take p) + ((q + 1 : Nat) : Int) * sizeL l + j - aheadL l b = (holds (l.rows.take p) + j - aheadL l b) + sizeL l * ((q + 1 : Nat) : Int) := by
      rw [Int.mul_comm]
      omega
    rw [e2, Int.add_mul_emod_self_left, Int.emod_eq_of_lt (by omega) (by omega), show aheadL l b + (holds (l.rows.take p) + j - aheadL l b) = holds (l.rows.take p) + j by omega]
    exact w
def Bk (l : Lay) (p q : Nat) : Prop := 0 < q → ∃ b, l.back = some b ∧ b ≤ p
theorem cut_take {α : Type} (xs : List α) {b : Int} (h : 0 ≤ b) : cutG xs none (some b) = xs.take b.toNat := by
  have e : (b : Int) = ((b.toNat : Nat) : Int) := by omega
  unfold cutG
  rw [e, HT.sIx_nat, HT.sIx_none, List.drop_zero, Nat.sub_zero, Int.toNat_natCast]
  by_cases h : b.toNat ≤ xs.length
  · rw [Nat.min_eq_left h]
  · rw [Nat.min_eq_right (by omega), List.take_of_length_le (by omega), List.take_of_length_le (by omega)]
theorem cut_all {α : Type} (xs : List α) : cutG xs none none = xs := by
  unfold cutG
  rw [HT.sIx_none, HT.sIx_none, List.drop_zero, Nat.sub_zero, List.take_length]
def nearL (l : Lay) (m : Int) : Int := if m < holds l.rows then m else holds l.rows + (m - holds l.rows) % sizeL l
theorem dAt_near {l : Lay} (ok : LayOk l) (m : Int) : dAt l (nearL l m) = dAt l m := by
  unfold nearL
  by_cases hm : m < holds l.rows
  · rw [if_pos hm]
  · rw [if_neg hm]
    have sp := size_pos ok
    have e0 := Int.emod_nonneg (m - holds l.rows) (show sizeL l ≠ 0 by omega)
    unfold dAt
    cases hb : l.back with
    | none =>
      show walkR _ _ = walkR _ _
      rw [walk_end ok.rows (by omega), walk_end ok.rows (by omega)]
    | some b =>
      have hs : sizeL l = holds l.rows - aheadL l b := by unfold sizeL; rw [hb]
      show (if _ then _ else _) = (if _ then _ else _)
      rw [if_neg (by omega), if_neg hm, ← hs]
      congr 2
      have a1 : holds l.rows + (m - holds l.rows) % sizeL l - aheadL l b = (m - holds l.rows) % sizeL l + sizeL l * 1 := by omega
      have a2 : m - aheadL l b = (m - holds l.rows) + sizeL l * 1 := by omega
      rw [a1, a2, Int.add_mul_emod_self_left, Int.add_mul_emod_self_left, Int.emod_emod]
theorem near_in {l : Lay} (ok : LayOk l) (m : Int) (h0 : 0 ≤ m) : 0 ≤ nearL l m ∧ nearL l m < holds l.rows + sizeL l + 1 := by
  have nn := holds_nn ok.rows
  have sp := size_pos ok
  unfold nearL
  by_cases hm : m < holds l.rows
  · rw [if_pos hm]; omega
  · rw [if_neg hm]
    have e0 := Int.emod_nonneg (m - holds l.rows) (show sizeL l ≠ 0 by omega)
    have e1 := Int.emod_lt_of_pos (m - holds l.rows) sp
    omega
def fracD (t b : Int) : PyData := .tuple [.int (t / (Nat.gcd b.natAbs t.natAbs : Nat)), .int (b / (Nat.gcd b.natAbs t.natAbs : Nat))]
theorem gcd_pos {b : Int} (t : Int) (hb : 0 < b) : 0 < ((Nat.gcd b.natAbs t.natAbs : Nat) : Int) := by
  have := Nat.gcd_pos_of_pos_left t.natAbs (show 0 < b.natAbs by omega)
  omega
theorem gcd_le {b : Int} (t : Int) (hb : 0 < b) : ((Nat.gcd b.natAbs t.natAbs : Nat) : Int) ≤ b := by
  have := Nat.gcd_le_left t.natAbs (show 0 < b.natAbs by omega)
  omega
theorem cmul_s {i j : Int} (h0 : -1000000 ≤ i) (h1 : i ≤ 1000000) : CMul i j := .inl ⟨by omega, by omega⟩
/-- the place at a moment -/
def endD (x y : Int) : PyData := .tuple [.tuple [.int x, .int 1], .tuple [.int y, .int 1]]
def atD (x y g o n k : Int) : PyData := .tuple [fracD (x * n + (g - x) * k) n, fracD (y * n + (o - y) * k) n]
def walkW : Int → Int → List Mov → Int → PyData
  | x, y, [], _ => endD x y
  | x, y, (g, o, n) :: r, m => if m < n then atD x y g o n (m + 1) else walkW g o r (m - n)
def MovsOk (ms : List Mov) : Prop := ∀ m ∈ ms, MovOk m
def placeW (w : Win) (m : Int) : PyData := walkW w.x w.y w.ms m
/-! ### lowest terms -/
theorem lowest_fact (t b : Int) (hb : 0 < b) : 1 ≤ b / (Nat.gcd b.natAbs t.natAbs : Nat) ∧ b / (Nat.gcd b.natAbs t.natAbs : Nat) ≤ b ∧ (t * (b / (Nat.gcd b.natAbs t.natAbs : Nat))) % b = 0 ∧ t * (b / (Nat.gcd b.natAbs t.natAbs : Nat)) / b = t / (Nat.gcd b.natAbs t.natAbs : Nat) ∧
    ∀ k : Int, 1 ≤ k → k < b / (Nat.gcd b.natAbs t.natAbs : Nat) → (t * k) % b ≠ 0 := by
  have gp : 0 < Nat.gcd b.natAbs t.natAbs := Nat.gcd_pos_of_pos_left _ (by omega)
  have cop := Nat.coprime_div_gcd_div_gcd gp
  obtain ⟨B', hB⟩ := Nat.gcd_dvd_left b.natAbs t.natAbs
  obtain ⟨T', hT⟩ := Nat.gcd_dvd_right b.natAbs t.natAbs
  generalize Nat.gcd b.natAbs t.natAbs = G at *
  have hB' : b.natAbs / G = B' := by rw [hB]; exact Nat.mul_div_cancel_left _ gp
  have hT' : t.natAbs / G = T' := by rw [hT]; exact Nat.mul_div_cancel_left _ gp
  rw [hB', hT'] at cop
  have gpi : (G : Int) ≠ 0 := by omega
  have eb : b = (G : Int) * B' := by
    have : ((b.natAbs : Nat) : Int) = b := by omega
    rw [← this, hB, Int.natCast_mul]
  have dvt : (G : Int) ∣ t := Int.ofNat_dvd_left.mpr ⟨T', hT⟩
  obtain ⟨t', et⟩ := dvt
  have e1 : b / (G : Int) = B' := by rw [eb]; exact Int.mul_ediv_cancel_left _ gpi
  have e2 : t / (G : Int) = t' := by rw [et]; exact Int.mul_ediv_cancel_left _ gpi
  have B1 : 1 ≤ B' := by
    rcases Nat.eq_zero_or_pos B' with h | h
    · subst h
      simp at eb
      omega
    · exact h
  have em : t * (B' : Int) = t' * b := by
    rw [et, eb, Int.mul_comm (G : Int) t', Int.mul_assoc]
  rw [e1, e2, em]
  refine ⟨by omega, ?_, Int.mul_emod_left _ _, Int.mul_ediv_cancel _ (by omega), fun k h1 h2 h => ?_⟩
  · rw [eb]
    have : (1 : Int) * B' ≤ G * B' := Int.mul_le_mul_of_nonneg_right (by omega) (by omega)
    omega
  · have dv : b ∣ t * k := Int.dvd_of_emod_eq_zero h
    have dn : b.natAbs ∣ (t * k).natAbs := Int.natAbs_dvd_natAbs.mpr dv
    rw [Int.natAbs_mul, hB, hT, Nat.mul_assoc] at dn
    have d2 : B' ∣ T' * k.natAbs := Nat.dvd_of_mul_dvd_mul_left gp dn
    have d3 : B' ∣ k.natAbs := cop.dvd_of_dvd_mul_left d2
    have := Nat.le_of_dvd (by omega) d3
    omega
theorem first_of (q : Nat → Bool) {n i : Nat} (hi : i < n) (h1 : q i = true) (h2 : ∀ j, j < i → q j = false) : ∃ r, (List.range n).filter q = i :: r := by
  have e : n = i + ((n - i - 1) + 1) := by omega
  rw [e, List.range_add, List.filter_append]
  have z : (List.range i).filter q = [] := by
    rw [List.filter_eq_nil_iff]
    intro j hj
    rw [h2 j (List.mem_range.mp hj)]
    exact Bool.false_ne_true
  rw [z, List.nil_append, List.range_succ_eq_map, List.map_cons, List.filter_cons, Nat.add_zero, if_pos h1]
  exact ⟨_, rfl⟩
/-! ### the places laid -/
def placesL : Int → Int → List Mov → List PyData
  | _, _, [] => []
  | x, y, (g, o, n) :: r => (List.range n.toNat).map (fun j : Nat => atD x y g o n (1 + (j : Int))) ++ placesL g o r
def endX : Int → Int → List Mov → Int
  | x, _, [] => x
  | _, _, (g, o, _) :: r => endX g o r
def endY : Int → Int → List Mov → Int
  | _, y, [] => y
  | _, _, (g, o, _) :: r => endY g o r
theorem step_eq (x g n k : Int) : x * (n - k) + g * k = x * n + (g - x) * k := by
  rw [Int.mul_sub, Int.sub_mul]
  omega
def wsum (ms : List Mov) : Int := (ms.map (·.2.2)).sum
theorem wsum_cons (m : Mov) (ms : List Mov) : wsum (m :: ms) = m.2.2 + wsum ms := by unfold wsum; rw [List.map_cons, List.sum_cons]
theorem wsum_nn : ∀ {ms : List Mov}, MovsOk ms → 0 ≤ wsum ms
  | [], _ => Int.le_refl _
  | m :: ms, h => by
    have := wsum_nn (ms := ms) fun x hx => h x (List.mem_cons_of_mem _ hx)
    have h2 := (h m List.mem_cons_self).2.2.1
    rw [wsum_cons]
    omega
theorem wsum_le : ∀ {ms : List Mov}, MovsOk ms → wsum ms ≤ 24 * ms.length
  | [], _ => Int.le_refl _
  | m :: ms, h => by
    have := wsum_le (ms := ms) fun x hx => h x (List.mem_cons_of_mem _ hx)
    have h2 := (h m List.mem_cons_self).2.2.2
    rw [wsum_cons, List.length_cons]
    omega
theorem walkW_end : ∀ {ms : List Mov} {x y m : Int}, MovsOk ms → wsum ms ≤ m → walkW x y ms m = endD (endX x y ms) (endY x y ms)
  | [], _, _, _, _, _ => rfl
  | (g, o, n) :: r, x, y, m, ok, hm => by
    have ok' : MovsOk r := fun x hx => ok x (List.mem_cons_of_mem _ hx)
    have nn := wsum_nn ok'
    rw [wsum_cons] at hm
    simp only at hm
    unfold walkW
    rw [if_neg (by omega)]
    exact walkW_end ok' (by omega)
theorem walkW_list (many : Nat) : ∀ (ms : List Mov) (x y : Int) (i : Nat), MovsOk ms → (i : Int) < wsum ms + many → (placesL x y ms ++ List.replicate many (endD (endX x y ms) (endY x y ms)))[i]? = some (walkW x y ms i)
  | [], x, y, i, _, h => by
    have h : (i : Int) < 0 + many := h
    rw [placesL, List.nil_append, List.getElem?_replicate, if_pos (by omega)]
    rfl
  | (g, o, n) :: r, x, y, i, ok, h => by
    have ok' : MovsOk r := fun x hx => ok x (List.mem_cons_of_mem _ hx)
    obtain ⟨_, _, hn0, hn1⟩ := ok _ List.mem_cons_self
    simp only at hn0 hn1
    rw [wsum_cons] at h
    simp only at h
    rw [placesL, List.append_assoc]
    unfold walkW
    by_cases hi : (i : Int) < n
    · rw [if_pos hi, List.getElem?_append_left (by rw [List.length_map, List.length_range]; omega), List.getElem?_map, List.getElem?_range (by omega)]
      show some (atD x y g o n (1 + (i : Int))) = _
      rw [Int.add_comm]
    · rw [if_neg hi, List.getElem?_append_right (by rw [List.length_map, List.length_range]; omega), List.length_map, List.length_range]
      have := walkW_list many r g o (i - n.toNat) ok' (by omega)
      rw [show (((i - n.toNat : Nat)) : Int) = (i : Int) - n by omega] at this
      exact this
theorem placesL_len : ∀ (ms : List Mov) (x y : Int), MovsOk ms → ((placesL x y ms).length : Int) = wsum ms
  | [], _, _, _ => rfl
  | (g, o, n) :: r, x, y, ok => by
    have ih := placesL_len r g o fun x hx => ok x (List.mem_cons_of_mem _ hx)
    obtain ⟨_, _, hn0, hn1⟩ := ok _ List.mem_cons_self
    simp only at hn0
    rw [placesL, List.length_append, List.length_map, List.length_range, wsum_cons]
    simp only
    omega
theorem canLay_rows (rows : List Row) : PyData.canLayAll0 (rows.map encR) = true := by
  induction rows with
  | nil => rfl
  | cons r rows ih =>
    rw [List.map_cons]
    simp only [PyData.canLayAll0, ih, encR, PyData.canLay0, Bool.and_self]
theorem depth_rows (rows : List Row) : PyData.depthAll (rows.map encR) ≤ 1 := by
  induction rows with
  | nil => decide
  | cons r rows ih =>
    rw [List.map_cons]
    simp only [PyData.depthAll, encR, PyData.depth]
    omega
theorem eq_empty (rows : List Row) : eqF (.p (.list (rows.map encR))) (.p (.list [])) = some rows.isEmpty := by
  have h1 : SeqAt.shaped (.list (rows.map encR)) = true := by
    have := depth_rows rows
    unfold SeqAt.shaped
    rw [Bool.and_eq_true, decide_eq_true_eq]
    exact ⟨by simpa only [PyData.canLay0] using canLay_rows rows, by simp only [PyData.depth]; omega⟩
  rw [Mi.v_eq, if_pos ⟨h1, rfl⟩]
  cases rows with
  | nil => rfl
  | cons r rows =>
    simp only [PyData.eqv, List.map_cons, PyData.eqvAll, List.isEmpty_cons]
theorem cut_from {α : Type} (xs : List α) (b : Nat) : cutG xs (some (b : Int)) none = xs.drop b := by
  unfold cutG
  rw [HT.sIx_nat, HT.sIx_none]
  by_cases h : b ≤ xs.length
  · rw [Nat.min_eq_left h, List.take_of_length_le (by rw [List.length_drop]; omega)]
  · rw [Nat.min_eq_right (by omega), List.drop_of_length_le (Nat.le_refl _), List.drop_of_length_le (by omega)]
    simp
theorem cut_from1 {α : Type} (xs : List α) : cutG xs (some 1) none = xs.drop 1 := cut_from xs 1
noncomputable def tailS : SM := (sSeq (sAsg (.tp [(.nm 6), (.nm 7)]) (eBinS idxF (eVar 5) (eCon (.p (.int 0)))))
 (sSeq (sSet 4 (xCat (eVar 4) (xRep (eLst (aCons (eVar 6) aNil)) (eVar 7))))
 (sSet 5 (eSl slL (eVar 5) (oSome (eCon (.p (.int 1)))) oNone))))
theorem tail_go (q0 q1 q2 q3 z6 z7 : Option D) (xs : List Int) (d h : Int) (r : List PyData) (S : Store) (h0 : 0 ≤ h) (h1 : h ≤ 1000) (hx : xs.length ≤ 1000) :
    tailS [q0, q1, q2, q3, some (.p (.list (xs.map PyData.int))), some (.p (.list (encR (d, h) :: r))), z6, z7] S = .ok (.nx [q0, q1, q2, q3, some (.p (.list ((xs ++ List.replicate h.toNat d).map PyData.int))), some (.p (.list r)), some (.p (.int d)), some (.p (.int h))]) S := by
  have c1 : -(2 ^ 63) ≤ h ∧ h < 2 ^ 63 ∧ (0 + 1) * h.toNat ≤ lim := by rw [lim_v]; omega
  have c2 : xs.length + h.toNat ≤ lim := by rw [lim_v]; omega
  rw [tailS]
  simp only [encR, Mi.wE_ok, Mi.bind_k, Mi.bind_b, Mi.bind_ite, Mi.optR_some, Mi.addF_int, Mi.int2_int, Mi.intB_int, Mi.q_seq, Mi.q_set, Mi.q_nil, Mi.q_drop, Mi.q_ret, Mi.q_if, Mi.q_brk, Mi.q_cnt, Mi.q_bad, Mi.q_asg, Mi.q_par, Mi.q_par3, Mi.q_app, Mi.q_put, Mi.q_putR, Mi.q_for, Mi.q_var, Mi.varR_some, Mi.q_con, Mi.q_bin, Mi.q_binS, Mi.q_bb, Mi.q_un, Mi.q_and, Mi.q_or, Mi.q_not, Mi.q_ife, Mi.q_band, Mi.q_bor, Mi.q_bnot, Mi.q_val, Mi.q_true, Mi.q_chn, Mi.q_anil, Mi.q_acons, Mi.q_tup, Mi.q_lst, Mi.q_lstR, Mi.q_none, Mi.q_some, Mi.q_sl, Mi.q_blt, Mi.q_isi, Mi.q_isi2, Mi.q_iseq, Mi.q_r1, Mi.q_r2, Mi.q_z, Mi.q_lr1, Mi.q_lr2, Mi.q_comp, Mi.q_call, Mi.k_seq_nx, Mi.k_seq_rt, Mi.k_seq_bk, Mi.k_seq_ct, Mi.k_set, Mi.k_drop, Mi.k_ret, Mi.k_if, Mi.k_asg, Mi.asgR_some, Mi.k_par, Mi.k_par3, Mi.k_app, Mi.appR_l, Mi.k_putR, Mi.k_putR2, Mi.putR2_ref, Mi.k_for, Mi.k_bin, Mi.k_bin2, Mi.k_binS, Mi.k_binS2, Mi.k_bb, Mi.k_bb2, Mi.optB_some, Mi.k_un, Mi.k_and_t, Mi.k_and_f, Mi.k_or_t, Mi.k_or_f, Mi.k_not, Mi.k_ife, Mi.k_band, Mi.k_bor, Mi.k_bnot, Mi.k_val, Mi.k_chn, Mi.k_chn2, Mi.k_chn3, Mi.k_cons, Mi.k_cons2, Mi.k_tup, Mi.k_lst, Mi.k_lstR, Mi.lstR_some, Mi.pys_nil, Mi.pys_cons, Mi.k_some_i, Mi.k_some_n, Mi.k_sl, Mi.k_sl2, Mi.k_sl3T, Mi.k_sl3L, Mi.k_blt, Mi.k_isi, Mi.k_isi2, Mi.k_seqI_l, Mi.k_seqI_t, Mi.k_r1, Mi.k_r2, Mi.k_r22, Mi.k_z, Mi.k_z2l, Mi.k_z2t, Mi.k_lr1, Mi.k_lr2, Mi.k_lr22, Mi.k_comp, Mi.k_comp2, Mi.k_body_rt, Mi.k_body_nx, Mi.v_add_t, Mi.v_cat, Mi.v_rep, Mi.v_mul, Mi.v_div, Mi.v_mod, Mi.v_pow, Mi.v_neg, Mi.v_lt, Mi.v_le, Mi.v_gt, Mi.v_ge, Mi.v_bD, Mi.v_ne, Mi.v_eqI, Mi.v_eqB, Mi.v_isN_n, Mi.v_isN_i, Mi.v_isN_t, Mi.v_isnt, Mi.v_ix_l, Mi.v_ix_t, Mi.v_ix_s, Mi.v_len_l, Mi.v_len_t, Mi.v_len_s, Mi.v_max2, Mi.v_min2, Mi.v_tup_l, Mi.v_lst_t, Mi.v_all, Mi.v_sum, Mi.b_nm, Mi.b_tp, Mi.b_cons, Mi.b_nil, Mi.D.int, Mi.D.bool, Mi.D.tup, Mi.D.lst, Mi.D.non, Mi.wipeE, List.map_cons, List.map_nil, List.length_cons, List.length_nil, List.cons_append, List.nil_append, List.getElem?_cons_zero, List.getElem?_cons_succ, List.set_cons_zero, List.set_cons_succ, Option.map_some, Option.bind_some, decide_eq_true_eq, ↓reduceIte, Nat.reduceAdd, Nat.reduceSub, Mi.atI0, Mi.atI1, Mi.atI2, Mi.ixN0, Mi.ixN1, Bool.not_true, Bool.not_false, Bool.false_eq_true, decide_true, decide_false, c1, and_self, List.flatten_replicate_singleton, List.length_replicate, List.length_map, c2, cut_from1, List.drop_succ_cons, List.drop_zero]
  rw [List.map_append, List.map_replicate]
theorem rep_in {l : Lay} (ok : LayOk l) {p q : Nat} {d h : Int} (hr : l.rows[p]? = some (d, h)) {xs : List Int} (hx : (xs.length : Int) = holds (l.rows.take p) + q * sizeL l) (hq : Bk l p q) (hd : ∀ (i : Nat) (x : Int), xs[i]? = some x → x = dAt l i) :
    ∀ (i : Nat) (x : Int), (xs ++ List.replicate h.toNat d)[i]? = some x → x = dAt l i := by
  intro i x hi
  by_cases hl : i < xs.length
  · rw [List.getElem?_append_left hl] at hi
    exact hd i x hi
  · rw [List.getElem?_append_right (by omega), List.getElem?_replicate] at hi
    split at hi
    · cases hi
      have := dAt_at ok (j := (i : Int) - xs.length) (q := q) hr (by omega) (by omega) hq
      rw [← this]
      congr 1
      omega
    · cases hi
/-! ### sizes of a layer -/
theorem tame_rows : ∀ (rs : List Row), RowsOk rs → tameAll (rs.map encR) = true ∧ wideAll (rs.map encR) = 71 * rs.length
  | [], _ => ⟨rfl, rfl⟩
  | (d, h) :: r, ok => by
    obtain ⟨h1, h2⟩ := tame_rows r fun x hx => ok x (List.mem_cons_of_mem _ hx)
    obtain ⟨r1, r2, r3, r4⟩ := ok _ List.mem_cons_self
    simp only at r1 r2 r3 r4
    have p1 : d.natAbs < 10 ^ 30 := by omega
    have p2 : h.natAbs < 10 ^ 30 := by omega
    refine ⟨?_, ?_⟩
    · simp only [List.map_cons, encR, tameAll, tame, p1, p2, h1, decide_true, Bool.and_true]
    · simp only [List.map_cons, wideAll, encR, wideD, h2, List.length_cons]
      omega
theorem tame_lay {l : Lay} (ok : LayOk l) : tame (encL l) = true ∧ wideD (encL l) ≤ 1000 := by
  obtain ⟨h1, h2⟩ := tame_rows l.rows ok.rows
  have hl := ok.len
  obtain ⟨rows, back⟩ := l
  simp only at h1 h2 hl
  cases back with
  | none =>
    refine ⟨?_, ?_⟩
    · simp only [encL, encO, tame, tameAll, h1, Bool.and_true]
    · simp only [encL, encO, wideD, wideAll, h2]
      omega
  | some b =>
    obtain ⟨b0, b1⟩ := ok.back b rfl
    simp only at b1
    have p : b.natAbs < 10 ^ 30 := by omega
    refine ⟨?_, ?_⟩
    · simp only [encL, encO, tame, tameAll, h1, p, decide_true, Bool.and_true]
    · simp only [encL, encO, wideD, wideAll, h2]
      omega
theorem lay_repr {l : Lay} (ok : LayOk l) (S : Store) : reprF [.p (encL l)] S = some (.p (.str (encL l).shown)) := by
  obtain ⟨h1, h2⟩ := tame_lay ok
  refine v_repr rfl h1 ?_ (by omega)
  have := depth_rows l.rows
  obtain ⟨rows, back⟩ := l
  simp only at this
  cases back <;> simp only [encL, encO, PyData.depth, PyData.depthAll] <;> omega
theorem str_ne {x : Str} (h : PyData.strOk x = true) : neF (.p (.str x)) (.p (.str x)) = some false := by
  have h : SeqAt.shaped (.str x) = true := by simp [SeqAt.shaped, PyData.canLay0, PyData.depth, h]
  rw [Mi.v_ne, Mi.v_eq, if_pos ⟨h, h⟩]
  simp only [PyData.eqv, beq_self_eq_true, Option.map_some, Bool.not_true]
/-- a list of small ints -/
theorem tame_ints : ∀ (xs : List Int), (∀ x ∈ xs, -1000 ≤ x ∧ x ≤ 1000) → tameAll (xs.map PyData.int) = true ∧ wideAll (xs.map PyData.int) = 33 * xs.length ∧ depAll (xs.map PyData.int) = 0
  | [], _ => ⟨rfl, rfl, rfl⟩
  | x :: xs, h => by
    obtain ⟨h1, h2, h3⟩ := tame_ints xs fun y hy => h y (List.mem_cons_of_mem _ hy)
    have hx := h x List.mem_cons_self
    have p : x.natAbs < 10 ^ 30 := by omega
    refine ⟨?_, ?_, ?_⟩
    · simp only [List.map_cons, tameAll, tame, p, h1, decide_true, Bool.and_true]
    · simp only [List.map_cons, wideAll, wideD, h2, List.length_cons]
      omega
    · simp only [List.map_cons, depAll, dep, h3]
      omega
theorem walkR_in : ∀ (rs : List Row) (m : Int), RowsOk rs → 0 ≤ walkR rs m ∧ walkR rs m ≤ 9
  | [], _, _ => ⟨Int.le_refl _, by show (0 : Int) ≤ 9; decide⟩
  | (d, h) :: r, m, ok => by
    have r1 := ok _ List.mem_cons_self
    simp only [RowOk] at r1
    unfold walkR
    by_cases hm : m < h
    · rw [if_pos hm]; exact ⟨r1.1, r1.2.1⟩
    · rw [if_neg hm]; exact walkR_in r (m - h) fun x hx => ok x (List.mem_cons_of_mem _ hx)
theorem dAt_in {l : Lay} (ok : LayOk l) (m : Int) : 0 ≤ dAt l m ∧ dAt l m ≤ 9 := by
  unfold dAt
  cases l.back with
  | none => exact walkR_in _ _ ok.rows
  | some b =>
    dsimp only
    split
    · exact walkR_in _ _ ok.rows
    · exact walkR_in _ _ ok.rows
/-- two lists of as many first drawings are one -/
theorem ext_dAt {l : Lay} {xs ys : List Int} (hl : xs.length = ys.length) (hx : ∀ (i : Nat) (x : Int), xs[i]? = some x → x = dAt l i) (hy : ∀ (i : Nat) (x : Int), ys[i]? = some x → x = dAt l i) : xs = ys := by
  refine List.ext_getElem hl fun i h1 h2 => ?_
  rw [hx i _ (List.getElem?_eq_getElem h1), hy i _ (List.getElem?_eq_getElem h2)]
/-! ### sizes of what is drawn -/
theorem tame_frac (t b : Int) (ht : -100000 ≤ t ∧ t ≤ 100000) (hb : -100000 ≤ b ∧ b ≤ 100000) : tame (fracD t b) = true ∧ wideD (fracD t b) = 69 ∧ dep (fracD t b) = 1 := by
  have h1 := Int.natAbs_ediv_le_natAbs t (Nat.gcd b.natAbs t.natAbs : Nat)
  have h2 := Int.natAbs_ediv_le_natAbs b (Nat.gcd b.natAbs t.natAbs : Nat)
  have p1 : (t / ((Nat.gcd b.natAbs t.natAbs : Nat) : Int)).natAbs < 10 ^ 30 := by omega
  have p2 : (b / ((Nat.gcd b.natAbs t.natAbs : Nat) : Int)).natAbs < 10 ^ 30 := by omega
  refine ⟨?_, rfl, rfl⟩
  simp only [fracD, tame, tameAll, p1, p2, decide_true, Bool.and_true]
theorem tame_pair {a b : PyData} (ha : tame a = true) (hb : tame b = true) : tame (.tuple [a, b]) = true := by
  simp only [tame, tameAll, ha, hb, Bool.and_true]
theorem mul_small {a b : Int} {m n : Nat} (ha : a.natAbs ≤ m) (hb : b.natAbs ≤ n) : (a * b).natAbs ≤ m * n := by
  rw [Int.natAbs_mul]
  exact Nat.mul_le_mul ha hb
theorem small_at (x g n k : Int) (hx : -20 ≤ x ∧ x ≤ 20) (hg : -20 ≤ g ∧ g ≤ 20) (hn : 0 ≤ n ∧ n ≤ 24) (hk : 0 ≤ k ∧ k ≤ 24) : -100000 ≤ x * n + (g - x) * k ∧ x * n + (g - x) * k ≤ 100000 := by
  have h1 := mul_small (a := x) (b := n) (m := 20) (n := 24) (by omega) (by omega)
  have h2 := mul_small (a := g - x) (b := k) (m := 40) (n := 24) (by omega) (by omega)
  omega
theorem tame_walk : ∀ (ms : List Mov) (x y m : Int), MovsOk ms → 0 ≤ m → (-20 ≤ x ∧ x ≤ 20) → (-20 ≤ y ∧ y ≤ 20) → tame (walkW x y ms m) = true ∧ wideD (walkW x y ms m) ≤ 1000 ∧ dep (walkW x y ms m) = 2
  | [], x, y, m, _, _, hx, hy => by
    have p1 : x.natAbs < 10 ^ 30 := by omega
    have p2 : y.natAbs < 10 ^ 30 := by omega
    refine ⟨?_, by simp only [walkW, endD, wideD, wideAll]; omega, rfl⟩
    simp only [walkW, endD, tame, tameAll, p1, p2, decide_true, Bool.and_true, show decide ((1 : Int).natAbs < 10 ^ 30) = true from by decide]
  | (g, o, n) :: r, x, y, m, ok, h0, hx, hy => by
    obtain ⟨hg, ho, hn0, hn1⟩ := ok _ List.mem_cons_self
    simp only at hg ho hn0 hn1
    unfold walkW
    by_cases hm : m < n
    · rw [if_pos hm]
      obtain ⟨a1, a2, a3⟩ := tame_frac (x * n + (g - x) * (m + 1)) n (small_at x g n (m + 1) hx hg ⟨hn0, hn1⟩ ⟨by omega, by omega⟩) ⟨by omega, by omega⟩
      obtain ⟨b1, b2, b3⟩ := tame_frac (y * n + (o - y) * (m + 1)) n (small_at y o n (m + 1) hy ho ⟨hn0, hn1⟩ ⟨by omega, by omega⟩) ⟨by omega, by omega⟩
      refine ⟨tame_pair a1 b1, ?_, ?_⟩
      · simp only [atD, wideD, wideAll, a2, b2]
        omega
      · simp only [atD, dep, depAll, a3, b3]
        omega
    · rw [if_neg hm]
      exact tame_walk r g o (m - n) (fun x hx => ok x (List.mem_cons_of_mem _ hx)) (by omega) hg ho
theorem tame_movs : ∀ (ms : List Mov), MovsOk ms → tameAll (ms.map encM) = true ∧ wideAll (ms.map encM) = 104 * ms.length ∧ PyData.depthAll (ms.map encM) ≤ 1
  | [], _ => ⟨rfl, rfl, by decide⟩
  | (g, o, n) :: r, ok => by
    obtain ⟨h1, h2, h3⟩ := tame_movs r fun x hx => ok x (List.mem_cons_of_mem _ hx)
    obtain ⟨hg, ho, hn0, hn1⟩ := ok _ List.mem_cons_self
    simp only at hg ho hn0 hn1
    have p1 : g.natAbs < 10 ^ 30 := by omega
    have p2 : o.natAbs < 10 ^ 30 := by omega
    have p3 : n.natAbs < 10 ^ 30 := by omega
    refine ⟨?_, ?_, ?_⟩
    · simp only [List.map_cons, encM, tameAll, tame, p1, p2, p3, h1, decide_true, Bool.and_true]
    · simp only [List.map_cons, wideAll, encM, wideD, h2, List.length_cons]
      omega
    · simp only [List.map_cons, PyData.depthAll, encM, PyData.depth]
      omega
theorem tame_win {w : Win} (ok : WinOk w) : tame (encW w) = true := by
  obtain ⟨h1, h2, h3⟩ := tame_movs w.ms ok.ms
  have hx := ok.x
  have hy := ok.y
  have p1 : w.x.natAbs < 10 ^ 30 := by omega
  have p2 : w.y.natAbs < 10 ^ 30 := by omega
  simp only [encW, tame, tameAll, p1, p2, h1, decide_true, Bool.and_true]
theorem win_repr {w : Win} (ok : WinOk w) (S : Store) : reprF [.p (encW w)] S = some (.p (.str (encW w).shown)) := by
  obtain ⟨h1, h2, h3⟩ := tame_movs w.ms ok.ms
  have hl := ok.len
  have hx := ok.x
  have hy := ok.y
  have p1 : w.x.natAbs < 10 ^ 30 := by omega
  have p2 : w.y.natAbs < 10 ^ 30 := by omega
  refine v_repr rfl ?_ ?_ ?_
  · simp only [encW, tame, tameAll, p1, p2, h1, decide_true, Bool.and_true]
  · simp only [encW, PyData.depth, PyData.depthAll]
    omega
  · simp only [encW, wideD, wideAll, h2]
    omega
/-! ### the law -/
theorem ints_get {α : Type} {xs : List PyData} {k : Nat} {d : D} (h : (xs.map D.p)[k]? = some d) : ∃ e, e ∈ xs ∧ d = .p e := by
  rw [List.getElem?_map] at h
  cases e : xs[k]? with
  | none => rw [e] at h; cases h
  | some x => rw [e] at h; cases h; exact ⟨x, List.mem_of_getElem? e, rfl⟩
theorem atI_ints {xs : List Int} {i : Int} (h0 : 0 ≤ i) (h1 : i < xs.length) : ∃ x, atI (xs.map PyData.int) i = some (.int x) ∧ xs[i.toNat]? = some x := by
  have hn : i.toNat < xs.length := by omega
  refine ⟨xs[i.toNat], ?_, List.getElem?_eq_getElem hn⟩
  have e : ((i.toNat : Nat) : Int) = i := by omega
  have := atI_nat (xs := xs.map PyData.int) (j := i.toNat) (v := .int xs[i.toNat]) (by rw [List.getElem?_map, List.getElem?_eq_getElem hn]; rfl)
  rw [e] at this
  exact this
/-! ### the law -/
end Lw

namespace Lw
open PySem PySem.Spec PyProof.Rows L2 Mi
/-! ### tame values, once more -/
theorem tame_list (W n : Nat) : ∀ ds : List PyData, (∀ d ∈ ds, tame d = true ∧ wideD d ≤ W ∧ dep d ≤ n) → tameAll ds = true ∧ wideAll ds ≤ (W + 2) * ds.length ∧ depAll ds ≤ n
  | [], _ => ⟨rfl, by simp [wideAll], Nat.zero_le _⟩
  | d :: ds, h => by
    obtain ⟨h1, h2, h3⟩ := tame_list W n ds fun x hx => h x (List.mem_cons_of_mem _ hx)
    obtain ⟨g1, g2, g3⟩ := h d List.mem_cons_self
    refine ⟨by simp only [tameAll, g1, h1, Bool.and_self], ?_, by simp only [depAll]; omega⟩
    simp only [wideAll, List.length_cons, Nat.mul_succ]
    omega
mutual
theorem depth_dep : ∀ d : PyData, tame d = true → d.depth = dep d
  | .none, _ => rfl
  | .bool _, _ => rfl
  | .int _, _ => rfl
  | .str _, h => by simp [tame] at h
  | .dict _, h => by simp [tame] at h
  | .list ds, h => by
    have := depth_depAll ds (by simpa only [tame] using h)
    simp only [PyData.depth, dep, this]
  | .tuple ds, h => by
    have := depth_depAll ds (by simpa only [tame] using h)
    simp only [PyData.depth, dep, this]
theorem depth_depAll : ∀ ds : List PyData, tameAll ds = true → PyData.depthAll ds = depAll ds
  | [], _ => rfl
  | d :: ds, h => by
    have c : tame d = true ∧ tameAll ds = true := by simpa [tameAll] using h
    simp only [PyData.depthAll, depAll, depth_dep d c.1, depth_depAll ds c.2]
end
theorem repr_ok {d : PyData} (h1 : isSq d = true) (h2 : tame d = true) (h3 : dep d ≤ 60) (h4 : wideD d ≤ 1000000) (S : Store) : reprF [.p d] S = some (.p (.str d.shown)) := v_repr h1 h2 (by rw [depth_dep d h2]; exact h3) h4
/-- what is wanted of a value that is shown and compared -/
structure Tm (W n : Nat) (d : PyData) : Prop where
  t : tame d = true
  w : wideD d ≤ W
  d : dep d ≤ n
theorem Tm.mono {W n W' n' : Nat} {d : PyData} (h : Tm W n d) (a : W ≤ W') (b : n ≤ n') : Tm W' n' d := ⟨h.t, Nat.le_trans h.w a, Nat.le_trans h.d b⟩
theorem Tm.list {W n : Nat} {ds : List PyData} (h : ∀ d ∈ ds, Tm W n d) : Tm ((W + 2) * ds.length + 3) (n + 1) (.list ds) := by
  obtain ⟨h1, h2, h3⟩ := tame_list W n ds fun d hd => ⟨(h d hd).t, (h d hd).w, (h d hd).d⟩
  exact ⟨by simpa only [tame] using h1, by simp only [wideD]; omega, by simp only [dep]; omega⟩
theorem Tm.tup {W n : Nat} {ds : List PyData} (h : ∀ d ∈ ds, Tm W n d) : Tm ((W + 2) * ds.length + 3) (n + 1) (.tuple ds) := by
  obtain ⟨h1, h2, h3⟩ := tame_list W n ds fun d hd => ⟨(h d hd).t, (h d hd).w, (h d hd).d⟩
  exact ⟨by simpa only [tame] using h1, by simp only [wideD]; omega, by simp only [dep]; omega⟩
theorem Tm.tup2 {W n : Nat} {a b : PyData} (ha : Tm W n a) (hb : Tm W n b) : Tm (2 * W + 7) (n + 1) (.tuple [a, b]) := by
  have := Tm.tup (W := W) (n := n) (ds := [a, b]) fun d hd => by
    simp only [List.mem_cons, List.not_mem_nil, or_false] at hd
    rcases hd with rfl | rfl
    · exact ha
    · exact hb
  exact this.mono (by simp only [List.length_cons, List.length_nil]; omega) (Nat.le_refl _)
theorem Tm.int {i : Int} (h : i.natAbs < 10 ^ 30) : Tm 31 0 (.int i) := ⟨by simp only [tame, h, decide_true], Nat.le_refl _, Nat.le_refl _⟩
theorem Tm.bool {b : Bool} : Tm 5 0 (.bool b) := ⟨rfl, Nat.le_refl _, Nat.le_refl _⟩
theorem Tm.none : Tm 4 0 .none := ⟨rfl, Nat.le_refl _, Nat.le_refl _⟩
theorem Tm.repr {W n : Nat} {d : PyData} (h : Tm W n d) (hs : isSq d = true) (a : W ≤ 1000000) (b : n ≤ 60) (S : Store) : reprF [.p d] S = some (.p (.str d.shown)) := repr_ok hs h.t (Nat.le_trans h.d b) (Nat.le_trans h.w a) S
theorem Tm.ne {W n : Nat} {d : PyData} (h : Tm W n d) : neF (.p (.str d.shown)) (.p (.str d.shown)) = some false := str_ne (sok_shown _ h.t)
theorem Tm.sok {W n : Nat} {d : PyData} (h : Tm W n d) : PyData.strOk d.shown = true := sok_shown _ h.t
theorem tm_row {r : Row} (h : RowOk r) : Tm 69 1 (encR r) := by
  obtain ⟨h1, h2, h3, h4⟩ := h
  exact (Tm.tup2 (Tm.int (by omega)) (Tm.int (by omega))).mono (by omega) (by omega)
theorem tm_opt {o : Option Int} (h : ∀ i, o = some i → i.natAbs < 10 ^ 30) : Tm 31 0 (encO o) := by
  cases o with
  | none => exact Tm.none.mono (by omega) (by omega)
  | some i => exact Tm.int (h i rfl)
theorem tm_rows {rows : List Row} (h : RowsOk rows) : Tm (71 * rows.length + 3) 2 (.tuple (rows.map encR)) := by
  have := Tm.tup (W := 69) (n := 1) (ds := rows.map encR) fun d hd => by
    obtain ⟨r, hr, rfl⟩ := List.mem_map.mp hd
    exact tm_row (h r hr)
  rw [List.length_map] at this
  exact this
theorem tm_lay {l : Lay} (ok : LayOk l) : Tm 1200 3 (encL l) := by
  have h1 := tm_rows ok.rows
  have hl := ok.len
  have h2 : Tm 31 0 (encO l.back) := tm_opt fun i hi => by
    have := ok.back i hi
    omega
  exact (Tm.tup2 (h1.mono (W' := 571) (n' := 2) (by omega) (by omega)) (h2.mono (by omega) (by omega))).mono (by omega) (by omega)
theorem tm_movs {ms : List Mov} (ok : MovsOk ms) : Tm (104 * ms.length + 3) 2 (.tuple (ms.map encM)) := by
  have := Tm.tup (W := 102) (n := 1) (ds := ms.map encM) fun d hd => by
    obtain ⟨m, hm, rfl⟩ := List.mem_map.mp hd
    obtain ⟨h1, h2, h3⟩ := ok m hm
    refine (Tm.tup (W := 31) (n := 0) (ds := [.int m.1, .int m.2.1, .int m.2.2]) fun d hd => ?_).mono (by simp only [List.length_cons, List.length_nil]; omega) (by omega)
    simp only [List.mem_cons, List.not_mem_nil, or_false] at hd
    rcases hd with rfl | rfl | rfl <;> exact Tm.int (by omega)
  rw [List.length_map] at this
  exact this
theorem tm_win {w : Win} (ok : WinOk w) : Tm 3000 3 (encW w) := by
  have h1 := tm_movs ok.ms
  have hl := ok.len
  have hx := ok.x
  have hy := ok.y
  refine (Tm.tup (W := 900) (n := 2) (ds := [.int w.x, .int w.y, .tuple (w.ms.map encM)]) fun d hd => ?_).mono (by simp only [List.length_cons, List.length_nil]; omega) (by omega)
  simp only [List.mem_cons, List.not_mem_nil, or_false] at hd
  rcases hd with rfl | rfl | rfl
  · exact (Tm.int (by omega)).mono (by omega) (by omega)
  · exact (Tm.int (by omega)).mono (by omega) (by omega)
  · exact h1.mono (by omega) (by omega)
theorem tm_layers {ls : List Lay} (h : ∀ l ∈ ls, LayOk l) : Tm (1202 * ls.length + 3) 4 (.tuple (ls.map encL)) := by
  have := Tm.tup (W := 1200) (n := 3) (ds := ls.map encL) fun d hd => by
    obtain ⟨l, hl, rfl⟩ := List.mem_map.mp hd
    exact tm_lay (h l hl)
  rw [List.length_map] at this
  exact this
theorem tm_sht {s : Sht} (ok : ShtOk s) : Tm 10100 5 (encS s) := by
  have h1 := tm_layers ok.ls
  have hl := ok.len
  have h2 := tm_win ok.w
  exact (Tm.tup2 (h1.mono (W' := 5000) (n' := 4) (by omega) (by omega)) (h2.mono (by omega) (by omega))).mono (by omega) (by omega)
theorem tm_walk {ms : List Mov} {x y m : Int} (ok : MovsOk ms) (h0 : 0 ≤ m) (hx : -20 ≤ x ∧ x ≤ 20) (hy : -20 ≤ y ∧ y ≤ 20) : Tm 1000 2 (walkW x y ms m) := by
  obtain ⟨h1, h2, h3⟩ := tame_walk ms x y m ok h0 hx hy
  exact ⟨h1, h2, by omega⟩
/-! ### pictures -/
def layL (l : Lay) (n : Nat) : List Int := (List.range n).map fun i : Nat => dAt l (i : Int)
theorem layL_len {l : Lay} {n : Nat} : (layL l n).length = n := by unfold layL; rw [List.length_map, List.length_range]
theorem layL_get {l : Lay} {n i : Nat} (h : i < n) : (layL l n)[i]? = some (dAt l (i : Int)) := by
  unfold layL
  rw [List.getElem?_map, List.getElem?_range h]
  rfl
theorem layL_of {l : Lay} {xs : List Int} {n : Int} (h0 : 0 ≤ n) (h : (xs.length : Int) = n) (hx : ∀ (i : Nat) (x : Int), xs[i]? = some x → x = dAt l i) : xs = layL l n.toNat := by
  refine ext_dAt (l := l) (by rw [layL_len]; omega) hx fun i x hi => ?_
  have hl : i < n.toNat := by
    have := (List.getElem?_eq_some_iff.mp hi).1
    rw [layL_len] at this
    exact this
  rw [layL_get hl] at hi
  cases hi
  rfl
theorem atI_at {α : Type} {xs : List α} {i : Int} {n : Nat} {v : α} (e : i = (n : Nat)) (h : xs[n]? = some v) : atI xs i = some v := by rw [e]; exact atI_nat h
theorem atI_lay {l : Lay} {n : Nat} {m : Int} (h0 : 0 ≤ m) (h1 : m < n) : atI ((layL l n).map PyData.int) m = some (.int (dAt l m)) := by
  have e : m = ((m.toNat : Nat) : Int) := by omega
  refine atI_at e ?_
  rw [List.getElem?_map, layL_get (by omega), ← e]
  rfl
def picD (s : Sht) (m : Int) : PyData := .tuple [.tuple (s.ls.map fun l => .int (dAt l m)), placeW s.w m]
theorem tm_pic {s : Sht} (ok : ShtOk s) {m : Int} (h0 : 0 ≤ m) : Tm 2100 3 (picD s m) := by
  have hl := ok.len
  have h1 := Tm.tup (W := 31) (n := 0) (ds := s.ls.map fun l => PyData.int (dAt l m)) fun d hd => by
    obtain ⟨l, hl, rfl⟩ := List.mem_map.mp hd
    have := dAt_in (ok.ls l hl) m
    exact Tm.int (by omega)
  rw [List.length_map] at h1
  have h2 := tm_walk (m := m) ok.w.ms h0 ok.w.x ok.w.y
  exact (Tm.tup2 (h1.mono (W' := 1000) (n' := 2) (by omega) (by omega)) h2).mono (by omega) (by omega)
def picsL (s : Sht) (m : Int) (n : Nat) : List PyData := (List.range n).map fun i : Nat => picD s (m + (i : Int))
theorem picsL_len {s : Sht} {m : Int} {n : Nat} : (picsL s m n).length = n := by unfold picsL; rw [List.length_map, List.length_range]
theorem picsL_get {s : Sht} {m : Int} {n i : Nat} (h : i < n) : (picsL s m n)[i]? = some (picD s (m + (i : Int))) := by
  unfold picsL
  rw [List.getElem?_map, List.getElem?_range h]
  rfl
theorem atI_pics {s : Sht} {m : Int} {n : Nat} {i : Int} (h0 : 0 ≤ i) (h1 : i < n) : atI (picsL s m n) i = some (picD s (m + i)) := by
  have e : i = ((i.toNat : Nat) : Int) := by omega
  refine atI_at e ?_
  rw [picsL_get (by omega), ← e]
theorem tm_pics {s : Sht} (ok : ShtOk s) {m : Int} (h0 : 0 ≤ m) {n : Nat} : Tm (2102 * n + 3) 4 (.list (picsL s m n)) := by
  have := Tm.list (W := 2100) (n := 3) (ds := picsL s m n) fun d hd => by
    obtain ⟨i, hi, rfl⟩ := List.mem_map.mp hd
    exact tm_pic ok (by omega)
  rw [picsL_len] at this
  exact this
theorem picsL_take {s : Sht} {m : Int} {n k : Nat} (h : k ≤ n) : (picsL s m n).take k = picsL s m k := by
  unfold picsL
  rw [← List.map_take, List.take_range, Nat.min_eq_left h]
theorem picsL_snoc {s : Sht} {m : Int} {n : Nat} : picsL s m (n + 1) = picsL s m n ++ [picD s (m + (n : Int))] := by
  unfold picsL
  rw [List.range_succ, List.map_append]
  rfl
theorem fin_rng {a : Int} {n k : Nat} {d : D} (h : (intR a n)[k]? = some d) : d = .p (.int (a + (k : Nat))) ∧ k < n := by
  have hk : k < n := by
    have := (List.getElem?_eq_some_iff.mp h).1
    rw [intR_len] at this
    exact this
  unfold intR at h
  rw [List.getElem?_map, List.getElem?_range hk] at h
  cases h
  exact ⟨rfl, hk⟩
theorem map_ints (xs : List Int) : xs.map (fun i => D.p (.int i)) = (xs.map PyData.int).map D.p := by rw [List.map_map]; rfl
end Lw

namespace Mi
open PySem PySem.Spec PyProof.Rows L2
/-! ### tuple * int -/
theorem tuple_mul1 (l : Addr) (items : Array Value) (n : Nat) (dd : Option Addr) (sl : Array (Option Value)) (x : Int) (u : Tok) (c0 : (decide (x < -(2 ^ 63)) || decide (x ≥ 2 ^ 63)) = false) (c1 : (items.isEmpty || x == 1) = true) :
    Meets (Builtin.«tuple.__mul__» ⟨[.ref l, .int x u], []⟩) (fun _ R s => s.heap.get? l = some { cls := .type "tuple", dict := dd, data := .seq items n, slots := sl } ∧ R (.ok (.ret (Value.ref l))) s) :=
  .of_wp fun prog w A R s h => by
    obtain ⟨hp, g, d, tk, os⟩ := s
    obtain ⟨hl, h⟩ := h
    have f1 := AutoSeq1.idx_int
    wp_walk using wpAny_loadPart' hl
    refine wpAny_ite_false (decide_eq_false (by rw [c0]; exact Bool.false_ne_true)) ?_; wp_walk using wpAny_loadPart' hl
    exact ⟨_, rfl, h⟩
theorem tuple_mul0 (l : Addr) (items : Array Value) (n : Nat) (dd : Option Addr) (sl : Array (Option Value)) (x : Int) (u : Tok) (c0 : (decide (x < -(2 ^ 63)) || decide (x ≥ 2 ^ 63)) = false) (c1 : (items.isEmpty || x == 1) = false) (c2 : (decide (x ≤ 0) || items.isEmpty) = true) :
    Meets (Builtin.«tuple.__mul__» ⟨[.ref l, .int x u], []⟩) (fun _ R s => s.heap.get? l = some { cls := .type "tuple", dict := dd, data := .seq items n, slots := sl } ∧
      R (.ok (.ret (Value.ref s.heap.objs.size))) { s with heap := s.heap.push { cls := Value.type "tuple", data := Data.seq #[] }, toks := s.toks }) :=
  .of_wp fun prog w A R s h => by
    obtain ⟨hp, g, d, tk, os⟩ := s
    obtain ⟨hl, h⟩ := h
    have f1 := AutoSeq1.idx_int
    wp_walk using wpAny_loadPart' hl
    refine wpAny_ite_false (decide_eq_false (by rw [c0]; exact Bool.false_ne_true)) ?_; wp_walk using wpAny_loadPart' hl
    exact ⟨_, rfl, h⟩

def rRepTG (K : PySem.W.Frag) : R2 := fun x y H Q => ∃ l k xs, x = .ref l ∧ y = .int k ∧ SqT K H l xs ∧ -1000 ≤ k ∧ k ≤ 1000 ∧ xs.length ≤ 1000 ∧
  (((xs = [] ∨ k = 1) ∧ Q (.ref l) H) ∨ (xs ≠ [] ∧ k ≠ 1 ∧ ∀ p, H p = none → Q (.ref p) (upd H p (.tup (List.replicate k.toNat xs).flatten))))
theorem op_repTG {X : Cx} : OpR X (binaryOp .Mult) (rRepTG X.K) := by
  intro pins s σ H x y v u Q I rx ry h
  obtain ⟨l, k, xs, rfl, rfl, hT, h1, h2, hz, hq⟩ := h
  have hT0 := hT
  have I0 := I
  have rx0 := rx
  have ry0 := ry
  cases rx
  obtain ⟨t, rfl⟩ := ry
  obtain ⟨its, r, ⟨⟨cls, dd, data, sl⟩, ho, hc, n, hd⟩, hs⟩ := I.tuple hT
  simp only at hc hd
  subst hc hd
  have hle : its.length = xs.length := r.length.symm
  have c0 : (decide (k < -(2 ^ 63)) || decide (k ≥ 2 ^ 63)) = false := by
    rw [decide_eq_false (by omega), decide_eq_false (by omega)] <;> rfl
  have go : ∀ {Q0 : Value → Shared → Prop}, wpAny (model X.prog X.w) X.A (call (.builtin "tuple.__mul__") [.ref l, .int k t]) Q0 X.xe s → wpAny (model X.prog X.w) X.A (binaryOp .Mult (.ref l) (.int k t)) Q0 X.xe s := fun {Q0} hw =>
    wpAny_binaryOp_repeat_ref (T := "tuple") (U := "int") (by decide) ⟨_, ho, rfl⟩ (fun s' => typeIs_int s' k t) noFill_tuple_mul F.fills_int_mul F.slot_int_rmul repeat_tuple F.slot_int_index.lookup
      (call_meets F.slot_int_rmul (typeIs_int s k t) F.entry_int_rmul (F.args_int_rmul_2 _ _) (int_rmul_tuple k t l its.toArray n dd sl) ⟨ho, rfl, ⟨_, ho, rfl⟩, hw⟩)
  rcases hq with ⟨hk, q⟩ | ⟨hne, hk, q⟩
  · have c1 : (its.toArray.isEmpty || k == 1) = true := by
      rcases hk with hk | hk
      · have : its = [] := List.eq_nil_of_length_eq_zero (by rw [hle, hk]; rfl)
        rw [this]
        rfl
      · rw [hk]
        simp
    exact go (call_meets F.slot_tuple_mul ⟨_, ho, rfl⟩ F.entry_tuple_mul (F.args_tuple_mul_2 _ _) (tuple_mul1 l its.toArray n dd sl k t c0 c1) ⟨ho, ⟨.ref l, H, I, rfl, q⟩⟩)
  · by_cases h0 : 2 ≤ k
    · exact op_repT pins s σ H _ _ _ _ Q I0 rx0 ry0 ⟨l, k, xs, rfl, rfl, hT0, hne, h0, h2, hz, q⟩
    · have hi : its.toArray.isEmpty = false := by
        cases its with
        | nil => exact absurd (List.eq_nil_of_length_eq_zero hle.symm) hne
        | cons a b => rfl
      have c1 : (its.toArray.isEmpty || k == 1) = false := by
        rw [hi, Bool.false_or]
        exact beq_eq_false_iff_ne.mpr hk
      have c2 : (decide (k ≤ 0) || its.toArray.isEmpty) = true := by
        rw [decide_eq_true (by omega)]
        rfl
      refine go (call_meets F.slot_tuple_mul ⟨_, ho, rfl⟩ F.entry_tuple_mul (F.args_tuple_mul_2 _ _) (tuple_mul0 l its.toArray n dd sl k t c0 c1 c2) ⟨ho, ?_⟩)
      have ek : k.toNat = 0 := by omega
      rw [ek] at q
      refine ⟨.ref s.heap.objs.size, _, I.laid (t' := s.toks) (o := .tup []) (fun b ob q => Heap.get?_push_of_some _ q) (Nat.le_refl _) ?_, rfl, q _ (I.hok.fresh (Nat.le_refl _))⟩
      exact ⟨Nat.zero_le _, [], .nil, IsTup.new _ _⟩
def repT : D → D → Option D
  | .p (.tuple a), .p (.int k) => if -1000 ≤ k ∧ k ≤ 1000 ∧ a.length ≤ 1000 then some (.tup (List.replicate k.toNat a).flatten) else none
  | _, _ => none
section
variable {K : PySem.W.Frag}
theorem r2_repT : R2ok K .e repT (rRepTG K) := by
  intro ph Ex H S dx dy x y d Q sr dm hx hy h q
  unfold repT at h
  split at h
  · rename_i a k
    split at h
    · rename_i hl
      cases h
      obtain ⟨a1, xs, e1, h1, r1⟩ := hx.tup_
      have l1 := r1.length
      obtain ⟨k1, k2, k3⟩ := hl
      refine ⟨a1, k, xs, e1, hy.int_, h1, k1, k2, by omega, ?_⟩
      by_cases hc : xs = [] ∨ k = 1
      · refine .inl ⟨hc, q _ H (Step.refl _ _) sr ?_⟩
        show Rep K H (okx ph Ex) (.tuple _) (.ref a1)
        simp only [Rep]
        refine ⟨a1, xs, rfl, h1, ?_⟩
        rcases hc with hc | hc
        · subst hc
          have ea : a = [] := List.eq_nil_of_length_eq_zero l1
          subst ea
          have : (List.replicate k.toNat ([] : List PyData)).flatten = [] := by simp
          rw [this]
          exact r1
        · subst hc
          have : (List.replicate (1 : Int).toNat a).flatten = a := by
            show (List.replicate 1 a).flatten = a
            simp
          rw [this]
          exact r1
      · exact .inr ⟨fun z => hc (.inl z), fun z => hc (.inr z), fun p np => out_tup sr q (r1.rep k.toNat) p np⟩
    · cases h
  · cases h
end
noncomputable abbrev xRepT (a b : EM) : EM := eBin repT a b
theorem me_rept {X : Cx} {ow : Nat → Bool} {a b : Expr} {pos : Pos} {ma mb : EM} (ha : PE X a (tG .p X.K ow ma)) (hb : PE X b (tG .p X.K ow mb)) : PE X (.BinOp a .Mult b pos) (tG .e X.K ow (xRepT ma mb)) := mk_bin op_repTG r2_repT ha hb
theorem v_repT {a : List PyData} {k : Int} : repT (.p (.tuple a)) (.p (.int k)) = if -1000 ≤ k ∧ k ≤ 1000 ∧ a.length ≤ 1000 then some (.p (.tuple (List.replicate k.toNat a).flatten)) else none := rfl


/-- a new object that nothing leans on for now -/
theorem Sta.shut {K : PySem.W.Frag} {ow : Nat → Bool} {ph : List Addr} {E O : Addr → Prop} {sg : L2.St} {H : Hp} {ro : Env} {S : Store} {p : Addr} (s : Sta K ow ph E O sg H ro S) (n : H p = none) (o : HO) : Sta K ow ph (fun b => E b ∨ b = p) O sg (upd H p o) ro S := by
  have t : Step ph ph H (upd H p o) := Step.fresh n
  have mo : ∀ b, EO (fun b => E b ∨ b = p) O b → EO E O b ∨ H b = none := fun b h => by
    rcases h with (h | h) | h
    · exact .inl (.inl h)
    · exact .inr (by rw [h]; exact n)
    · exact .inl (.inr h)
  refine ⟨fun b h z => ?_, fun b h z => s.domO b h (t.dom b z), fun b h z => ?_, (s.sto.ex mo).fresh n, s.len, fun j e hj q => ?_, fun j e hj q => ?_, s.apart⟩
  · rcases h with h | h
    · exact s.domE b h (t.dom b z)
    · rw [h, upd_same] at z; cases z
  · rcases z with z | z
    · exact s.dis b h z
    · rw [z] at h; exact s.domO p h n
  · obtain ⟨w, q1, q2⟩ := s.slot j e hj q
    exact ⟨w, q1, (q2.ex mo).step t⟩
  · obtain ⟨w, q1, q2, q3, q4⟩ := s.own j e hj q
    refine ⟨w, q1, q2, q3, RepP.step t ?_⟩
    cases e with
    | ref _ => exact q3.elim
    | scr _ => exact q3.elim
    | p e =>
      cases e with
      | list es =>
        obtain ⟨b, xs, w1, w2, w3, w4⟩ := (show RepP K ph (EO E O) H (.p (.list es)) (.ref w) from q4).list_
        exact ⟨b, xs, w1, w2, w3, w4.ex mo⟩
      | dict es =>
        obtain ⟨b, xs, w1, w2, w3, w4⟩ := (show RepP K ph (EO E O) H (.p (.dict es)) (.ref w) from q4).dict_
        exact ⟨b, xs, w1, w2, w3, w4.ex mo⟩
      | _ => exact q3.elim
/-- .. and filled -/
theorem fill_go {K : PySem.W.Frag} {ph ph2 : List Addr} {Ex : Addr → Prop} {H H2 : Hp} {S2 : Store} {p : Addr} {kvs : List (Key × V)} {l : List (PyData × PyData)} (np : H p = none) (nx : ¬ Ex p) (nph : p ∉ ph) (t : Step ph ph2 (upd H p (.dK [])) H2) (kp : H2 p = some (.dK []))
    (r : SRep K ph2 (fun b => Ex b ∨ b = p) H2 S2) (z : RepKv K H2 (okx ph2 fun b => Ex b ∨ b = p) l kvs) :
    Step ph ph2 H (upd H2 p (.dK kvs)) ∧ SRep K ph2 Ex (upd H2 p (.dK kvs)) S2 ∧ Rep K (upd H2 p (.dK kvs)) (okx ph2 Ex) (.dict l) (.ref p) := by
  have t0 : Step ph ph2 H H2 := (Step.fresh np).trans t
  have np2 : p ∉ ph2 := t.out upd_same nph
  have ne : ∀ a u, H a = some u → a ≠ p := fun a u e z => by rw [z, np] at e; cases e
  have hl : ∀ a xs, H2 a = some (.lst xs) → okx ph2 (fun b => Ex b ∨ b = p) a → upd H2 p (.dK kvs) a = some (.lst xs) ∧ okx ph2 Ex a := fun a xs e k => ⟨by rw [upd_ne (fun z => k.2 (.inr z))]; exact e, k.1, fun z => k.2 (.inl z)⟩
  have hd : ∀ a xs, H2 a = some (.dK xs) → okx ph2 (fun b => Ex b ∨ b = p) a → upd H2 p (.dK kvs) a = some (.dK xs) ∧ okx ph2 Ex a := fun a xs e k => ⟨by rw [upd_ne (fun z => k.2 (.inr z))]; exact e, k.1, fun z => k.2 (.inl z)⟩
  have ht : ∀ a xs, SqT K H2 a xs → SqT K (upd H2 p (.dK kvs)) a xs := fun a xs h => by
    rcases h with (h | ⟨o, h⟩) | h
    · exact .inl (.inl (by rw [upd_ne (fun z => by rw [z, kp] at h; cases h)]; exact h))
    · exact .inl (.inr ⟨o, by rw [upd_ne (fun z => by rw [z, kp] at h; cases h)]; exact h⟩)
    · exact .inr h
  refine ⟨⟨fun a o h n q => ?_, fun a xs h => ?_, fun a o u h => ?_, fun a h => ?_, t0.pre, t0.new⟩, ⟨r.len, r.nd, fun n a o e1 e2 => ?_⟩, ?_⟩
  · rw [upd_ne (ne a _ h)]; exact t0.keep a o h n q
  · rw [upd_ne (ne a _ h)]; exact t0.tup a xs h
  · rw [upd_ne (ne a _ h)]; exact t0.frz a o u h
  · by_cases z : a = p
    · rw [z, upd_same] at h; cases h
    · rw [upd_ne z] at h; exact t0.dom a h
  · have k := r.at_ n a o e1 e2
    cases o with
    | lst ds =>
      obtain ⟨xs, e, q⟩ := k
      exact ⟨xs, by rw [upd_ne (fun z => np2 (by rw [← z]; exact List.mem_of_getElem? e1))]; exact e, RepAll.mono hl ht hd _ _ q⟩
  · simp only [Rep]
    exact ⟨p, kvs, rfl, upd_same, ⟨np2, nx⟩, RepKv.mono hl ht hd _ _ z⟩
/-! ### dicts written -/
def keyOf : PyData → Option Key
  | .int i => some (.inl i)
  | .str x => some (.inr x)
  | _ => none
theorem keyOf_keyD {d : PyData} {k : Key} (h : keyOf d = some k) : keyD d k := by
  cases d <;> simp only [keyOf] at h <;> cases h <;> rfl
/-- the keys are told, the values reckoned -/
def ePairs : List (PyData × EM) → Env → M (List (PyData × PyData))
  | [] => fun _ S => .ok [] S
  | (k, m) :: r => fun ro S => (m ro S).bind fun d S1 => match d with
      | .p f => (ePairs r ro S1).bind fun l S2 => .ok ((k, f) :: l) S2
      | _ => .bad
def keysOk : List PyData → Bool := fun ks => decide ((ks.filterMap keyOf).Nodup) && ks.all (fun k => (keyOf k).isSome)
def eDic (ps : List (PyData × EM)) : EM := fun ro S => if keysOk (ps.map (·.1)) = true then (ePairs ps ro S).bind fun l S1 => .ok (.p (.dict l)) S1 else .bad
def tPsG (K : PySem.W.Frag) (ow : Nat → Bool) (ps : List (PyData × EM)) : List (TE × TE) → Prop := fun trs => ∀ sg H (Q : List (V × V) → Hp → Prop), (∃ (ph : List Addr) (E O : Addr → Prop) (ro : Env) (S : Store), Sta K ow ph E O sg H ro S ∧
  ∃ l S', ePairs ps ro S = .ok l S' ∧ ∀ kvs vs H' ph', Step ph ph' H H' → SRep K ph' (EO E O) H' S' → RepKv K H' (okx ph' (EO E O)) l kvs → vs = kvs.map (fun kv : Key × V => (kV kv.1, kv.2)) → Q vs H') → tPairs trs sg H Q
structure PPG (X : Cx) (ow : Nat → Bool) (pos : Pos) (ks : List (Option Expr)) (vs : List Expr) (ps : List (PyData × EM)) : Prop where
  ex : ∃ trs, PPs X pos ks vs trs ∧ tPsG X.K ow ps trs
section
variable {X : Cx} {ow : Nat → Bool} {pos : Pos} {k e : Expr} {ks : List (Option Expr)} {vs : List Expr} {ps : List (PyData × EM)} {m : EM} {d : PyData}
theorem mp_nil : PPG X ow pos [] [] [] := ⟨[], pps_nil, fun sg H Q ⟨ph, E, O, ro, S, sta, l, S', ev, q⟩ => by
  cases ev
  exact q [] [] H ph (Step.refl _ _) sta.sto (by simp only [RepKv]) rfl⟩
theorem mp_cons {v : V} {kk : Key} (hk : PE X k (tC v)) (he : PE X e (tG .e X.K ow m)) (hr : PPG X ow pos ks vs ps) (h1 : keyOf d = some kk := by rfl) (h2 : kV kk = v := by rfl) : PPG X ow pos (some k :: ks) (e :: vs) ((d, m) :: ps) := by
  obtain ⟨trs, p, t⟩ := hr.ex
  refine ⟨_, pps_cons hk he p, fun sg H Q ⟨ph, E, O, ro, S, sta, l, S', ev, q⟩ => ?_⟩
  unfold ePairs at ev
  obtain ⟨x, S1, e1, ev⟩ := Res.bind_ok ev
  cases x with
  | ref n => cases ev
  | scr n => cases ev
  | p f =>
    obtain ⟨l2, S2, e2, ev⟩ := Res.bind_ok ev
    cases ev
    refine ⟨ph, E, O, ro, S, sta, .p f, S1, e1, fun y H1 ph1 t1 r1 z1 => ?_⟩
    refine t sg H1 _ ⟨ph1, E, O, ro, S1, sta.step t1 r1, l2, _, e2, fun kvs vs H2 ph2 t2 r2 z2 ev => ?_⟩
    subst ev
    refine q ((kk, y) :: kvs) _ H2 ph2 (t1.trans t2) r2 ?_ (by rw [List.map_cons]; simp only [h2])
    simp only [RepKv]
    exact ⟨_, _, rfl, keyOf_keyD h1, Rep.step t2 z1, z2⟩
end
theorem keyD_of {d : PyData} {k : Key} (h : keyD d k) : keyOf d = some k := by
  cases d <;> cases k <;> simp only [keyD] at h <;> first | exact h.elim | (cases h; rfl) | (simp_all [keyOf])
theorem repKv_keys {K : PySem.W.Frag} {H : Hp} {ok : Addr → Prop} : ∀ {l : List (PyData × PyData)} {kvs : List (Key × V)}, RepKv K H ok l kvs → kvs.map (·.1) = (l.map (·.1)).filterMap keyOf
  | [], _, h => by simp only [RepKv] at h; subst h; rfl
  | (k, d) :: r, _, h => by
    simp only [RepKv] at h
    obtain ⟨e, es', rfl, h1, h2, h3⟩ := h
    rw [List.map_cons, List.map_cons, List.filterMap_cons, keyD_of h1, repKv_keys h3]
theorem merge_nodup : ∀ (more kvs : List (Key × V)), ((kvs ++ more).map (·.1)).Nodup → mergeK kvs more = kvs ++ more
  | [], kvs, _ => by unfold mergeK; simp
  | (k, v) :: r, kvs, h => by
    have hk : kvs.any (fun kv => decide (kv.1 = k)) = false := by
      rw [List.any_eq_false]
      intro x hx
      rw [List.map_append, List.nodup_append] at h
      have := h.2.2 x.1 (List.mem_map_of_mem hx) k (by simp)
      simpa using this
    have e : putK kvs k v = kvs ++ [(k, v)] := by
      unfold putK
      simp only [hk, Bool.false_eq_true, ↓reduceIte]
    have ih := merge_nodup r (kvs ++ [(k, v)]) (by rw [List.append_assoc]; exact h)
    unfold mergeK at ih ⊢
    rw [List.foldl_cons, e, ih, List.append_assoc]
    rfl
theorem ePairs_keys : ∀ {ps : List (PyData × EM)} {ro : Env} {S S' : Store} {l : List (PyData × PyData)}, ePairs ps ro S = .ok l S' → l.map (·.1) = ps.map (·.1)
  | [], _, _, _, _, h => by cases h; rfl
  | (k, m) :: r, ro, S, S', l, h => by
    unfold ePairs at h
    obtain ⟨x, S1, e1, h⟩ := Res.bind_ok h
    cases x with
    | ref n => cases h
    | scr n => cases h
    | p f =>
      obtain ⟨l2, S2, e2, h⟩ := Res.bind_ok h
      cases h
      rw [List.map_cons, List.map_cons, ePairs_keys e2]
section
variable {X : Cx} {ow : Nat → Bool} {pos : Pos} {ks : List (Option Expr)} {vs : List Expr} {ps : List (PyData × EM)} {m : EM} {d : PyData}
theorem me_dic0 : PE X (.Dict [] [] pos) (tG .e X.K ow (eDic [])) := PE.imp pe_dnewK fun sg H Q ⟨ph, E, O, ro, S, sta, x, S', ev, q⟩ => by
  have ev : Res.ok (D.p (.dict [])) S = .ok x S' := ev
  cases ev
  intro p np
  have st : Step ph ph H (upd H p (.dK [])) := Step.fresh np
  refine q _ _ ph st (sta.sto.fresh np) ?_
  show Rep X.K _ (okx ph (EO E O)) (.dict []) (.ref p)
  simp only [Rep]
  exact ⟨p, [], rfl, upd_same, ⟨sta.sto.out np, fun z => sta.domX p z np⟩, by simp only [RepKv]⟩
theorem me_dic (h : PPG X ow pos ks vs ps) (hall : ks.all (·.isSome) = true := by rfl) (hl : ks.length = vs.length := by rfl) (h0 : ks ≠ [] := by (intro z; cases z)) (h15 : ks.length ≤ 15 := by decide) (hl2 : ps.length ≤ 15 := by decide) : PE X (.Dict ks vs pos) (tG .e X.K ow (eDic ps)) := by
  obtain ⟨trs, p, t⟩ := h.ex
  refine PE.imp (pe_disp p hall hl h0 h15) fun sg H Q ⟨ph, E, O, ro, S, sta, x, S', ev, q⟩ => ?_
  unfold eDic at ev
  split at ev
  · rename_i hk
    obtain ⟨l, S1, e1, ev⟩ := Res.bind_ok ev
    cases ev
    intro p np
    have st : Step ph ph H (upd H p (.dK [])) := Step.fresh np
    have sta1 := sta.shut np (.dK [])
    have npx : okx ph (EO E O) p := ⟨sta.sto.out np, fun z => sta.domX p z np⟩
    have sw : ∀ b, EO (fun b => E b ∨ b = p) O b ↔ EO E O b ∨ b = p := fun b => ⟨fun h => by
      rcases h with (h | h) | h
      · exact .inl (.inl h)
      · exact .inr h
      · exact .inl (.inr h), fun h => by
      rcases h with (h | h) | h
      · exact .inl (.inl h)
      · exact .inr h
      · exact .inl (.inr h)⟩
    refine t sg _ _ ⟨ph, _, O, ro, S, sta1, l, _, e1, fun kvs vs H2 ph2 t2 r2 z2 ew => ?_⟩
    have kp : H2 p = some (.dK []) := t2.keep p _ upd_same npx.1 fun _ z => by cases z
    have np2 : p ∉ ph2 := t2.out upd_same npx.1
    refine ⟨kp, kvs, ew, ?_, ?_⟩
    · have e2 := ePairs_keys e1
      have e3 := repKv_keys z2
      have e4 : (kvs.map (·.1)).length ≤ (l.map (·.1)).length := by rw [e3]; exact List.length_filterMap_le ..
      rw [List.length_map, List.length_map] at e4
      have e5 : l.length = ps.length := by have := congrArg List.length e2; simpa using this
      omega
    · have nd : (kvs.map (·.1)).Nodup := by
        rw [repKv_keys z2, ePairs_keys e1]
        unfold keysOk at hk
        simp only [Bool.and_eq_true, decide_eq_true_eq] at hk
        exact hk.1
      have em := merge_nodup kvs [] (by rw [List.nil_append]; exact nd)
      rw [List.nil_append] at em
      rw [em]
      obtain ⟨f1, f2, f3⟩ := fill_go (Ex := EO E O) (kvs := kvs) np npx.2 npx.1 t2 kp (r2.ex fun b h => .inl ((sw b).mpr h)) (z2.ex fun b h => .inl ((sw b).mpr h))
      exact q _ _ ph2 f1 f2 f3
  · cases ev
end
/-! ### repr of what there is -/
mutual
def noList : PyData → Bool
  | .list _ => false
  | .tuple ds => noListAll ds
  | .dict kvs => noListKv kvs
  | _ => true
def noListAll : List PyData → Bool
  | [] => true
  | d :: ds => noList d && noListAll ds
def noListKv : List (PyData × PyData) → Bool
  | [] => true
  | (_, d) :: r => noList d && noListKv r
end

section
variable {X : Cx} {pins : List (Addr × Obj)} {σ : L2.St} {H : Hp} {s : Shared} {ok : Addr → Prop}
theorem pair_key {k : PyData} {kk : Key} {v : Value} {h : Heap} (hk : keyD k kk) (e : keyIs kk v = true) : Reads h v k [] := by
  rcases keyIs_shape e with ⟨i, t, rfl, rfl⟩ | ⟨x, t, rfl, rfl⟩
  · cases k <;> simp only [keyD] at hk
    · cases hk; exact Reads.int _ _
    · cases hk
  · cases k <;> simp only [keyD] at hk
    · cases hk
    · cases hk; exact Reads.str _ _
mutual
theorem Rep.reads (I : Inv X pins σ H s) : ∀ (d : PyData) (v : V) (u : Value), Rep X.K H ok d v → RelV v u → ∃ as, Reads s.heap u d as ∧ (noList d = true → ∀ a ∈ as, (a == sysModules) = false)
  | .none, _, _, h, r => by
    simp only [Rep] at h
    subst h
    cases r
    exact ⟨_, Reads.none, fun _ a ha => by cases ha⟩
  | .bool b, _, _, h, r => by
    simp only [Rep] at h
    subst h
    cases r
    exact ⟨_, Reads.bool b, fun _ a ha => by cases ha⟩
  | .int i, _, _, h, r => by
    simp only [Rep] at h
    subst h
    obtain ⟨t, rfl⟩ := r
    exact ⟨_, Reads.int i t, fun _ a ha => by cases ha⟩
  | .str x, _, _, h, r => by
    simp only [Rep] at h
    subst h
    obtain ⟨t, rfl⟩ := r
    exact ⟨_, Reads.str x t, fun _ a ha => by cases ha⟩
  | .list ds, _, _, h, r => by
    simp only [Rep] at h
    obtain ⟨a, xs, rfl, h1, h2, h3⟩ := h
    cases r
    obtain ⟨its, rv, ⟨o, n, ho, hc, _, hd⟩, _⟩ := I.list (SqL.of h1)
    obtain ⟨as, hr, _⟩ := Rep.readsAll I ds _ its h3 rv
    exact ⟨_, Reads.list ho hc hd hr, fun z => by simp only [noList, Bool.false_eq_true] at z⟩
  | .tuple ds, _, _, h, r => by
    simp only [Rep] at h
    obtain ⟨a, xs, rfl, h1, h3⟩ := h
    cases r
    obtain ⟨its, rv, ⟨o, ho, hc, n, hd⟩, _⟩ := I.tuple h1
    obtain ⟨as, hr, hn⟩ := Rep.readsAll I ds _ its h3 rv
    exact ⟨_, Reads.tuple ho hc hd hr, fun z => hn (by simpa only [noList] using z)⟩
  | .dict kvs, _, _, h, r => by
    simp only [Rep] at h
    obtain ⟨a, es, rfl, h1, h2, h3⟩ := h
    cases r
    obtain ⟨_, ns, vs, rv, o, ents, ep, ho, hx, hd, _, hp, _⟩ := dk_of I.hok h1
    obtain ⟨bs, r1, r2, hn⟩ := Rep.readsKv I kvs es vs ents.toList h3 rv hp
    refine ⟨_, Reads.dict ho hx.1 hd r1 r2, fun z b hb => ?_⟩
    rcases List.mem_cons.mp hb with hb | hb
    · rw [hb]; exact ns
    · exact hn (by simpa only [noList] using z) b hb
theorem Rep.readsAll (I : Inv X pins σ H s) : ∀ (ds : List PyData) (vs : List V) (us : List Value), RepAll X.K H ok ds vs → Vals vs us → ∃ as, ReadsAll s.heap us ds as ∧ (noListAll ds = true → ∀ a ∈ as, (a == sysModules) = false)
  | [], _, _, h, r => by
    simp only [RepAll] at h
    subst h
    cases r
    exact ⟨_, ReadsAll.nil, fun _ a ha => by cases ha⟩
  | d :: ds, _, _, h, r => by
    simp only [RepAll] at h
    obtain ⟨x, xs, rfl, h1, h2⟩ := h
    cases r with
    | cons r1 r2 =>
      obtain ⟨as, q1, n1⟩ := Rep.reads I d _ _ h1 r1
      obtain ⟨bs, q2, n2⟩ := Rep.readsAll I ds _ _ h2 r2
      refine ⟨_, ReadsAll.cons q1 q2, fun z a ha => ?_⟩
      simp only [noListAll, Bool.and_eq_true] at z
      rcases List.mem_append.mp ha with ha | ha
      · exact n1 z.1 a ha
      · exact n2 z.2 a ha
theorem Rep.readsKv (I : Inv X pins σ H s) : ∀ (kvs : List (PyData × PyData)) (es : List (Key × V)) (vs : List (Key × Value)) (ents : List DictEntry), RepKv X.K H ok kvs es → KV es vs → Pairs (mixKind X.prog X.w) ents vs →
    ∃ bs, ReadsAll s.heap (ents.map (·.key)) (kvs.map (·.1)) [] ∧ ReadsAll s.heap (ents.map (·.val)) (kvs.map (·.2)) bs ∧ (noListKv kvs = true → ∀ a ∈ bs, (a == sysModules) = false)
  | [], _, _, _, h, r, p => by
    simp only [RepKv] at h
    subst h
    cases r
    cases p
    exact ⟨[], ReadsAll.nil, ReadsAll.nil, fun _ a ha => by cases ha⟩
  | (k, d) :: r, _, _, _, h, rv, p => by
    simp only [RepKv] at h
    obtain ⟨e, es', rfl, h1, h2, h3⟩ := h
    cases rv with
    | cons rv1 rv2 =>
      cases p with
      | cons p1 p2 p3 =>
        obtain ⟨as, q1, n1⟩ := Rep.reads I d _ _ h2 rv1.2
        obtain ⟨bs, q2, q3, n2⟩ := Rep.readsKv I r _ _ _ h3 rv2 p3
        have pk := pair_key (h := s.heap) h1 (by rw [rv1.1]; exact p1)
        refine ⟨as ++ bs, ReadsAll.cons (as := []) pk q2, ReadsAll.cons (show Reads s.heap (DictEntry.val _) d as by rw [p2]; exact q1) q3, fun z a ha => ?_⟩
        simp only [noListKv, Bool.and_eq_true] at z
        rcases List.mem_append.mp ha with ha | ha
        · exact n1 z.1 a ha
        · exact n2 z.2 a ha
end
end
def okRepr (d : PyData) : Bool := d.showable && decide (d.depth ≤ 60) && decide (d.shown.length ≤ lim) && (!d.hasDict || noList d)
def reprG : List D → Store → Option D
  | [.p d], _ => if okRepr d = true then some (.p (.str d.shown)) else none
  | _, _ => none
section
variable {X : Cx}
theorem RepD.pre {K : PySem.W.Frag} {ph : List Addr} {Ex : Addr → Prop} {H : Hp} {d : PyData} {v : V} (h : RepP K ph Ex H (.p d) v) : Rep K H (fun _ => True) d v := by
  have w : ∀ a : Addr, okx ph Ex a → True := fun _ _ => trivial
  have mo : ∀ (d : PyData) (v : V), Rep K H (okx ph Ex) d v → Rep K H (fun _ => True) d v := Rep.mono (fun a xs e _ => ⟨e, trivial⟩) (fun _ _ h => h) (fun a xs e _ => ⟨e, trivial⟩)
  have moA : ∀ (d : List PyData) (v : List V), RepAll K H (okx ph Ex) d v → RepAll K H (fun _ => True) d v := RepAll.mono (fun a xs e _ => ⟨e, trivial⟩) (fun _ _ h => h) (fun a xs e _ => ⟨e, trivial⟩)
  have moK : ∀ (d : List (PyData × PyData)) (v : List (Key × V)), RepKv K H (okx ph Ex) d v → RepKv K H (fun _ => True) d v := RepKv.mono (fun a xs e _ => ⟨e, trivial⟩) (fun _ _ h => h) (fun a xs e _ => ⟨e, trivial⟩)
  cases d with
  | list ds =>
    obtain ⟨a, xs, e, h1, h2, h3⟩ := h.list_
    simp only [Rep]
    exact ⟨a, xs, e, h1, trivial, moA _ _ h3⟩
  | dict ds =>
    obtain ⟨a, xs, e, h1, h2, h3⟩ := h.dict_
    simp only [Rep]
    exact ⟨a, xs, e, h1, trivial, moK _ _ h3⟩
  | none => exact mo _ _ h
  | bool b => exact mo _ _ h
  | int b => exact mo _ _ h
  | str b => exact mo _ _ h
  | tuple b => exact mo _ _ h
def rReprG (K : PySem.W.Frag) : List V → Hp → VK → Prop := fun xs H Q => ∃ (v : V) (d : PyData), xs = [v] ∧ Rep K H (fun _ => True) d v ∧ okRepr d = true ∧ Q (.str d.shown) H
theorem shown_bool (b : Bool) : (PyData.bool b).shown = (if b = true then Str.ofString "True" else Str.ofString "False") := by cases b <;> rfl
theorem call_reprG (hgd : X.A.guards = some []) (hu : X.A.units + 64 < cLine) : CallR X (.builtin "repr") (rReprG X.K) := by
  intro pins s σ H xs us Q I rv h
  obtain ⟨v, d, rfl, hr, ho, q⟩ := h
  cases rv with
  | cons rx r =>
    cases r
    rename_i u
    unfold okRepr at ho
    simp only [Bool.and_eq_true, decide_eq_true_eq, Bool.or_eq_true, Bool.not_eq_true'] at ho
    obtain ⟨⟨⟨h1, h2⟩, h3⟩, h4⟩ := ho
    have lz := lim_line
    obtain ⟨as, rd, hn⟩ := Rep.reads I d v u hr rx
    have big : ∀ {a : Addr}, u = .ref a → wpAny (model X.prog X.w) X.A (call (.builtin "repr") [u]) (fun u s' => ∃ v H', Inv X pins σ H' s' ∧ RelV v u ∧ Q v H') X.xe s := by
      intro a e
      subst e
      exact repr_of_reads' rd h1 (fun z hm => by
        rcases h4 with h4 | h4
        · rw [h4] at z; cases z
        · have := hn h4 _ hm
          simp at this) hgd (by omega) (fun b o e => e) (fun h' u tk hk => ⟨.str d.shown, H, I.kept (t' := tk) hk, ⟨_, rfl⟩, q⟩) (by omega)
    cases rd with
    | none => exact PySem.P.repr_of_none ⟨.str _, H, I.tok _, ⟨_, rfl⟩, q⟩
    | bool b =>
      refine PySem.P.repr_of_bool ⟨.str _, H, I.tok _, ⟨_, rfl⟩, ?_⟩
      rw [shown_bool] at q
      exact q
    | int i t =>
      simp only [PyData.showable, decide_eq_true_eq] at h1
      exact PySem.P.repr_of_int h1 ⟨.str _, H, I.tok _, ⟨_, rfl⟩, q⟩
    | str x t =>
      simp only [PyData.shown] at h3
      exact PySem.P.repr_of_str (h := ⟨.str _, H, I.tok _, ⟨_, rfl⟩, q⟩) (hsz := by omega)
    | list a1 a2 a3 a4 => exact big rfl
    | tuple a1 a2 a3 a4 => exact big rfl
    | dict a1 a2 a3 a4 a5 => exact big rfl
theorem rl_reprG {K : PySem.W.Frag} : RLok K .e reprG (rReprG K) := by
  intro ph Ex H S ds vs d Q sr dm hp h q
  unfold reprG at h
  split at h
  · rename_i e
    split at h
    · rename_i hc
      cases h
      obtain ⟨v, rfl, hv⟩ := p1 hp
      exact ⟨v, e, rfl, RepD.pre hv, hc, out_sca sr q rfl⟩
    · cases h
  · cases h
variable {ow : Nat → Bool} {a : Expr} {p pos : Pos} {am : AM}
theorem me_reprG (hgd : X.A.guards = some []) (hu : X.A.units + 64 < cLine) (hg : Gl X "repr") (hm : X.mg "repr" = none) (ha : PA X [a] (tAs .p X.K ow am)) (he : starEach [a] X.env = (false, eval a X.env) :: starEach [] X.env := by rfl) (hpl : (backTo pos (starEach [] X.env)).any (·.1) = false := by rfl) :
    PE X (.Call (.Name "repr" p) [a] [] pos) (tG .e X.K ow (eBlt reprG am)) := mk_callB (call_reprG hgd hu) rl_reprG hg hm (by decide +kernel) ha (by decide) (by decide) he hpl
end
theorem v_reprG {S : Store} {d : PyData} (h : okRepr d = true) : reprG [.p d] S = some (.p (.str d.shown)) := by
  show (if _ then _ else _) = _
  rw [if_pos h]
end Mi
namespace Lw
open PySem PySem.Spec PyProof.Rows L2 Mi
/-! ### what may be shown; b: no list stands in it, else no dict -/
structure Shw (b : Bool) (W n : Nat) (d : PyData) : Prop where
  s : d.showable = true
  w : d.shown.length ≤ W
  n : d.depth ≤ n
  k : PyData.strOk d.shown = true
  l : (if b = true then noList d else !d.hasDict) = true
theorem Shw.mono {b : Bool} {W n W' n' : Nat} {d : PyData} (h : Shw b W n d) (a : W ≤ W') (c : n ≤ n') : Shw b W' n' d := ⟨h.s, Nat.le_trans h.w a, Nat.le_trans h.n c, h.k, h.l⟩
theorem Shw.ok {b : Bool} {W n : Nat} {d : PyData} (h : Shw b W n d) (a : W ≤ 1000000) (c : n ≤ 60) : okRepr d = true := by
  have h1 := h.w
  have h2 := h.n
  have h3 := h.l
  have l : lim = 1000000 := rfl
  unfold okRepr
  simp only [Bool.and_eq_true, decide_eq_true_eq, Bool.or_eq_true]
  refine ⟨⟨⟨h.s, by omega⟩, by omega⟩, ?_⟩
  cases b with
  | true => exact .inr h3
  | false => exact .inl h3
theorem Shw.repr {b : Bool} {W n : Nat} {d : PyData} (h : Shw b W n d) (a : W ≤ 1000000) (c : n ≤ 60) (S : Store) : reprG [.p d] S = some (.p (.str d.shown)) := v_reprG (h.ok a c)
theorem Shw.ne {b : Bool} {W n : Nat} {d : PyData} (h : Shw b W n d) : neF (.p (.str d.shown)) (.p (.str d.shown)) = some false := str_ne h.k
theorem shw_all {b : Bool} {W n : Nat} : ∀ ds : List PyData, (∀ d ∈ ds, Shw b W n d) → PyData.showableAll ds = true ∧ ((PyData.shownAll ds).map (·.length)).sum + 2 * (PyData.shownAll ds).length ≤ (W + 2) * ds.length ∧ PyData.depthAll ds ≤ n ∧ (∀ t ∈ PyData.shownAll ds, PyData.strOk t = true) ∧ (if b = true then noListAll ds else !PyData.hasDictAll ds) = true
  | [], _ => ⟨rfl, by simp [PyData.shownAll], Nat.zero_le _, fun t ht => by simp [PyData.shownAll] at ht, by cases b <;> rfl⟩
  | d :: ds, h => by
    obtain ⟨h1, h2, h3, h4, h5⟩ := shw_all ds fun x hx => h x (List.mem_cons_of_mem _ hx)
    have g := h d List.mem_cons_self
    have gw := g.w
    have gn := g.n
    refine ⟨by simp only [PyData.showableAll, g.s, h1, Bool.and_self], ?_, by simp only [PyData.depthAll]; omega, fun t ht => ?_, ?_⟩
    · simp only [PyData.shownAll, List.map_cons, List.sum_cons, List.length_cons, Nat.mul_succ]
      omega
    · simp only [PyData.shownAll, List.mem_cons] at ht
      rcases ht with ht | ht
      · rw [ht]; exact g.k
      · exact h4 t ht
    · have gl := g.l
      cases b with
      | true =>
        have gl : noList d = true := gl
        have h5 : noListAll ds = true := h5
        show (noList d && noListAll ds) = true
        rw [gl, h5]
        rfl
      | false =>
        have gl : (!d.hasDict) = true := gl
        have h5 : (!PyData.hasDictAll ds) = true := h5
        show (!PyData.hasDictAll (d :: ds)) = true
        simp only [PyData.hasDictAll]
        simp only [Bool.not_eq_true'] at gl h5
        rw [gl, h5]
        rfl
theorem Shw.tup {b : Bool} {W n : Nat} {ds : List PyData} (h : ∀ d ∈ ds, Shw b W n d) : Shw b ((W + 2) * ds.length + 3) (n + 1) (.tuple ds) := by
  obtain ⟨h1, h2, h3, h4, h5⟩ := shw_all ds h
  have hz := tupleText_len_le (PyData.shownAll ds)
  refine ⟨by simpa only [PyData.showable] using h1, ?_, by simp only [PyData.depth]; omega, by simp only [PyData.shown]; exact sok_tup _ h4, ?_⟩
  · simp only [PyData.shown]; omega
  · cases b with
    | true => exact h5
    | false =>
      show (!(PyData.tuple ds).hasDict) = true
      simp only [PyData.hasDict]
      exact h5
theorem Shw.list {W n : Nat} {ds : List PyData} (h : ∀ d ∈ ds, Shw false W n d) : Shw false ((W + 2) * ds.length + 3) (n + 1) (.list ds) := by
  obtain ⟨h1, h2, h3, h4, h5⟩ := shw_all ds h
  have hz := listText_len_le (PyData.shownAll ds)
  refine ⟨by simpa only [PyData.showable] using h1, ?_, by simp only [PyData.depth]; omega, by simp only [PyData.shown]; exact sok_lst _ h4, ?_⟩
  · simp only [PyData.shown]; omega
  · show (!(PyData.list ds).hasDict) = true
    simp only [PyData.hasDict]
    exact h5
theorem Tm.shw {W n : Nat} {d : PyData} (h : Tm W n d) : Shw false W n d := by
  obtain ⟨h1, h2, h3⟩ := tame_of d h.t
  refine ⟨h2, Nat.le_trans h3 h.w, by rw [depth_dep d h.t]; exact h.d, sok_shown d h.t, ?_⟩
  show (!d.hasDict) = true
  rw [noDict d h1]
  rfl
theorem Tm.shwT {W n : Nat} {d : PyData} (h : Tm W n d) (hl : noList d = true) : Shw true W n d := by
  have g := h.shw
  exact ⟨g.s, g.w, g.n, g.k, hl⟩
theorem Shw.tup2 {b : Bool} {W n : Nat} {x y : PyData} (hx : Shw b W n x) (hy : Shw b W n y) : Shw b (2 * W + 7) (n + 1) (.tuple [x, y]) := by
  refine (Shw.tup (W := W) (n := n) (ds := [x, y]) fun d hd => ?_).mono (by simp only [List.length_cons, List.length_nil]; omega) (Nat.le_refl _)
  simp only [List.mem_cons, List.not_mem_nil, or_false] at hd
  rcases hd with rfl | rfl
  · exact hx
  · exact hy
end Lw

namespace Lw
open PySem PySem.Spec PyProof.Rows L2 Mi
/-! ### what comes again and again -/
section
variable {α : Type} {f : Int → α} {a b n m M A p : Int}
def Per (f : Int → α) (a n : Int) : Prop := ∀ t, a ≤ t → f (t + n) = f t
theorem Per.up (h : Per f a n) (e : a ≤ b) : Per f b n := fun t ht => h t (by omega)
theorem Per.mul (h : Per f a n) (h0 : 0 ≤ n) : ∀ k : Nat, Per f a ((k : Int) * n)
  | 0 => fun t ht => by simp
  | k + 1 => fun t ht => by
    have ih := Per.mul h h0 k
    have kn : 0 ≤ (k : Int) * n := Int.mul_nonneg (by omega) h0
    have e : t + ((k + 1 : Nat) : Int) * n = (t + (k : Int) * n) + n := by
      rw [show ((k + 1 : Nat) : Int) = (k : Int) + 1 by omega, Int.add_mul, Int.one_mul]
      omega
    rw [e, h _ (by omega), ih t ht]
theorem Per.of_dvd (h : Per f a n) (h0 : 0 < n) (hm : 0 ≤ m) (d : n ∣ m) : Per f a m := by
  obtain ⟨k, rfl⟩ := d
  have hk : 0 ≤ k := by
    rcases Int.lt_or_le k 0 with hk | hk
    · have := Int.mul_neg_of_pos_of_neg h0 hk
      omega
    · exact hk
  have := h.mul (by omega) k.toNat
  rw [show ((k.toNat : Nat) : Int) = k by omega, Int.mul_comm] at this
  exact this
/-- far on is enough -/
theorem Per.down (h : Per f A M) (hM : 0 < M) (g : Per f b n) (hn : 0 ≤ n) : Per f A n := fun t ht => by
  have hk := h.mul (by omega) (b - A).natAbs
  have big : b ≤ t + ((b - A).natAbs : Int) * M := by
    have : ((b - A).natAbs : Int) * 1 ≤ ((b - A).natAbs : Int) * M := Int.mul_le_mul_of_nonneg_left (by omega) (by omega)
    omega
  have e := g _ big
  rw [hk t ht, show t + ((b - A).natAbs : Int) * M + n = (t + n) + ((b - A).natAbs : Int) * M by omega, hk (t + n) (by omega)] at e
  exact e
/-- so many and so many: so many as divides both -/
theorem Per.gcd : ∀ (n m : Nat), Per f a (n : Int) → Per f a (m : Int) → Per f a ((Nat.gcd n m : Nat) : Int) := by
  intro n
  induction n using Nat.strongRecOn with
  | ind n ih =>
    intro m hn hm
    by_cases h0 : n = 0
    · subst h0
      rw [Nat.gcd_zero_left]
      exact hm
    · rw [Nat.gcd_rec]
      refine ih (m % n) (Nat.mod_lt _ (by omega)) n (fun t ht => ?_) hn
      have hk := hn.mul (by omega) (m / n)
      have e : (m : Int) = ((m % n : Nat) : Int) + ((m / n : Nat) : Int) * (n : Int) := by
        have := Nat.mod_add_div m n
        rw [Nat.mul_comm] at this
        have h2 : ((m % n + m / n * n : Nat) : Int) = (m : Int) := by rw [this]
        rw [← h2, Int.natCast_add, Int.natCast_mul]
      have h1 := hm t ht
      rw [e, ← Int.add_assoc, hk _ (by omega)] at h1
      exact h1
/-- the least of those that divide -/
structure Least (f : Int → α) (A M p : Int) : Prop where
  pos : 1 ≤ p
  dvd : p ∣ M
  per : Per f A p
  least : ∀ q : Int, 1 ≤ q → q ∣ M → Per f A q → p ≤ q
theorem gcd_dvd_l (x y : Int) : ((Nat.gcd x.natAbs y.natAbs : Nat) : Int) ∣ x := Int.ofNat_dvd_left.mpr (Nat.gcd_dvd_left ..)
theorem gcd_dvd_r (x y : Int) : ((Nat.gcd x.natAbs y.natAbs : Nat) : Int) ∣ y := Int.ofNat_dvd_left.mpr (Nat.gcd_dvd_right ..)
theorem Per.gcdI {x y : Int} (hx : Per f a x) (hy : Per f a y) (x0 : 0 ≤ x) (y0 : 0 ≤ y) : Per f a ((Nat.gcd x.natAbs y.natAbs : Nat) : Int) := by
  refine Per.gcd x.natAbs y.natAbs ?_ ?_
  · rw [show ((x.natAbs : Nat) : Int) = x by omega]; exact hx
  · rw [show ((y.natAbs : Nat) : Int) = y by omega]; exact hy
theorem Least.all (L : Least f A M p) (hM : 0 < M) (hp : Per f A M) (g : Per f b n) (hn : 0 < n) : p ∣ n := by
  have gA := hp.down hM g (by omega)
  have g1 := gA.gcdI hp (by omega) (by omega)
  have g2 := g1.gcdI L.per (by omega) (by have := L.pos; omega)
  have pos2 : 0 < ((Nat.gcd (((Nat.gcd n.natAbs M.natAbs : Nat) : Int)).natAbs p.natAbs : Nat) : Int) := by
    have := Nat.gcd_pos_of_pos_right (((Nat.gcd n.natAbs M.natAbs : Nat) : Int)).natAbs (show 0 < p.natAbs by have := L.pos; omega)
    omega
  have d2 := gcd_dvd_r ((Nat.gcd n.natAbs M.natAbs : Nat) : Int) p
  have d1 := gcd_dvd_l ((Nat.gcd n.natAbs M.natAbs : Nat) : Int) p
  have d0 := gcd_dvd_l n M
  generalize ((Nat.gcd (((Nat.gcd n.natAbs M.natAbs : Nat) : Int)).natAbs p.natAbs : Nat) : Int) = q at *
  have le := L.least q (by omega) (Int.dvd_trans d2 L.dvd) g2
  have eq : q = p := Int.le_antisymm (Int.le_of_dvd (by have := L.pos; omega) d2) le
  rw [← eq]
  exact Int.dvd_trans d1 d0
/-- the round with the least ahead, of these the one with the least many -/
structure Rnd (f : Int → α) (a p : Int) : Prop where
  a0 : 0 ≤ a
  p1 : 1 ≤ p
  per : Per f a p
  all : ∀ b n : Int, 0 ≤ b → 1 ≤ n → Per f b n → a ≤ b ∧ p ∣ n
theorem Rnd.iff (R : Rnd f a p) (h0 : 0 ≤ b) (h1 : 1 ≤ n) : Per f b n ↔ a ≤ b ∧ p ∣ n :=
  ⟨R.all b n h0 h1, fun h => (R.per.of_dvd (by have := R.p1; omega) (by omega) h.2).up h.1⟩
theorem Rnd.eq {a' p' : Int} (R : Rnd f a p) (R' : Rnd f a' p') : a = a' ∧ p = p' := by
  obtain ⟨h1, h2⟩ := R.all a' p' R'.a0 R'.p1 R'.per
  obtain ⟨h3, h4⟩ := R'.all a p R.a0 R.p1 R.per
  have q1 := R.p1
  have q2 := R'.p1
  have := Int.le_of_dvd (by omega) h2
  have := Int.le_of_dvd (by omega) h4
  exact ⟨by omega, by omega⟩
theorem Rnd.of (L : Least f A M p) (hM : 0 < M) (hp : Per f A M) (a0 : 0 ≤ a) (per : Per f a p) (last : a = 0 ∨ f (a - 1) ≠ f (a - 1 + p)) : Rnd f a p := by
  have p1 := L.pos
  refine ⟨a0, p1, per, fun b n hb hn h => ?_⟩
  have dv := L.all hM hp h (by omega)
  refine ⟨?_, dv⟩
  rcases Int.lt_or_le b a with lt | le
  · rcases last with z | ne
    · omega
    · refine absurd ?_ ne
      have e1 := h (a - 1) (by omega)
      obtain ⟨k, rfl⟩ := dv
      have hk : 1 ≤ k := by
        rcases Int.lt_or_le 0 k with hk | hk
        · exact hk
        · have := Int.mul_nonpos_of_nonneg_of_nonpos (show 0 ≤ p by omega) hk
          omega
      have e2 := (per.mul (by omega) (k - 1).toNat) (a - 1 + p) (by omega)
      rw [show (((k - 1).toNat : Nat) : Int) = k - 1 by omega] at e2
      have e3 : a - 1 + p + (k - 1) * p = a - 1 + p * k := by
        rw [Int.sub_mul, Int.one_mul, Int.mul_comm]
        omega
      rw [e3, e1] at e2
      exact e2
  · exact le
end
/-! ### of a layer -/
def ahd (l : Lay) : Int := match l.back with
  | none => holds l.rows
  | some b => aheadL l b
theorem ahd_nn {l : Lay} (ok : LayOk l) : 0 ≤ ahd l := by
  unfold ahd
  cases l.back with
  | none => exact holds_nn ok.rows
  | some b => exact holds_nn (RowsOk.take ok.rows _)
theorem whole_eq {l : Lay} (ok : LayOk l) : (∃ b, l.back = some b ∧ holds l.rows = ahd l + sizeL l) ∨ (l.back = none ∧ holds l.rows = ahd l) := by
  unfold ahd sizeL
  cases hb : l.back with
  | none => exact .inr ⟨rfl, rfl⟩
  | some b => exact .inl ⟨b, rfl, by simp only; omega⟩
theorem ahd_le {l : Lay} (ok : LayOk l) : ahd l ≤ holds l.rows := by
  have := size_pos ok
  rcases whole_eq ok with ⟨b, _, h⟩ | ⟨_, h⟩ <;> omega
theorem size_le {l : Lay} (ok : LayOk l) : sizeL l ≤ 192 := by
  have h1 := holds_le ok.rows
  have h2 := ok.len
  have h3 := ahd_nn ok
  rcases whole_eq ok with ⟨b, _, h⟩ | ⟨hb, h⟩
  · omega
  · unfold sizeL
    rw [hb]
    show (1 : Int) ≤ 192
    decide
theorem holds_192 {l : Lay} (ok : LayOk l) : holds l.rows ≤ 192 := by
  have h1 := holds_le ok.rows
  have h2 := ok.len
  omega
theorem dAt_per {l : Lay} (ok : LayOk l) : Per (dAt l) (ahd l) (sizeL l) := by
  intro t ht
  have sp := size_pos ok
  rcases whole_eq ok with ⟨b, hb, h⟩ | ⟨hb, h⟩
  · have ea : ahd l = aheadL l b := by unfold ahd; rw [hb]
    have es : holds l.rows - aheadL l b = sizeL l := by rw [← ea]; omega
    have key : ∀ s, ahd l ≤ s → dAt l s = walkR l.rows (ahd l + (s - ahd l) % sizeL l) := fun s hs => by
      unfold dAt
      rw [hb]
      show (if _ then _ else _) = _
      by_cases hw : s < holds l.rows
      · rw [if_pos hw, Int.emod_eq_of_lt (by omega) (by omega)]
        congr 1
        omega
      · rw [if_neg hw, es, ea]
    rw [key _ (by omega), key _ ht]
    congr 2
    rw [show t + sizeL l - ahd l = (t - ahd l) + sizeL l * 1 by omega, Int.add_mul_emod_self_left]
  · have e : ∀ s, ahd l ≤ s → dAt l s = 0 := fun s hs => by
      unfold dAt
      rw [hb]
      exact walk_end ok.rows (by omega)
    rw [e _ (by omega), e _ ht]
theorem exists_least (q : Nat → Bool) : ∀ n : Nat, q n = true → ∃ i, i ≤ n ∧ q i = true ∧ ∀ j, j < i → q j = false := by
  intro n
  induction n using Nat.strongRecOn with
  | ind n ih =>
    intro h
    by_cases hx : ∃ j, j < n ∧ q j = true
    · obtain ⟨j, hj, hq⟩ := hx
      obtain ⟨i, h1, h2, h3⟩ := ih j hj hq
      exact ⟨i, by omega, h2, h3⟩
    · refine ⟨n, Nat.le_refl _, h, fun j hj => ?_⟩
      cases e : q j with
      | false => rfl
      | true => exact absurd ⟨j, hj, e⟩ hx
/-! lists of ints compared -/
theorem canLay_ints : ∀ xs : List Int, PyData.canLayAll0 (xs.map PyData.int) = true
  | [] => rfl
  | x :: r => by
    rw [List.map_cons]
    simp only [PyData.canLayAll0, PyData.canLay0, canLay_ints r, Bool.and_self]
theorem depth_ints : ∀ xs : List Int, PyData.depthAll (xs.map PyData.int) = 0
  | [] => rfl
  | x :: r => by
    rw [List.map_cons]
    simp only [PyData.depthAll, PyData.depth, depth_ints r]
    rfl
theorem eqv_ints : ∀ xs ys : List Int, PyData.eqvAll (xs.map PyData.int) (ys.map PyData.int) = decide (xs = ys)
  | [], [] => rfl
  | [], y :: ys => rfl
  | x :: xs, [] => rfl
  | x :: xs, y :: ys => by
    rw [List.map_cons, List.map_cons]
    simp only [PyData.eqvAll, PyData.eqv, eqv_ints xs ys]
    by_cases h : x = y
    · subst h
      simp
    · simp [h]
theorem eq_ints (xs ys : List Int) : eqF (.p (.list (xs.map PyData.int))) (.p (.list (ys.map PyData.int))) = some (decide (xs = ys)) := by
  have sh : ∀ zs : List Int, SeqAt.shaped (.list (zs.map PyData.int)) = true := fun zs => by
    unfold SeqAt.shaped
    rw [Bool.and_eq_true, decide_eq_true_eq]
    exact ⟨by simpa only [PyData.canLay0] using canLay_ints zs, by simp only [PyData.depth, depth_ints]; omega⟩
  rw [Mi.v_eq, if_pos ⟨sh xs, sh ys⟩]
  simp only [PyData.eqv, eqv_ints]
/-- turned by so many -/
theorem rot_iff {l : Lay} {A M p : Int} (hp : Per (dAt l) A M) (hM : 0 < M) (p1 : 1 ≤ p) (pM : p ≤ M) :
    let xs := (List.range M.toNat).map fun i : Nat => dAt l (A + (i : Int))
    (xs = xs.drop p.toNat ++ xs.take p.toNat) ↔ Per (dAt l) A p := by
  intro xs
  have len : xs.length = M.toNat := by simp [xs]
  have get : ∀ i : Nat, i < M.toNat → xs[i]? = some (dAt l (A + (i : Int))) := fun i hi => by
    show ((List.range M.toNat).map _)[i]? = _
    rw [List.getElem?_map, List.getElem?_range hi]
    rfl
  -- what stands at i of the turned one
  have turned : ∀ i : Nat, i < M.toNat → (xs.drop p.toNat ++ xs.take p.toNat)[i]? = some (dAt l (A + (i : Int) + p)) := fun i hi => by
    by_cases h : i < M.toNat - p.toNat
    · rw [List.getElem?_append_left (by rw [List.length_drop, len]; exact h), List.getElem?_drop, get _ (by omega)]
      congr 2
      omega
    · rw [List.getElem?_append_right (by rw [List.length_drop, len]; omega), List.length_drop, len, List.getElem?_take, if_pos (by omega), get _ (by omega)]
      have := hp (A + ((i - (M.toNat - p.toNat) : Nat) : Int)) (by omega)
      rw [← this]
      congr 2
      omega
  have len2 : (xs.drop p.toNat ++ xs.take p.toNat).length = M.toNat := by
    rw [List.length_append, List.length_drop, List.length_take, len]
    omega
  constructor
  · intro e t ht
    -- t by the round
    have h0 := Int.emod_nonneg (t - A) (show M ≠ 0 by omega)
    have h1 := Int.emod_lt_of_pos (t - A) hM
    have hi : ((t - A) % M).toNat < M.toNat := by omega
    have ei : ((((t - A) % M).toNat : Nat) : Int) = (t - A) % M := by omega
    have g1 := get _ hi
    rw [e, turned _ hi, ei] at g1
    have g2 : dAt l (A + (t - A) % M + p) = dAt l (A + (t - A) % M) := Option.some.inj g1
    have hd := Int.emod_add_mul_ediv (t - A) M
    have hq : 0 ≤ (t - A) / M := Int.ediv_nonneg (by omega) (by omega)
    have k := hp.mul (by omega) ((t - A) / M).toNat
    rw [show ((((t - A) / M).toNat : Nat) : Int) = (t - A) / M by omega, Int.mul_comm] at k
    have k1 := k (A + (t - A) % M) (by omega)
    have k2 := k (A + (t - A) % M + p) (by omega)
    rw [show A + (t - A) % M + M * ((t - A) / M) = t by omega] at k1
    rw [show A + (t - A) % M + p + M * ((t - A) / M) = t + p by omega] at k2
    rw [k1, k2, g2]
  · intro h
    refine List.ext_getElem? fun i => ?_
    by_cases hi : i < M.toNat
    · rw [get i hi, turned i hi, h _ (by omega)]
    · rw [List.getElem?_eq_none (by rw [len]; omega), List.getElem?_eq_none (by rw [len2]; omega)]
end Lw
namespace Lw
open PySem PySem.Spec PyProof.Rows L2 Mi
theorem cut_fromI {α : Type} (xs : List α) {b : Int} (h : 0 ≤ b) : cutG xs (some b) none = xs.drop b.toNat := by
  have := cut_from xs b.toNat
  rw [show ((b.toNat : Nat) : Int) = b by omega] at this
  exact this
theorem holds_split (rows : List Row) (n : Nat) : holds (rows.drop n) = holds rows - holds (rows.take n) := by
  have e : holds rows = holds (rows.take n) + holds (rows.drop n) := by
    unfold holds
    rw [← List.sum_append, ← List.map_append, List.take_append_drop]
  omega
def tailL (l : Lay) : List Int := (List.range (sizeL l).toNat).map fun i : Nat => dAt l (ahd l + (i : Int))
theorem tailL_len {l : Lay} : (tailL l).length = (sizeL l).toNat := by unfold tailL; rw [List.length_map, List.length_range]
open Classical in
/-- what a thing is asked for -/
noncomputable def goodR (l : Lay) : PyData → Bool
  | .tuple [.int a, .int n] => decide (0 ≤ a ∧ 1 ≤ n ∧ Per (dAt l) a n)
  | _ => false
theorem goodR_no {l : Lay} {d : PyData} (h : ∀ a n, d ≠ .tuple [.int a, .int n]) : goodR l d = false := by
  unfold goodR
  split
  · exact absurd rfl (h _ _)
  · rfl
end Lw
namespace Lw
open PySem PySem.Spec PyProof.Rows L2 Mi
/-- a loop that looks for what is not as it should be -/
theorem forL_search {p : Pt} {m : SM} {S : Store} {v : D} (I : Mi.Env → Prop) (q : D → Bool) : ∀ (ds : List D) (ro : Mi.Env), I ro →
    (∀ d ∈ ds, ∀ ro, I ro → ∃ ro1, bindP p d ro = some ro1 ∧ (q d = true → ∃ ro2, m ro1 S = .ok (.nx ro2) S ∧ I ro2) ∧ (q d = false → m ro1 S = .ok (.rt v) S)) →
    (ds.all q = true ∧ ∃ ro', forL p m ds ro S = .ok (.nx ro') S ∧ I ro') ∨ (ds.all q = false ∧ forL p m ds ro S = .ok (.rt v) S)
  | [], ro, h, _ => .inl ⟨rfl, ro, rfl, h⟩
  | d :: r, ro, h, st => by
    obtain ⟨ro1, e1, h1, h2⟩ := st d List.mem_cons_self ro h
    rw [forL_cons e1, List.all_cons]
    cases hq : q d with
    | false =>
      refine .inr ⟨rfl, ?_⟩
      rw [h2 hq, bind_k, kForT_rt]
    | true =>
      obtain ⟨ro2, e2, hI⟩ := h1 hq
      rw [e2, bind_k, kForT_nx, Bool.true_and]
      exact forL_search I q r ro2 hI fun d hd => st d (List.mem_cons_of_mem _ hd)
theorem near_reach {l : Lay} (ok : LayOk l) {a n : Int} (a0 : 0 ≤ a) (n1 : 1 ≤ n) : (∀ t, min a (holds l.rows) ≤ t → t < holds l.rows + sizeL l + 1 → dAt l (t + n) = dAt l t) ↔ Per (dAt l) a n := by
  have sp := size_pos ok
  have hp := dAt_per ok
  have al := ahd_le ok
  constructor
  · intro h
    have hT : Per (dAt l) (min a (holds l.rows)) n := fun t ht => by
      by_cases hw : t < holds l.rows + sizeL l + 1
      · exact h t ht hw
      · have e0 := Int.emod_nonneg (t - holds l.rows) (show sizeL l ≠ 0 by omega)
        have e1 := Int.emod_lt_of_pos (t - holds l.rows) sp
        have hd := Int.emod_add_mul_ediv (t - holds l.rows) (sizeL l)
        have hq : 0 ≤ (t - holds l.rows) / sizeL l := Int.ediv_nonneg (by omega) (by omega)
        have k := hp.mul (by omega) ((t - holds l.rows) / sizeL l).toNat
        rw [show ((((t - holds l.rows) / sizeL l).toNat : Nat) : Int) = (t - holds l.rows) / sizeL l by omega, Int.mul_comm] at k
        have k1 := k (holds l.rows + (t - holds l.rows) % sizeL l) (by omega)
        have k2 := k (holds l.rows + (t - holds l.rows) % sizeL l + n) (by omega)
        rw [show holds l.rows + (t - holds l.rows) % sizeL l + sizeL l * ((t - holds l.rows) / sizeL l) = t by omega] at k1
        rw [show holds l.rows + (t - holds l.rows) % sizeL l + n + sizeL l * ((t - holds l.rows) / sizeL l) = t + n by omega] at k2
        rw [k1, k2, h _ (by omega) (by omega)]
    exact hT.up (by omega)
  · intro h t ht _
    by_cases hw : a ≤ holds l.rows
    · exact h t (by omega)
    · exact (hp.down sp h (by omega)) t (by omega)
end Lw

namespace Lw
open PySem PySem.Spec PyProof.Rows L2 Mi
/-! ### == of values without truths is being the same -/
mutual
def nob : PyData → Bool
  | .bool _ => false
  | .dict _ => false
  | .list xs => nobAll xs
  | .tuple xs => nobAll xs
  | _ => true
def nobAll : List PyData → Bool
  | [] => true
  | x :: xs => nob x && nobAll xs
end
mutual
theorem eqv_eq : ∀ (a b : PyData), nob a = true → nob b = true → PyData.eqv a b = true → a = b
  | .none, b, _, _, h => by cases b <;> simp [PyData.eqv] at h ⊢
  | .bool _, _, h, _, _ => by simp [nob] at h
  | .dict _, _, h, _, _ => by simp [nob] at h
  | .int i, b, _, hb, h => by
    cases b <;> simp [PyData.eqv, nob] at h hb ⊢
    exact h
  | .str i, b, _, hb, h => by
    cases b <;> simp [PyData.eqv, nob] at h hb ⊢
    exact h
  | .list xs, b, ha, hb, h => by
    cases b with
    | list ys => exact congrArg _ (eqvAll_eq xs ys (by simpa only [nob] using ha) (by simpa only [nob] using hb) (by simpa only [PyData.eqv] using h))
    | _ => simp [PyData.eqv] at h
  | .tuple xs, b, ha, hb, h => by
    cases b with
    | tuple ys => exact congrArg _ (eqvAll_eq xs ys (by simpa only [nob] using ha) (by simpa only [nob] using hb) (by simpa only [PyData.eqv] using h))
    | _ => simp [PyData.eqv] at h
theorem eqvAll_eq : ∀ (xs ys : List PyData), nobAll xs = true → nobAll ys = true → PyData.eqvAll xs ys = true → xs = ys
  | [], [], _, _, _ => rfl
  | [], _ :: _, _, _, h => by simp [PyData.eqvAll] at h
  | _ :: _, [], _, _, h => by simp [PyData.eqvAll] at h
  | x :: xs, y :: ys, ha, hb, h => by
    simp only [nobAll, Bool.and_eq_true] at ha hb
    simp only [PyData.eqvAll, Bool.and_eq_true] at h
    rw [eqv_eq x y ha.1 hb.1 h.1, eqvAll_eq xs ys ha.2 hb.2 h.2]
end
theorem tm_shaped {W n : Nat} {d : PyData} (h : Tm W n d) (hn : n ≤ 60) : SeqAt.shaped d = true := by
  unfold SeqAt.shaped
  rw [Bool.and_eq_true, decide_eq_true_eq, depth_dep d h.t]
  have := h.d
  exact ⟨(tame_of d h.t).1, by omega⟩
theorem eq_same {W n : Nat} {d : PyData} (h : Tm W n d) (hn : n ≤ 60) : eqF (.p d) (.p d) = some true := by
  have s := tm_shaped h hn
  rw [Mi.v_eq, if_pos ⟨s, s⟩, SeqAt.eqv_refl d (tame_of d h.t).1]
theorem eq_diff {W n : Nat} {d e : PyData} (hd : Tm W n d) (he : Tm W n e) (hn : n ≤ 60) (nd : nob d = true) (ne : nob e = true) (h : d ≠ e) : eqF (.p d) (.p e) = some false := by
  rw [Mi.v_eq, if_pos ⟨tm_shaped hd hn, tm_shaped he hn⟩]
  congr 1
  cases hq : PyData.eqv d e with
  | false => rfl
  | true => exact absurd (eqv_eq d e nd ne hq) h
open Classical in
theorem eq_dec {W n : Nat} {d e : PyData} (hd : Tm W n d) (he : Tm W n e) (hn : n ≤ 60) (nd : nob d = true) (ne : nob e = true) : eqF (.p d) (.p e) = some (decide (d = e)) := by
  by_cases h : d = e
  · subst h
    rw [eq_same hd hn, decide_eq_true rfl]
  · rw [eq_diff hd he hn nd ne h, decide_eq_false h]
/-! ### places and pictures compared -/
theorem nob_walk : ∀ (ms : List Mov) (x y m : Int), nob (walkW x y ms m) = true
  | [], _, _, _ => rfl
  | (g, o, n) :: r, x, y, m => by
    unfold walkW
    split
    · rfl
    · exact nob_walk r g o (m - n)
theorem nob_place (w : Win) (m : Int) : nob (placeW w m) = true := nob_walk _ _ _ _
theorem nobAll_ints : ∀ (ls : List Lay) (m : Int), nobAll (ls.map fun l => PyData.int (dAt l m)) = true
  | [], _ => rfl
  | l :: r, m => by simp only [List.map_cons, nobAll, nob, nobAll_ints r m, Bool.and_self]
theorem nob_pic (s : Sht) (m : Int) : nob (picD s m) = true := by
  simp only [picD, nob, nobAll, nobAll_ints, nob_place, Bool.and_self]
theorem tm_place {w : Win} (ok : WinOk w) {m : Int} (h0 : 0 ≤ m) : Tm 1000 2 (placeW w m) := tm_walk ok.ms h0 ok.x ok.y
theorem place_late {w : Win} (ok : WinOk w) {t : Int} (h : wsum w.ms ≤ t) : placeW w t = placeW w (wsum w.ms) := by
  unfold placeW
  rw [walkW_end ok.ms h, walkW_end ok.ms (Int.le_refl _)]
/-- from when on it stands still -/
structure Still (w : Win) (m : Int) : Prop where
  m0 : 0 ≤ m
  m1 : m ≤ wsum w.ms
  still : ∀ t, m ≤ t → placeW w t = placeW w (wsum w.ms)
  last : m = 0 ∨ placeW w (m - 1) ≠ placeW w (wsum w.ms)
theorem Still.eq {w : Win} {m m' : Int} (h : Still w m) (h' : Still w m') : m = m' := by
  rcases Int.lt_trichotomy m m' with lt | e | lt
  · rcases h'.last with z | z
    · have := h.m0; omega
    · exact absurd (h.still _ (by omega)) z
  · exact e
  · rcases h.last with z | z
    · have := h'.m0; omega
    · exact absurd (h'.still _ (by omega)) z
open Classical in
theorem still_ex {w : Win} (ok : WinOk w) : ∃ m, Still w m := by
  have hn := wsum_nn ok.ms
  obtain ⟨i, h1, h2, h3⟩ := exists_least (fun i : Nat => decide (∀ t, (i : Int) ≤ t → placeW w t = placeW w (wsum w.ms))) (wsum w.ms).toNat (decide_eq_true fun t ht => place_late ok (by omega))
  have h2 := of_decide_eq_true h2
  refine ⟨i, by omega, by omega, h2, ?_⟩
  by_cases z : i = 0
  · exact .inl (by omega)
  · refine .inr fun e => ?_
    have := of_decide_eq_false (h3 (i - 1) (by omega))
    refine this fun t ht => ?_
    by_cases hh : t = (i : Int) - 1
    · rw [hh]; exact e
    · exact h2 t (by omega)
open Classical in
noncomputable def stillW (w : Win) : Int := if h : ∃ m, Still w m then h.choose else 0
theorem still_ok {w : Win} (ok : WinOk w) : Still w (stillW w) := by
  have h := still_ex ok
  unfold stillW
  rw [dif_pos h]
  exact h.choose_spec
/-! ### the round of a layer, told -/
open Classical in
theorem rnd_ex {l : Lay} (ok : LayOk l) : ∃ r : Int × Int, Rnd (dAt l) r.1 r.2 ∧ r.1 ≤ ahd l ∧ r.2 ∣ sizeL l := by
  have sp := size_pos ok
  have hp := dAt_per ok
  have an := ahd_nn ok
  obtain ⟨i, hi, hq, hlt⟩ := exists_least (fun i : Nat => decide ((1 + (i : Int)) ∣ sizeL l ∧ Per (dAt l) (ahd l) (1 + (i : Nat)))) ((sizeL l).toNat - 1) (decide_eq_true ⟨by rw [show (1 : Int) + (((sizeL l).toNat - 1 : Nat) : Int) = sizeL l by omega]; exact Int.dvd_refl _, by rw [show (1 : Int) + (((sizeL l).toNat - 1 : Nat) : Int) = sizeL l by omega]; exact hp⟩)
  obtain ⟨dv, pr⟩ := of_decide_eq_true hq
  have L : Least (dAt l) (ahd l) (sizeL l) (1 + (i : Nat)) := ⟨by omega, dv, pr, fun z z1 zd zp => by
    have zl := Int.le_of_dvd sp zd
    rcases Int.lt_or_le z (1 + (i : Nat)) with lt | le
    · refine absurd ?_ (of_decide_eq_false (hlt (z - 1).toNat (by omega)))
      rw [show (1 : Int) + (((z - 1).toNat : Nat) : Int) = z by omega]
      exact ⟨zd, zp⟩
    · exact le⟩
  obtain ⟨a, ha, hqa, hla⟩ := exists_least (fun a : Nat => decide (Per (dAt l) (a : Int) (1 + (i : Nat)))) (ahd l).toNat (decide_eq_true (by rw [show (((ahd l).toNat : Nat) : Int) = ahd l by omega]; exact pr))
  refine ⟨((a : Int), 1 + (i : Nat)), Rnd.of L sp hp (by simp only; omega) (of_decide_eq_true hqa) ?_, by simp only; omega, dv⟩
  by_cases z : a = 0
  · exact .inl (by simp only; omega)
  · refine .inr fun e => ?_
    refine absurd ?_ (of_decide_eq_false (hla (a - 1) (by omega)))
    intro t ht
    by_cases hh : t = (a : Int) - 1
    · rw [hh]; exact e.symm
    · exact of_decide_eq_true hqa t (by omega)
open Classical in
noncomputable def rndL (l : Lay) : Int × Int := if h : ∃ r : Int × Int, Rnd (dAt l) r.1 r.2 ∧ r.1 ≤ ahd l ∧ r.2 ∣ sizeL l then h.choose else (0, 1)
theorem rnd_ok {l : Lay} (ok : LayOk l) : Rnd (dAt l) (rndL l).1 (rndL l).2 ∧ (rndL l).1 ≤ ahd l ∧ (rndL l).2 ∣ sizeL l := by
  have h := rnd_ex ok
  unfold rndL
  rw [dif_pos h]
  exact h.choose_spec
theorem rnd_bd {l : Lay} (ok : LayOk l) : 0 ≤ (rndL l).1 ∧ (rndL l).1 ≤ 192 ∧ 1 ≤ (rndL l).2 ∧ (rndL l).2 ≤ 192 := by
  obtain ⟨R, h1, h2⟩ := rnd_ok ok
  have sp := size_pos ok
  have := Int.le_of_dvd sp h2
  have := size_le ok
  have := ahd_le ok
  have := holds_192 ok
  exact ⟨R.a0, by omega, R.p1, by omega⟩
theorem rnd_is {l : Lay} (ok : LayOk l) {a p : Int} (R : Rnd (dAt l) a p) : rndL l = (a, p) := by
  obtain ⟨h1, h2⟩ := (rnd_ok ok).1.eq R
  rw [← h1, ← h2]
/-! ### the least common many -/
def lcmI (n p : Int) : Int := ((Nat.lcm n.natAbs p.natAbs : Nat) : Int)
theorem lcm_div {n p : Int} (h0 : 0 ≤ n) (h1 : 0 ≤ p) : lcmI n p = n * p / ((Nat.gcd n.natAbs p.natAbs : Nat) : Int) := by
  unfold lcmI Nat.lcm
  rw [Int.natCast_ediv, Int.natCast_mul, show ((n.natAbs : Nat) : Int) = n by omega, show ((p.natAbs : Nat) : Int) = p by omega]
theorem dvd_lcm_l {n p : Int} : n ∣ lcmI n p := Int.ofNat_dvd_right.mpr (Nat.dvd_lcm_left ..)
theorem dvd_lcm_r {n p : Int} : p ∣ lcmI n p := Int.ofNat_dvd_right.mpr (Nat.dvd_lcm_right ..)
theorem lcm_dvd {n p k : Int} (h1 : n ∣ k) (h2 : p ∣ k) : lcmI n p ∣ k := by
  unfold lcmI
  exact Int.ofNat_dvd_left.mpr (Nat.lcm_dvd (Int.natAbs_dvd_natAbs.mpr h1) (Int.natAbs_dvd_natAbs.mpr h2))
theorem lcm_pos {n p : Int} (h0 : 1 ≤ n) (h1 : 1 ≤ p) : 1 ≤ lcmI n p := by
  unfold lcmI
  have := Nat.lcm_pos (m := n.natAbs) (n := p.natAbs) (by omega) (by omega)
  omega
theorem lcm_le {n p : Int} (h0 : 1 ≤ n) (h1 : 1 ≤ p) : lcmI n p ≤ n * p :=
  Int.le_of_dvd (Int.mul_pos (by omega) (by omega)) (lcm_dvd (Int.dvd_mul_right n p) (Int.dvd_mul_left n p))
def lcmAll (m : Int) : List (Int × Int) → Int
  | [] => m
  | r :: rs => lcmAll (lcmI m r.2) rs
theorem lcmAll_ok : ∀ (rs : List (Int × Int)) (m : Int), 1 ≤ m → (∀ r ∈ rs, 1 ≤ r.2) → 1 ≤ lcmAll m rs ∧ m ∣ lcmAll m rs ∧ ∀ r ∈ rs, r.2 ∣ lcmAll m rs
  | [], m, h, _ => ⟨h, Int.dvd_refl m, fun r hr => by cases hr⟩
  | r :: rs, m, h, hr => by
    obtain ⟨h1, h2, h3⟩ := lcmAll_ok rs (lcmI m r.2) (lcm_pos h (hr r List.mem_cons_self)) fun x hx => hr x (List.mem_cons_of_mem _ hx)
    refine ⟨h1, Int.dvd_trans dvd_lcm_l h2, fun x hx => ?_⟩
    rcases List.mem_cons.mp hx with hx | hx
    · rw [hx]; exact Int.dvd_trans dvd_lcm_r h2
    · exact h3 x hx
/-! ### the round of a sheet -/
noncomputable def aheadS (s : Sht) : Int := greatest (s.ls.map (fun l => (rndL l).1) ++ [stillW s.w])
noncomputable def manyS (s : Sht) : Int := lcmAll 1 (s.ls.map rndL)
theorem many_ok {s : Sht} (ok : ShtOk s) : 1 ≤ manyS s ∧ ∀ l ∈ s.ls, (rndL l).2 ∣ manyS s := by
  obtain ⟨h1, _, h3⟩ := lcmAll_ok (s.ls.map rndL) 1 (Int.le_refl _) fun r hr => by
    obtain ⟨l, hl, rfl⟩ := List.mem_map.mp hr
    exact (rnd_bd (ok.ls l hl)).2.2.1
  exact ⟨h1, fun l hl => h3 _ (List.mem_map_of_mem hl)⟩
theorem ahead_ok {s : Sht} (ok : ShtOk s) : (∀ l ∈ s.ls, (rndL l).1 ≤ aheadS s) ∧ stillW s.w ≤ aheadS s ∧ ((∃ l ∈ s.ls, (rndL l).1 = aheadS s) ∨ stillW s.w = aheadS s) := by
  obtain ⟨h1, h2⟩ := greatest_ok (s.ls.map (fun l => (rndL l).1) ++ [stillW s.w]) (by simp)
  refine ⟨fun l hl => h2 _ (List.mem_append_left _ (List.mem_map_of_mem hl)), h2 _ (by simp), ?_⟩
  rcases List.mem_append.mp h1 with h | h
  · obtain ⟨l, hl, e⟩ := List.mem_map.mp h
    exact .inl ⟨l, hl, e⟩
  · exact .inr (List.mem_singleton.mp h).symm
theorem wsum_192 {w : Win} (ok : WinOk w) : wsum w.ms ≤ 192 := by
  have := wsum_le ok.ms
  have := ok.len
  omega
theorem ahead_bd {s : Sht} (ok : ShtOk s) : 0 ≤ aheadS s ∧ aheadS s ≤ 192 := by
  obtain ⟨h1, h2, h3⟩ := ahead_ok ok
  have st := still_ok ok.w
  have := wsum_192 ok.w
  have := st.m0
  have := st.m1
  rcases h3 with ⟨l, hl, e⟩ | e
  · have := rnd_bd (ok.ls l hl)
    omega
  · omega
/-- .. and so many later it is the same -/
theorem pic_per {s : Sht} (ok : ShtOk s) {t : Int} (h : aheadS s ≤ t) : picD s (t + manyS s) = picD s t := by
  obtain ⟨h1, h2, _⟩ := ahead_ok ok
  obtain ⟨m1, m2⟩ := many_ok ok
  have st := still_ok ok.w
  unfold picD
  rw [st.still (t + manyS s) (by omega), st.still t (by omega)]
  congr 3
  refine List.map_congr_left fun l hl => ?_
  have R := (rnd_ok (ok.ls l hl)).1
  congr 1
  exact (R.per.of_dvd (by have := R.p1; omega) (by omega) (m2 l hl)) t (Int.le_trans (h1 l hl) h)
theorem pic_not {s : Sht} (ok : ShtOk s) (h : 0 < aheadS s) : picD s (aheadS s - 1) ≠ picD s (aheadS s - 1 + manyS s) := by
  obtain ⟨_, _, h3⟩ := ahead_ok ok
  obtain ⟨m1, m2⟩ := many_ok ok
  intro e
  unfold picD at e
  simp only [PyData.tuple.injEq, List.cons.injEq, and_true] at e
  rcases h3 with ⟨l, hl, ea⟩ | ea
  · obtain ⟨R, _, _⟩ := rnd_ok (ok.ls l hl)
    have e1 := (List.map_inj_left.mp e.1) l hl
    simp only [PyData.int.injEq] at e1
    have hp : Per (dAt l) ((rndL l).1 - 1) (manyS s) := fun t ht => by
      by_cases z : t = (rndL l).1 - 1
      · rw [z, ea]; exact e1.symm
      · exact (R.per.of_dvd (by have := R.p1; omega) (by omega) (m2 l hl)) t (by omega)
    have := (R.all _ _ (by omega) m1 hp).1
    omega
  · have st := still_ok ok.w
    rcases st.last with z | z
    · omega
    · refine z ?_
      rw [ea, e.2]
      exact st.still _ (by omega)
end Lw
namespace Lw
open PySem PySem.Spec PyProof.Rows L2 Mi
theorem v_neI {k h : Int} : neF (.p (.int k)) (.p (.int h)) = some (!(k == h)) := by
  rw [Mi.v_ne, Mi.v_eqI]
  rfl
end Lw

namespace Mi
open PySem PySem.Spec PyProof.Rows L2
noncomputable section
/-! ### more of one's own lists -/
section
variable {X : Cx} {ow : Nat → Bool} {kr k : Kd} {e : Expr} {pos apos cpos px : Pos} {ma : EM} {i : Nat} {x : Str}
/-- x.extend(e) -/
def sExt (i : Nat) (m : EM) : SM := fun ro S => (m ro S).bind fun d S1 => match ro[i]?, d with
  | some (some (.p (.list ds))), .p (.list es) => if ds.length + es.length ≤ lim then .ok (.nx (ro.set i (some (.p (.list (ds ++ es)))))) S1 else .bad
  | _, _ => .bad
theorem ms_ext (hN : X.N[i]? = some x) (hv : Vis X.env.scope x) (he : PE X e (tG .e X.K ow ma)) (ho : ow i = true := by rfl) (hd : (x == ("__debug__" : Str)) = false := by decide) (hcd : (x == ("__classdict__" : Str)) = false := by decide)
    (hbase : attributeBase (.Name x px) "extend" X.env (eval (.Name x px) X.env) = eval (.Name x px) X.env := by rfl)
    (hfew : ((backTo cpos (starEach [e] X.env)).all (fun x => !x.1) && (backToKw cpos (keywordEach [] X.env)).all (fun x => x.1.isSome) && decide ([e].length + ([] : List Keyword).length + (if ([] : List Keyword).isEmpty then 0 else 1) < 30)) = true := by rfl)
    (hline : (apos.endLine == cpos.line) = true := by rfl) (hst : starEach [e] X.env = (false, eval e X.env) :: starEach [] X.env := by rfl) (hpl : (backTo cpos (starEach [] X.env)).any (·.1) = false := by rfl)
    (hs : swapsWith (.Call (.Attribute (.Name x px) "extend" apos) [e] [] cpos) none pos.line X.env = pure false := by rfl) :
    PS X (.Expr (.Call (.Attribute (.Name x px) "extend" apos) [e] [] cpos) pos) (tS kr X.K ow (sExt i ma)) :=
  PS.imp (ps_expr (pe_bm PySem.F.plainAttrs_list PySem.F.slot_list_extend PySem.F.type_list_extend mt_extend (pe_var hN hv hd hcd) (pa_cons he pa_nil hst) hbase hfew hline hst hpl) hs) fun D sg H ⟨ph, E, O, ro, S, sta, q⟩ => by
    unfold sExt at q
    cases e1 : ma ro S with
    | bad => simp only [e1, Res.bind, Aft] at q
    | exn x S => simp only [e1, Res.bind, Aft] at q
    | ok d S1 =>
      simp only [e1, Res.bind] at q
      split at q
      · rename_i ds es hr
        split at q
        · rename_i hl
          obtain ⟨p, k1, k2, k3, k4⟩ := sta.own i _ ho hr
          obtain ⟨p', xs, k5, k6, k7, k8⟩ := k4.list_
          cases k5
          refine ⟨.ref p, k1, .inl ⟨rfl, xs, SqL.of k6⟩, ph, E, O, ro, S, sta, .p (.list es), S1, e1, fun v H1 ph1 t1 r1 z1 => ?_⟩
          have s1 := sta.step t1 r1
          have k9 := t1.keep p _ k6 k7 (fun _ z => by cases z)
          have z2 : Rep X.K H1 (okx ph1 (EO E O)) (.list es) v := z1
          simp only [Rep] at z2
          obtain ⟨b, zs, rfl, b1, b2, b3⟩ := z2
          have l1 := k8.length
          have l2 := b3.length
          have lz := lim_line
          refine ⟨p, b, xs, zs, rfl, rfl, k9, b1, by omega, ?_⟩
          obtain ⟨s2, g2⟩ := s1.write (ds' := ds ++ es) (ys := xs ++ zs) ho hr k1 k2 k9 (t1.out k6 k7) ((k8.step t1).append b3)
          exact q sg _ ph1 O ((Go.of t1).trans g2) s2
        · exact q.elim
      · exact q.elim
end
def kExt (i : Nat) (ro : Env) (d : D) (S : Store) : Res Fl := match ro[i]?, d with
  | some (some (.p (.list ds))), .p (.list es) => if ds.length + es.length ≤ lim then .ok (.nx (ro.set i (some (.p (.list (ds ++ es)))))) S else .bad
  | _, _ => .bad
def extR (i : Nat) (ro : Env) (o : Option (Option D)) (d : D) (S : Store) : Res Fl := match o, d with
  | some (some (.p (.list ds))), .p (.list es) => if ds.length + es.length ≤ lim then .ok (.nx (ro.set i (some (.p (.list (ds ++ es)))))) S else .bad
  | _, _ => .bad
section
variable {ro : Env} {S : Store} {i : Nat} {m : EM} {d : D}
theorem q_ext : sExt i m ro S = (m ro S).bind (kExt i ro) := rfl
theorem k_ext : kExt i ro d S = extR i ro ro[i]? d S := rfl
theorem extR_l {as bs : List PyData} : extR i ro (some (some (.p (.list as)))) (.p (.list bs)) S = if as.length + bs.length ≤ lim then .ok (.nx (ro.set i (some (.p (.list (as ++ bs)))))) S else .bad := rfl
end
end
end Mi

namespace Lw
open PySem PySem.Spec PyProof.Rows L2 Mi
/-! ### runs -/
def runStep (acc : List Row) (d : Int) : List Row := match acc.getLast? with
  | some r => if r.1 = d then acc.dropLast ++ [(d, r.2 + 1)] else acc ++ [(d, 1)]
  | none => [(d, 1)]
def runsL (xs : List Int) : List Row := xs.foldl runStep []
def expR (rs : List Row) : List Int := (rs.map fun r => List.replicate r.2.toNat r.1).flatten
theorem expR_app (a b : List Row) : expR (a ++ b) = expR a ++ expR b := by
  unfold expR
  rw [List.map_append, List.flatten_append]
theorem expR_one (d n : Int) : expR [(d, n)] = List.replicate n.toNat d := by
  unfold expR
  simp
theorem runStep_nil (d : Int) : runStep [] d = [(d, 1)] := rfl
theorem runStep_snoc (a : List Row) (r : Row) (d : Int) : runStep (a ++ [r]) d = if r.1 = d then a ++ [(d, r.2 + 1)] else (a ++ [r]) ++ [(d, 1)] := by
  unfold runStep
  rw [List.getLast?_concat, List.dropLast_concat]
theorem last_cases {α : Type} (xs : List α) : xs = [] ∨ ∃ a x, xs = a ++ [x] := by
  rcases List.eq_nil_or_concat xs with h | ⟨a, x, h⟩
  · exact .inl h
  · exact .inr ⟨a, x, by simpa using h⟩
theorem runStep_exp {acc : List Row} {d : Int} (h : ∀ r ∈ acc, 1 ≤ r.2) : expR (runStep acc d) = expR acc ++ [d] ∧ ∀ r ∈ runStep acc d, 1 ≤ r.2 := by
  rcases last_cases acc with rfl | ⟨a, r, rfl⟩
  · refine ⟨rfl, fun r hr => ?_⟩
    rw [runStep_nil] at hr
    rw [List.mem_singleton.mp hr]
    exact Int.le_refl _
  · have hr := h r (List.mem_append_right _ (List.mem_singleton.mpr rfl))
    rw [runStep_snoc]
    by_cases e : r.1 = d
    · rw [if_pos e]
      constructor
      · have er : r = (d, r.2) := by rw [← e]
        rw [expR_app, expR_app, expR_one, er, expR_one, List.append_assoc]
        congr 1
        simp only
        rw [show (r.2 + 1).toNat = r.2.toNat + 1 by omega, List.replicate_succ']
      · intro x hx
        rcases List.mem_append.mp hx with hx | hx
        · exact h x (List.mem_append_left _ hx)
        · rw [List.mem_singleton.mp hx]; simp only; omega
    · rw [if_neg e]
      constructor
      · rw [expR_app, expR_one]
        rfl
      · intro x hx
        rcases List.mem_append.mp hx with hx | hx
        · exact h x hx
        · rw [List.mem_singleton.mp hx]; exact Int.le_refl _
theorem fold_exp : ∀ (xs : List Int) (acc : List Row), (∀ r ∈ acc, 1 ≤ r.2) → expR (xs.foldl runStep acc) = expR acc ++ xs ∧ ∀ r ∈ xs.foldl runStep acc, 1 ≤ r.2
  | [], acc, h => ⟨by simp, h⟩
  | x :: xs, acc, h => by
    obtain ⟨e1, h1⟩ := runStep_exp (d := x) h
    obtain ⟨e2, h2⟩ := fold_exp xs (runStep acc x) h1
    refine ⟨?_, h2⟩
    rw [List.foldl_cons, e2, e1, List.append_assoc]
    rfl
theorem runs_exp (xs : List Int) : expR (runsL xs) = xs ∧ ∀ r ∈ runsL xs, 1 ≤ r.2 := by
  obtain ⟨h1, h2⟩ := fold_exp xs [] (fun r hr => by cases hr)
  exact ⟨h1, h2⟩
theorem runs_snoc (xs : List Int) (x : Int) : runsL (xs ++ [x]) = runStep (runsL xs) x := by
  unfold runsL
  rw [List.foldl_append]
  rfl
theorem mem_expR {rs : List Row} {r : Row} (h : r ∈ rs) (h1 : 1 ≤ r.2) : r.1 ∈ expR rs := by
  unfold expR
  refine List.mem_flatten.mpr ⟨_, List.mem_map_of_mem h, ?_⟩
  rw [List.mem_replicate]
  exact ⟨by omega, rfl⟩
theorem runs_mem {xs : List Int} {r : Row} (h : r ∈ runsL xs) : r.1 ∈ xs ∧ 1 ≤ r.2 := by
  obtain ⟨e, h1⟩ := runs_exp xs
  have := mem_expR h (h1 r h)
  rw [e] at this
  exact ⟨this, h1 r h⟩
theorem holds_app (a b : List Row) : holds (a ++ b) = holds a + holds b := by
  unfold holds
  rw [List.map_append, List.sum_append]
theorem expR_len : ∀ {rs : List Row}, (∀ r ∈ rs, 1 ≤ r.2) → ((expR rs).length : Int) = holds rs
  | [], _ => rfl
  | r :: rs, h => by
    have ih := expR_len (rs := rs) fun x hx => h x (List.mem_cons_of_mem _ hx)
    have h1 := h r List.mem_cons_self
    rw [show r :: rs = [r] ++ rs from rfl, expR_app, List.length_append, holds_app, Int.natCast_add, ih]
    have e : expR [r] = List.replicate r.2.toNat r.1 := expR_one r.1 r.2
    rw [e, List.length_replicate]
    have : holds [r] = r.2 := by unfold holds; simp
    omega
theorem walk_exp : ∀ {rs : List Row} {i : Nat}, (∀ r ∈ rs, 1 ≤ r.2) → (i : Int) < holds rs → (expR rs)[i]? = some (walkR rs i)
  | [], i, _, h => by
    have : holds [] = 0 := rfl
    omega
  | (d, n) :: rs, i, ok, h => by
    have h1 := ok _ List.mem_cons_self
    simp only at h1
    rw [holds_cons] at h
    simp only at h
    have e : expR ((d, n) :: rs) = List.replicate n.toNat d ++ expR rs := by
      rw [show (d, n) :: rs = [(d, n)] ++ rs from rfl, expR_app, expR_one]
    rw [e]
    unfold walkR
    by_cases hi : (i : Int) < n
    · rw [if_pos hi, List.getElem?_append_left (by rw [List.length_replicate]; omega), List.getElem?_replicate, if_pos (by omega)]
    · rw [if_neg hi, List.getElem?_append_right (by rw [List.length_replicate]; omega), List.length_replicate]
      have ih := walk_exp (rs := rs) (i := i - n.toNat) (fun r hr => ok r (List.mem_cons_of_mem _ hr)) (by omega)
      rw [ih]
      congr 2
      omega
/-! ### the rows of a run, of a list -/
def rowsOf (r : Row) : List Row := [(r.1, r.2 - ((r.2 + 23) / 24 - 1) * 24)] ++ List.replicate ((r.2 + 23) / 24 - 1).toNat (r.1, 24)
def foldedL (xs : List Int) : List Row := ((runsL xs).map rowsOf).flatten
theorem holds_rep (d : Int) : ∀ n : Nat, holds (List.replicate n (d, 24)) = 24 * n
  | 0 => rfl
  | n + 1 => by
    rw [List.replicate_succ, holds_cons, holds_rep d n]
    simp only
    omega
theorem expR_rep (d : Int) : ∀ n : Nat, expR (List.replicate n (d, 24)) = List.replicate (24 * n) d
  | 0 => rfl
  | n + 1 => by
    rw [List.replicate_succ, show (d, (24 : Int)) :: List.replicate n (d, 24) = [(d, 24)] ++ List.replicate n (d, 24) from rfl, expR_app, expR_one, expR_rep d n, List.replicate_append_replicate]
    congr 1
    show 24 + 24 * n = _
    omega
theorem rowsOf_exp {r : Row} (h : 1 ≤ r.2) : expR (rowsOf r) = List.replicate r.2.toNat r.1 ∧ (∀ x ∈ rowsOf r, x.1 = r.1 ∧ 1 ≤ x.2 ∧ x.2 ≤ 24) ∧ ((rowsOf r).length : Int) = (r.2 + 23) / 24 := by
  unfold rowsOf
  refine ⟨?_, fun x hx => ?_, ?_⟩
  · rw [expR_app, expR_one, expR_rep, List.replicate_append_replicate]
    congr 1
    omega
  · rcases List.mem_append.mp hx with hx | hx
    · rw [List.mem_singleton.mp hx]; refine ⟨rfl, ?_, ?_⟩ <;> simp only <;> omega
    · rw [List.eq_of_mem_replicate hx]; refine ⟨rfl, ?_, ?_⟩ <;> simp only <;> omega
  · rw [List.length_append, List.length_replicate, List.length_singleton]
    omega
theorem expR_flat : ∀ (rs : List Row), (∀ r ∈ rs, 1 ≤ r.2) → expR ((rs.map rowsOf).flatten) = expR rs
  | [], _ => rfl
  | r :: rs, h => by
    rw [List.map_cons, List.flatten_cons, expR_app, (rowsOf_exp (h r List.mem_cons_self)).1, expR_flat rs fun x hx => h x (List.mem_cons_of_mem _ hx), show r :: rs = [r] ++ rs from rfl, expR_app]
    congr 1
    exact (expR_one r.1 r.2).symm
theorem folded_exp (xs : List Int) : expR (foldedL xs) = xs := by
  obtain ⟨h1, h2⟩ := runs_exp xs
  unfold foldedL
  rw [expR_flat _ h2, h1]
theorem folded_rows {xs : List Int} (h : ∀ x ∈ xs, 0 ≤ x ∧ x ≤ 9) : ∀ r ∈ foldedL xs, RowOk r := fun r hr => by
  obtain ⟨q, hq, hr⟩ := List.mem_flatten.mp hr
  obtain ⟨p, hp, rfl⟩ := List.mem_map.mp hq
  obtain ⟨m1, m2⟩ := runs_mem hp
  obtain ⟨e1, e2, e3⟩ := (rowsOf_exp m2).2.1 r hr
  have := h _ m1
  rw [← e1] at this
  exact ⟨this.1, this.2, e2, e3⟩
theorem folded_lay {xs : List Int} (h : ∀ x ∈ xs, 0 ≤ x ∧ x ≤ 9) (h8 : (foldedL xs).length ≤ 8) : LayOk ⟨foldedL xs, none⟩ ∧ layL ⟨foldedL xs, none⟩ xs.length = xs := by
  have hr := folded_rows h
  have ok : LayOk ⟨foldedL xs, none⟩ := ⟨h8, hr, fun b hb => by cases hb⟩
  refine ⟨ok, ?_⟩
  have h1 : ∀ r ∈ foldedL xs, 1 ≤ r.2 := fun r h => (hr r h).2.2.1
  have hl := expR_len h1
  rw [folded_exp] at hl
  refine List.ext_getElem? fun i => ?_
  by_cases hi : i < xs.length
  · rw [layL_get hi]
    have := walk_exp h1 (i := i) (by omega)
    rw [folded_exp] at this
    rw [this]
    rfl
  · rw [List.getElem?_eq_none (by rw [layL_len]; omega), List.getElem?_eq_none (by omega)]
/-- how many rows there are at most -/
theorem flat_len : ∀ (rs : List Row), (∀ r ∈ rs, 1 ≤ r.2) → (((rs.map rowsOf).flatten.length : Nat) : Int) ≤ rs.length + holds rs / 24
  | [], _ => by
    have : holds [] = 0 := rfl
    rw [this]
    simp
  | r :: rs, h => by
    have ih := flat_len rs fun x hx => h x (List.mem_cons_of_mem _ hx)
    have h1 := h r List.mem_cons_self
    have l1 := (rowsOf_exp h1).2.2
    rw [List.map_cons, List.flatten_cons, List.length_append, holds_cons, List.length_cons]
    omega
theorem folded_len (xs : List Int) : ((foldedL xs).length : Int) ≤ (runsL xs).length + (xs.length : Int) / 24 := by
  obtain ⟨h1, h2⟩ := runs_exp xs
  have := flat_len (runsL xs) h2
  have hl := expR_len h2
  rw [h1] at hl
  rw [← hl] at this
  exact this
/-- where it changes -/
def chg (xs : List Int) : Nat := ((List.range (xs.length - 1)).filter fun i => !decide (xs[i + 1]? = xs[i]?)).length
theorem runs_last (xs : List Int) (x : Int) : ∃ a n, runsL (xs ++ [x]) = a ++ [(x, n)] := by
  rw [runs_snoc]
  rcases last_cases (runsL xs) with h | ⟨a, r, h⟩
  · rw [h]; exact ⟨[], 1, rfl⟩
  · rw [h, runStep_snoc]
    by_cases e : r.1 = x
    · rw [if_pos e]; exact ⟨a, r.2 + 1, rfl⟩
    · rw [if_neg e]; exact ⟨a ++ [r], 1, rfl⟩
theorem runs_chg : ∀ (n : Nat) (xs : List Int), xs.length = n → (runsL xs).length ≤ chg xs + 1
  | 0, xs, h => by
    have : xs = [] := List.eq_nil_of_length_eq_zero h
    subst this
    exact Nat.zero_le _
  | n + 1, xs, h => by
    rcases last_cases xs with rfl | ⟨a, x, rfl⟩
    · cases h
    · have la : a.length = n := by simpa using h
      have ih := runs_chg n a la
      rcases last_cases a with rfl | ⟨b, y, rfl⟩
      · show (runsL [x]).length ≤ _
        have : (runsL [x]).length = 1 := rfl
        omega
      · have lb : b.length + 1 = n := by simpa using la
        obtain ⟨c, k, hc⟩ := runs_last b y
        rw [runs_snoc (b ++ [y]) x, hc, runStep_snoc]
        rw [hc] at ih
        have e1 : (b ++ [y] ++ [x]).length - 1 = (b ++ [y]).length - 1 + 1 := by simp
        have e2 : chg (b ++ [y] ++ [x]) = chg (b ++ [y]) + (if x = y then 0 else 1) := by
          unfold chg
          rw [e1, List.range_succ, List.filter_append, List.length_append]
          congr 1
          · congr 1
            refine List.filter_congr fun i hi => ?_
            have hi := List.mem_range.mp hi
            have hi2 : i + 1 < (b ++ [y]).length := by omega
            rw [List.getElem?_append_left (l₂ := [x]) hi2, List.getElem?_append_left (l₂ := [x]) (by omega)]
          · have l3 : (b ++ [y]).length - 1 = b.length := by simp
            rw [l3]
            have g1 : (b ++ [y] ++ [x])[b.length + 1]? = some x := by
              rw [List.getElem?_append_right (by simp)]
              simp
            have g2 : (b ++ [y] ++ [x])[b.length]? = some y := by
              rw [List.getElem?_append_left (by simp), List.getElem?_append_right (Nat.le_refl _)]
              simp
            rw [List.filter_cons, List.filter_nil, g1, g2]
            by_cases e : x = y
            · simp [e]
            · simp [e]
        rw [e2]
        by_cases e : y = x
        · rw [if_pos e]
          rw [List.length_append] at ih ⊢
          simp only [List.length_singleton] at ih ⊢
          omega
        · rw [if_neg e, if_neg fun z => e z.symm, List.length_append]
          simp only [List.length_singleton]
          omega
end Lw
namespace Mi
open PySem PySem.Spec PyProof.Rows L2
theorem atI_last {α : Type} (a : List α) (x : α) : atI (a ++ [x]) (-1) = some x := by
  unfold atI ixN
  rw [if_neg (by decide), if_pos (by rw [List.length_append]; simp only [List.length_singleton]; omega)]
  show (a ++ [x])[((-1 : Int) + ((a ++ [x]).length : Nat)).toNat]? = _
  rw [show ((-1 : Int) + ((a ++ [x]).length : Nat)).toNat = a.length by rw [List.length_append]; simp only [List.length_singleton]; omega, List.getElem?_append_right (Nat.le_refl _)]
  simp
theorem ixN_last {n : Nat} : ixN (n + 1) (-1) = some n := by
  unfold ixN
  rw [if_neg (by decide), if_pos (by omega)]
  congr 1
  omega
theorem k_putO {i : Nat} {mi : EM} {ro : Env} {S S' : Store} {f : PyData} {as : List PyData} {j : Int} {q : Nat} (hi : mi ro S = .ok (.p (.int j)) S') (hro : ro[i]? = some (some (.p (.list as)))) (hq : ixN as.length j = some q) : kPut i mi ro (.p f) S = .ok (.nx (ro.set i (some (.p (.list (as.set q f)))))) S' := by
  unfold kPut
  rw [hi]
  simp only [Res.bind, hro, hq]
theorem k_sl3TL {lo hi : Option Int} {es : List PyData} {S : Store} : kSl3 slT (.p (.list es)) lo hi S = .ok (.p (.list (cutG es lo hi))) S := rfl
end Mi
namespace Lw
open PySem PySem.Spec PyProof.Rows L2 Mi
/-! ### behind a sheet's end it is as it was -/
theorem dAt_end {l : Lay} (ok : LayOk l) (hb : l.back = none) {t : Int} (h : holds l.rows ≤ t) : dAt l t = 0 := by
  unfold dAt
  rw [hb]
  exact walk_end ok.rows h
theorem send_some {s : Sht} (ok : ShtOk s) {e : Int} (h : sendO (s.ls.map lend) (wend s.w) = some e) : (∀ l ∈ s.ls, l.back = none ∧ holds l.rows ≤ e) ∧ wsum s.w.ms ≤ e ∧ (0 ≤ e ∧ e ≤ 192) := by
  unfold sendO at h
  split at h
  · cases h
  · rename_i hn
    have e2 := Option.some.inj h
    obtain ⟨h1, h2⟩ := greatest_ok ((s.ls.map lend).map (·.getD 0) ++ [wend s.w]) (by simp)
    rw [e2] at h1 h2
    have hl : ∀ l ∈ s.ls, l.back = none := fun l hl => by
      cases hb : l.back with
      | none => rfl
      | some b =>
        refine absurd ?_ hn
        rw [List.any_map, List.any_eq_true]
        refine ⟨l, hl, ?_⟩
        show (lend l).isNone = true
        unfold lend
        rw [hb]
        rfl
    have he : ∀ l ∈ s.ls, (lend l).getD 0 = holds l.rows := fun l h => by unfold lend; rw [hl l h]; rfl
    refine ⟨fun l hl' => ⟨hl l hl', ?_⟩, h2 _ (by simp; right; rfl), ?_⟩
    · rw [← he l hl']
      exact h2 _ (List.mem_append_left _ (List.mem_map.mpr ⟨lend l, List.mem_map_of_mem hl', rfl⟩))
    · rcases List.mem_append.mp h1 with h | h
      · obtain ⟨o, ho, rfl⟩ := List.mem_map.mp h
        obtain ⟨l, hl', rfl⟩ := List.mem_map.mp ho
        rw [he l hl']
        exact ⟨holds_nn (ok.ls l hl').rows, holds_192 (ok.ls l hl')⟩
      · rw [List.mem_singleton.mp h]
        exact ⟨wsum_nn ok.w.ms, wsum_192 ok.w⟩
theorem pic_end {s : Sht} (ok : ShtOk s) {e t : Int} (h : sendO (s.ls.map lend) (wend s.w) = some e) (ht : e ≤ t) : picD s t = picD s e := by
  obtain ⟨h1, h2, _⟩ := send_some ok h
  unfold picD
  rw [place_late ok.w (t := t) (by omega), place_late ok.w (t := e) h2]
  congr 3
  refine List.map_congr_left fun l hl => ?_
  obtain ⟨hb, hh⟩ := h1 l hl
  rw [dAt_end (ok.ls l hl) hb (t := t) (by omega), dAt_end (ok.ls l hl) hb hh]
theorem pic_far {s : Sht} (ok : ShtOk s) {t : Int} (h : aheadS s ≤ t) : picD s (aheadS s + (t - aheadS s) % manyS s) = picD s t := by
  obtain ⟨m1, _⟩ := many_ok ok
  have e0 := Int.emod_nonneg (t - aheadS s) (show manyS s ≠ 0 by omega)
  have hd := Int.emod_add_mul_ediv (t - aheadS s) (manyS s)
  have hq : 0 ≤ (t - aheadS s) / manyS s := Int.ediv_nonneg (by omega) (by omega)
  have per : Per (picD s) (aheadS s) (manyS s) := fun t ht => pic_per ok ht
  have k := per.mul (by omega) ((t - aheadS s) / manyS s).toNat
  rw [show ((((t - aheadS s) / manyS s).toNat : Nat) : Int) = (t - aheadS s) / manyS s by omega, Int.mul_comm] at k
  have k1 := k (aheadS s + (t - aheadS s) % manyS s) (by omega)
  rw [show aheadS s + (t - aheadS s) % manyS s + manyS s * ((t - aheadS s) / manyS s) = t by omega] at k1
  exact k1.symm
end Lw

namespace Mi
open PySem PySem.Spec PyProof.Rows L2
noncomputable section
/-! ### zip of a list or tuple with a list or tuple; c: it is a list -/
def SqB (c : Bool) (K : PySem.W.Frag) (H : Hp) (a : Addr) (xs : List V) : Prop := match c with
  | true => SqL K H a xs
  | false => SqT K H a xs
def itB (c : Bool) (h : Heap) (it a : Addr) (i : Nat) : Prop := match c with
  | true => h.IsListIter it a i
  | false => h.IsTupleIter it a i
def isB (c : Bool) (h : Heap) (a : Addr) (its : Array Value) : Prop := match c with
  | true => h.IsList a its
  | false => h.IsTuple a its
def obB (c : Bool) (a : Addr) : Obj := match c with
  | true => { cls := .type "list_iterator", data := .fields #[.ref a, .int 0 0] }
  | false => { cls := .type "tuple_iterator", data := .fields #[.ref a, .int 0 0] }
section
variable {P : Program} {w : World} {A : Around} {c d : Bool} {h h' : Heap} {it a b z TI TO i1 i2 : Addr} {i : Nat} {its : Array Value}
theorem begB (c : Bool) (a : Addr) (its : Array Value) : Begins (.ref a) (obB c a) fun h => isB c h a its := by
  cases c
  · exact begins_tuple a its
  · exact begins_list a its
theorem drawsB (hh : A.handled = none) (c : Bool) (it a : Addr) (ne : a ≠ it) (its : Array Value) : Draws P w A it [it, a] its.size (fun i v => its[i]? = some v) (fun i h => itB c h it a i ∧ isB c h a its) := by
  cases c
  · exact Draws.tuple hh it a ne its
  · exact Draws.list hh it a ne its
theorem itB.keep (q : itB c h it a i) (k : ∀ o, h.get? it = some o → h'.get? it = some o) : itB c h' it a i := by
  cases c
  · exact Heap.IsTupleIter.at (show h.IsTupleIter it a i from q) fun o e => k o e
  · exact Heap.IsListIter.at (show h.IsListIter it a i from q) fun o e => k o e
theorem itB.ob (q : itB c h it a i) : ∃ o, h.get? it = some o ∧ ∀ v, o.data ≠ .cell v := by
  cases c
  · obtain ⟨o, e, _, e'⟩ := (show h.IsTupleIter it a i from q)
    exact ⟨o, e, fun v k => by rw [e'] at k; cases k⟩
  · obtain ⟨o, e, _, e'⟩ := (show h.IsListIter it a i from q)
    exact ⟨o, e, fun v k => by rw [e'] at k; cases k⟩
theorem itB.new (q : h.get? it = some (obB c a)) : itB c h it a 0 := by
  cases c
  · exact ⟨_, q, rfl, rfl⟩
  · exact ⟨_, q, rfl, rfl⟩
theorem isB.lt (q : isB c h a its) : a < h.objs.size := by
  cases c
  · obtain ⟨o, e, _⟩ := (show h.IsTuple a its from q)
    exact Heap.lt_size e
  · obtain ⟨o, e, _⟩ := (show h.IsList a its from q)
    exact Heap.lt_size e
end
section
variable {X : Cx} {pins : List (Addr × Obj)} {σ : L2.St} {H : Hp} {s : Shared} {c : Bool} {a : Addr} {xs ys : List V}
theorem SqB.get (I : Inv X pins σ H s) (q : SqB c X.K H a xs) : ∃ us : List Value, Vals xs us ∧ isB c s.heap a us.toArray := by
  cases c
  · obtain ⟨us, rv, e, _⟩ := I.tuple (show SqT X.K H a xs from q)
    exact ⟨us, rv, e⟩
  · obtain ⟨us, rv, e, _⟩ := I.list (show SqL X.K H a xs from q)
    exact ⟨us, rv, e.isList⟩
theorem SqB.inj (I : Inv X pins σ H s) (q : SqB c X.K H a xs) (q' : SqB c X.K H a ys) : xs = ys := by
  cases c
  · exact I.tuple_inj q q'
  · exact I.list_inj q q'
end
/-- both as they stand at each turn -/
def ItzB (c d : Bool) (K : PySem.W.Frag) (a b : Addr) : It where
  go := fun i H => ∃ (xs ys : List V) (x y : V), SqB c K H a xs ∧ SqB d K H b ys ∧ xs[i]? = some x ∧ ys[i]? = some y
  yld := fun i H v H' => ∃ t x y, v = .ref t ∧ H t = none ∧ H' = upd H t (.tup [x, y]) ∧ (∀ xs, SqB c K H a xs → xs[i]? = some x) ∧ ∀ ys, SqB d K H b ys → ys[i]? = some y
  stop := fun i H => ∃ xs ys : List V, SqB c K H a xs ∧ SqB d K H b ys ∧ i ≤ xs.length ∧ i ≤ ys.length ∧ (i = xs.length ∨ i = ys.length)
/-- the cells of a zip -/
def ZSt (c d : Bool) (z TI TO i1 i2 a b : Addr) (i : Nat) (h : Heap) : Prop := IsZip h z TI TO .none ∧ IsTupOf2 h TI (.ref i1) (.ref i2) ∧ (∃ x y, IsTupOf2 h TO x y) ∧ itB c h i1 a i ∧ itB d h i2 b i
theorem five {z TI TO i1 i2 q : Addr} (m : q ∈ [z, TI, TO, i1, i2]) : q = z ∨ q = TI ∨ q = TO ∨ q = i1 ∨ q = i2 := by simpa using m
theorem turnB {P : Program} {w : World} {K : PySem.W.Frag} {elts : List Expr} {kk : Nat} {tpos : Pos} {c d : Bool} {a b z TI TO i1 i2 : Addr} (Z : ZipSep2 z TI TO i1 i2 [i1, a] [i2, b]) (n1 : a ≠ i1) (n2 : b ≠ i2) (n3 : i1 ≠ i2) :
    Turn P w K (.Tuple elts kk tpos) (ItzB c d K a b) [z, TI, TO, i1, i2] z (ZSt c d z TI TO i1 i2 a b) := by
  refine ⟨List.mem_cons_self, fun i h st q hq => ?_, fun i h h' st k => ?_, ?_, ?_, fun B i s Q E st hQ => wpAny_pyIter_zip st.1 hQ⟩
  · obtain ⟨g1, g2, ⟨x, y, g3⟩, g4, g5⟩ := st
    rcases five hq with e | e | e | e | e <;> subst e
    · exact ⟨_, g1, fun v k => nomatch k⟩
    · exact ⟨_, g2, fun v k => nomatch k⟩
    · exact ⟨_, g3, fun v k => nomatch k⟩
    · exact g4.ob
    · exact g5.ob
  · obtain ⟨g1, g2, ⟨x, y, g3⟩, g4, g5⟩ := st
    exact ⟨k z (by simp) _ g1, k TI (by simp) _ g2, ⟨x, y, k TO (by simp) _ g3⟩, g4.keep (k i1 (by simp)), g5.keep (k i2 (by simp))⟩
  · intro Y e1 e2 e3 calm i pins s σ H E I fresh st hg
    subst e1 e2 e3
    obtain ⟨g1, g2, ⟨p0, q0, g3⟩, g4, g5⟩ := st
    obtain ⟨xs, ys, x, y, qx, qy, hx, hy⟩ := hg
    obtain ⟨us, rv, l1⟩ := SqB.get I qx
    obtain ⟨us', rv', l2⟩ := SqB.get I qy
    obtain ⟨u, hu, ru⟩ := rv.get hx
    obtain ⟨u', hu', ru'⟩ := rv'.get hy
    have zlt : z < s.heap.objs.size := Heap.lt_size g1
    have hd : Y.A.in1.handled = none := by simpa using I.ok.hd calm
    refine wpAny_pyNext_zipD2_item Z (drawsB hd c i1 a n1 us.toArray) (drawsB hd d i2 b n2 us'.toArray) g1 g2 g3 ⟨g4, l1⟩ ⟨g5, l2⟩ (by have := (List.getElem?_eq_some_iff.mp hu).1; simpa using this) (by have := (List.getElem?_eq_some_iff.mp hu').1; simpa using this)
      fun v v' h1 tk p1 p2 z1 o1 s1 s2 nt _ kp => ?_
    have ev : v = u := by
      have p1 : us.toArray[i]? = some v := p1
      rw [List.getElem?_toArray, hu] at p1
      exact (Option.some.inj p1).symm
    have ev' : v' = u' := by
      have p2 : us'.toArray[i]? = some v' := p2
      rw [List.getElem?_toArray, hu'] at p2
      exact (Option.some.inj p2).symm
    subst ev ev'
    refine ⟨_, rfl, wpAny_letOwnedTupleGo_zip (s := { s with heap := h1, toks := tk }) z1 fun h2 z2 same => ?_⟩
    have mv : ∀ q o, q ∉ [z, TI, TO, i1, i2] → s.heap.get? q = some o → h2.get? q = some o := fun q o out e =>
      (same.2 q (fun k => out (by simp [k]))).trans (kp q o (fun k => out (by simp [k])) (fun k => out (by simp [k])) (fun k => out (by simp [k])) (fun k => out (by simp [k])) e)
    have nt2 : h2.get? s.heap.objs.size = some { cls := .type "tuple", data := .seq #[v, v'] } := (same.2 _ (Nat.ne_of_gt zlt)).trans nt
    have made : ObjOk Y.prog Y.w (upd H s.heap.objs.size (.tup [x, y])) h2 s.heap.objs.size (.tup [x, y]) :=
      ⟨(show 2 ≤ sizeLine by decide), [v, v'], Paired.cons ru (Paired.cons ru' Paired.nil), _, nt2, rfl, _, rfl⟩
    have J := I.turnedNew (t' := tk) (ch := [z, TI, TO, i1, i2]) mv fresh (Nat.le_refl _) made
    refine ⟨.ref s.heap.objs.size, _, J, rfl, ⟨_, x, y, rfl, I.hok.fresh (Nat.le_refl _), rfl, fun l hl => ?_, fun l hl => ?_⟩, ⟨z2, ?_, ⟨v, v', ?_⟩, ?_, ?_⟩, fun q hq => ?_⟩
    · rw [SqB.inj I hl qx]; exact hx
    · rw [SqB.inj I hl qy]; exact hy
    · exact (same.2 _ Z.TIz).trans (kp _ _ Z.TIz Z.TITO Z.TIi1 Z.TIi2 g2)
    · exact (same.2 _ Z.TOz).trans o1
    · exact s1.1.keep fun o k => (same.2 _ (Ne.symm Z.zi1)).trans k
    · exact s2.1.keep fun o k => (same.2 _ (Ne.symm Z.zi2)).trans k
    · have lt : q < s.heap.objs.size := by
        rcases five hq with e | e | e | e | e
        · rw [e]; exact zlt
        · rw [e]; exact Heap.lt_size g2
        · rw [e]; exact Heap.lt_size g3
        · obtain ⟨o, k, _⟩ := g4.ob
          rw [e]; exact Heap.lt_size k
        · obtain ⟨o, k, _⟩ := g5.ob
          rw [e]; exact Heap.lt_size k
      rw [upd_ne (Nat.ne_of_lt lt)]
      exact (fresh q hq).1
  · intro Y e1 e2 e3 calm i pins s σ H E I fresh st hg
    subst e1 e2 e3
    obtain ⟨g1, g2, ⟨p0, q0, g3⟩, g4, g5⟩ := st
    obtain ⟨xs, ys, qx, qy, m1, m2, ends⟩ := hg
    obtain ⟨us, rv, l1⟩ := SqB.get I qx
    obtain ⟨us', rv', l2⟩ := SqB.get I qy
    have k1 : us.toArray.size = xs.length := by rw [List.size_toArray]; exact rv.length.symm
    have k2 : us'.toArray.size = ys.length := by rw [List.size_toArray]; exact rv'.length.symm
    have hd : Y.A.in1.handled = none := by simpa using I.ok.hd calm
    refine wpAny_pyNext_zipD2_end Z (drawsB hd c i1 a n1 us.toArray) (drawsB hd d i2 b n2 us'.toArray) g1 g2 g3 ⟨g4, l1⟩ ⟨g5, l2⟩ (by rw [k1]; exact m1) (by rw [k2]; exact m2) (by rw [k1, k2]; exact ends) fun h1 tk kp => ⟨rfl, ?_⟩
    exact I.turnedL (t' := tk) (ch := [z, TI, TO, i1, i2]) (fun q o out e => kp q o (fun k => out (by simp [k])) (fun k => out (by simp [k])) (fun k => out (by simp [k])) (fun k => out (by simp [k])) e) fresh
def iZB (c d : Bool) (K : PySem.W.Frag) (ta : TA) : TI := fun σ H R => ta σ H fun vs H1 => ∃ a b xs ys, vs = [.ref a, .ref b] ∧ SqB c K H1 a xs ∧ SqB d K H1 b ys ∧ R (ItzB c d K a b) H1
theorem pi_zB (c d : Bool) {X : Cx} {e e2 : Expr} {ta : TA} {p pos tpos : Pos} {elts : List Expr} {kk : Nat} (hg : Gl X "zip") (hm : X.mg "zip" = none) (ha : PA X [e, e2] ta)
    (hs : starEach [e, e2] X.env = (false, eval e X.env) :: starEach [e2] X.env := by rfl) (hpl : (backTo pos (starEach [e2] X.env)).any (·.1) = false := by rfl) :
    PI X (.Tuple elts kk tpos) (.Call (.Name "zip" p) [e, e2] [] pos) (iZB c d X.K ta) := by
  constructor
  intro pins s σ H R I hw
  refine Call_ (ld_blt I hg hm PyProof.Rows.boot_zip (PyProof.Rows.callWith_type1 (thn (ha.run pos pins s σ H _ I hw) fun us t ⟨vs, H1, J, rv, q⟩ => ?_) hs hpl))
  obtain ⟨a, b, xs, ys, ev, qx, qy, hR⟩ := q
  subst ev
  cases rv with
  | cons r0 rr =>
    cases rr with
    | cons r1 rr =>
      cases rr
      cases r0
      cases r1
      obtain ⟨u1, rv1, l1⟩ := SqB.get J qx
      obtain ⟨u2, rv2, l2⟩ := SqB.get J qy
      have lt1 := l1.lt
      have lt2 := l2.lt
      refine zip_begins2 (begB c a u1.toArray) (begB d b u2.toArray) l1 l2 fun h1 z1 z2 z3 o1 o2 _ kp => wpAny_pyIter_zip z1 ?_
      have J2 : Inv X pins σ H1 { t with heap := h1 } := J.kept (t' := t.toks) kp
      have fr : ∀ q, q ∈ [t.heap.objs.size + 4, t.heap.objs.size + 2, t.heap.objs.size + 3, t.heap.objs.size, t.heap.objs.size + 1] → FpOk X pins H1 q := fun q hq => by
        have le : t.heap.objs.size ≤ q := by
          rcases five hq with k | k | k | k | k <;> rw [k]
          · exact Nat.le_add_right _ 4
          · exact Nat.le_add_right _ 2
          · exact Nat.le_add_right _ 3
          · exact Nat.le_refl _
          · exact Nat.le_add_right _ 1
        exact J.fpOk le (J.hok.fresh le)
      have Z := zip_sep2 (N := t.heap.objs.size) (fp1 := [a]) (fp2 := [b]) (fun q hq => by rw [List.mem_singleton.mp hq]; exact lt1) (fun q hq => by rw [List.mem_singleton.mp hq]; exact lt2)
      exact ⟨_, _, _, _, H1, rfl, J2, turnB Z (Nat.ne_of_lt lt1) (Nat.ne_of_lt (Nat.lt_succ_of_lt lt2)) (Nat.ne_of_lt (Nat.lt_succ_self _)), ⟨z1, z2, ⟨_, _, z3⟩, itB.new o1, itB.new o2⟩, fr, hR⟩
/-! over our values -/
theorem SqB.go {K : PySem.W.Frag} {ph ph2 : List Addr} {Ex U U2 : Addr → Prop} {H H2 : Hp} {c : Bool} {a : Addr} {xs : List V} (g : Go ph U H ph2 U2 H2) (h : match c with | true => H a = some (.lst xs) ∧ a ∉ ph ∧ ¬ U a | false => SqT K H a xs) : SqB c K H2 a xs := by
  cases c
  · exact g.sqT (show SqT K H a xs from h)
  · obtain ⟨h1, h2, h3⟩ := (show H a = some (.lst xs) ∧ a ∉ ph ∧ ¬ U a from h)
    exact SqL.of (g.lst h1 h2 h3)
theorem walks_zB {K : PySem.W.Frag} {ph : List Addr} {Ex U : Addr → Prop} {H : Hp} {c d : Bool} {a b : Addr} {xs ys : List V} {ds es : List PyData} (us : ∀ a, U a → Ex a)
    (h : match c with | true => H a = some (.lst xs) ∧ a ∉ ph ∧ ¬ U a | false => SqT K H a xs) (r : RepAll K H (okx ph Ex) ds xs)
    (h' : match d with | true => H b = some (.lst ys) ∧ b ∉ ph ∧ ¬ U b | false => SqT K H b ys) (r' : RepAll K H (okx ph Ex) es ys) : Walks K ph Ex U H (ItzB c d K a b) (pairsF ds es) := by
  intro ph2 O2 H2 g i
  have h2 := SqB.go (K := K) (Ex := Ex) g h
  have r2 := r.go g us
  have h3 := SqB.go (K := K) (Ex := Ex) g h'
  have r3 := r'.go g us
  have ln : (pairsF ds es).length = min ds.length es.length := by unfold pairsF; rw [List.length_map, List.length_zip]
  have l2 := r2.length
  have l3 := r3.length
  refine ⟨fun d0 e => ?_, fun e hle => ?_⟩
  · rw [pairs_at] at e
    cases e1 : ds[i]? with
    | none => rw [e1] at e; cases e
    | some f =>
      cases e2 : es[i]? with
      | none => rw [e1, e2] at e; cases e
      | some f' =>
        rw [e1, e2] at e
        cases e
        obtain ⟨x, h4, h5⟩ := r2.get e1
        obtain ⟨y, h6, h7⟩ := r3.get e2
        refine ⟨⟨xs, ys, x, y, h2, h3, h4, h6⟩, fun v H3 hy => ?_⟩
        obtain ⟨T, x', y', rfl, nT, rfl, q1, q2⟩ := hy
        have e3 := q1 xs h2
        have e4 := q2 ys h3
        rw [h4] at e3
        rw [h6] at e4
        cases e3
        cases e4
        exact ⟨.inr ⟨T, _, nT, rfl⟩, z_item h5 h7 nT⟩
  · have hi := List.getElem?_eq_none_iff.mp e
    exact ⟨xs, ys, h2, h3, by omega, by omega, by omega⟩
/-- zip of a tuple and a list; c, d: which is a list -/
def kZB (c d : Bool) (x y : D) (S : Store) : Res (List D) := match c, d, x, y with
  | true, true, .p (.list as), .p (.list bs) => .ok (pairsF as bs) S
  | true, false, .p (.list as), .p (.tuple bs) => .ok (pairsF as bs) S
  | false, true, .p (.tuple as), .p (.list bs) => .ok (pairsF as bs) S
  | false, false, .p (.tuple as), .p (.tuple bs) => .ok (pairsF as bs) S
  | _, _, _, _ => .bad
def iZX (c d : Bool) (ma mb : EM) : LM := fun ro S => (ma ro S).bind fun x S1 => (mb ro S1).bind fun y S2 => kZB c d x y S2
section
variable {X : Cx} {ow : Nat → Bool} {e e2 : Expr} {p pos tpos : Pos} {elts : List Expr} {kk : Nat} {ma mb : EM}
theorem zB_one {K : PySem.W.Frag} {ph : List Addr} {E O Fr : Addr → Prop} {H : Hp} {S : Store} {c : Bool} {l : List PyData} {v : V} {m : Bool} (z : RR .e K ph (EO E O) Fr H S (match c with | true => D.p (.list l) | false => D.p (.tuple l)) v) :
    ∃ a xs, v = .ref a ∧ (match c with | true => H a = some (.lst xs) ∧ a ∉ ph ∧ ¬ Mu m O a | false => SqT K H a xs) ∧ RepAll K H (okx ph (EO E O)) l xs := by
  cases c
  · obtain ⟨a, xs, e, h1, h2⟩ := (RepD.toP (RR.asE (show RR .e K ph (EO E O) Fr H S (D.p (.tuple l)) v from z))).tup_
    exact ⟨a, xs, e, h1, h2⟩
  · have z2 : Rep K H (okx ph (EO E O)) (.list l) v := z
    simp only [Rep] at z2
    obtain ⟨a, xs, e, h1, h2, h3⟩ := z2
    exact ⟨a, xs, e, ⟨h1, h2.1, fun u => h2.2 (Mu.sub a u)⟩, h3⟩
theorem mi_zX (c d : Bool) {m : Bool} (hg : Gl X "zip") (hm : X.mg "zip" = none) (ha : PE X e (tG .e X.K ow ma)) (hb : PE X e2 (tG .e X.K ow mb)) (hs : starEach [e, e2] X.env = (false, eval e X.env) :: starEach [e2] X.env := by rfl) (hs2 : starEach [e2] X.env = (false, eval e2 X.env) :: starEach [] X.env := by rfl)
    (hpl : (backTo pos (starEach [e2] X.env)).any (·.1) = false := by rfl) : PI X (.Tuple elts kk tpos) (.Call (.Name "zip" p) [e, e2] [] pos) (tI m X.K ow (iZX c d ma mb)) :=
  PI.imp (pi_zB c d hg hm (pa_cons ha (pa_cons hb pa_nil hs2) hs) hs hpl) fun sg H R ⟨ph, E, O, ro, S, sta, ds, S', ev, q⟩ => by
    obtain ⟨x, S1, e1, ev⟩ := Res.bind_ok ev
    obtain ⟨y, S2, e2, ev⟩ := Res.bind_ok ev
    obtain ⟨as, bs, ex, ey, ed, es⟩ : ∃ as bs, x = (match c with | true => D.p (.list as) | false => D.p (.tuple as)) ∧ y = (match d with | true => D.p (.list bs) | false => D.p (.tuple bs)) ∧ ds = pairsF as bs ∧ S' = S2 := by
      unfold kZB at ev
      split at ev <;> first | (cases ev; exact ⟨_, _, rfl, rfl, rfl, rfl⟩) | cases ev
    subst ed es
    refine ⟨ph, E, O, ro, S, sta, x, S1, e1, fun v H1 ph1 t1 r1 z1 => ⟨ph1, E, O, ro, S1, sta.step t1 r1, y, _, e2, fun u H2 ph2 t2 r2 z2 => ?_⟩⟩
    rw [ex] at z1
    rw [ey] at z2
    have z1' := RepD.step t2 (RR.asE z1)
    obtain ⟨a, xs, e3, h3, r3⟩ := zB_one (m := m) (Fr := Fre H) (S := S') (show RR .e X.K ph2 (EO E O) (Fre H) H2 S' _ v from z1')
    obtain ⟨b, ys, e4, h4, r4⟩ := zB_one (m := m) z2
    subst e3 e4
    refine ⟨a, b, xs, ys, rfl, ?_, ?_, q _ H2 ph2 (t1.trans t2) r2 (walks_zB Mu.sub h3 r3 h4 r4)⟩
    · cases c
      · exact h3
      · exact SqL.of (show H2 a = some (.lst xs) from h3.1)
    · cases d
      · exact h4
      · exact SqL.of (show H2 b = some (.lst ys) from h4.1)
theorem q_zX {c d : Bool} {ro : Env} {S : Store} : iZX c d ma mb ro S = (ma ro S).bind fun x S1 => (mb ro S1).bind fun y S2 => kZB c d x y S2 := rfl
theorem k_ztl {as bs : List PyData} {S : Store} : kZB false true (.p (.tuple as)) (.p (.list bs)) S = .ok (pairsF as bs) S := rfl
theorem k_zlt {as bs : List PyData} {S : Store} : kZB true false (.p (.list as)) (.p (.tuple bs)) S = .ok (pairsF as bs) S := rfl
end
end
end Mi

namespace Mi
open PySem PySem.Spec PyProof.Rows L2
/-! ### set(list of ints) whose members can be walked -/
def emptyS (w : World) : Obj := { cls := .type "set", dict := none, data := .set #[] 0 (.fresh 0 0 (!w.params.followText "set-order")) }
def setHeap (w : World) (h : Heap) : Heap := h.push (emptyS w)
section
variable {P : Program} {w : World} {A : Around} {E : Value → Shared → Prop} {s : Shared}
set_option maxRecDepth 100000 in
set_option maxHeartbeats 3200000 in
theorem set_of_list {a : Addr} {its : Array Value} (ks : List Int) {Q : Value → Shared → Prop} (ch : A.handled = none) (la : s.heap.IsList a its) (ii : IntsAre its.toList ks) (few : ks.length + 1 < scanBound)
    (go : ∀ (h2 : Heap) (tk c : Nat), SetR w h2 s.heap.objs.size (fun j => decide (j ∈ ks)) c → c ≤ ks.length → (∀ b o, s.heap.get? b = some o → h2.get? b = some o) → Q (.ref s.heap.objs.size) { s with heap := h2, toks := tk }) :
    wpAny (model P w) A (call (.type "set") [.ref a]) Q E s := by
  have sz : its.size = ks.length := by rw [← Array.length_toList]; exact IntsAre.length ii
  obtain ⟨c0, tl, mro⟩ := F.called_set.mro
  have f1 := F.called_set.made; have f2 := F.called_set.sub; have f3 := F.called_set.notType
  have f4 := F.called_set.canCreate; have f5 := F.typeCall_set_1 (.ref a)
  apply wpAny_call; apply codeAny_of_tree
  show wpAny _ _ (callAny (.type "set") _) _ _ _
  apply wpAny_pure
  refine ⟨Code.quiet_builtin _ (by decide +kernel), ?_⟩
  apply codeAny_builtin F.entry_type_call
  rw [Around.under_plain (weight_type_call_type "set" [.ref a] []) rfl]
  repeat (any_goals (first | assumption | wp_step))
  refine codeAny_mono (code_set_led1 (.ref a) (E := E) (Q₁ := fun x s1 => x = .ref s.heap.objs.size ∧ s1 = { s with heap := setHeap w s.heap }) ⟨rfl, rfl⟩) fun r s1 hr => ?_
  rcases r with e | fl
  · exact hr
  cases fl with
  | next => exact hr.elim
  | brk => exact hr.elim
  | cont => exact hr.elim
  | ret x =>
    obtain ⟨rfl, rfl⟩ := hr
    have g0 : (setHeap w s.heap).get? s.heap.objs.size = some (emptyS w) := Heap.get?_push_size _ rfl
    have ty : Shared.TypeIs { s with heap := setHeap w s.heap } (.ref s.heap.objs.size) "set" := ⟨_, g0, rfl⟩
    have f6 := F.called_set.init.lookup; have f7 := F.called_set.init.bind (.ref s.heap.objs.size)
    repeat (any_goals (first | assumption | wp_step))
    refine codeAny_mono (codeAny_call_builtin (R := wants (fun r s2 => r = .none ∧ ∃ h2 tk c, s2 = { s with heap := h2, toks := tk } ∧ SetR w h2 s.heap.objs.size (fun j => decide (j ∈ ks)) c ∧ c ≤ ks.length ∧
      (∀ b o, s.heap.get? b = some o → h2.get? b = some o)) E) F.called_set.init.plain F.entry_set_init (check_set_init_1 ty ?_)) fun r2 s2 hr2 => ?_
    · obtain ⟨⟨oc, od, odt, osl⟩, ho, hc, n, hd⟩ := la
      simp only at hc hd
      subst hc hd
      have g1 : (setHeap w s.heap).get? a = some { cls := .type "list", dict := od, data := .seq its n, slots := osl } := Heap.get?_push_of_some _ ho
      have k1 := F.sub_list_set; have k2 := F.sub_list_frozenset
      have k3 : (Value.type "list" == Value.type "dict") = false := by decide
      have l1 : (setHeap w s.heap).IsList a its := ⟨_, g1, rfl, n, rfl⟩
      unfold Builtin.«set.__init__» noKeywords Builtin.Frozenset.updateFrom
      generalize eI : pyIter = PI
      wp_walk
      subst eI
      refine wpAny_pyIter_list l1 (wpAny_bind (wpAny_runValue ?_))
      have la0 : a < s.heap.objs.size := Heap.lt_size ho
      have z1 : (setHeap w s.heap).objs.size = s.heap.objs.size + 1 := Heap.size_push ..
      have ni : a ≠ (setHeap w s.heap).objs.size := by rw [z1]; exact Nat.ne_of_lt (Nat.lt_succ_of_lt la0)
      have nf : s.heap.objs.size ∉ [(setHeap w s.heap).objs.size, a] := by
        rw [z1]
        intro m
        rcases List.mem_cons.mp m with m | m
        · exact absurd m (Nat.ne_of_lt (Nat.lt_succ_self _))
        · exact absurd (List.mem_singleton.mp m) (Nat.ne_of_gt la0)
      have vs : ∀ (i : Nat) (v : Value), its[i]? = some v → ∃ k t, ks[i]? = some k ∧ v = .int k t := by
        intro i v hv
        have hi : i < ks.length := by rw [← sz]; exact (Array.getElem?_eq_some_iff.mp hv).1
        obtain ⟨t, e⟩ := PyProof.Rows.IntsAre.int_at ii i v (by rw [Array.getElem?_toList, hv])
        exact ⟨ks[i], t, List.getElem?_eq_getElem hi, by rw [e, List.getD_eq_getElem?_getD, List.getElem?_eq_getElem hi]; rfl⟩
      refine set_update_ints ((Walks.list (by simp [ch]) _ a ni its).toS) s.heap.objs.size nf ks sz few vs (its.size - 0) 0 _ (by omega) (Nat.zero_le _) ⟨⟨_, Heap.get?_push_size _ rfl, rfl, rfl⟩, l1.push _⟩ ⟨0, Nat.le_refl 0, setR_new_at (Heap.get?_push_of_some _ g0)⟩ ?_
      rintro ⟨h2, g2, d2, t2, o2⟩ c2 mv le R2
      have m1 : g2 = s.gens := mv.gens
      have m2 : d2 = s.drawn := mv.drawn
      have m3 : o2 = s.os := mv.os
      subst m1 m2 m3
      show wpAny _ _ _ _ _ _
      refine wpAny_pure ?_
      show wpAny _ _ (ret Value.none) _ _ _
      refine wpAny_pure ⟨rfl, h2, t2, c2, rfl, R2, by rw [← sz]; exact le, fun b o e => ?_⟩
      have lb := Heap.lt_size e
      refine mv.heap b o (fun m => ?_) (Heap.get?_push_of_some _ (Heap.get?_push_of_some _ e))
      rcases List.mem_cons.mp m with m | m
      · exact absurd m (Nat.ne_of_lt lb)
      · exact absurd (List.mem_singleton.mp m) (by rw [z1]; exact Nat.ne_of_lt (Nat.lt_succ_of_lt lb))
    · rcases r2 with e | fl
      · exact hr2
      cases fl with
      | next => exact hr2.elim
      | brk => exact hr2.elim
      | cont => exact hr2.elim
      | ret r =>
        obtain ⟨rfl, h2, tk, c2, rfl, R2, le, kp⟩ := hr2
        repeat (any_goals (first | assumption | wp_step))
        exact go _ _ _ R2 le kp
end
noncomputable section
def insD (x : Int) : List Int → List Int
  | [] => [x]
  | y :: r => if x < y then x :: y :: r else if x = y then y :: r else y :: insD x r
def srtD (ks : List Int) : List Int := ks.foldr insD []
theorem mem_insD (x k : Int) : ∀ l : List Int, k ∈ insD x l ↔ k = x ∨ k ∈ l
  | [] => by simp [insD]
  | y :: r => by
    unfold insD
    split
    · simp
    · split
      · rename_i e
        subst e
        simp
      · rw [List.mem_cons, mem_insD x k r, List.mem_cons]
        constructor
        · rintro (h | h | h)
          · exact .inr (.inl h)
          · exact .inl h
          · exact .inr (.inr h)
        · rintro (h | h | h)
          · exact .inr (.inl h)
          · exact .inl h
          · exact .inr (.inr h)
theorem pw_insD (x : Int) : ∀ {l : List Int}, l.Pairwise (· < ·) → (insD x l).Pairwise (· < ·)
  | [], _ => by simp [insD]
  | y :: r, h => by
    obtain ⟨h1, h2⟩ := List.pairwise_cons.mp h
    unfold insD
    split
    · rename_i lt
      refine List.pairwise_cons.mpr ⟨fun k hk => ?_, h⟩
      rcases List.mem_cons.mp hk with rfl | hk
      · exact lt
      · exact Int.lt_trans lt (h1 k hk)
    · split
      · exact h
      · refine List.pairwise_cons.mpr ⟨fun k hk => ?_, pw_insD x h2⟩
        rcases (mem_insD x k r).mp hk with rfl | hk
        · omega
        · exact h1 k hk
theorem mem_srtD (k : Int) : ∀ {ks : List Int}, k ∈ srtD ks ↔ k ∈ ks
  | [] => Iff.rfl
  | x :: r => by
    show k ∈ insD x (srtD r) ↔ _
    rw [mem_insD, mem_srtD k, List.mem_cons]
theorem pw_srtD : ∀ {ks : List Int}, (srtD ks).Pairwise (· < ·)
  | [] => List.Pairwise.nil
  | x :: r => pw_insD x (pw_srtD (ks := r))
theorem pw_uniq : ∀ {a b : List Int}, a.Pairwise (· < ·) → b.Pairwise (· < ·) → (∀ k, k ∈ a ↔ k ∈ b) → a = b
  | [], [], _, _, _ => rfl
  | [], y :: b, _, _, h => absurd ((h y).mpr List.mem_cons_self) (by simp)
  | x :: a, [], _, _, h => absurd ((h x).mp List.mem_cons_self) (by simp)
  | x :: a, y :: b, ha, hb, h => by
    obtain ⟨a1, a2⟩ := List.pairwise_cons.mp ha
    obtain ⟨b1, b2⟩ := List.pairwise_cons.mp hb
    have e : x = y := by
      rcases List.mem_cons.mp ((h x).mp List.mem_cons_self) with e | e
      · exact e
      · rcases List.mem_cons.mp ((h y).mpr List.mem_cons_self) with e' | e'
        · exact e'.symm
        · have := a1 y e'
          have := b1 x e
          omega
    subst e
    rw [pw_uniq a2 b2 fun k => ?_]
    constructor
    · intro hk
      rcases List.mem_cons.mp ((h k).mp (List.mem_cons_of_mem _ hk)) with e | e
      · have := a1 k hk
        omega
      · exact e
    · intro hk
      rcases List.mem_cons.mp ((h k).mpr (List.mem_cons_of_mem _ hk)) with e | e
      · have := b1 k hk
        omega
      · exact e
def srtF : List D → Store → Option D
  | [.p (.list ds)], _ => (asInts ds).bind fun ks => if ks.length ≤ 60 then some (.p (.list ((srtD ks).map .int))) else none
  | _, _ => none
def rSetL (K : PySem.W.Frag) (w : World) : List V → Hp → VK → Prop := fun vs H Q => ∃ (a : Addr) (ks : List Int), vs = [.ref a] ∧ SqL K H a (ks.map V.int) ∧ ks.length ≤ 1000 ∧ ∀ (p : Addr) (c : Nat), H p = none → c ≤ ks.length → Q (.ref p) (upd H p (SetO w p (fun j => decide (j ∈ ks)) c))
section
variable {X : Cx} {ow : Nat → Bool} {e : Expr} {p p2 pos pos2 : Pos} {am : AM}
theorem cr_setL (hc : X.calm = true) : CallR X (.type "set") (rSetL X.K X.w) := by
  intro pins s σ H vs us Q I r h
  obtain ⟨a, ks, rfl, hl, hk, q⟩ := h
  rw [Vals.ref1 r]
  obtain ⟨its, rv, el, hlen⟩ := I.list hl
  have ii : IntsAre its.toArray.toList ks := ints_of_vals rv
  refine set_of_list ks (I.ok.hd hc) el.isList ii (by unfold scanBound; omega) fun h2 tk c R le kp => ?_
  exact ⟨.ref s.heap.objs.size, _, I.laid (t' := tk) kp (Nat.le_refl _) (setO_new R), rfl, q _ c (I.hok.fresh (Nat.le_refl _)) le⟩
theorem mf_srt (hc : X.calm = true) (hg : Gl X "sorted") (hm : X.mg "sorted" = none) (hg2 : Gl X "set") (hm2 : X.mg "set" = none) (ha : PA X [e] (tAs .p X.K ow am))
    (he : starEach [e] X.env = (false, eval e X.env) :: starEach [] X.env := by rfl) (hpl : (backTo pos2 (starEach [] X.env)).any (·.1) = false := by rfl)
    (he2 : starEach [.Call (.Name "set" p2) [e] [] pos2] X.env = (false, eval (.Call (.Name "set" p2) [e] [] pos2) X.env) :: starEach [] X.env := by rfl) (hpl2 : (backTo pos (starEach [] X.env)).any (·.1) = false := by rfl) :
    PE X (.Call (.Name "sorted" p) [.Call (.Name "set" p2) [e] [] pos2] [] pos) (tG .f X.K ow (eBlt srtF am)) :=
  PE.imp (pe_callB (cr_sortedSet hc) hg hm (by decide +kernel) (pa_cons (pe_callTy (cr_setL hc) hg2 hm2 PyProof.Rows.boot_set ha (by decide) (by decide) he hpl) pa_nil he2) (by decide) (by decide) he2 hpl2) fun sg H Q ⟨ph, E, O, ro, S, st, d, S', ev, q⟩ => by
    obtain ⟨ds, S1, e1, ev⟩ := Res.bind_ok ev
    obtain ⟨e2, rfl⟩ := optR_ok ev
    refine ⟨ph, E, O, ro, S, st, ds, _, e1, fun vs H1 ph1 t1 r1 z1 => ?_⟩
    have st1 := st.step t1 r1
    unfold srtF at e2
    split at e2
    · rename_i ds0
      cases e3 : asInts ds0 with
      | none => rw [e3] at e2; cases e2
      | some ks =>
        rw [e3] at e2
        simp only [Option.bind_some] at e2
        split at e2
        · rename_i le
          cases e2
          obtain ⟨v, rfl, hv⟩ := p1 z1
          obtain ⟨a, xs, rfl, h1, n1, rr⟩ := hv.list_
          rw [asInts_ok e3] at rr
          have ex := rr.ints
          subst ex
          refine ⟨a, ks, rfl, SqL.of h1, by omega, fun b c nb lc => ?_⟩
          refine ⟨b, _, c, rfl, upd_same, by omega, fun ns b2 pw mm ll nb2 => ?_⟩
          have en : ns = srtD ks := pw_uniq pw pw_srtD fun k => by rw [mm k, mem_srtD, decide_eq_true_eq]
          subst en
          have sf : Step ph1 ph1 H1 (upd H1 b (SetO X.w b (fun j => decide (j ∈ ks)) c)) := Step.fresh nb
          have r2 := r1.fresh (o := SetO X.w b (fun j => decide (j ∈ ks)) c) nb
          exact out_lst r2 (fun v H3 t3 r3 z3 => q v H3 ph1 ((t1.trans sf).trans t3) r3 (z3.back fun a h => (t1.trans sf).dom a h)) (RepAll.of_ints _) b2 nb2
        · cases e2
    · cases e2
end
theorem v_srt {ds : List PyData} {S : Store} {ks : List Int} (h : asInts ds = some ks) (hl : ks.length ≤ 60) : srtF [.p (.list ds)] S = some (.p (.list ((srtD ks).map .int))) := by
  show (asInts ds).bind _ = _
  rw [h, Option.bind_some, if_pos hl]
end
end Mi

namespace Lw
open PySem PySem.Spec PyProof.Rows L2 Mi
noncomputable section
def topS (i : Nat) : Stmt := PySem.Challenge.pw_lanternrows_k10_least_rounds.main.body.getD i (.Pass ⟨0, 0, 0, 0⟩)
structure Top (K : PySem.W.Frag) (mg : Str → Option Value) : Prop where
  d_is_whole : DefG K mg "is_whole" (topS 7) ["thing"]
  d_is_tuple_of : DefG K mg "is_tuple_of" (topS 9) ["thing", "least", "most"]
  d_is_between : DefG K mg "is_between" (topS 8) ["thing", "least", "most"]
  d_is_row : DefG K mg "is_row" (topS 10) ["thing"]
  d_is_layer : DefG K mg "is_layer" (topS 11) ["thing"]
  d_look_at_layer : DefG K mg "look_at_layer" (topS 12) ["layer"]
  d_holds_of : DefG K mg "holds_of" (topS 13) ["rows"]
  d_drawing_in : DefG K mg "drawing_in" (topS 15) ["layer", "moment"]
  d_told_round : DefG K mg "told_round" (topS 17) ["layer"]
  d_round_in : DefG K mg "round_in" (topS 18) ["layer"]
  d_is_round : DefG K mg "is_round" (topS 19) ["layer", "thing"]
  d_least_round : DefG K mg "least_round" (topS 20) ["layer"]
  d__law_cell_at : DefG K mg "_law_cell_at" (topS 22) ["_law_script", "_law_k"]
  d__law_state : DefG K mg "_law_state" (topS 23) ["_law_script", "_law_k"]
  d__law_same : DefG K mg "_law_same" (topS 25) ["_law_found", "_law_due"]
  d__law_take : DefG K mg "_law_take" (topS 24) ["_law_state_here", "_law_many"]
  d__law_row : DefG K mg "_law_row" (topS 26) ["_law_state_here", "_law_way"]
  d__law_layer : DefG K mg "_law_layer" (topS 27) ["_law_state_here"]
  d__law_turning : DefG K mg "_law_turning" (topS 28) ["_law_state_here"]
  d__law_laying : DefG K mg "_law_laying" (topS 29) ["_law_layer_here", "_law_many"]
  d__law_round : DefG K mg "_law_round" (topS 30) ["_law_layer_here"]
  d_law : DefG K mg "law" (topS 31) ["_law_script"]
  z_isinstance : mg "isinstance" = none
  z_int : mg "int" = none
  z_bool : mg "bool" = none
  z_tuple : mg "tuple" = none
  z_len : mg "len" = none
  z_all : mg "all" = none
  z_sum : mg "sum" = none
  z_range : mg "range" = none
  z_max : mg "max" = none
  z_list : mg "list" = none
  z_zip : mg "zip" = none
  z_min : mg "min" = none
  z_repr : mg "repr" = none
  z_sorted : mg "sorted" = none
  z_set : mg "set" = none
  g_DRAWINGS : ∃ t, mg "DRAWINGS" = some (.int 9 t)
  g_HOLD : ∃ t, mg "HOLD" = some (.int 24 t)
  g_ROWS : ∃ t, mg "ROWS" = some (.int 8 t)
section
variable {P : Program} {w : World} {K : PySem.W.Frag} {mg : Str → Option Value} {base : Heap}
/-! ### is_whole -/
def m_is_whole : SM :=
 (sRet (eAnd (eIsi "int" (eVar 0)) (eNot (eIsi "bool" (eVar 0)))))
def c_is_whole : List D → M D := bodyF .e 1 1 m_is_whole
theorem u_is_whole (a0 : D) (S : Store) : c_is_whole [a0] S = (m_is_whole [some a0] S).bind (kBody .e) := q_body rfl
theorem ok_is_whole (T : Top K mg) : CalG P w K mg base 1 .e "is_whole" ["thing"] c_is_whole := by
  refine cal_of (ow := fun i => false) (m := m_is_whole) (N := ["thing"]) T.d_is_whole (sc := ?sc) (bd := ?bd) ?hsc ?hbd ?Sc ?hk ?ho ?body
  case hsc => conv => lhs; whnf
  case hbd => conv => lhs; whnf
  case Sc => exact ⟨rfl, rfl, rfl, by decide +kernel, rfl, by decide +kernel, by decide +kernel⟩
  case hk => decide
  case ho => decide
  intro f fd cdv A fr s H hr hg
  have Nd : (["thing"] : List Str).Nodup := by decide +kernel
  exact (ms_one (ms_ret (me_and (me_isi "int" (by decide) rfl T.z_isinstance rfl T.z_int (by decide +kernel) (e2p (me_var 0))) (me_one (me_not (me_isi "bool" (by decide) rfl T.z_isinstance rfl T.z_bool (by decide +kernel) (e2p (me_var 0))))))))
/-! ### is_tuple_of -/
def m_is_tuple_of : SM :=
 (sRet (eAnd (eIsi "tuple" (eVar 0)) (eChn cLe cLe (eVar 1) (eBlt lenF (aCons (eVar 0) aNil)) (eVar 2))))
def c_is_tuple_of : List D → M D := bodyF .e 3 3 m_is_tuple_of
theorem u_is_tuple_of (a0 a1 a2 : D) (S : Store) : c_is_tuple_of [a0, a1, a2] S = (m_is_tuple_of [some a0, some a1, some a2] S).bind (kBody .e) := q_body rfl
theorem ok_is_tuple_of (T : Top K mg) : CalG P w K mg base 1 .e "is_tuple_of" ["thing", "least", "most"] c_is_tuple_of := by
  refine cal_of (ow := fun i => false) (m := m_is_tuple_of) (N := ["thing", "least", "most"]) T.d_is_tuple_of (sc := ?sc) (bd := ?bd) ?hsc ?hbd ?Sc ?hk ?ho ?body
  case hsc => conv => lhs; whnf
  case hbd => conv => lhs; whnf
  case Sc => exact ⟨rfl, rfl, rfl, by decide +kernel, rfl, by decide +kernel, by decide +kernel⟩
  case hk => decide
  case ho => decide
  intro f fd cdv A fr s H hr hg
  have Nd : (["thing", "least", "most"] : List Str).Nodup := by decide +kernel
  exact (ms_one (ms_ret (me_and (me_isi "tuple" (by decide) rfl T.z_isinstance rfl T.z_tuple (by decide +kernel) (e2p (me_var 0))) (me_one (mk_chain op_le op_le (e2p (me_var 1)) (e2p (me_len rfl T.z_len (ma_cons (e2p (me_var 0)) ma_nil))) (e2p (me_var 2)))))))
/-! ### is_between -/
def m_is_between : SM :=
 (sRet (eAnd (eCall c_is_whole (aCons (eVar 0) aNil)) (eChn cLe cLe (eVar 1) (eVar 0) (eVar 2))))
def c_is_between : List D → M D := bodyF .e 3 3 m_is_between
theorem u_is_between (a0 a1 a2 : D) (S : Store) : c_is_between [a0, a1, a2] S = (m_is_between [some a0, some a1, some a2] S).bind (kBody .e) := q_body rfl
theorem ok_is_between (T : Top K mg) : CalG P w K mg base 2 .e "is_between" ["thing", "least", "most"] c_is_between := by
  refine cal_of (ow := fun i => false) (m := m_is_between) (N := ["thing", "least", "most"]) T.d_is_between (sc := ?sc) (bd := ?bd) ?hsc ?hbd ?Sc ?hk ?ho ?body
  case hsc => conv => lhs; whnf
  case hbd => conv => lhs; whnf
  case Sc => exact ⟨rfl, rfl, rfl, by decide +kernel, rfl, by decide +kernel, by decide +kernel⟩
  case hk => decide
  case ho => decide
  intro f fd cdv A fr s H hr hg
  have Nd : (["thing", "least", "most"] : List Str).Nodup := by decide +kernel
  exact (ms_one (ms_ret (me_and (mk_callC (ok_is_whole T) (hr.mono (by decide)) hg rfl (ma_cons (me_var 0) ma_nil) (al_cons al_nil)) (me_one (mk_chain op_le op_le (e2p (me_var 1)) (e2p (me_var 0)) (e2p (me_var 2)))))))
/-! ### is_row -/
def m_is_row : SM :=
 (sRet (eAnd (eCall c_is_tuple_of (aCons (eVar 0) (aCons (eCon (.p (.int 2))) (aCons (eCon (.p (.int 2))) aNil)))) (eAnd (eCall c_is_between (aCons (eBinS idxF (eVar 0) (eCon (.p (.int 0)))) (aCons (eCon (.p (.int 0))) (aCons (eCon (.p (.int 9))) aNil)))) (eCall c_is_between (aCons (eBinS idxF (eVar 0) (eCon (.p (.int 1)))) (aCons (eCon (.p (.int 1))) (aCons (eCon (.p (.int 24))) aNil)))))))
def c_is_row : List D → M D := bodyF .e 1 1 m_is_row
theorem u_is_row (a0 : D) (S : Store) : c_is_row [a0] S = (m_is_row [some a0] S).bind (kBody .e) := q_body rfl
theorem ok_is_row (T : Top K mg) : CalG P w K mg base 3 .e "is_row" ["thing"] c_is_row := by
  refine cal_of (ow := fun i => false) (m := m_is_row) (N := ["thing"]) T.d_is_row (sc := ?sc) (bd := ?bd) ?hsc ?hbd ?Sc ?hk ?ho ?body
  case hsc => conv => lhs; whnf
  case hbd => conv => lhs; whnf
  case Sc => exact ⟨rfl, rfl, rfl, by decide +kernel, rfl, by decide +kernel, by decide +kernel⟩
  case hk => decide
  case ho => decide
  intro f fd cdv A fr s H hr hg
  have Nd : (["thing"] : List Str).Nodup := by decide +kernel
  exact (ms_one (ms_ret (me_and (mk_callC (ok_is_tuple_of T) (hr.mono (by decide)) hg rfl (ma_cons (me_var 0) (ma_cons me_int (ma_cons me_int ma_nil))) (al_cons (al_cons (al_cons al_nil)))) (me_and (mk_callC (ok_is_between T) (hr.mono (by decide)) hg rfl (ma_cons (me_ix (e2p (me_var 0)) (e2p me_int)) (ma_cons me_int (ma_cons (me_gintE rfl T.g_DRAWINGS) ma_nil))) (al_cons (al_cons (al_cons al_nil)))) (me_one (mk_callC (ok_is_between T) (hr.mono (by decide)) hg rfl (ma_cons (me_ix (e2p (me_var 0)) (e2p me_int)) (ma_cons me_int (ma_cons (me_gintE rfl T.g_HOLD) ma_nil))) (al_cons (al_cons (al_cons al_nil)))))))))
/-! ### is_layer -/
def m_is_layer : SM :=
 (sSeq (sIf (bOr (bNot (bVal (eCall c_is_tuple_of (aCons (eVar 0) (aCons (eCon (.p (.int 2))) (aCons (eCon (.p (.int 2))) aNil)))))) (bNot (bVal (eCall c_is_tuple_of (aCons (eBinS idxF (eVar 0) (eCon (.p (.int 0)))) (aCons (eCon (.p (.int 0))) (aCons (eCon (.p (.int 8))) aNil))))))) (sRet (eCon (.p (.bool false)))) sNil)
 (sSeq (sIf (bNot (bVal (eBlt allF (aCons (eComp [1] (.nm 1) (iSeq (eBinS idxF (eVar 0) (eCon (.p (.int 0))))) bTrue (eCall c_is_row (aCons (eVar 1) aNil))) aNil)))) (sRet (eCon (.p (.bool false)))) sNil)
 (sRet (eOr (eBin (bD isNF) (eBinS idxF (eVar 0) (eCon (.p (.int 1)))) (eCon (.p .none))) (eCall c_is_between (aCons (eBinS idxF (eVar 0) (eCon (.p (.int 1)))) (aCons (eCon (.p (.int 0))) (aCons (xSub (eBlt lenF (aCons (eBinS idxF (eVar 0) (eCon (.p (.int 0)))) aNil)) (eCon (.p (.int 1)))) aNil))))))))
def c_is_layer : List D → M D := bodyF .e 1 2 m_is_layer
theorem u_is_layer (a0 : D) (S : Store) : c_is_layer [a0] S = (m_is_layer [some a0, none] S).bind (kBody .e) := q_body rfl
theorem ok_is_layer (T : Top K mg) : CalG P w K mg base 4 .e "is_layer" ["thing"] c_is_layer := by
  refine cal_of (ow := fun i => false) (m := m_is_layer) (N := ["thing", "row"]) T.d_is_layer (sc := ?sc) (bd := ?bd) ?hsc ?hbd ?Sc ?hk ?ho ?body
  case hsc => conv => lhs; whnf
  case hbd => conv => lhs; whnf
  case Sc => exact ⟨rfl, rfl, rfl, by decide +kernel, rfl, by decide +kernel, by decide +kernel⟩
  case hk => decide
  case ho => decide
  intro f fd cdv A fr s H hr hg
  have Nd : (["thing", "row"] : List Str).Nodup := by decide +kernel
  exact (ms_cons (ms_if (PW.pt (mw_or (mt_not (mt_val (mk_callC (ok_is_tuple_of T) (hr.mono (by decide)) hg rfl (ma_cons (me_var 0) (ma_cons me_int (ma_cons me_int ma_nil))) (al_cons (al_cons (al_cons al_nil)))))) (mw_or1 (mt_not (mt_val (mk_callC (ok_is_tuple_of T) (hr.mono (by decide)) hg rfl (ma_cons (me_ix (e2p (me_var 0)) (e2p me_int)) (ma_cons me_int (ma_cons (me_gintE rfl T.g_ROWS) ma_nil))) (al_cons (al_cons (al_cons al_nil))))))))) (ms_one (ms_ret me_bool)) ms_nil)
 (ms_cons (ms_if (mt_not (mt_val (me_all rfl rfl T.z_all (ma_cons (f2p (mf_lc rfl Nd (own := [("row", 1)]) (mi_seq (me_ix (e2p (me_var 0)) (e2p me_int))) (blkOk_by (by kernel_rfl)) (by simp [Pt.slots, slotsAll]) (fun _ _ _ _ _ => (mg_nm Nd rfl (by first | exact .inl rfl | exact .inr rfl))) (fun _ _ _ _ _ => (mk_callC (ok_is_row T) (hr.mono (by decide)) hg rfl (ma_cons (me_var 1) ma_nil) (al_cons al_nil))))) ma_nil)))) (ms_one (ms_ret me_bool)) ms_nil)
 (ms_one (ms_ret (me_or (me_isN (e2p (me_ix (e2p (me_var 0)) (e2p me_int))) (e2p me_none)) (me_one (mk_callC (ok_is_between T) (hr.mono (by decide)) hg rfl (ma_cons (me_ix (e2p (me_var 0)) (e2p me_int)) (ma_cons me_int (ma_cons (me_sub (e2p (me_len rfl T.z_len (ma_cons (e2p (me_ix (e2p (me_var 0)) (e2p me_int))) ma_nil))) (e2p me_int)) ma_nil))) (al_cons (al_cons (al_cons al_nil))))))))))
/-! ### look_at_layer -/
def m_look_at_layer : SM :=
 (sIf (bNot (bVal (eCall c_is_layer (aCons (eVar 0) aNil)))) sBad sNil)
def c_look_at_layer : List D → M D := bodyF .e 1 1 m_look_at_layer
theorem u_look_at_layer (a0 : D) (S : Store) : c_look_at_layer [a0] S = (m_look_at_layer [some a0] S).bind (kBody .e) := q_body rfl
theorem ok_look_at_layer (T : Top K mg) : CalG P w K mg base 5 .e "look_at_layer" ["layer"] c_look_at_layer := by
  refine cal_of (ow := fun i => false) (m := m_look_at_layer) (N := ["layer"]) T.d_look_at_layer (sc := ?sc) (bd := ?bd) ?hsc ?hbd ?Sc ?hk ?ho ?body
  case hsc => conv => lhs; whnf
  case hbd => conv => lhs; whnf
  case Sc => exact ⟨rfl, rfl, rfl, by decide +kernel, rfl, by decide +kernel, by decide +kernel⟩
  case hk => decide
  case ho => decide
  intro f fd cdv A fr s H hr hg
  have Nd : (["layer"] : List Str).Nodup := by decide +kernel
  exact (ms_one (ms_if (mt_not (mt_val (mk_callC (ok_is_layer T) (hr.mono (by decide)) hg rfl (ma_cons (me_var 0) ma_nil) (al_cons al_nil)))) (ms_one ms_never) ms_nil))
/-! ### holds_of -/
def m_holds_of : SM :=
 (sRet (eBlt sumF (aCons (eComp [1] (.nm 1) (iSeq (eVar 0)) bTrue (eBinS idxF (eVar 1) (eCon (.p (.int 1))))) aNil)))
def c_holds_of : List D → M D := bodyF .e 1 2 m_holds_of
theorem u_holds_of (a0 : D) (S : Store) : c_holds_of [a0] S = (m_holds_of [some a0, none] S).bind (kBody .e) := q_body rfl
theorem ok_holds_of (T : Top K mg) : CalG P w K mg base 1 .e "holds_of" ["rows"] c_holds_of := by
  refine cal_of (ow := fun i => false) (m := m_holds_of) (N := ["rows", "row"]) T.d_holds_of (sc := ?sc) (bd := ?bd) ?hsc ?hbd ?Sc ?hk ?ho ?body
  case hsc => conv => lhs; whnf
  case hbd => conv => lhs; whnf
  case Sc => exact ⟨rfl, rfl, rfl, by decide +kernel, rfl, by decide +kernel, by decide +kernel⟩
  case hk => decide
  case ho => decide
  intro f fd cdv A fr s H hr hg
  have Nd : (["rows", "row"] : List Str).Nodup := by decide +kernel
  exact (ms_one (ms_ret (me_sum rfl rfl T.z_sum (ma_cons (f2p (mf_lc rfl Nd (own := [("row", 1)]) (mi_seq (me_var 0)) (blkOk_by (by kernel_rfl)) (by simp [Pt.slots, slotsAll]) (fun _ _ _ _ _ => (mg_nm Nd rfl (by first | exact .inl rfl | exact .inr rfl))) (fun _ _ _ _ _ => (me_ix (e2p (me_var 1)) (e2p me_int))))) ma_nil))))
/-! ### drawing_in -/
def lb_drawing_in_0 : SM :=
 (sSeq (sIf (bBin ltI (eVar 1) (eVar 7)) (sRet (eVar 6)) sNil)
 (sSet 1 (xSub (eVar 1) (eVar 7))))
def m_drawing_in : SM :=
 (sSeq (sAsg (.tp [(.nm 2), (.nm 3)]) (eVar 0))
 (sSeq (sSet 4 (eCall c_holds_of (aCons (eVar 2) aNil)))
 (sSeq (sIf (bAnd (bBin geI (eVar 1) (eVar 4)) (bBin isNF (eVar 3) (eCon (.p .none)))) (sRet (eCon (.p (.int 0)))) sNil)
 (sSeq (sIf (bBin geI (eVar 1) (eVar 4)) (sSeq (sSet 5 (eCall c_holds_of (aCons (eSl slT (eVar 2) oNone (oSome (eVar 3))) aNil)))
 (sSet 1 (xAdd (eVar 5) (xMod (xSub (eVar 1) (eVar 5)) (xSub (eVar 4) (eVar 5)))))) sNil)
 (sSeq (sFor (.tp [(.nm 6), (.nm 7)]) (iSeq (eVar 2)) lb_drawing_in_0)
 (sRet (eCon (.p (.int 0)))))))))
def c_drawing_in : List D → M D := bodyF .e 2 8 m_drawing_in
theorem u_drawing_in (a0 a1 : D) (S : Store) : c_drawing_in [a0, a1] S = (m_drawing_in [some a0, some a1, none, none, none, none, none, none] S).bind (kBody .e) := q_body rfl
theorem ok_drawing_in (T : Top K mg) : CalG P w K mg base 2 .e "drawing_in" ["layer", "moment"] c_drawing_in := by
  refine cal_of (ow := fun i => false) (m := m_drawing_in) (N := ["layer", "moment", "rows", "back", "whole", "ahead", "drawing", "hold"]) T.d_drawing_in (sc := ?sc) (bd := ?bd) ?hsc ?hbd ?Sc ?hk ?ho ?body
  case hsc => conv => lhs; whnf
  case hbd => conv => lhs; whnf
  case Sc => exact ⟨rfl, rfl, rfl, by decide +kernel, rfl, by decide +kernel, by decide +kernel⟩
  case hk => decide
  case ho => decide
  intro f fd cdv A fr s H hr hg
  have Nd : (["layer", "moment", "rows", "back", "whole", "ahead", "drawing", "hold"] : List Str).Nodup := by decide +kernel
  exact (ms_cons (ms_asg (me_var 0) (mg_tp rfl (mgs_cons (mg_nm Nd rfl (.inl rfl)) (mgs_cons (mg_nm Nd rfl (.inl rfl)) mgs_nil))))
 (ms_cons (ms_set (i := 4) Nd rfl (.inl rfl) (mk_callC (ok_holds_of T) (hr.mono (by decide)) hg rfl (ma_cons (me_var 2) ma_nil) (al_cons al_nil)))
 (ms_cons (ms_if (PW.pt (mw_and (mt_ge (e2p (me_var 1)) (e2p (me_var 4))) (mw_and1 (mt_isN (e2p (me_var 3)) (e2p me_none))))) (ms_one (ms_ret me_int)) ms_nil)
 (ms_cons (ms_if (mt_ge (e2p (me_var 1)) (e2p (me_var 4))) (ms_cons (ms_set (i := 5) Nd rfl (.inl rfl) (mk_callC (ok_holds_of T) (hr.mono (by decide)) hg rfl (ma_cons (me_sl (e2p (me_var 2)) mo_none (mo_some (e2p (me_var 3)))) ma_nil) (al_cons al_nil)))
 (ms_one (ms_set (i := 1) Nd rfl (.inl rfl) (me_add (e2p (me_var 5)) (e2p (me_mod (e2p (me_sub (e2p (me_var 1)) (e2p (me_var 5)))) (e2p (me_sub (e2p (me_var 4)) (e2p (me_var 5)))))))))) ms_nil)
 (ms_cons (ms_for PassesOwn.never rfl (mi_seq (me_var 2)) (mg_tp rfl (mgs_cons (mg_nm Nd rfl (.inl rfl)) (mgs_cons (mg_nm Nd rfl (.inl rfl)) mgs_nil))) (ms_cons (ms_if (mt_lt (e2p (me_var 1)) (e2p (me_var 7))) (ms_one (ms_ret (me_var 6))) ms_nil)
 (ms_one (ms_set (i := 1) Nd rfl (.inl rfl) (me_sub (e2p (me_var 1)) (e2p (me_var 7)))))))
 (ms_one (ms_ret me_int)))))))
/-! ### told_round -/
def m_told_round : SM :=
 (sSeq (sAsg (.tp [(.nm 1), (.nm 2)]) (eVar 0))
 (sSeq (sIf (bBin isNF (eVar 2) (eCon (.p .none))) (sRet (eTup (aCons (eCall c_holds_of (aCons (eVar 1) aNil)) (aCons (eCon (.p (.int 1))) aNil)))) sNil)
 (sRet (eTup (aCons (eCall c_holds_of (aCons (eSl slT (eVar 1) oNone (oSome (eVar 2))) aNil)) (aCons (eCall c_holds_of (aCons (eSl slT (eVar 1) (oSome (eVar 2)) oNone) aNil)) aNil))))))
def c_told_round : List D → M D := bodyF .e 1 3 m_told_round
theorem u_told_round (a0 : D) (S : Store) : c_told_round [a0] S = (m_told_round [some a0, none, none] S).bind (kBody .e) := q_body rfl
theorem ok_told_round (T : Top K mg) : CalG P w K mg base 2 .e "told_round" ["layer"] c_told_round := by
  refine cal_of (ow := fun i => false) (m := m_told_round) (N := ["layer", "rows", "back"]) T.d_told_round (sc := ?sc) (bd := ?bd) ?hsc ?hbd ?Sc ?hk ?ho ?body
  case hsc => conv => lhs; whnf
  case hbd => conv => lhs; whnf
  case Sc => exact ⟨rfl, rfl, rfl, by decide +kernel, rfl, by decide +kernel, by decide +kernel⟩
  case hk => decide
  case ho => decide
  intro f fd cdv A fr s H hr hg
  have Nd : (["layer", "rows", "back"] : List Str).Nodup := by decide +kernel
  exact (ms_cons (ms_asg (me_var 0) (mg_tp rfl (mgs_cons (mg_nm Nd rfl (.inl rfl)) (mgs_cons (mg_nm Nd rfl (.inl rfl)) mgs_nil))))
 (ms_cons (ms_if (mt_isN (e2p (me_var 2)) (e2p me_none)) (ms_one (ms_ret (me_tup (ma_cons (mk_callC (ok_holds_of T) (hr.mono (by decide)) hg rfl (ma_cons (me_var 1) ma_nil) (al_cons al_nil)) (ma_cons me_int ma_nil)) (al_cons (al_cons al_nil))))) ms_nil)
 (ms_one (ms_ret (me_tup (ma_cons (mk_callC (ok_holds_of T) (hr.mono (by decide)) hg rfl (ma_cons (me_sl (e2p (me_var 1)) mo_none (mo_some (e2p (me_var 2)))) ma_nil) (al_cons al_nil)) (ma_cons (mk_callC (ok_holds_of T) (hr.mono (by decide)) hg rfl (ma_cons (me_sl (e2p (me_var 1)) (mo_some (e2p (me_var 2))) mo_none) ma_nil) (al_cons al_nil)) ma_nil)) (al_cons (al_cons al_nil)))))))
/-! ### round_in -/
def lb_round_in_0 : SM :=
 (sSet 1 (xSub (eVar 1) (eCon (.p (.int 1)))))
def m_round_in : SM :=
 (sSeq (sAsg (.tp [(.nm 1), (.nm 2)]) (eCall c_told_round (aCons (eVar 0) aNil)))
 (sSeq (sSet 3 (eComp [4] (.nm 4) (iR1 (eVar 2)) bTrue (eCall c_drawing_in (aCons (eVar 0) (aCons (xAdd (eVar 1) (eVar 4)) aNil)))))
 (sSeq (sSet 5 (eBinS idxF (eComp [6] (.nm 6) (iR2 (eCon (.p (.int 1))) (xAdd (eVar 2) (eCon (.p (.int 1))))) (bAnd (bBin eqF (xMod (eVar 2) (eVar 6)) (eCon (.p (.int 0)))) (bBin eqF (eVar 3) (xCat (eSl slL (eVar 3) (oSome (eVar 6)) oNone) (eSl slL (eVar 3) oNone (oSome (eVar 6)))))) (eVar 6)) (eCon (.p (.int 0)))))
 (sSeq (sWhile (bAnd (bBin gtI (eVar 1) (eCon (.p (.int 0)))) (bBin eqF (eCall c_drawing_in (aCons (eVar 0) (aCons (xSub (eVar 1) (eCon (.p (.int 1)))) aNil))) (eCall c_drawing_in (aCons (eVar 0) (aCons (xAdd (xSub (eVar 1) (eCon (.p (.int 1)))) (eVar 5)) aNil))))) lb_round_in_0)
 (sRet (eTup (aCons (eVar 1) (aCons (eVar 5) aNil))))))))
def c_round_in : List D → M D := bodyF .e 1 7 m_round_in
theorem u_round_in (a0 : D) (S : Store) : c_round_in [a0] S = (m_round_in [some a0, none, none, none, none, none, none] S).bind (kBody .e) := q_body rfl
theorem ok_round_in (T : Top K mg) : CalG P w K mg base 3 .e "round_in" ["layer"] c_round_in := by
  refine cal_of (ow := fun i => false) (m := m_round_in) (N := ["layer", "ahead", "many", "some", "step", "least", "size"]) T.d_round_in (sc := ?sc) (bd := ?bd) ?hsc ?hbd ?Sc ?hk ?ho ?body
  case hsc => conv => lhs; whnf
  case hbd => conv => lhs; whnf
  case Sc => exact ⟨rfl, rfl, rfl, by decide +kernel, rfl, by decide +kernel, by decide +kernel⟩
  case hk => decide
  case ho => decide
  intro f fd cdv A fr s H hr hg
  have Nd : (["layer", "ahead", "many", "some", "step", "least", "size"] : List Str).Nodup := by decide +kernel
  exact (ms_cons (ms_asg (mk_callC (ok_told_round T) (hr.mono (by decide)) hg rfl (ma_cons (me_var 0) ma_nil) (al_cons al_nil)) (mg_tp rfl (mgs_cons (mg_nm Nd rfl (.inr rfl)) (mgs_cons (mg_nm Nd rfl (.inr rfl)) mgs_nil))))
 (ms_cons (ms_set (i := 3) Nd rfl (.inr rfl) (f2e (mf_lc rfl Nd (own := [("step", 4)]) (mi_r1 rfl T.z_range (e2p (me_var 2))) (blkOk_by (by kernel_rfl)) (by simp [Pt.slots, slotsAll]) (fun _ _ _ _ _ => (mg_nm Nd rfl (by first | exact .inl rfl | exact .inr rfl))) (fun _ _ _ _ _ => (mk_callC (ok_drawing_in T) (hr.mono (by decide)) hg rfl (ma_cons (me_var 0) (ma_cons (me_add (e2p (me_var 1)) (e2p (me_var 4))) ma_nil)) (al_cons (al_cons al_nil)))))))
 (ms_cons (ms_set (i := 5) Nd rfl (.inl rfl) (me_ix (f2p (mf_lcif rfl Nd (own := [("size", 6)]) (mi_r2 rfl T.z_range (e2p me_int) (e2p (me_add (e2p (me_var 2)) (e2p me_int)))) (blkOk_by (by kernel_rfl)) (by simp [Pt.slots, slotsAll]) (fun _ _ _ _ _ => (mg_nm Nd rfl (by first | exact .inl rfl | exact .inr rfl))) (fun _ _ _ _ _ => (PW.pt (mw_and (mt_eq hr.units (e2p (me_mod (e2p (me_var 2)) (e2p (me_var 6)))) (e2p me_int)) (mw_and1 (mt_eq hr.units (e2p (me_var 3)) (f2p (mf_cat (f2p (mf_sl (e2p (me_var 3)) (mo_some (e2p (me_var 6))) mo_none)) (f2p (mf_sl (e2p (me_var 3)) mo_none (mo_some (e2p (me_var 6)))))))))))) (fun _ _ _ _ _ => (me_var 6)))) (e2p me_int)))
 (ms_cons (ms_while PassesOwn.never (PW.pt (mw_and (mt_gt (e2p (me_var 1)) (e2p me_int)) (mw_and1 (mt_eq hr.units (e2p (mk_callC (ok_drawing_in T) (hr.mono (by decide)) hg rfl (ma_cons (me_var 0) (ma_cons (me_sub (e2p (me_var 1)) (e2p me_int)) ma_nil)) (al_cons (al_cons al_nil)))) (e2p (mk_callC (ok_drawing_in T) (hr.mono (by decide)) hg rfl (ma_cons (me_var 0) (ma_cons (me_add (e2p (me_sub (e2p (me_var 1)) (e2p me_int))) (e2p (me_var 5))) ma_nil)) (al_cons (al_cons al_nil)))))))) (ms_one (ms_set (i := 1) Nd rfl (.inr rfl) (me_sub (e2p (me_var 1)) (e2p me_int)))))
 (ms_one (ms_ret (me_tup (ma_cons (me_var 1) (ma_cons (me_var 5) ma_nil)) (al_cons (al_cons al_nil)))))))))
/-! ### is_round -/
def m_is_round : SM :=
 (sSeq (sDrop (eCall c_look_at_layer (aCons (eVar 0) aNil)))
 (sSeq (sIf (bOr (bNot (bVal (eCall c_is_tuple_of (aCons (eVar 1) (aCons (eCon (.p (.int 2))) (aCons (eCon (.p (.int 2))) aNil)))))) (bOr (bNot (bVal (eCall c_is_whole (aCons (eBinS idxF (eVar 1) (eCon (.p (.int 0)))) aNil)))) (bNot (bVal (eCall c_is_whole (aCons (eBinS idxF (eVar 1) (eCon (.p (.int 1)))) aNil)))))) (sRet (eCon (.p (.bool false)))) sNil)
 (sSeq (sAsg (.tp [(.nm 2), (.nm 3)]) (eCall c_round_in (aCons (eVar 0) aNil)))
 (sRet (eAnd (eBin (bD geI) (eBinS idxF (eVar 1) (eCon (.p (.int 0)))) (eVar 2)) (eAnd (eBin (bD geI) (eBinS idxF (eVar 1) (eCon (.p (.int 1)))) (eCon (.p (.int 1)))) (eBin (bD eqF) (xMod (eBinS idxF (eVar 1) (eCon (.p (.int 1)))) (eVar 3)) (eCon (.p (.int 0))))))))))
def c_is_round : List D → M D := bodyF .e 2 4 m_is_round
theorem u_is_round (a0 a1 : D) (S : Store) : c_is_round [a0, a1] S = (m_is_round [some a0, some a1, none, none] S).bind (kBody .e) := q_body rfl
theorem ok_is_round (T : Top K mg) : CalG P w K mg base 6 .e "is_round" ["layer", "thing"] c_is_round := by
  refine cal_of (ow := fun i => false) (m := m_is_round) (N := ["layer", "thing", "ahead", "many"]) T.d_is_round (sc := ?sc) (bd := ?bd) ?hsc ?hbd ?Sc ?hk ?ho ?body
  case hsc => conv => lhs; whnf
  case hbd => conv => lhs; whnf
  case Sc => exact ⟨rfl, rfl, rfl, by decide +kernel, rfl, by decide +kernel, by decide +kernel⟩
  case hk => decide
  case ho => decide
  intro f fd cdv A fr s H hr hg
  have Nd : (["layer", "thing", "ahead", "many"] : List Str).Nodup := by decide +kernel
  exact (ms_cons (ms_drop (e2p (mk_callC (ok_look_at_layer T) (hr.mono (by decide)) hg rfl (ma_cons (me_var 0) ma_nil) (al_cons al_nil))))
 (ms_cons (ms_if (PW.pt (mw_or (mt_not (mt_val (mk_callC (ok_is_tuple_of T) (hr.mono (by decide)) hg rfl (ma_cons (me_var 1) (ma_cons me_int (ma_cons me_int ma_nil))) (al_cons (al_cons (al_cons al_nil)))))) (mw_or (mt_not (mt_val (mk_callC (ok_is_whole T) (hr.mono (by decide)) hg rfl (ma_cons (me_ix (e2p (me_var 1)) (e2p me_int)) ma_nil) (al_cons al_nil)))) (mw_or1 (mt_not (mt_val (mk_callC (ok_is_whole T) (hr.mono (by decide)) hg rfl (ma_cons (me_ix (e2p (me_var 1)) (e2p me_int)) ma_nil) (al_cons al_nil)))))))) (ms_one (ms_ret me_bool)) ms_nil)
 (ms_cons (ms_asg (mk_callC (ok_round_in T) (hr.mono (by decide)) hg rfl (ma_cons (me_var 0) ma_nil) (al_cons al_nil)) (mg_tp rfl (mgs_cons (mg_nm Nd rfl (.inl rfl)) (mgs_cons (mg_nm Nd rfl (.inl rfl)) mgs_nil))))
 (ms_one (ms_ret (me_and (me_ge (e2p (me_ix (e2p (me_var 1)) (e2p me_int))) (e2p (me_var 2))) (me_and (me_ge (e2p (me_ix (e2p (me_var 1)) (e2p me_int))) (e2p me_int)) (me_one (me_eq hr.units (e2p (me_mod (e2p (me_ix (e2p (me_var 1)) (e2p me_int))) (e2p (me_var 3)))) (e2p me_int))))))))))
/-! ### least_round -/
def m_least_round : SM :=
 (sSeq (sDrop (eCall c_look_at_layer (aCons (eVar 0) aNil)))
 (sRet (eCall c_round_in (aCons (eVar 0) aNil))))
def c_least_round : List D → M D := bodyF .e 1 1 m_least_round
theorem u_least_round (a0 : D) (S : Store) : c_least_round [a0] S = (m_least_round [some a0] S).bind (kBody .e) := q_body rfl
theorem ok_least_round (T : Top K mg) : CalG P w K mg base 6 .e "least_round" ["layer"] c_least_round := by
  refine cal_of (ow := fun i => false) (m := m_least_round) (N := ["layer"]) T.d_least_round (sc := ?sc) (bd := ?bd) ?hsc ?hbd ?Sc ?hk ?ho ?body
  case hsc => conv => lhs; whnf
  case hbd => conv => lhs; whnf
  case Sc => exact ⟨rfl, rfl, rfl, by decide +kernel, rfl, by decide +kernel, by decide +kernel⟩
  case hk => decide
  case ho => decide
  intro f fd cdv A fr s H hr hg
  have Nd : (["layer"] : List Str).Nodup := by decide +kernel
  exact (ms_cons (ms_drop (e2p (mk_callC (ok_look_at_layer T) (hr.mono (by decide)) hg rfl (ma_cons (me_var 0) ma_nil) (al_cons al_nil))))
 (ms_one (ms_ret (mk_callC (ok_round_in T) (hr.mono (by decide)) hg rfl (ma_cons (me_var 0) ma_nil) (al_cons al_nil)))))
/-! ### _law_cell_at -/
def m__law_cell_at : SM :=
 (sSeq (sIf (bBin ltI (eVar 1) (eBlt lenF (aCons (eVar 0) aNil))) (sRet (eBinS idxF (eVar 0) (eVar 1))) sNil)
 (sRet (eCon (.p (.int 0)))))
def c__law_cell_at : List D → M D := bodyF .e 2 2 m__law_cell_at
theorem u__law_cell_at (a0 a1 : D) (S : Store) : c__law_cell_at [a0, a1] S = (m__law_cell_at [some a0, some a1] S).bind (kBody .e) := q_body rfl
theorem ok__law_cell_at (T : Top K mg) : CalG P w K mg base 1 .e "_law_cell_at" ["_law_script", "_law_k"] c__law_cell_at := by
  refine cal_of (ow := fun i => false) (m := m__law_cell_at) (N := ["_law_script", "_law_k"]) T.d__law_cell_at (sc := ?sc) (bd := ?bd) ?hsc ?hbd ?Sc ?hk ?ho ?body
  case hsc => conv => lhs; whnf
  case hbd => conv => lhs; whnf
  case Sc => exact ⟨rfl, rfl, rfl, by decide +kernel, rfl, by decide +kernel, by decide +kernel⟩
  case hk => decide
  case ho => decide
  intro f fd cdv A fr s H hr hg
  have Nd : (["_law_script", "_law_k"] : List Str).Nodup := by decide +kernel
  exact (ms_cons (ms_if (mt_lt (e2p (me_var 1)) (e2p (me_len rfl T.z_len (ma_cons (e2p (me_var 0)) ma_nil)))) (ms_one (ms_ret (me_ix (e2p (me_var 0)) (e2p (me_var 1))))) ms_nil)
 (ms_one (ms_ret me_int)))
/-! ### _law_state -/
def m__law_state : SM :=
 (sSeq (sSet 2 (eCall c__law_cell_at (aCons (eVar 0) (aCons (eVar 1) aNil))))
 (sRet (eLstR (aCons (eBlt max2F (aCons (eCon (.p (.int 0))) (aCons (xSub (eVar 2) (xPow (eCon (.p (.int 10))) (eCon (.p (.int 18))))) aNil))) (aCons (xMod (eVar 2) (eCon (.p (.int 2147483647)))) aNil)))))
def c__law_state : List D → M D := bodyF .e 2 3 m__law_state
theorem u__law_state (a0 a1 : D) (S : Store) : c__law_state [a0, a1] S = (m__law_state [some a0, some a1, none] S).bind (kBody .e) := q_body rfl
theorem ok__law_state (T : Top K mg) : CalG P w K mg base 2 .e "_law_state" ["_law_script", "_law_k"] c__law_state := by
  refine cal_of (ow := fun i => false) (m := m__law_state) (N := ["_law_script", "_law_k", "_law_cell"]) T.d__law_state (sc := ?sc) (bd := ?bd) ?hsc ?hbd ?Sc ?hk ?ho ?body
  case hsc => conv => lhs; whnf
  case hbd => conv => lhs; whnf
  case Sc => exact ⟨rfl, rfl, rfl, by decide +kernel, rfl, by decide +kernel, by decide +kernel⟩
  case hk => decide
  case ho => decide
  intro f fd cdv A fr s H hr hg
  have Nd : (["_law_script", "_law_k", "_law_cell"] : List Str).Nodup := by decide +kernel
  exact (ms_cons (ms_set (i := 2) Nd rfl (.inl rfl) (mk_callC (ok__law_cell_at T) (hr.mono (by decide)) hg rfl (ma_cons (me_var 0) (ma_cons (me_var 1) ma_nil)) (al_cons (al_cons al_nil))))
 (ms_one (ms_ret (mr_lst (ma_cons (me_max2 rfl rfl T.z_max (ma_cons (e2p me_int) (ma_cons (e2p (me_sub (e2p (me_var 2)) (e2p (me_pow (e2p me_int) (e2p me_int))))) ma_nil))) (ma_cons (me_mod (e2p (me_var 2)) (e2p me_int)) ma_nil)) (al_cons (al_cons al_nil))))))
/-! ### _law_same -/
def m__law_same (cself : List D → M D) : SM :=
 (sSeq (sIf (bVal (eIsi2 "tuple" "list" (eVar 1))) (sSeq (sIf (bOr (bBin neF (eIsi "tuple" (eVar 0)) (eIsi "tuple" (eVar 1))) (bBin neF (eIsi "list" (eVar 0)) (eIsi "list" (eVar 1)))) (sRet (eCon (.p (.bool false)))) sNil)
 (sRet (eAnd (eBin (bD eqF) (eBlt lenF (aCons (eVar 0) aNil)) (eBlt lenF (aCons (eVar 1) aNil))) (eBlt allF (aCons (eComp [2, 3] (.tp [(.nm 2), (.nm 3)]) (iZ (eVar 0) (eVar 1)) bTrue (eCall cself (aCons (eVar 2) (aCons (eVar 3) aNil)))) aNil))))) sNil)
 (sRet (eAnd (eBin (bD eqF) (eIsi "bool" (eVar 0)) (eIsi "bool" (eVar 1))) (eBin (bD eqF) (eVar 0) (eVar 1)))))
def c__law_same : Nat → List D → M D
  | 0 => fun _ _ => .bad
  | i + 1 => bodyF .e 2 4 (m__law_same (c__law_same i))
theorem u__law_same (i : Nat) (a0 a1 : D) (S : Store) : c__law_same (i + 1) [a0, a1] S = (m__law_same (c__law_same i) [some a0, some a1, none, none] S).bind (kBody .e) := q_body rfl
theorem ok__law_same (T : Top K mg) : ∀ i, CalG P w K mg base i .e "_law_same" ["_law_found", "_law_due"] (c__law_same i)
  | 0 => cal_zero T.d__law_same
  | i + 1 => by
    have IH : CalG P w K mg base i .e "_law_same" ["_law_found", "_law_due"] (c__law_same i) := ok__law_same T i
    show CalG P w K mg base (i + 1) .e "_law_same" ["_law_found", "_law_due"] (bodyF .e 2 4 (m__law_same (c__law_same i)))
    refine cal_of (ow := fun i => false) (m := m__law_same (c__law_same i)) (N := ["_law_found", "_law_due", "_law_one", "_law_other"]) T.d__law_same (sc := ?sc) (bd := ?bd) ?hsc ?hbd ?Sc ?hk ?ho ?body
    case hsc => conv => lhs; whnf
    case hbd => conv => lhs; whnf
    case Sc => exact ⟨rfl, rfl, rfl, by decide +kernel, rfl, by decide +kernel, by decide +kernel⟩
    case hk => decide
    case ho => decide
    intro f fd cdv A fr s H hr hg
    have Nd : (["_law_found", "_law_due", "_law_one", "_law_other"] : List Str).Nodup := by decide +kernel
    exact (ms_cons (ms_if (mt_val (me_isi2 "tuple" "list" (by decide) (by decide) rfl T.z_isinstance rfl T.z_tuple (by decide +kernel) rfl T.z_list (by decide +kernel) (e2p (me_var 1)))) (ms_cons (ms_if (PW.pt (mw_or (mt_ne hr.units (e2p (me_isi "tuple" (by decide) rfl T.z_isinstance rfl T.z_tuple (by decide +kernel) (e2p (me_var 0)))) (e2p (me_isi "tuple" (by decide) rfl T.z_isinstance rfl T.z_tuple (by decide +kernel) (e2p (me_var 1))))) (mw_or1 (mt_ne hr.units (e2p (me_isi "list" (by decide) rfl T.z_isinstance rfl T.z_list (by decide +kernel) (e2p (me_var 0)))) (e2p (me_isi "list" (by decide) rfl T.z_isinstance rfl T.z_list (by decide +kernel) (e2p (me_var 1)))))))) (ms_one (ms_ret me_bool)) ms_nil)
 (ms_one (ms_ret (me_and (me_eq hr.units (e2p (me_len rfl T.z_len (ma_cons (e2p (me_var 0)) ma_nil))) (e2p (me_len rfl T.z_len (ma_cons (e2p (me_var 1)) ma_nil)))) (me_one (me_all rfl rfl T.z_all (ma_cons (f2p (mf_lc rfl Nd (own := [("_law_one", 2), ("_law_other", 3)]) (mi_z rfl T.z_zip (me_var 0) (me_var 1)) (blkOk_by (by kernel_rfl)) (by simp [Pt.slots, slotsAll]) (fun _ _ _ _ _ => (mg_tp rfl (mgs_cons (mg_nm Nd rfl (by first | exact .inl rfl | exact .inr rfl)) (mgs_cons (mg_nm Nd rfl (by first | exact .inl rfl | exact .inr rfl)) mgs_nil)))) (fun _ _ _ _ _ => (mk_callC IH (hr.mono (Nat.le_refl _)) hg rfl (ma_cons (me_var 2) (ma_cons (me_var 3) ma_nil)) (al_cons (al_cons al_nil)))))) ma_nil))))))) ms_nil)
 (ms_one (ms_ret (me_and (me_eq hr.units (e2p (me_isi "bool" (by decide) rfl T.z_isinstance rfl T.z_bool (by decide +kernel) (e2p (me_var 0)))) (e2p (me_isi "bool" (by decide) rfl T.z_isinstance rfl T.z_bool (by decide +kernel) (e2p (me_var 1))))) (me_one (me_eq hr.units (e2p (me_var 0)) (e2p (me_var 1))))))))
/-! ### _law_take -/
def m__law_take : SM :=
 (sSeq (sIf (bBin gtI (eBinS idxF (eVar 0) (eCon (.p (.int 0)))) (eCon (.p (.int 0)))) (sSeq (sSet 2 (xMod (eBinS idxF (eVar 0) (eCon (.p (.int 0)))) (eVar 1)))
 (sSeq (sPutR 0 (eCon (.p (.int 0))) (xDiv (eBinS idxF (eVar 0) (eCon (.p (.int 0)))) (eVar 1)))
 (sRet (eVar 2)))) sNil)
 (sSeq (sPutR 0 (eCon (.p (.int 1))) (xMod (xAdd (xMul (eBinS idxF (eVar 0) (eCon (.p (.int 1)))) (eCon (.p (.int 48271)))) (eCon (.p (.int 29)))) (eCon (.p (.int 2147483647)))))
 (sSeq (sSet 3 (xMod (xAdd (xAdd (xMul (eBinS idxF (eVar 0) (eCon (.p (.int 1)))) (eBinS idxF (eVar 0) (eCon (.p (.int 1))))) (xMul (eCon (.p (.int 39373))) (eBinS idxF (eVar 0) (eCon (.p (.int 1)))))) (eCon (.p (.int 7)))) (eCon (.p (.int 2147483629)))))
 (sSeq (sSet 3 (xMod (xAdd (xMul (eVar 3) (eVar 3)) (xMul (eCon (.p (.int 16807))) (eVar 3))) (eCon (.p (.int 2147483587)))))
 (sRet (xMod (xDiv (eVar 3) (eCon (.p (.int 8)))) (eVar 1)))))))
def c__law_take : List D → M D := bodyF .e 2 4 m__law_take
theorem u__law_take (a0 a1 : D) (S : Store) : c__law_take [a0, a1] S = (m__law_take [some a0, some a1, none, none] S).bind (kBody .e) := q_body rfl
theorem ok__law_take (T : Top K mg) : CalG P w K mg base 1 .e "_law_take" ["_law_state_here", "_law_many"] c__law_take := by
  refine cal_of (ow := fun i => false) (m := m__law_take) (N := ["_law_state_here", "_law_many", "_law_found", "_law_stirred"]) T.d__law_take (sc := ?sc) (bd := ?bd) ?hsc ?hbd ?Sc ?hk ?ho ?body
  case hsc => conv => lhs; whnf
  case hbd => conv => lhs; whnf
  case Sc => exact ⟨rfl, rfl, rfl, by decide +kernel, rfl, by decide +kernel, by decide +kernel⟩
  case hk => decide
  case ho => decide
  intro f fd cdv A fr s H hr hg
  have Nd : (["_law_state_here", "_law_many", "_law_found", "_law_stirred"] : List Str).Nodup := by decide +kernel
  exact (ms_cons (ms_if (mt_gt (e2p (me_ix (e2p (me_var 0)) (e2p me_int))) (e2p me_int)) (ms_cons (ms_set (i := 2) Nd rfl (.inl rfl) (me_mod (e2p (me_ix (e2p (me_var 0)) (e2p me_int))) (e2p (me_var 1))))
 (ms_cons (ms_putR (i := 0) rfl (.inl rfl) me_int (me_div (e2p (me_ix (e2p (me_var 0)) (e2p me_int))) (e2p (me_var 1))))
 (ms_one (ms_ret (me_var 2))))) ms_nil)
 (ms_cons (ms_putR (i := 0) rfl (.inl rfl) me_int (me_mod (e2p (me_add (e2p (me_mul (e2p (me_ix (e2p (me_var 0)) (e2p me_int))) (e2p me_int))) (e2p me_int))) (e2p me_int)))
 (ms_cons (ms_set (i := 3) Nd rfl (.inl rfl) (me_mod (e2p (me_add (e2p (me_add (e2p (me_mul (e2p (me_ix (e2p (me_var 0)) (e2p me_int))) (e2p (me_ix (e2p (me_var 0)) (e2p me_int))))) (e2p (me_mul (e2p me_int) (e2p (me_ix (e2p (me_var 0)) (e2p me_int))))))) (e2p me_int))) (e2p me_int)))
 (ms_cons (ms_set (i := 3) Nd rfl (.inl rfl) (me_mod (e2p (me_add (e2p (me_mul (e2p (me_var 3)) (e2p (me_var 3)))) (e2p (me_mul (e2p me_int) (e2p (me_var 3)))))) (e2p me_int)))
 (ms_one (ms_ret (me_mod (e2p (me_div (e2p (me_var 3)) (e2p me_int))) (e2p (me_var 1)))))))))
/-! ### _law_row -/
def m__law_row : SM :=
 (sSeq (sSet 2 (eBinS idxF (eLst (aCons (eCall c__law_take (aCons (eVar 0) (aCons (eCon (.p (.int 10))) aNil))) (aCons (eCall c__law_take (aCons (eVar 0) (aCons (eCon (.p (.int 2))) aNil))) (aCons (xAdd (eCon (.p (.int 1))) (eCall c__law_take (aCons (eVar 0) (aCons (eCon (.p (.int 2))) aNil)))) aNil)))) (xMod (eVar 1) (eCon (.p (.int 3))))))
 (sRet (eTup (aCons (eVar 2) (aCons (xAdd (eCon (.p (.int 1))) (eCall c__law_take (aCons (eVar 0) (aCons (eBinS idxF (eLst (aCons (eCon (.p (.int 3))) (aCons (eCon (.p (.int 24))) (aCons (eCon (.p (.int 6))) (aCons (eCon (.p (.int 1))) aNil))))) (eVar 1)) aNil)))) aNil)))))
def c__law_row : List D → M D := bodyF .e 2 3 m__law_row
theorem u__law_row (a0 a1 : D) (S : Store) : c__law_row [a0, a1] S = (m__law_row [some a0, some a1, none] S).bind (kBody .e) := q_body rfl
theorem ok__law_row (T : Top K mg) : CalG P w K mg base 2 .e "_law_row" ["_law_state_here", "_law_way"] c__law_row := by
  refine cal_of (ow := fun i => false) (m := m__law_row) (N := ["_law_state_here", "_law_way", "_law_drawing"]) T.d__law_row (sc := ?sc) (bd := ?bd) ?hsc ?hbd ?Sc ?hk ?ho ?body
  case hsc => conv => lhs; whnf
  case hbd => conv => lhs; whnf
  case Sc => exact ⟨rfl, rfl, rfl, by decide +kernel, rfl, by decide +kernel, by decide +kernel⟩
  case hk => decide
  case ho => decide
  intro f fd cdv A fr s H hr hg
  have Nd : (["_law_state_here", "_law_way", "_law_drawing"] : List Str).Nodup := by decide +kernel
  exact (ms_cons (ms_set (i := 2) Nd rfl (.inl rfl) (me_ix (f2p (mf_lst (ma_cons (mk_callC (ok__law_take T) (hr.mono (by decide)) hg rfl (ma_cons (me_var 0) (ma_cons me_int ma_nil)) (al_cons (al_cons al_nil))) (ma_cons (mk_callC (ok__law_take T) (hr.mono (by decide)) hg rfl (ma_cons (me_var 0) (ma_cons me_int ma_nil)) (al_cons (al_cons al_nil))) (ma_cons (me_add (e2p me_int) (e2p (mk_callC (ok__law_take T) (hr.mono (by decide)) hg rfl (ma_cons (me_var 0) (ma_cons me_int ma_nil)) (al_cons (al_cons al_nil))))) ma_nil))) (al_cons (al_cons (al_cons al_nil))))) (e2p (me_mod (e2p (me_var 1)) (e2p me_int)))))
 (ms_one (ms_ret (me_tup (ma_cons (me_var 2) (ma_cons (me_add (e2p me_int) (e2p (mk_callC (ok__law_take T) (hr.mono (by decide)) hg rfl (ma_cons (me_var 0) (ma_cons (me_ix (f2p (mf_lst (ma_cons me_int (ma_cons me_int (ma_cons me_int (ma_cons me_int ma_nil)))) (al_cons (al_cons (al_cons (al_cons al_nil)))))) (e2p (me_var 1))) ma_nil)) (al_cons (al_cons al_nil))))) ma_nil)) (al_cons (al_cons al_nil))))))
/-! ### _law_layer -/
def m__law_layer : SM :=
 (sSeq (sAsg (.tp [(.nm 1), (.nm 2)]) (eTup (aCons (eCall c__law_take (aCons (eVar 0) (aCons (eCon (.p (.int 4))) aNil))) (aCons (eBinS idxF (eLst (aCons (eCall c__law_take (aCons (eVar 0) (aCons (eCon (.p (.int 9))) aNil))) (aCons (xAdd (eCon (.p (.int 1))) (eCall c__law_take (aCons (eVar 0) (aCons (eCon (.p (.int 3))) aNil)))) (aCons (eCon (.p (.int 8))) aNil)))) (eCall c__law_take (aCons (eVar 0) (aCons (eCon (.p (.int 3))) aNil)))) aNil))))
 (sSeq (sSet 3 (eBlt tupF (aCons (eComp [4] (.nm 4) (iR1 (eVar 2)) bTrue (eCall c__law_row (aCons (eVar 0) (aCons (eVar 1) aNil)))) aNil)))
 (sSeq (sSet 5 (eCall c__law_take (aCons (eVar 0) (aCons (xAdd (eBlt lenF (aCons (eVar 3) aNil)) (eCon (.p (.int 2)))) aNil))))
 (sRet (eTup (aCons (eVar 3) (aCons (eIf (bBin ltI (eVar 5) (eBlt lenF (aCons (eVar 3) aNil))) (eVar 5) (eCon (.p .none))) aNil)))))))
def c__law_layer : List D → M D := bodyF .e 1 6 m__law_layer
theorem u__law_layer (a0 : D) (S : Store) : c__law_layer [a0] S = (m__law_layer [some a0, none, none, none, none, none] S).bind (kBody .e) := q_body rfl
theorem ok__law_layer (T : Top K mg) : CalG P w K mg base 3 .e "_law_layer" ["_law_state_here"] c__law_layer := by
  refine cal_of (ow := fun i => false) (m := m__law_layer) (N := ["_law_state_here", "_law_way", "_law_many", "_law_rows", "_law_turn", "_law_back"]) T.d__law_layer (sc := ?sc) (bd := ?bd) ?hsc ?hbd ?Sc ?hk ?ho ?body
  case hsc => conv => lhs; whnf
  case hbd => conv => lhs; whnf
  case Sc => exact ⟨rfl, rfl, rfl, by decide +kernel, rfl, by decide +kernel, by decide +kernel⟩
  case hk => decide
  case ho => decide
  intro f fd cdv A fr s H hr hg
  have Nd : (["_law_state_here", "_law_way", "_law_many", "_law_rows", "_law_turn", "_law_back"] : List Str).Nodup := by decide +kernel
  exact (ms_cons (ms_asg (me_tup (ma_cons (mk_callC (ok__law_take T) (hr.mono (by decide)) hg rfl (ma_cons (me_var 0) (ma_cons me_int ma_nil)) (al_cons (al_cons al_nil))) (ma_cons (me_ix (f2p (mf_lst (ma_cons (mk_callC (ok__law_take T) (hr.mono (by decide)) hg rfl (ma_cons (me_var 0) (ma_cons me_int ma_nil)) (al_cons (al_cons al_nil))) (ma_cons (me_add (e2p me_int) (e2p (mk_callC (ok__law_take T) (hr.mono (by decide)) hg rfl (ma_cons (me_var 0) (ma_cons me_int ma_nil)) (al_cons (al_cons al_nil))))) (ma_cons me_int ma_nil))) (al_cons (al_cons (al_cons al_nil))))) (e2p (mk_callC (ok__law_take T) (hr.mono (by decide)) hg rfl (ma_cons (me_var 0) (ma_cons me_int ma_nil)) (al_cons (al_cons al_nil))))) ma_nil)) (al_cons (al_cons al_nil))) (mg_tp rfl (mgs_cons (mg_nm Nd rfl (.inr rfl)) (mgs_cons (mg_nm Nd rfl (.inl rfl)) mgs_nil))))
 (ms_cons (ms_set (i := 3) Nd rfl (.inl rfl) (me_tuple rfl T.z_tuple (ma_cons (f2p (mf_lc rfl Nd (own := [("_law_turn", 4)]) (mi_r1 rfl T.z_range (e2p (me_var 2))) (blkOk_by (by kernel_rfl)) (by simp [Pt.slots, slotsAll]) (fun _ _ _ _ _ => (mg_nm Nd rfl (by first | exact .inl rfl | exact .inr rfl))) (fun _ _ _ _ _ => (mk_callC (ok__law_row T) (hr.mono (by decide)) hg rfl (ma_cons (me_var 0) (ma_cons (me_var 1) ma_nil)) (al_cons (al_cons al_nil)))))) ma_nil)))
 (ms_cons (ms_set (i := 5) Nd rfl (.inl rfl) (mk_callC (ok__law_take T) (hr.mono (by decide)) hg rfl (ma_cons (me_var 0) (ma_cons (me_add (e2p (me_len rfl T.z_len (ma_cons (e2p (me_var 3)) ma_nil))) (e2p me_int)) ma_nil)) (al_cons (al_cons al_nil))))
 (ms_one (ms_ret (me_tup (ma_cons (me_var 3) (ma_cons (me_if (mt_lt (e2p (me_var 5)) (e2p (me_len rfl T.z_len (ma_cons (e2p (me_var 3)) ma_nil)))) (me_var 5) me_none) ma_nil)) (al_cons (al_cons al_nil))))))))
/-! ### _law_turning -/
def m__law_turning : SM :=
 (sSeq (sSet 1 (eComp [2] (.nm 2) (iR1 (xAdd (eCon (.p (.int 1))) (eCall c__law_take (aCons (eVar 0) (aCons (eCon (.p (.int 3))) aNil))))) bTrue (eTup (aCons (eCall c__law_take (aCons (eVar 0) (aCons (eCon (.p (.int 3))) aNil))) (aCons (xAdd (eCon (.p (.int 1))) (eCall c__law_take (aCons (eVar 0) (aCons (eCon (.p (.int 3))) aNil)))) aNil)))))
 (sSeq (sSet 3 (eSl slL (xRep (eVar 1) (eCon (.p (.int 8)))) oNone (oSome (eBlt min2F (aCons (eCon (.p (.int 8))) (aCons (xMul (eBlt lenF (aCons (eVar 1) aNil)) (xAdd (eCon (.p (.int 1))) (eCall c__law_take (aCons (eVar 0) (aCons (eCon (.p (.int 4))) aNil))))) aNil))))))
 (sSeq (sSet 4 (eCall c__law_take (aCons (eVar 0) (aCons (eBlt lenF (aCons (eVar 3) aNil)) aNil))))
 (sSeq (sIf (bBin eqF (eCall c__law_take (aCons (eVar 0) (aCons (eCon (.p (.int 2))) aNil))) (eCon (.p (.int 0)))) (sSet 3 (xCat (eLst (aCons (eTup (aCons (eCall c__law_take (aCons (eVar 0) (aCons (eCon (.p (.int 2))) aNil))) (aCons (xAdd (eCon (.p (.int 1))) (eCall c__law_take (aCons (eVar 0) (aCons (eCon (.p (.int 4))) aNil)))) aNil))) aNil)) (eSl slL (eVar 3) oNone (oSome (eCon (.p (.int 7))))))) sNil)
 (sRet (eTup (aCons (eBlt tupF (aCons (eVar 3) aNil)) (aCons (eBinS idxF (eLst (aCons (eVar 4) (aCons (eVar 4) (aCons (eCon (.p .none)) aNil)))) (eCall c__law_take (aCons (eVar 0) (aCons (eCon (.p (.int 3))) aNil)))) aNil))))))))
def c__law_turning : List D → M D := bodyF .e 1 5 m__law_turning
theorem u__law_turning (a0 : D) (S : Store) : c__law_turning [a0] S = (m__law_turning [some a0, none, none, none, none] S).bind (kBody .e) := q_body rfl
theorem ok__law_turning (T : Top K mg) : CalG P w K mg base 2 .e "_law_turning" ["_law_state_here"] c__law_turning := by
  refine cal_of (ow := fun i => false) (m := m__law_turning) (N := ["_law_state_here", "_law_part", "_law_turn", "_law_rows", "_law_start"]) T.d__law_turning (sc := ?sc) (bd := ?bd) ?hsc ?hbd ?Sc ?hk ?ho ?body
  case hsc => conv => lhs; whnf
  case hbd => conv => lhs; whnf
  case Sc => exact ⟨rfl, rfl, rfl, by decide +kernel, rfl, by decide +kernel, by decide +kernel⟩
  case hk => decide
  case ho => decide
  intro f fd cdv A fr s H hr hg
  have Nd : (["_law_state_here", "_law_part", "_law_turn", "_law_rows", "_law_start"] : List Str).Nodup := by decide +kernel
  exact (ms_cons (ms_setLc (i := 1) rfl Nd rfl rfl (sw_true rfl rfl rfl rfl) rfl (own := [("_law_turn", 2)]) (mi_r1 rfl T.z_range (e2p (me_add (e2p me_int) (e2p (mk_callC (ok__law_take T) (hr.mono (by decide)) hg rfl (ma_cons (me_var 0) (ma_cons me_int ma_nil)) (al_cons (al_cons al_nil))))))) (blkOk_by (by kernel_rfl)) (by simp [Pt.slots, slotsAll]) (fun _ _ _ _ _ => (mg_nm Nd rfl (by first | exact .inl rfl | exact .inr rfl))) (fun _ _ _ _ _ => (me_tup (ma_cons (mk_callC (ok__law_take T) (hr.mono (by decide)) hg rfl (ma_cons (me_var 0) (ma_cons me_int ma_nil)) (al_cons (al_cons al_nil))) (ma_cons (me_add (e2p me_int) (e2p (mk_callC (ok__law_take T) (hr.mono (by decide)) hg rfl (ma_cons (me_var 0) (ma_cons me_int ma_nil)) (al_cons (al_cons al_nil))))) ma_nil)) (al_cons (al_cons al_nil)))))
 (ms_cons (ms_set (i := 3) Nd rfl (.inl rfl) (f2e (mf_sl (f2p (mf_rep (e2p (me_var 1)) (e2p me_int))) mo_none (mo_some (e2p (me_min2 rfl rfl T.z_min (ma_cons (e2p me_int) (ma_cons (e2p (me_mul (e2p (me_len rfl T.z_len (ma_cons (e2p (me_var 1)) ma_nil))) (e2p (me_add (e2p me_int) (e2p (mk_callC (ok__law_take T) (hr.mono (by decide)) hg rfl (ma_cons (me_var 0) (ma_cons me_int ma_nil)) (al_cons (al_cons al_nil)))))))) ma_nil))))))))
 (ms_cons (ms_set (i := 4) Nd rfl (.inl rfl) (mk_callC (ok__law_take T) (hr.mono (by decide)) hg rfl (ma_cons (me_var 0) (ma_cons (me_len rfl T.z_len (ma_cons (e2p (me_var 3)) ma_nil)) ma_nil)) (al_cons (al_cons al_nil))))
 (ms_cons (ms_if (mt_eq hr.units (e2p (mk_callC (ok__law_take T) (hr.mono (by decide)) hg rfl (ma_cons (me_var 0) (ma_cons me_int ma_nil)) (al_cons (al_cons al_nil)))) (e2p me_int)) (ms_one (ms_set (i := 3) Nd rfl (.inl rfl) (f2e (mf_cat (f2p (mf_lst (ma_cons (me_tup (ma_cons (mk_callC (ok__law_take T) (hr.mono (by decide)) hg rfl (ma_cons (me_var 0) (ma_cons me_int ma_nil)) (al_cons (al_cons al_nil))) (ma_cons (me_add (e2p me_int) (e2p (mk_callC (ok__law_take T) (hr.mono (by decide)) hg rfl (ma_cons (me_var 0) (ma_cons me_int ma_nil)) (al_cons (al_cons al_nil))))) ma_nil)) (al_cons (al_cons al_nil))) ma_nil) (al_cons al_nil))) (f2p (mf_sl (e2p (me_var 3)) mo_none (mo_some (e2p me_int)))))))) ms_nil)
 (ms_one (ms_ret (me_tup (ma_cons (me_tuple rfl T.z_tuple (ma_cons (e2p (me_var 3)) ma_nil)) (ma_cons (me_ix (f2p (mf_lst (ma_cons (me_var 4) (ma_cons (me_var 4) (ma_cons me_none ma_nil))) (al_cons (al_cons (al_cons al_nil))))) (e2p (mk_callC (ok__law_take T) (hr.mono (by decide)) hg rfl (ma_cons (me_var 0) (ma_cons me_int ma_nil)) (al_cons (al_cons al_nil))))) ma_nil)) (al_cons (al_cons al_nil)))))))))
/-! ### _law_laying -/
def lb__law_laying_0 : SM :=
 (sApp 4 (eBinS idxF (eBinS idxF (eVar 2) (eVar 5)) (eCon (.p (.int 0)))))
def lb__law_laying_1 : SM :=
 (sSeq (sIf (bBin eqF (eVar 5) (eBlt lenF (aCons (eVar 2) aNil))) (sSeq (sIf (bBin isNF (eVar 3) (eCon (.p .none))) (sRet (xCat (eVar 4) (xRep (eLst (aCons (eCon (.p (.int 0))) aNil)) (xSub (eVar 1) (eBlt lenF (aCons (eVar 4) aNil)))))) sNil)
 (sSet 5 (eVar 3))) sNil)
 (sSeq (sFor (.nm 6) (iR1 (eBinS idxF (eBinS idxF (eVar 2) (eVar 5)) (eCon (.p (.int 1))))) lb__law_laying_0)
 (sSet 5 (xAdd (eVar 5) (eCon (.p (.int 1)))))))
def m__law_laying : SM :=
 (sSeq (sAsg (.tp [(.nm 2), (.nm 3)]) (eVar 0))
 (sSeq (sPar 4 5 (eLst aNil) (eCon (.p (.int 0))))
 (sSeq (sWhile (bBin ltI (eBlt lenF (aCons (eVar 4) aNil)) (eVar 1)) lb__law_laying_1)
 (sRet (eSl slL (eVar 4) oNone (oSome (eVar 1)))))))
def c__law_laying : List D → M D := bodyF .e 2 7 m__law_laying
theorem u__law_laying (a0 a1 : D) (S : Store) : c__law_laying [a0, a1] S = (m__law_laying [some a0, some a1, none, none, none, none, none] S).bind (kBody .e) := q_body rfl
theorem ok__law_laying (T : Top K mg) : CalG P w K mg base 1 .e "_law_laying" ["_law_layer_here", "_law_many"] c__law_laying := by
  refine cal_of (ow := fun i => Nat.beq i 4) (m := m__law_laying) (N := ["_law_layer_here", "_law_many", "_law_rows", "_law_back", "_law_found", "_law_place", "_law_turn"]) T.d__law_laying (sc := ?sc) (bd := ?bd) ?hsc ?hbd ?Sc ?hk ?ho ?body
  case hsc => conv => lhs; whnf
  case hbd => conv => lhs; whnf
  case Sc => exact ⟨rfl, rfl, rfl, by decide +kernel, rfl, by decide +kernel, by decide +kernel⟩
  case hk => decide
  case ho => decide
  intro f fd cdv A fr s H hr hg
  have Nd : (["_law_layer_here", "_law_many", "_law_rows", "_law_back", "_law_found", "_law_place", "_law_turn"] : List Str).Nodup := by decide +kernel
  exact (ms_cons (ms_asg (me_var 0) (mg_tp rfl (mgs_cons (mg_nm Nd rfl (.inl rfl)) (mgs_cons (mg_nm Nd rfl (.inl rfl)) mgs_nil))))
 (ms_cons (ms_parO (i := 4) (j := 5) rfl Nd rfl rfl (by decide) rfl rfl (mf_lst ma_nil al_nil) me_int rfl)
 (ms_cons (ms_while PassesOwn.never (mt_lt (e2p (me_len rfl T.z_len (ma_cons (mp_own 4) ma_nil))) (e2p (me_var 1))) (ms_cons (ms_if (mt_eq hr.units (e2p (me_var 5)) (e2p (me_len rfl T.z_len (ma_cons (e2p (me_var 2)) ma_nil)))) (ms_cons (ms_if (mt_isN (e2p (me_var 3)) (e2p me_none)) (ms_one (ms_ret (f2e (mf_cat (mp_own 4) (f2p (mf_rep (f2p (mf_lst (ma_cons me_int ma_nil) (al_cons al_nil))) (e2p (me_sub (e2p (me_var 1)) (e2p (me_len rfl T.z_len (ma_cons (mp_own 4) ma_nil))))))))))) ms_nil)
 (ms_one (ms_set (i := 5) Nd rfl (.inl rfl) (me_var 3)))) ms_nil)
 (ms_cons (ms_for PassesOwn.never rfl (mi_r1 rfl T.z_range (e2p (me_ix (e2p (me_ix (e2p (me_var 2)) (e2p (me_var 5)))) (e2p me_int)))) (mg_nm Nd rfl (.inl rfl)) (ms_one (ms_app (i := 4) rfl (.inl rfl) (me_ix (e2p (me_ix (e2p (me_var 2)) (e2p (me_var 5)))) (e2p me_int)))))
 (ms_one (ms_set (i := 5) Nd rfl (.inl rfl) (me_add (e2p (me_var 5)) (e2p me_int)))))))
 (ms_one (ms_ret (f2e (mf_sl (mp_own 4) mo_none (mo_some (e2p (me_var 1))))))))))
/-! ### _law_round -/
def lb__law_round_0 : SM :=
 (sSet 8 (xAdd (eVar 8) (eCon (.p (.int 1)))))
def lb__law_round_1 : SM :=
 (sSet 10 (xSub (eVar 10) (eCon (.p (.int 1)))))
def m__law_round : SM :=
 (sSeq (sAsg (.tp [(.nm 1), (.nm 2)]) (eVar 0))
 (sSeq (sPar 3 4 (eBlt sumF (aCons (eComp [5] (.nm 5) (iSeq (eVar 1)) bTrue (eBinS idxF (eVar 5) (eCon (.p (.int 1))))) aNil)) (eBlt sumF (aCons (eComp [5] (.nm 5) (iSeq (eSl slT (eVar 1) oNone (oSome (eVar 2)))) bTrue (eBinS idxF (eVar 5) (eCon (.p (.int 1))))) aNil)))
 (sSeq (sSet 6 (eIf (bBin isNF (eVar 2) (eCon (.p .none))) (eCon (.p (.int 1))) (xSub (eVar 3) (eVar 4))))
 (sSeq (sPar 7 8 (eCall c__law_laying (aCons (eVar 0) (aCons (xAdd (xAdd (eVar 3) (xMul (eCon (.p (.int 2))) (eVar 6))) (eCon (.p (.int 1)))) aNil))) (eCon (.p (.int 1))))
 (sSeq (sSet 9 (eSl slL (eVar 7) (oSome (eVar 3)) (oSome (xAdd (eVar 3) (eVar 6)))))
 (sSeq (sWhile (bOr (bBin neF (xMod (eVar 6) (eVar 8)) (eCon (.p (.int 0)))) (bBin neF (eVar 9) (xCat (eSl slL (eVar 9) (oSome (eVar 8)) oNone) (eSl slL (eVar 9) oNone (oSome (eVar 8)))))) lb__law_round_0)
 (sSeq (sSet 10 (eVar 3))
 (sSeq (sWhile (bAnd (bBin gtI (eVar 10) (eCon (.p (.int 0)))) (bBin eqF (eBinS idxF (eVar 7) (xSub (eVar 10) (eCon (.p (.int 1))))) (eBinS idxF (eVar 7) (xAdd (xSub (eVar 10) (eCon (.p (.int 1)))) (eVar 8))))) lb__law_round_1)
 (sRet (eTup (aCons (eVar 10) (aCons (eVar 8) aNil))))))))))))
def c__law_round : List D → M D := bodyF .e 1 11 m__law_round
theorem u__law_round (a0 : D) (S : Store) : c__law_round [a0] S = (m__law_round [some a0, none, none, none, none, none, none, none, none, none, none] S).bind (kBody .e) := q_body rfl
theorem ok__law_round (T : Top K mg) : CalG P w K mg base 2 .e "_law_round" ["_law_layer_here"] c__law_round := by
  refine cal_of (ow := fun i => false) (m := m__law_round) (N := ["_law_layer_here", "_law_rows", "_law_back", "_law_whole", "_law_front", "_law_row_here", "_law_size", "_law_long", "_law_many", "_law_tail", "_law_ahead"]) T.d__law_round (sc := ?sc) (bd := ?bd) ?hsc ?hbd ?Sc ?hk ?ho ?body
  case hsc => conv => lhs; whnf
  case hbd => conv => lhs; whnf
  case Sc => exact ⟨rfl, rfl, rfl, by decide +kernel, rfl, by decide +kernel, by decide +kernel⟩
  case hk => decide
  case ho => decide
  intro f fd cdv A fr s H hr hg
  have Nd : (["_law_layer_here", "_law_rows", "_law_back", "_law_whole", "_law_front", "_law_row_here", "_law_size", "_law_long", "_law_many", "_law_tail", "_law_ahead"] : List Str).Nodup := by decide +kernel
  exact (ms_cons (ms_asg (me_var 0) (mg_tp rfl (mgs_cons (mg_nm Nd rfl (.inl rfl)) (mgs_cons (mg_nm Nd rfl (.inl rfl)) mgs_nil))))
 (ms_cons (ms_par (i := 3) (j := 4) rfl Nd rfl rfl (by decide) rfl rfl (me_sum rfl rfl T.z_sum (ma_cons (f2p (mf_lc rfl Nd (own := [("_law_row_here", 5)]) (mi_seq (me_var 1)) (blkOk_by (by kernel_rfl)) (by simp [Pt.slots, slotsAll]) (fun _ _ _ _ _ => (mg_nm Nd rfl (by first | exact .inl rfl | exact .inr rfl))) (fun _ _ _ _ _ => (me_ix (e2p (me_var 5)) (e2p me_int))))) ma_nil)) (me_sum rfl rfl T.z_sum (ma_cons (f2p (mf_lc rfl Nd (own := [("_law_row_here", 5)]) (mi_seq (me_sl (e2p (me_var 1)) mo_none (mo_some (e2p (me_var 2))))) (blkOk_by (by kernel_rfl)) (by simp [Pt.slots, slotsAll]) (fun _ _ _ _ _ => (mg_nm Nd rfl (by first | exact .inl rfl | exact .inr rfl))) (fun _ _ _ _ _ => (me_ix (e2p (me_var 5)) (e2p me_int))))) ma_nil)) rfl)
 (ms_cons (ms_set (i := 6) Nd rfl (.inl rfl) (me_if (mt_isN (e2p (me_var 2)) (e2p me_none)) me_int (me_sub (e2p (me_var 3)) (e2p (me_var 4)))))
 (ms_cons (ms_par (i := 7) (j := 8) rfl Nd rfl rfl (by decide) rfl rfl (mk_callC (ok__law_laying T) (hr.mono (by decide)) hg rfl (ma_cons (me_var 0) (ma_cons (me_add (e2p (me_add (e2p (me_var 3)) (e2p (me_mul (e2p me_int) (e2p (me_var 6)))))) (e2p me_int)) ma_nil)) (al_cons (al_cons al_nil))) me_int rfl)
 (ms_cons (ms_set (i := 9) Nd rfl (.inl rfl) (f2e (mf_sl (e2p (me_var 7)) (mo_some (e2p (me_var 3))) (mo_some (e2p (me_add (e2p (me_var 3)) (e2p (me_var 6))))))))
 (ms_cons (ms_while PassesOwn.never (PW.pt (mw_or (mt_ne hr.units (e2p (me_mod (e2p (me_var 6)) (e2p (me_var 8)))) (e2p me_int)) (mw_or1 (mt_ne hr.units (e2p (me_var 9)) (f2p (mf_cat (f2p (mf_sl (e2p (me_var 9)) (mo_some (e2p (me_var 8))) mo_none)) (f2p (mf_sl (e2p (me_var 9)) mo_none (mo_some (e2p (me_var 8))))))))))) (ms_one (ms_set (i := 8) Nd rfl (.inl rfl) (me_add (e2p (me_var 8)) (e2p me_int)))))
 (ms_cons (ms_set (i := 10) Nd rfl (.inl rfl) (me_var 3))
 (ms_cons (ms_while PassesOwn.never (PW.pt (mw_and (mt_gt (e2p (me_var 10)) (e2p me_int)) (mw_and1 (mt_eq hr.units (e2p (me_ix (e2p (me_var 7)) (e2p (me_sub (e2p (me_var 10)) (e2p me_int))))) (e2p (me_ix (e2p (me_var 7)) (e2p (me_add (e2p (me_sub (e2p (me_var 10)) (e2p me_int))) (e2p (me_var 8)))))))))) (ms_one (ms_set (i := 10) Nd rfl (.inl rfl) (me_sub (e2p (me_var 10)) (e2p me_int)))))
 (ms_one (ms_ret (me_tup (ma_cons (me_var 10) (ma_cons (me_var 8) ma_nil)) (al_cons (al_cons al_nil)))))))))))))
/-! ### law -/
def lb_law_0 : SM :=
 (sIf (bAnd (bVal (eChn cLt cLt (eCon (.p (.int 0))) (eVar 8) (eVar 7))) (bBin isntBF (eCall c_is_round (aCons (eVar 3) (aCons (eTup (aCons (xAdd (eVar 6) (eVar 8)) (aCons (eVar 8) aNil))) aNil))) (eCon (.p (.bool false))))) (sRet (eCon (.p (.bool false)))) sNil)
def lb_law_1 : SM :=
 (sSeq (sPar 4 5 (eCall c__law_round (aCons (eVar 3) aNil)) (eBlt reprG (aCons (eVar 3) aNil)))
 (sSeq (sIf (bOr (bNot (bVal (eCall (c__law_same 6) (aCons (eCall c_least_round (aCons (eVar 3) aNil)) (aCons (eVar 4) aNil))))) (bBin neF (eBlt reprG (aCons (eVar 3) aNil)) (eVar 5))) (sRet (eCon (.p (.bool false)))) sNil)
 (sSeq (sAsg (.tp [(.nm 6), (.nm 7)]) (eVar 4))
 (sSeq (sIf (bOr (bBin isntBF (eCall c_is_round (aCons (eVar 3) (aCons (eVar 4) aNil))) (eCon (.p (.bool true)))) (bBin isntBF (eCall c_is_round (aCons (eVar 3) (aCons (eTup (aCons (xAdd (eVar 6) (eCon (.p (.int 3)))) (aCons (xMul (eCon (.p (.int 2))) (eVar 7)) aNil))) aNil))) (eCon (.p (.bool true))))) (sRet (eCon (.p (.bool false)))) sNil)
 (sSeq (sIf (bAnd (bBin gtI (eVar 6) (eCon (.p (.int 0)))) (bBin isntBF (eCall c_is_round (aCons (eVar 3) (aCons (eTup (aCons (xSub (eVar 6) (eCon (.p (.int 1)))) (aCons (eVar 7) aNil))) aNil))) (eCon (.p (.bool false))))) (sRet (eCon (.p (.bool false)))) sNil)
 (sFor (.nm 8) (iSeq (eBlt srtF (aCons (eLst (aCons (eCon (.p (.int 1))) (aCons (eCon (.p (.int 2))) (aCons (eCon (.p (.int 3))) (aCons (xDiv (eVar 7) (eCon (.p (.int 2)))) (aCons (xDiv (eVar 7) (eCon (.p (.int 3)))) (aCons (xSub (eVar 7) (eCon (.p (.int 1)))) aNil))))))) aNil))) lb_law_0))))))
def lb_law_2 : SM :=
 (sSeq (sSet 2 (eCall c__law_state (aCons (eVar 0) (aCons (eVar 1) aNil))))
 (sFor (.nm 3) (iSeq (eLst (aCons (eCall c__law_turning (aCons (eVar 2) aNil)) (aCons (eCall c__law_layer (aCons (eVar 2) aNil)) (aCons (eTup (aCons (eTup aNil) (aCons (eCon (.p .none)) aNil))) aNil))))) lb_law_1))
def m_law : SM :=
 (sSeq (sFor (.nm 1) (iR1 (eBlt max2F (aCons (eCon (.p (.int 1))) (aCons (eBlt min2F (aCons (eBlt lenF (aCons (eVar 0) aNil)) (aCons (eCon (.p (.int 6))) aNil))) aNil)))) lb_law_2)
 (sRet (eCon (.p (.bool true)))))
def c_law : List D → M D := bodyF .e 1 9 m_law
theorem u_law (a0 : D) (S : Store) : c_law [a0] S = (m_law [some a0, none, none, none, none, none, none, none, none] S).bind (kBody .e) := q_body rfl
theorem ok_law (T : Top K mg) : CalG P w K mg base 7 .e "law" ["_law_script"] c_law := by
  refine cal_of (ow := fun i => false) (m := m_law) (N := ["_law_script", "_law_k", "_law_state_here", "_law_layer_here", "_law_due", "_law_kept", "_law_ahead", "_law_many", "_law_less"]) T.d_law (sc := ?sc) (bd := ?bd) ?hsc ?hbd ?Sc ?hk ?ho ?body
  case hsc => conv => lhs; whnf
  case hbd => conv => lhs; whnf
  case Sc => exact ⟨rfl, rfl, rfl, by decide +kernel, rfl, by decide +kernel, by decide +kernel⟩
  case hk => decide
  case ho => decide
  intro f fd cdv A fr s H hr hg
  have Nd : (["_law_script", "_law_k", "_law_state_here", "_law_layer_here", "_law_due", "_law_kept", "_law_ahead", "_law_many", "_law_less"] : List Str).Nodup := by decide +kernel
  exact (ms_cons (ms_for PassesOwn.never rfl (mi_r1 rfl T.z_range (e2p (me_max2 rfl rfl T.z_max (ma_cons (e2p me_int) (ma_cons (e2p (me_min2 rfl rfl T.z_min (ma_cons (e2p (me_len rfl T.z_len (ma_cons (e2p (me_var 0)) ma_nil))) (ma_cons (e2p me_int) ma_nil)))) ma_nil))))) (mg_nm Nd rfl (.inl rfl)) (ms_cons (ms_set (i := 2) Nd rfl (.inl rfl) (mk_callC (ok__law_state T) (hr.mono (by decide)) hg rfl (ma_cons (me_var 0) (ma_cons (me_var 1) ma_nil)) (al_cons (al_cons al_nil))))
 (ms_one (ms_for PassesOwn.never rfl (mi_seq (f2e (mf_lst (ma_cons (mk_callC (ok__law_turning T) (hr.mono (by decide)) hg rfl (ma_cons (me_var 2) ma_nil) (al_cons al_nil)) (ma_cons (mk_callC (ok__law_layer T) (hr.mono (by decide)) hg rfl (ma_cons (me_var 2) ma_nil) (al_cons al_nil)) (ma_cons (me_tup (ma_cons (me_tup ma_nil al_nil) (ma_cons me_none ma_nil)) (al_cons (al_cons al_nil))) ma_nil))) (al_cons (al_cons (al_cons al_nil)))))) (mg_nm Nd rfl (.inl rfl)) (ms_cons (ms_par (i := 4) (j := 5) rfl Nd rfl rfl (by decide) rfl rfl (mk_callC (ok__law_round T) (hr.mono (by decide)) hg rfl (ma_cons (me_var 3) ma_nil) (al_cons al_nil)) (me_reprG hg hr.units rfl T.z_repr (ma_cons (e2p (me_var 3)) ma_nil)) rfl)
 (ms_cons (ms_if (PW.pt (mw_or (mt_not (mt_val (mk_callC (ok__law_same T 6) (hr.mono (by decide)) hg rfl (ma_cons (mk_callC (ok_least_round T) (hr.mono (by decide)) hg rfl (ma_cons (me_var 3) ma_nil) (al_cons al_nil)) (ma_cons (me_var 4) ma_nil)) (al_cons (al_cons al_nil))))) (mw_or1 (mt_ne hr.units (e2p (me_reprG hg hr.units rfl T.z_repr (ma_cons (e2p (me_var 3)) ma_nil))) (e2p (me_var 5)))))) (ms_one (ms_ret me_bool)) ms_nil)
 (ms_cons (ms_asg (me_var 4) (mg_tp rfl (mgs_cons (mg_nm Nd rfl (.inl rfl)) (mgs_cons (mg_nm Nd rfl (.inl rfl)) mgs_nil))))
 (ms_cons (ms_if (PW.pt (mw_or (mt_isntB (e2p (mk_callC (ok_is_round T) (hr.mono (by decide)) hg rfl (ma_cons (me_var 3) (ma_cons (me_var 4) ma_nil)) (al_cons (al_cons al_nil)))) (e2p me_bool)) (mw_or1 (mt_isntB (e2p (mk_callC (ok_is_round T) (hr.mono (by decide)) hg rfl (ma_cons (me_var 3) (ma_cons (me_tup (ma_cons (me_add (e2p (me_var 6)) (e2p me_int)) (ma_cons (me_mul (e2p me_int) (e2p (me_var 7))) ma_nil)) (al_cons (al_cons al_nil))) ma_nil)) (al_cons (al_cons al_nil)))) (e2p me_bool))))) (ms_one (ms_ret me_bool)) ms_nil)
 (ms_cons (ms_if (PW.pt (mw_and (mt_gt (e2p (me_var 6)) (e2p me_int)) (mw_and1 (mt_isntB (e2p (mk_callC (ok_is_round T) (hr.mono (by decide)) hg rfl (ma_cons (me_var 3) (ma_cons (me_tup (ma_cons (me_sub (e2p (me_var 6)) (e2p me_int)) (ma_cons (me_var 7) ma_nil)) (al_cons (al_cons al_nil))) ma_nil)) (al_cons (al_cons al_nil)))) (e2p me_bool))))) (ms_one (ms_ret me_bool)) ms_nil)
 (ms_one (ms_for PassesOwn.never rfl (mi_seq (f2e (mf_srt rfl rfl T.z_sorted rfl T.z_set (ma_cons (f2p (mf_lst (ma_cons me_int (ma_cons me_int (ma_cons me_int (ma_cons (me_div (e2p (me_var 7)) (e2p me_int)) (ma_cons (me_div (e2p (me_var 7)) (e2p me_int)) (ma_cons (me_sub (e2p (me_var 7)) (e2p me_int)) ma_nil)))))) (al_cons (al_cons (al_cons (al_cons (al_cons (al_cons al_nil)))))))) ma_nil)))) (mg_nm Nd rfl (.inl rfl)) (ms_one (ms_if (PW.pt (mw_and (mkt_chain op_lt op_lt (e2p me_int) (e2p (me_var 8)) (e2p (me_var 7))) (mw_and1 (mt_isntB (e2p (mk_callC (ok_is_round T) (hr.mono (by decide)) hg rfl (ma_cons (me_var 3) (ma_cons (me_tup (ma_cons (me_add (e2p (me_var 6)) (e2p (me_var 8))) (ma_cons (me_var 8) ma_nil)) (al_cons (al_cons al_nil))) ma_nil)) (al_cons (al_cons al_nil)))) (e2p me_bool))))) (ms_one (ms_ret me_bool)) ms_nil)))))))))))))
 (ms_one (ms_ret me_bool)))
end
section
variable {w : World} {K : PySem.W.Frag} {mg : Str → Option Value}
theorem fin {h : Heap} {fa : Addr} (KX : K.In h) (G : h.Ns mainGlobals mg) (hmg : mg "law" = some (.ref fa))
    (d_is_whole : DefG K mg "is_whole" (topS 7) ["thing"])
    (d_is_tuple_of : DefG K mg "is_tuple_of" (topS 9) ["thing", "least", "most"])
    (d_is_between : DefG K mg "is_between" (topS 8) ["thing", "least", "most"])
    (d_is_row : DefG K mg "is_row" (topS 10) ["thing"])
    (d_is_layer : DefG K mg "is_layer" (topS 11) ["thing"])
    (d_look_at_layer : DefG K mg "look_at_layer" (topS 12) ["layer"])
    (d_holds_of : DefG K mg "holds_of" (topS 13) ["rows"])
    (d_drawing_in : DefG K mg "drawing_in" (topS 15) ["layer", "moment"])
    (d_told_round : DefG K mg "told_round" (topS 17) ["layer"])
    (d_round_in : DefG K mg "round_in" (topS 18) ["layer"])
    (d_is_round : DefG K mg "is_round" (topS 19) ["layer", "thing"])
    (d_least_round : DefG K mg "least_round" (topS 20) ["layer"])
    (d__law_cell_at : DefG K mg "_law_cell_at" (topS 22) ["_law_script", "_law_k"])
    (d__law_state : DefG K mg "_law_state" (topS 23) ["_law_script", "_law_k"])
    (d__law_same : DefG K mg "_law_same" (topS 25) ["_law_found", "_law_due"])
    (d__law_take : DefG K mg "_law_take" (topS 24) ["_law_state_here", "_law_many"])
    (d__law_row : DefG K mg "_law_row" (topS 26) ["_law_state_here", "_law_way"])
    (d__law_layer : DefG K mg "_law_layer" (topS 27) ["_law_state_here"])
    (d__law_turning : DefG K mg "_law_turning" (topS 28) ["_law_state_here"])
    (d__law_laying : DefG K mg "_law_laying" (topS 29) ["_law_layer_here", "_law_many"])
    (d__law_round : DefG K mg "_law_round" (topS 30) ["_law_layer_here"])
    (d_law : DefG K mg "law" (topS 31) ["_law_script"])
    (z_isinstance : mg "isinstance" = none)
    (z_int : mg "int" = none)
    (z_bool : mg "bool" = none)
    (z_tuple : mg "tuple" = none)
    (z_len : mg "len" = none)
    (z_all : mg "all" = none)
    (z_sum : mg "sum" = none)
    (z_range : mg "range" = none)
    (z_max : mg "max" = none)
    (z_list : mg "list" = none)
    (z_zip : mg "zip" = none)
    (z_min : mg "min" = none)
    (z_repr : mg "repr" = none)
    (z_sorted : mg "sorted" = none)
    (z_set : mg "set" = none)
    (g_DRAWINGS : ∃ t, mg "DRAWINGS" = some (.int 9 t))
    (g_HOLD : ∃ t, mg "HOLD" = some (.int 24 t))
    (g_ROWS : ∃ t, mg "ROWS" = some (.int 8 t))
    : ∃ fd : FuncData, (∀ (s : Shared) (u : Value), BindsTo s fd ⟨[u], []⟩ [("_law_script", u)]) ∧ ∀ base : Heap, K.In base → base.Ns mainGlobals mg → FnG PySem.Challenge.pw_lanternrows_k10_least_rounds w K mg base 7 .e fa fd ["_law_script"] c_law :=
  law_mk hmg d_law (fun base _ _ => ok_law ⟨d_is_whole, d_is_tuple_of, d_is_between, d_is_row, d_is_layer, d_look_at_layer, d_holds_of, d_drawing_in, d_told_round, d_round_in, d_is_round, d_least_round, d__law_cell_at, d__law_state, d__law_same, d__law_take, d__law_row, d__law_layer, d__law_turning, d__law_laying, d__law_round, d_law, z_isinstance, z_int, z_bool, z_tuple, z_len, z_all, z_sum, z_range, z_max, z_list, z_zip, z_min, z_repr, z_sorted, z_set, g_DRAWINGS, g_HOLD, g_ROWS⟩)
end
end
end Lw

namespace Lw
open PySem PySem.Spec PyProof.Rows L2 Mi
theorem take_w {S : Store} {n : Nat} {k : Int} (h : Good S n) (hk : 0 < k) (hk2 : k < 1073741824) : wE (c__law_take [.ref n, .p (.int k)] S) fun d S' => ∃ r : Int, d = .p (.int r) ∧ 0 ≤ r ∧ r < k ∧ Good S' n ∧ S'.length = S.length := by
  obtain ⟨hF, a, b, hS, ha, hb, hb2⟩ := h
  have hn : n < S.length := (List.getElem?_eq_some_iff.mp hS).1
  have hS := hS
  unfold stO at hS
  rw [u__law_take, m__law_take]
  have p8 : CDiv (Int.ofNat 8) 8 := ⟨by decide, by decide⟩
  by_cases h0 : 0 < a
  · have hd : CDiv a k := ⟨hk, hk2⟩
    simp only [Mi.wE_ok, Mi.bind_k, Mi.bind_b, Mi.bind_ite, Mi.optR_some, Mi.addF_int, Mi.int2_int, Mi.intB_int, Mi.q_seq, Mi.q_set, Mi.q_nil, Mi.q_drop, Mi.q_ret, Mi.q_if, Mi.q_brk, Mi.q_cnt, Mi.q_bad, Mi.q_asg, Mi.q_par, Mi.q_par3, Mi.q_app, Mi.q_put, Mi.q_putR, Mi.q_for, Mi.q_var, Mi.varR_some, Mi.q_con, Mi.q_bin, Mi.q_binS, Mi.q_bb, Mi.q_un, Mi.q_and, Mi.q_or, Mi.q_not, Mi.q_ife, Mi.q_band, Mi.q_bor, Mi.q_bnot, Mi.q_val, Mi.q_true, Mi.q_chn, Mi.q_anil, Mi.q_acons, Mi.q_tup, Mi.q_lst, Mi.q_lstR, Mi.q_none, Mi.q_some, Mi.q_sl, Mi.q_blt, Mi.q_isi, Mi.q_isi2, Mi.q_iseq, Mi.q_r1, Mi.q_r2, Mi.q_z, Mi.q_lr1, Mi.q_lr2, Mi.q_comp, Mi.q_call, Mi.k_seq_nx, Mi.k_seq_rt, Mi.k_seq_bk, Mi.k_seq_ct, Mi.k_set, Mi.k_drop, Mi.k_ret, Mi.k_if, Mi.k_asg, Mi.asgR_some, Mi.k_par, Mi.k_par3, Mi.k_app, Mi.appR_l, Mi.k_putR, Mi.k_putR2, Mi.putR2_ref, Mi.k_for, Mi.k_bin, Mi.k_bin2, Mi.k_binS, Mi.k_binS2, Mi.k_bb, Mi.k_bb2, Mi.optB_some, Mi.k_un, Mi.k_and_t, Mi.k_and_f, Mi.k_or_t, Mi.k_or_f, Mi.k_not, Mi.k_ife, Mi.k_band, Mi.k_bor, Mi.k_bnot, Mi.k_val, Mi.k_chn, Mi.k_chn2, Mi.k_chn3, Mi.k_cons, Mi.k_cons2, Mi.k_tup, Mi.k_lst, Mi.k_lstR, Mi.lstR_some, Mi.pys_nil, Mi.pys_cons, Mi.k_some_i, Mi.k_some_n, Mi.k_sl, Mi.k_sl2, Mi.k_sl3T, Mi.k_sl3L, Mi.k_blt, Mi.k_isi, Mi.k_isi2, Mi.k_seqI_l, Mi.k_seqI_t, Mi.k_r1, Mi.k_r2, Mi.k_r22, Mi.k_z, Mi.k_z2l, Mi.k_z2t, Mi.k_lr1, Mi.k_lr2, Mi.k_lr22, Mi.k_comp, Mi.k_comp2, Mi.k_body_rt, Mi.k_body_nx, Mi.v_add_t, Mi.v_cat, Mi.v_rep, Mi.v_mul, Mi.v_div, Mi.v_mod, Mi.v_pow, Mi.v_neg, Mi.v_lt, Mi.v_le, Mi.v_gt, Mi.v_ge, Mi.v_bD, Mi.v_ne, Mi.v_eqI, Mi.v_eqB, Mi.v_isN_n, Mi.v_isN_i, Mi.v_isN_t, Mi.v_isnt, Mi.v_ix_l, Mi.v_ix_t, Mi.v_ix_s, Mi.v_len_l, Mi.v_len_t, Mi.v_len_s, Mi.v_max2, Mi.v_min2, Mi.v_tup_l, Mi.v_lst_t, Mi.v_all, Mi.v_sum, Mi.b_nm, Mi.b_tp, Mi.b_cons, Mi.b_nil, Mi.D.int, Mi.D.bool, Mi.D.tup, Mi.D.lst, Mi.D.non, Mi.wipeE, List.map_cons, List.map_nil, List.length_cons, List.length_nil, List.cons_append, List.nil_append, List.getElem?_cons_zero, List.getElem?_cons_succ, List.set_cons_zero, List.set_cons_succ, Option.map_some, Option.bind_some, decide_eq_true_eq, ↓reduceIte, Nat.reduceAdd, Nat.reduceSub, Mi.atI0, Mi.atI1, Mi.atI2, Mi.ixN0, Mi.ixN1, Bool.not_true, Bool.not_false, Bool.false_eq_true, decide_true, decide_false, Mi.q_ext, Mi.k_ext, Mi.extR_l, Mi.k_sl3TL, Mi.q_zX, Mi.k_ztl, Mi.k_zlt, idx_ref hS, h0, hk, hd, putR_ok (k := 0) (q := 0) hS ixN0]
    refine ⟨a % k, rfl, Int.emod_nonneg _ (by omega), Int.emod_lt_of_pos _ hk, Good.put hF hn (Int.ediv_nonneg ha (by omega)) hb hb2, by rw [List.length_set]⟩
  · have c1 : CMul b 48271 := cmul_l hb (by omega)
    generalize hb' : (b * 48271 + 29) % 2147483647 = b'
    have hb0 : 0 ≤ b' := by rw [← hb']; exact Int.emod_nonneg _ (by decide)
    have hb1 : b' < 2147483647 := by rw [← hb']; exact Int.emod_lt_of_pos _ (by decide)
    have hS2 : (S.set n (.lst [PyData.int a, PyData.int b']))[n]? = some (SO.lst [PyData.int a, PyData.int b']) := List.getElem?_set_self hn
    have c2 : CMul b' b' := cmul_l hb0 (by omega)
    have c3 : CMul 39373 b' := cmul_l (by decide) (by decide)
    have c4 : ∀ x : Int, CMul 16807 x := fun x => cmul_l (by decide) (by decide)
    have c5 : ∀ x : Int, CMul (x % 2147483629) (x % 2147483629) := fun x => cmul_l (Int.emod_nonneg _ (by decide)) (by have := Int.emod_lt_of_pos x (show (0 : Int) < 2147483629 by decide); omega)
    have c6 : ∀ x : Int, CDiv x 8 := fun x => ⟨by decide, by decide⟩
    have z1 : (0 : Int) < 2147483647 := by decide
    have z2 : (0 : Int) < 2147483629 := by decide
    have z3 : (0 : Int) < 2147483587 := by decide
    simp only [Mi.wE_ok, Mi.bind_k, Mi.bind_b, Mi.bind_ite, Mi.optR_some, Mi.addF_int, Mi.int2_int, Mi.intB_int, Mi.q_seq, Mi.q_set, Mi.q_nil, Mi.q_drop, Mi.q_ret, Mi.q_if, Mi.q_brk, Mi.q_cnt, Mi.q_bad, Mi.q_asg, Mi.q_par, Mi.q_par3, Mi.q_app, Mi.q_put, Mi.q_putR, Mi.q_for, Mi.q_var, Mi.varR_some, Mi.q_con, Mi.q_bin, Mi.q_binS, Mi.q_bb, Mi.q_un, Mi.q_and, Mi.q_or, Mi.q_not, Mi.q_ife, Mi.q_band, Mi.q_bor, Mi.q_bnot, Mi.q_val, Mi.q_true, Mi.q_chn, Mi.q_anil, Mi.q_acons, Mi.q_tup, Mi.q_lst, Mi.q_lstR, Mi.q_none, Mi.q_some, Mi.q_sl, Mi.q_blt, Mi.q_isi, Mi.q_isi2, Mi.q_iseq, Mi.q_r1, Mi.q_r2, Mi.q_z, Mi.q_lr1, Mi.q_lr2, Mi.q_comp, Mi.q_call, Mi.k_seq_nx, Mi.k_seq_rt, Mi.k_seq_bk, Mi.k_seq_ct, Mi.k_set, Mi.k_drop, Mi.k_ret, Mi.k_if, Mi.k_asg, Mi.asgR_some, Mi.k_par, Mi.k_par3, Mi.k_app, Mi.appR_l, Mi.k_putR, Mi.k_putR2, Mi.putR2_ref, Mi.k_for, Mi.k_bin, Mi.k_bin2, Mi.k_binS, Mi.k_binS2, Mi.k_bb, Mi.k_bb2, Mi.optB_some, Mi.k_un, Mi.k_and_t, Mi.k_and_f, Mi.k_or_t, Mi.k_or_f, Mi.k_not, Mi.k_ife, Mi.k_band, Mi.k_bor, Mi.k_bnot, Mi.k_val, Mi.k_chn, Mi.k_chn2, Mi.k_chn3, Mi.k_cons, Mi.k_cons2, Mi.k_tup, Mi.k_lst, Mi.k_lstR, Mi.lstR_some, Mi.pys_nil, Mi.pys_cons, Mi.k_some_i, Mi.k_some_n, Mi.k_sl, Mi.k_sl2, Mi.k_sl3T, Mi.k_sl3L, Mi.k_blt, Mi.k_isi, Mi.k_isi2, Mi.k_seqI_l, Mi.k_seqI_t, Mi.k_r1, Mi.k_r2, Mi.k_r22, Mi.k_z, Mi.k_z2l, Mi.k_z2t, Mi.k_lr1, Mi.k_lr2, Mi.k_lr22, Mi.k_comp, Mi.k_comp2, Mi.k_body_rt, Mi.k_body_nx, Mi.v_add_t, Mi.v_cat, Mi.v_rep, Mi.v_mul, Mi.v_div, Mi.v_mod, Mi.v_pow, Mi.v_neg, Mi.v_lt, Mi.v_le, Mi.v_gt, Mi.v_ge, Mi.v_bD, Mi.v_ne, Mi.v_eqI, Mi.v_eqB, Mi.v_isN_n, Mi.v_isN_i, Mi.v_isN_t, Mi.v_isnt, Mi.v_ix_l, Mi.v_ix_t, Mi.v_ix_s, Mi.v_len_l, Mi.v_len_t, Mi.v_len_s, Mi.v_max2, Mi.v_min2, Mi.v_tup_l, Mi.v_lst_t, Mi.v_all, Mi.v_sum, Mi.b_nm, Mi.b_tp, Mi.b_cons, Mi.b_nil, Mi.D.int, Mi.D.bool, Mi.D.tup, Mi.D.lst, Mi.D.non, Mi.wipeE, List.map_cons, List.map_nil, List.length_cons, List.length_nil, List.cons_append, List.nil_append, List.getElem?_cons_zero, List.getElem?_cons_succ, List.set_cons_zero, List.set_cons_succ, Option.map_some, Option.bind_some, decide_eq_true_eq, ↓reduceIte, Nat.reduceAdd, Nat.reduceSub, Mi.atI0, Mi.atI1, Mi.atI2, Mi.ixN0, Mi.ixN1, Bool.not_true, Bool.not_false, Bool.false_eq_true, decide_true, decide_false, Mi.q_ext, Mi.k_ext, Mi.extR_l, Mi.k_sl3TL, Mi.q_zX, Mi.k_ztl, Mi.k_zlt, idx_ref hS, h0, hk, c1, z1, hb', putR_ok (k := 1) (q := 1) hS ixN1, idx_ref hS2, c2, c3, z2, c4, c5, z3, c6]
    refine ⟨_, rfl, Int.emod_nonneg _ (by omega), Int.emod_lt_of_pos _ hk, ⟨flat_set hF, a, b', hS2, ha, hb0, hb1⟩, by rw [List.length_set]⟩
theorem draw_w {S : Store} {n : Nat} {k : Int} (h : Good S n) (hk : 0 < k) (hk2 : k < 1073741824) : ∃ r S', c__law_take [.ref n, .p (.int k)] S = .ok (.p (.int r)) S' ∧ 0 ≤ r ∧ r < k ∧ Good S' n := by
  obtain ⟨_, S', e, r, rfl, h1, h2, h3, _⟩ := wE_ex (take_w h hk hk2)
  exact ⟨r, S', e, h1, h2, h3⟩
theorem e_is_whole (d : PyData) (S : Store) : c_is_whole [.p d] S = .ok (.p (.bool (isW d))) S := by
  rw [u_is_whole, m_is_whole]
  cases d <;> simp only [Mi.wE_ok, Mi.bind_k, Mi.bind_b, Mi.bind_ite, Mi.optR_some, Mi.addF_int, Mi.int2_int, Mi.intB_int, Mi.q_seq, Mi.q_set, Mi.q_nil, Mi.q_drop, Mi.q_ret, Mi.q_if, Mi.q_brk, Mi.q_cnt, Mi.q_bad, Mi.q_asg, Mi.q_par, Mi.q_par3, Mi.q_app, Mi.q_put, Mi.q_putR, Mi.q_for, Mi.q_var, Mi.varR_some, Mi.q_con, Mi.q_bin, Mi.q_binS, Mi.q_bb, Mi.q_un, Mi.q_and, Mi.q_or, Mi.q_not, Mi.q_ife, Mi.q_band, Mi.q_bor, Mi.q_bnot, Mi.q_val, Mi.q_true, Mi.q_chn, Mi.q_anil, Mi.q_acons, Mi.q_tup, Mi.q_lst, Mi.q_lstR, Mi.q_none, Mi.q_some, Mi.q_sl, Mi.q_blt, Mi.q_isi, Mi.q_isi2, Mi.q_iseq, Mi.q_r1, Mi.q_r2, Mi.q_z, Mi.q_lr1, Mi.q_lr2, Mi.q_comp, Mi.q_call, Mi.k_seq_nx, Mi.k_seq_rt, Mi.k_seq_bk, Mi.k_seq_ct, Mi.k_set, Mi.k_drop, Mi.k_ret, Mi.k_if, Mi.k_asg, Mi.asgR_some, Mi.k_par, Mi.k_par3, Mi.k_app, Mi.appR_l, Mi.k_putR, Mi.k_putR2, Mi.putR2_ref, Mi.k_for, Mi.k_bin, Mi.k_bin2, Mi.k_binS, Mi.k_binS2, Mi.k_bb, Mi.k_bb2, Mi.optB_some, Mi.k_un, Mi.k_and_t, Mi.k_and_f, Mi.k_or_t, Mi.k_or_f, Mi.k_not, Mi.k_ife, Mi.k_band, Mi.k_bor, Mi.k_bnot, Mi.k_val, Mi.k_chn, Mi.k_chn2, Mi.k_chn3, Mi.k_cons, Mi.k_cons2, Mi.k_tup, Mi.k_lst, Mi.k_lstR, Mi.lstR_some, Mi.pys_nil, Mi.pys_cons, Mi.k_some_i, Mi.k_some_n, Mi.k_sl, Mi.k_sl2, Mi.k_sl3T, Mi.k_sl3L, Mi.k_blt, Mi.k_isi, Mi.k_isi2, Mi.k_seqI_l, Mi.k_seqI_t, Mi.k_r1, Mi.k_r2, Mi.k_r22, Mi.k_z, Mi.k_z2l, Mi.k_z2t, Mi.k_lr1, Mi.k_lr2, Mi.k_lr22, Mi.k_comp, Mi.k_comp2, Mi.k_body_rt, Mi.k_body_nx, Mi.v_add_t, Mi.v_cat, Mi.v_rep, Mi.v_mul, Mi.v_div, Mi.v_mod, Mi.v_pow, Mi.v_neg, Mi.v_lt, Mi.v_le, Mi.v_gt, Mi.v_ge, Mi.v_bD, Mi.v_ne, Mi.v_eqI, Mi.v_eqB, Mi.v_isN_n, Mi.v_isN_i, Mi.v_isN_t, Mi.v_isnt, Mi.v_ix_l, Mi.v_ix_t, Mi.v_ix_s, Mi.v_len_l, Mi.v_len_t, Mi.v_len_s, Mi.v_max2, Mi.v_min2, Mi.v_tup_l, Mi.v_lst_t, Mi.v_all, Mi.v_sum, Mi.b_nm, Mi.b_tp, Mi.b_cons, Mi.b_nil, Mi.D.int, Mi.D.bool, Mi.D.tup, Mi.D.lst, Mi.D.non, Mi.wipeE, List.map_cons, List.map_nil, List.length_cons, List.length_nil, List.cons_append, List.nil_append, List.getElem?_cons_zero, List.getElem?_cons_succ, List.set_cons_zero, List.set_cons_succ, Option.map_some, Option.bind_some, decide_eq_true_eq, ↓reduceIte, Nat.reduceAdd, Nat.reduceSub, Mi.atI0, Mi.atI1, Mi.atI2, Mi.ixN0, Mi.ixN1, Bool.not_true, Bool.not_false, Bool.false_eq_true, decide_true, decide_false, Mi.q_ext, Mi.k_ext, Mi.extR_l, Mi.k_sl3TL, Mi.q_zX, Mi.k_ztl, Mi.k_zlt] <;> rfl
theorem e_is_between (d : PyData) (l h : Int) (S : Store) : c_is_between [.p d, .p (.int l), .p (.int h)] S = .ok (.p (.bool (btw l h d))) S := by
  rw [u_is_between, m_is_between]
  simp only [Mi.wE_ok, Mi.bind_k, Mi.bind_b, Mi.bind_ite, Mi.optR_some, Mi.addF_int, Mi.int2_int, Mi.intB_int, Mi.q_seq, Mi.q_set, Mi.q_nil, Mi.q_drop, Mi.q_ret, Mi.q_if, Mi.q_brk, Mi.q_cnt, Mi.q_bad, Mi.q_asg, Mi.q_par, Mi.q_par3, Mi.q_app, Mi.q_put, Mi.q_putR, Mi.q_for, Mi.q_var, Mi.varR_some, Mi.q_con, Mi.q_bin, Mi.q_binS, Mi.q_bb, Mi.q_un, Mi.q_and, Mi.q_or, Mi.q_not, Mi.q_ife, Mi.q_band, Mi.q_bor, Mi.q_bnot, Mi.q_val, Mi.q_true, Mi.q_chn, Mi.q_anil, Mi.q_acons, Mi.q_tup, Mi.q_lst, Mi.q_lstR, Mi.q_none, Mi.q_some, Mi.q_sl, Mi.q_blt, Mi.q_isi, Mi.q_isi2, Mi.q_iseq, Mi.q_r1, Mi.q_r2, Mi.q_z, Mi.q_lr1, Mi.q_lr2, Mi.q_comp, Mi.q_call, Mi.k_seq_nx, Mi.k_seq_rt, Mi.k_seq_bk, Mi.k_seq_ct, Mi.k_set, Mi.k_drop, Mi.k_ret, Mi.k_if, Mi.k_asg, Mi.asgR_some, Mi.k_par, Mi.k_par3, Mi.k_app, Mi.appR_l, Mi.k_putR, Mi.k_putR2, Mi.putR2_ref, Mi.k_for, Mi.k_bin, Mi.k_bin2, Mi.k_binS, Mi.k_binS2, Mi.k_bb, Mi.k_bb2, Mi.optB_some, Mi.k_un, Mi.k_and_t, Mi.k_and_f, Mi.k_or_t, Mi.k_or_f, Mi.k_not, Mi.k_ife, Mi.k_band, Mi.k_bor, Mi.k_bnot, Mi.k_val, Mi.k_chn, Mi.k_chn2, Mi.k_chn3, Mi.k_cons, Mi.k_cons2, Mi.k_tup, Mi.k_lst, Mi.k_lstR, Mi.lstR_some, Mi.pys_nil, Mi.pys_cons, Mi.k_some_i, Mi.k_some_n, Mi.k_sl, Mi.k_sl2, Mi.k_sl3T, Mi.k_sl3L, Mi.k_blt, Mi.k_isi, Mi.k_isi2, Mi.k_seqI_l, Mi.k_seqI_t, Mi.k_r1, Mi.k_r2, Mi.k_r22, Mi.k_z, Mi.k_z2l, Mi.k_z2t, Mi.k_lr1, Mi.k_lr2, Mi.k_lr22, Mi.k_comp, Mi.k_comp2, Mi.k_body_rt, Mi.k_body_nx, Mi.v_add_t, Mi.v_cat, Mi.v_rep, Mi.v_mul, Mi.v_div, Mi.v_mod, Mi.v_pow, Mi.v_neg, Mi.v_lt, Mi.v_le, Mi.v_gt, Mi.v_ge, Mi.v_bD, Mi.v_ne, Mi.v_eqI, Mi.v_eqB, Mi.v_isN_n, Mi.v_isN_i, Mi.v_isN_t, Mi.v_isnt, Mi.v_ix_l, Mi.v_ix_t, Mi.v_ix_s, Mi.v_len_l, Mi.v_len_t, Mi.v_len_s, Mi.v_max2, Mi.v_min2, Mi.v_tup_l, Mi.v_lst_t, Mi.v_all, Mi.v_sum, Mi.b_nm, Mi.b_tp, Mi.b_cons, Mi.b_nil, Mi.D.int, Mi.D.bool, Mi.D.tup, Mi.D.lst, Mi.D.non, Mi.wipeE, List.map_cons, List.map_nil, List.length_cons, List.length_nil, List.cons_append, List.nil_append, List.getElem?_cons_zero, List.getElem?_cons_succ, List.set_cons_zero, List.set_cons_succ, Option.map_some, Option.bind_some, decide_eq_true_eq, ↓reduceIte, Nat.reduceAdd, Nat.reduceSub, Mi.atI0, Mi.atI1, Mi.atI2, Mi.ixN0, Mi.ixN1, Bool.not_true, Bool.not_false, Bool.false_eq_true, decide_true, decide_false, Mi.q_ext, Mi.k_ext, Mi.extR_l, Mi.k_sl3TL, Mi.q_zX, Mi.k_ztl, Mi.k_zlt, e_is_whole]
  cases d with
  | int i =>
    simp only [isW, btw]
    by_cases h1 : l ≤ i
    · simp only [Mi.wE_ok, Mi.bind_k, Mi.bind_b, Mi.bind_ite, Mi.optR_some, Mi.addF_int, Mi.int2_int, Mi.intB_int, Mi.q_seq, Mi.q_set, Mi.q_nil, Mi.q_drop, Mi.q_ret, Mi.q_if, Mi.q_brk, Mi.q_cnt, Mi.q_bad, Mi.q_asg, Mi.q_par, Mi.q_par3, Mi.q_app, Mi.q_put, Mi.q_putR, Mi.q_for, Mi.q_var, Mi.varR_some, Mi.q_con, Mi.q_bin, Mi.q_binS, Mi.q_bb, Mi.q_un, Mi.q_and, Mi.q_or, Mi.q_not, Mi.q_ife, Mi.q_band, Mi.q_bor, Mi.q_bnot, Mi.q_val, Mi.q_true, Mi.q_chn, Mi.q_anil, Mi.q_acons, Mi.q_tup, Mi.q_lst, Mi.q_lstR, Mi.q_none, Mi.q_some, Mi.q_sl, Mi.q_blt, Mi.q_isi, Mi.q_isi2, Mi.q_iseq, Mi.q_r1, Mi.q_r2, Mi.q_z, Mi.q_lr1, Mi.q_lr2, Mi.q_comp, Mi.q_call, Mi.k_seq_nx, Mi.k_seq_rt, Mi.k_seq_bk, Mi.k_seq_ct, Mi.k_set, Mi.k_drop, Mi.k_ret, Mi.k_if, Mi.k_asg, Mi.asgR_some, Mi.k_par, Mi.k_par3, Mi.k_app, Mi.appR_l, Mi.k_putR, Mi.k_putR2, Mi.putR2_ref, Mi.k_for, Mi.k_bin, Mi.k_bin2, Mi.k_binS, Mi.k_binS2, Mi.k_bb, Mi.k_bb2, Mi.optB_some, Mi.k_un, Mi.k_and_t, Mi.k_and_f, Mi.k_or_t, Mi.k_or_f, Mi.k_not, Mi.k_ife, Mi.k_band, Mi.k_bor, Mi.k_bnot, Mi.k_val, Mi.k_chn, Mi.k_chn2, Mi.k_chn3, Mi.k_cons, Mi.k_cons2, Mi.k_tup, Mi.k_lst, Mi.k_lstR, Mi.lstR_some, Mi.pys_nil, Mi.pys_cons, Mi.k_some_i, Mi.k_some_n, Mi.k_sl, Mi.k_sl2, Mi.k_sl3T, Mi.k_sl3L, Mi.k_blt, Mi.k_isi, Mi.k_isi2, Mi.k_seqI_l, Mi.k_seqI_t, Mi.k_r1, Mi.k_r2, Mi.k_r22, Mi.k_z, Mi.k_z2l, Mi.k_z2t, Mi.k_lr1, Mi.k_lr2, Mi.k_lr22, Mi.k_comp, Mi.k_comp2, Mi.k_body_rt, Mi.k_body_nx, Mi.v_add_t, Mi.v_cat, Mi.v_rep, Mi.v_mul, Mi.v_div, Mi.v_mod, Mi.v_pow, Mi.v_neg, Mi.v_lt, Mi.v_le, Mi.v_gt, Mi.v_ge, Mi.v_bD, Mi.v_ne, Mi.v_eqI, Mi.v_eqB, Mi.v_isN_n, Mi.v_isN_i, Mi.v_isN_t, Mi.v_isnt, Mi.v_ix_l, Mi.v_ix_t, Mi.v_ix_s, Mi.v_len_l, Mi.v_len_t, Mi.v_len_s, Mi.v_max2, Mi.v_min2, Mi.v_tup_l, Mi.v_lst_t, Mi.v_all, Mi.v_sum, Mi.b_nm, Mi.b_tp, Mi.b_cons, Mi.b_nil, Mi.D.int, Mi.D.bool, Mi.D.tup, Mi.D.lst, Mi.D.non, Mi.wipeE, List.map_cons, List.map_nil, List.length_cons, List.length_nil, List.cons_append, List.nil_append, List.getElem?_cons_zero, List.getElem?_cons_succ, List.set_cons_zero, List.set_cons_succ, Option.map_some, Option.bind_some, decide_eq_true_eq, ↓reduceIte, Nat.reduceAdd, Nat.reduceSub, Mi.atI0, Mi.atI1, Mi.atI2, Mi.ixN0, Mi.ixN1, Bool.not_true, Bool.not_false, Bool.false_eq_true, decide_true, decide_false, Mi.q_ext, Mi.k_ext, Mi.extR_l, Mi.k_sl3TL, Mi.q_zX, Mi.k_ztl, Mi.k_zlt, h1, Bool.true_and]
    · simp only [Mi.wE_ok, Mi.bind_k, Mi.bind_b, Mi.bind_ite, Mi.optR_some, Mi.addF_int, Mi.int2_int, Mi.intB_int, Mi.q_seq, Mi.q_set, Mi.q_nil, Mi.q_drop, Mi.q_ret, Mi.q_if, Mi.q_brk, Mi.q_cnt, Mi.q_bad, Mi.q_asg, Mi.q_par, Mi.q_par3, Mi.q_app, Mi.q_put, Mi.q_putR, Mi.q_for, Mi.q_var, Mi.varR_some, Mi.q_con, Mi.q_bin, Mi.q_binS, Mi.q_bb, Mi.q_un, Mi.q_and, Mi.q_or, Mi.q_not, Mi.q_ife, Mi.q_band, Mi.q_bor, Mi.q_bnot, Mi.q_val, Mi.q_true, Mi.q_chn, Mi.q_anil, Mi.q_acons, Mi.q_tup, Mi.q_lst, Mi.q_lstR, Mi.q_none, Mi.q_some, Mi.q_sl, Mi.q_blt, Mi.q_isi, Mi.q_isi2, Mi.q_iseq, Mi.q_r1, Mi.q_r2, Mi.q_z, Mi.q_lr1, Mi.q_lr2, Mi.q_comp, Mi.q_call, Mi.k_seq_nx, Mi.k_seq_rt, Mi.k_seq_bk, Mi.k_seq_ct, Mi.k_set, Mi.k_drop, Mi.k_ret, Mi.k_if, Mi.k_asg, Mi.asgR_some, Mi.k_par, Mi.k_par3, Mi.k_app, Mi.appR_l, Mi.k_putR, Mi.k_putR2, Mi.putR2_ref, Mi.k_for, Mi.k_bin, Mi.k_bin2, Mi.k_binS, Mi.k_binS2, Mi.k_bb, Mi.k_bb2, Mi.optB_some, Mi.k_un, Mi.k_and_t, Mi.k_and_f, Mi.k_or_t, Mi.k_or_f, Mi.k_not, Mi.k_ife, Mi.k_band, Mi.k_bor, Mi.k_bnot, Mi.k_val, Mi.k_chn, Mi.k_chn2, Mi.k_chn3, Mi.k_cons, Mi.k_cons2, Mi.k_tup, Mi.k_lst, Mi.k_lstR, Mi.lstR_some, Mi.pys_nil, Mi.pys_cons, Mi.k_some_i, Mi.k_some_n, Mi.k_sl, Mi.k_sl2, Mi.k_sl3T, Mi.k_sl3L, Mi.k_blt, Mi.k_isi, Mi.k_isi2, Mi.k_seqI_l, Mi.k_seqI_t, Mi.k_r1, Mi.k_r2, Mi.k_r22, Mi.k_z, Mi.k_z2l, Mi.k_z2t, Mi.k_lr1, Mi.k_lr2, Mi.k_lr22, Mi.k_comp, Mi.k_comp2, Mi.k_body_rt, Mi.k_body_nx, Mi.v_add_t, Mi.v_cat, Mi.v_rep, Mi.v_mul, Mi.v_div, Mi.v_mod, Mi.v_pow, Mi.v_neg, Mi.v_lt, Mi.v_le, Mi.v_gt, Mi.v_ge, Mi.v_bD, Mi.v_ne, Mi.v_eqI, Mi.v_eqB, Mi.v_isN_n, Mi.v_isN_i, Mi.v_isN_t, Mi.v_isnt, Mi.v_ix_l, Mi.v_ix_t, Mi.v_ix_s, Mi.v_len_l, Mi.v_len_t, Mi.v_len_s, Mi.v_max2, Mi.v_min2, Mi.v_tup_l, Mi.v_lst_t, Mi.v_all, Mi.v_sum, Mi.b_nm, Mi.b_tp, Mi.b_cons, Mi.b_nil, Mi.D.int, Mi.D.bool, Mi.D.tup, Mi.D.lst, Mi.D.non, Mi.wipeE, List.map_cons, List.map_nil, List.length_cons, List.length_nil, List.cons_append, List.nil_append, List.getElem?_cons_zero, List.getElem?_cons_succ, List.set_cons_zero, List.set_cons_succ, Option.map_some, Option.bind_some, decide_eq_true_eq, ↓reduceIte, Nat.reduceAdd, Nat.reduceSub, Mi.atI0, Mi.atI1, Mi.atI2, Mi.ixN0, Mi.ixN1, Bool.not_true, Bool.not_false, Bool.false_eq_true, decide_true, decide_false, Mi.q_ext, Mi.k_ext, Mi.extR_l, Mi.k_sl3TL, Mi.q_zX, Mi.k_ztl, Mi.k_zlt, h1, Bool.false_and]
  | _ => simp only [isW, btw, Mi.wE_ok, Mi.bind_k, Mi.bind_b, Mi.bind_ite, Mi.optR_some, Mi.addF_int, Mi.int2_int, Mi.intB_int, Mi.q_seq, Mi.q_set, Mi.q_nil, Mi.q_drop, Mi.q_ret, Mi.q_if, Mi.q_brk, Mi.q_cnt, Mi.q_bad, Mi.q_asg, Mi.q_par, Mi.q_par3, Mi.q_app, Mi.q_put, Mi.q_putR, Mi.q_for, Mi.q_var, Mi.varR_some, Mi.q_con, Mi.q_bin, Mi.q_binS, Mi.q_bb, Mi.q_un, Mi.q_and, Mi.q_or, Mi.q_not, Mi.q_ife, Mi.q_band, Mi.q_bor, Mi.q_bnot, Mi.q_val, Mi.q_true, Mi.q_chn, Mi.q_anil, Mi.q_acons, Mi.q_tup, Mi.q_lst, Mi.q_lstR, Mi.q_none, Mi.q_some, Mi.q_sl, Mi.q_blt, Mi.q_isi, Mi.q_isi2, Mi.q_iseq, Mi.q_r1, Mi.q_r2, Mi.q_z, Mi.q_lr1, Mi.q_lr2, Mi.q_comp, Mi.q_call, Mi.k_seq_nx, Mi.k_seq_rt, Mi.k_seq_bk, Mi.k_seq_ct, Mi.k_set, Mi.k_drop, Mi.k_ret, Mi.k_if, Mi.k_asg, Mi.asgR_some, Mi.k_par, Mi.k_par3, Mi.k_app, Mi.appR_l, Mi.k_putR, Mi.k_putR2, Mi.putR2_ref, Mi.k_for, Mi.k_bin, Mi.k_bin2, Mi.k_binS, Mi.k_binS2, Mi.k_bb, Mi.k_bb2, Mi.optB_some, Mi.k_un, Mi.k_and_t, Mi.k_and_f, Mi.k_or_t, Mi.k_or_f, Mi.k_not, Mi.k_ife, Mi.k_band, Mi.k_bor, Mi.k_bnot, Mi.k_val, Mi.k_chn, Mi.k_chn2, Mi.k_chn3, Mi.k_cons, Mi.k_cons2, Mi.k_tup, Mi.k_lst, Mi.k_lstR, Mi.lstR_some, Mi.pys_nil, Mi.pys_cons, Mi.k_some_i, Mi.k_some_n, Mi.k_sl, Mi.k_sl2, Mi.k_sl3T, Mi.k_sl3L, Mi.k_blt, Mi.k_isi, Mi.k_isi2, Mi.k_seqI_l, Mi.k_seqI_t, Mi.k_r1, Mi.k_r2, Mi.k_r22, Mi.k_z, Mi.k_z2l, Mi.k_z2t, Mi.k_lr1, Mi.k_lr2, Mi.k_lr22, Mi.k_comp, Mi.k_comp2, Mi.k_body_rt, Mi.k_body_nx, Mi.v_add_t, Mi.v_cat, Mi.v_rep, Mi.v_mul, Mi.v_div, Mi.v_mod, Mi.v_pow, Mi.v_neg, Mi.v_lt, Mi.v_le, Mi.v_gt, Mi.v_ge, Mi.v_bD, Mi.v_ne, Mi.v_eqI, Mi.v_eqB, Mi.v_isN_n, Mi.v_isN_i, Mi.v_isN_t, Mi.v_isnt, Mi.v_ix_l, Mi.v_ix_t, Mi.v_ix_s, Mi.v_len_l, Mi.v_len_t, Mi.v_len_s, Mi.v_max2, Mi.v_min2, Mi.v_tup_l, Mi.v_lst_t, Mi.v_all, Mi.v_sum, Mi.b_nm, Mi.b_tp, Mi.b_cons, Mi.b_nil, Mi.D.int, Mi.D.bool, Mi.D.tup, Mi.D.lst, Mi.D.non, Mi.wipeE, List.map_cons, List.map_nil, List.length_cons, List.length_nil, List.cons_append, List.nil_append, List.getElem?_cons_zero, List.getElem?_cons_succ, List.set_cons_zero, List.set_cons_succ, Option.map_some, Option.bind_some, decide_eq_true_eq, ↓reduceIte, Nat.reduceAdd, Nat.reduceSub, Mi.atI0, Mi.atI1, Mi.atI2, Mi.ixN0, Mi.ixN1, Bool.not_true, Bool.not_false, Bool.false_eq_true, decide_true, decide_false, Mi.q_ext, Mi.k_ext, Mi.extR_l, Mi.k_sl3TL, Mi.q_zX, Mi.k_ztl, Mi.k_zlt]
theorem e_is_tuple_of (d : PyData) (l h : Int) (S : Store) : c_is_tuple_of [.p d, .p (.int l), .p (.int h)] S = .ok (.p (.bool (tupN l h d))) S := by
  rw [u_is_tuple_of, m_is_tuple_of]
  simp only [Mi.wE_ok, Mi.bind_k, Mi.bind_b, Mi.bind_ite, Mi.optR_some, Mi.addF_int, Mi.int2_int, Mi.intB_int, Mi.q_seq, Mi.q_set, Mi.q_nil, Mi.q_drop, Mi.q_ret, Mi.q_if, Mi.q_brk, Mi.q_cnt, Mi.q_bad, Mi.q_asg, Mi.q_par, Mi.q_par3, Mi.q_app, Mi.q_put, Mi.q_putR, Mi.q_for, Mi.q_var, Mi.varR_some, Mi.q_con, Mi.q_bin, Mi.q_binS, Mi.q_bb, Mi.q_un, Mi.q_and, Mi.q_or, Mi.q_not, Mi.q_ife, Mi.q_band, Mi.q_bor, Mi.q_bnot, Mi.q_val, Mi.q_true, Mi.q_chn, Mi.q_anil, Mi.q_acons, Mi.q_tup, Mi.q_lst, Mi.q_lstR, Mi.q_none, Mi.q_some, Mi.q_sl, Mi.q_blt, Mi.q_isi, Mi.q_isi2, Mi.q_iseq, Mi.q_r1, Mi.q_r2, Mi.q_z, Mi.q_lr1, Mi.q_lr2, Mi.q_comp, Mi.q_call, Mi.k_seq_nx, Mi.k_seq_rt, Mi.k_seq_bk, Mi.k_seq_ct, Mi.k_set, Mi.k_drop, Mi.k_ret, Mi.k_if, Mi.k_asg, Mi.asgR_some, Mi.k_par, Mi.k_par3, Mi.k_app, Mi.appR_l, Mi.k_putR, Mi.k_putR2, Mi.putR2_ref, Mi.k_for, Mi.k_bin, Mi.k_bin2, Mi.k_binS, Mi.k_binS2, Mi.k_bb, Mi.k_bb2, Mi.optB_some, Mi.k_un, Mi.k_and_t, Mi.k_and_f, Mi.k_or_t, Mi.k_or_f, Mi.k_not, Mi.k_ife, Mi.k_band, Mi.k_bor, Mi.k_bnot, Mi.k_val, Mi.k_chn, Mi.k_chn2, Mi.k_chn3, Mi.k_cons, Mi.k_cons2, Mi.k_tup, Mi.k_lst, Mi.k_lstR, Mi.lstR_some, Mi.pys_nil, Mi.pys_cons, Mi.k_some_i, Mi.k_some_n, Mi.k_sl, Mi.k_sl2, Mi.k_sl3T, Mi.k_sl3L, Mi.k_blt, Mi.k_isi, Mi.k_isi2, Mi.k_seqI_l, Mi.k_seqI_t, Mi.k_r1, Mi.k_r2, Mi.k_r22, Mi.k_z, Mi.k_z2l, Mi.k_z2t, Mi.k_lr1, Mi.k_lr2, Mi.k_lr22, Mi.k_comp, Mi.k_comp2, Mi.k_body_rt, Mi.k_body_nx, Mi.v_add_t, Mi.v_cat, Mi.v_rep, Mi.v_mul, Mi.v_div, Mi.v_mod, Mi.v_pow, Mi.v_neg, Mi.v_lt, Mi.v_le, Mi.v_gt, Mi.v_ge, Mi.v_bD, Mi.v_ne, Mi.v_eqI, Mi.v_eqB, Mi.v_isN_n, Mi.v_isN_i, Mi.v_isN_t, Mi.v_isnt, Mi.v_ix_l, Mi.v_ix_t, Mi.v_ix_s, Mi.v_len_l, Mi.v_len_t, Mi.v_len_s, Mi.v_max2, Mi.v_min2, Mi.v_tup_l, Mi.v_lst_t, Mi.v_all, Mi.v_sum, Mi.b_nm, Mi.b_tp, Mi.b_cons, Mi.b_nil, Mi.D.int, Mi.D.bool, Mi.D.tup, Mi.D.lst, Mi.D.non, Mi.wipeE, List.map_cons, List.map_nil, List.length_cons, List.length_nil, List.cons_append, List.nil_append, List.getElem?_cons_zero, List.getElem?_cons_succ, List.set_cons_zero, List.set_cons_succ, Option.map_some, Option.bind_some, decide_eq_true_eq, ↓reduceIte, Nat.reduceAdd, Nat.reduceSub, Mi.atI0, Mi.atI1, Mi.atI2, Mi.ixN0, Mi.ixN1, Bool.not_true, Bool.not_false, Bool.false_eq_true, decide_true, decide_false, Mi.q_ext, Mi.k_ext, Mi.extR_l, Mi.k_sl3TL, Mi.q_zX, Mi.k_ztl, Mi.k_zlt]
  cases d with
  | tuple ds =>
    simp only [show isT "tuple" (tyN (D.p (PyData.tuple ds))) = true from rfl, tupN]
    by_cases h1 : l ≤ (ds.length : Int)
    · simp only [Mi.wE_ok, Mi.bind_k, Mi.bind_b, Mi.bind_ite, Mi.optR_some, Mi.addF_int, Mi.int2_int, Mi.intB_int, Mi.q_seq, Mi.q_set, Mi.q_nil, Mi.q_drop, Mi.q_ret, Mi.q_if, Mi.q_brk, Mi.q_cnt, Mi.q_bad, Mi.q_asg, Mi.q_par, Mi.q_par3, Mi.q_app, Mi.q_put, Mi.q_putR, Mi.q_for, Mi.q_var, Mi.varR_some, Mi.q_con, Mi.q_bin, Mi.q_binS, Mi.q_bb, Mi.q_un, Mi.q_and, Mi.q_or, Mi.q_not, Mi.q_ife, Mi.q_band, Mi.q_bor, Mi.q_bnot, Mi.q_val, Mi.q_true, Mi.q_chn, Mi.q_anil, Mi.q_acons, Mi.q_tup, Mi.q_lst, Mi.q_lstR, Mi.q_none, Mi.q_some, Mi.q_sl, Mi.q_blt, Mi.q_isi, Mi.q_isi2, Mi.q_iseq, Mi.q_r1, Mi.q_r2, Mi.q_z, Mi.q_lr1, Mi.q_lr2, Mi.q_comp, Mi.q_call, Mi.k_seq_nx, Mi.k_seq_rt, Mi.k_seq_bk, Mi.k_seq_ct, Mi.k_set, Mi.k_drop, Mi.k_ret, Mi.k_if, Mi.k_asg, Mi.asgR_some, Mi.k_par, Mi.k_par3, Mi.k_app, Mi.appR_l, Mi.k_putR, Mi.k_putR2, Mi.putR2_ref, Mi.k_for, Mi.k_bin, Mi.k_bin2, Mi.k_binS, Mi.k_binS2, Mi.k_bb, Mi.k_bb2, Mi.optB_some, Mi.k_un, Mi.k_and_t, Mi.k_and_f, Mi.k_or_t, Mi.k_or_f, Mi.k_not, Mi.k_ife, Mi.k_band, Mi.k_bor, Mi.k_bnot, Mi.k_val, Mi.k_chn, Mi.k_chn2, Mi.k_chn3, Mi.k_cons, Mi.k_cons2, Mi.k_tup, Mi.k_lst, Mi.k_lstR, Mi.lstR_some, Mi.pys_nil, Mi.pys_cons, Mi.k_some_i, Mi.k_some_n, Mi.k_sl, Mi.k_sl2, Mi.k_sl3T, Mi.k_sl3L, Mi.k_blt, Mi.k_isi, Mi.k_isi2, Mi.k_seqI_l, Mi.k_seqI_t, Mi.k_r1, Mi.k_r2, Mi.k_r22, Mi.k_z, Mi.k_z2l, Mi.k_z2t, Mi.k_lr1, Mi.k_lr2, Mi.k_lr22, Mi.k_comp, Mi.k_comp2, Mi.k_body_rt, Mi.k_body_nx, Mi.v_add_t, Mi.v_cat, Mi.v_rep, Mi.v_mul, Mi.v_div, Mi.v_mod, Mi.v_pow, Mi.v_neg, Mi.v_lt, Mi.v_le, Mi.v_gt, Mi.v_ge, Mi.v_bD, Mi.v_ne, Mi.v_eqI, Mi.v_eqB, Mi.v_isN_n, Mi.v_isN_i, Mi.v_isN_t, Mi.v_isnt, Mi.v_ix_l, Mi.v_ix_t, Mi.v_ix_s, Mi.v_len_l, Mi.v_len_t, Mi.v_len_s, Mi.v_max2, Mi.v_min2, Mi.v_tup_l, Mi.v_lst_t, Mi.v_all, Mi.v_sum, Mi.b_nm, Mi.b_tp, Mi.b_cons, Mi.b_nil, Mi.D.int, Mi.D.bool, Mi.D.tup, Mi.D.lst, Mi.D.non, Mi.wipeE, List.map_cons, List.map_nil, List.length_cons, List.length_nil, List.cons_append, List.nil_append, List.getElem?_cons_zero, List.getElem?_cons_succ, List.set_cons_zero, List.set_cons_succ, Option.map_some, Option.bind_some, decide_eq_true_eq, ↓reduceIte, Nat.reduceAdd, Nat.reduceSub, Mi.atI0, Mi.atI1, Mi.atI2, Mi.ixN0, Mi.ixN1, Bool.not_true, Bool.not_false, Bool.false_eq_true, decide_true, decide_false, Mi.q_ext, Mi.k_ext, Mi.extR_l, Mi.k_sl3TL, Mi.q_zX, Mi.k_ztl, Mi.k_zlt, h1, Bool.true_and]
    · simp only [Mi.wE_ok, Mi.bind_k, Mi.bind_b, Mi.bind_ite, Mi.optR_some, Mi.addF_int, Mi.int2_int, Mi.intB_int, Mi.q_seq, Mi.q_set, Mi.q_nil, Mi.q_drop, Mi.q_ret, Mi.q_if, Mi.q_brk, Mi.q_cnt, Mi.q_bad, Mi.q_asg, Mi.q_par, Mi.q_par3, Mi.q_app, Mi.q_put, Mi.q_putR, Mi.q_for, Mi.q_var, Mi.varR_some, Mi.q_con, Mi.q_bin, Mi.q_binS, Mi.q_bb, Mi.q_un, Mi.q_and, Mi.q_or, Mi.q_not, Mi.q_ife, Mi.q_band, Mi.q_bor, Mi.q_bnot, Mi.q_val, Mi.q_true, Mi.q_chn, Mi.q_anil, Mi.q_acons, Mi.q_tup, Mi.q_lst, Mi.q_lstR, Mi.q_none, Mi.q_some, Mi.q_sl, Mi.q_blt, Mi.q_isi, Mi.q_isi2, Mi.q_iseq, Mi.q_r1, Mi.q_r2, Mi.q_z, Mi.q_lr1, Mi.q_lr2, Mi.q_comp, Mi.q_call, Mi.k_seq_nx, Mi.k_seq_rt, Mi.k_seq_bk, Mi.k_seq_ct, Mi.k_set, Mi.k_drop, Mi.k_ret, Mi.k_if, Mi.k_asg, Mi.asgR_some, Mi.k_par, Mi.k_par3, Mi.k_app, Mi.appR_l, Mi.k_putR, Mi.k_putR2, Mi.putR2_ref, Mi.k_for, Mi.k_bin, Mi.k_bin2, Mi.k_binS, Mi.k_binS2, Mi.k_bb, Mi.k_bb2, Mi.optB_some, Mi.k_un, Mi.k_and_t, Mi.k_and_f, Mi.k_or_t, Mi.k_or_f, Mi.k_not, Mi.k_ife, Mi.k_band, Mi.k_bor, Mi.k_bnot, Mi.k_val, Mi.k_chn, Mi.k_chn2, Mi.k_chn3, Mi.k_cons, Mi.k_cons2, Mi.k_tup, Mi.k_lst, Mi.k_lstR, Mi.lstR_some, Mi.pys_nil, Mi.pys_cons, Mi.k_some_i, Mi.k_some_n, Mi.k_sl, Mi.k_sl2, Mi.k_sl3T, Mi.k_sl3L, Mi.k_blt, Mi.k_isi, Mi.k_isi2, Mi.k_seqI_l, Mi.k_seqI_t, Mi.k_r1, Mi.k_r2, Mi.k_r22, Mi.k_z, Mi.k_z2l, Mi.k_z2t, Mi.k_lr1, Mi.k_lr2, Mi.k_lr22, Mi.k_comp, Mi.k_comp2, Mi.k_body_rt, Mi.k_body_nx, Mi.v_add_t, Mi.v_cat, Mi.v_rep, Mi.v_mul, Mi.v_div, Mi.v_mod, Mi.v_pow, Mi.v_neg, Mi.v_lt, Mi.v_le, Mi.v_gt, Mi.v_ge, Mi.v_bD, Mi.v_ne, Mi.v_eqI, Mi.v_eqB, Mi.v_isN_n, Mi.v_isN_i, Mi.v_isN_t, Mi.v_isnt, Mi.v_ix_l, Mi.v_ix_t, Mi.v_ix_s, Mi.v_len_l, Mi.v_len_t, Mi.v_len_s, Mi.v_max2, Mi.v_min2, Mi.v_tup_l, Mi.v_lst_t, Mi.v_all, Mi.v_sum, Mi.b_nm, Mi.b_tp, Mi.b_cons, Mi.b_nil, Mi.D.int, Mi.D.bool, Mi.D.tup, Mi.D.lst, Mi.D.non, Mi.wipeE, List.map_cons, List.map_nil, List.length_cons, List.length_nil, List.cons_append, List.nil_append, List.getElem?_cons_zero, List.getElem?_cons_succ, List.set_cons_zero, List.set_cons_succ, Option.map_some, Option.bind_some, decide_eq_true_eq, ↓reduceIte, Nat.reduceAdd, Nat.reduceSub, Mi.atI0, Mi.atI1, Mi.atI2, Mi.ixN0, Mi.ixN1, Bool.not_true, Bool.not_false, Bool.false_eq_true, decide_true, decide_false, Mi.q_ext, Mi.k_ext, Mi.extR_l, Mi.k_sl3TL, Mi.q_zX, Mi.k_ztl, Mi.k_zlt, h1, Bool.false_and]
  | none => simp only [show isT "tuple" (tyN (D.p PyData.none)) = false from rfl, tupN, Mi.wE_ok, Mi.bind_k, Mi.bind_b, Mi.bind_ite, Mi.optR_some, Mi.addF_int, Mi.int2_int, Mi.intB_int, Mi.q_seq, Mi.q_set, Mi.q_nil, Mi.q_drop, Mi.q_ret, Mi.q_if, Mi.q_brk, Mi.q_cnt, Mi.q_bad, Mi.q_asg, Mi.q_par, Mi.q_par3, Mi.q_app, Mi.q_put, Mi.q_putR, Mi.q_for, Mi.q_var, Mi.varR_some, Mi.q_con, Mi.q_bin, Mi.q_binS, Mi.q_bb, Mi.q_un, Mi.q_and, Mi.q_or, Mi.q_not, Mi.q_ife, Mi.q_band, Mi.q_bor, Mi.q_bnot, Mi.q_val, Mi.q_true, Mi.q_chn, Mi.q_anil, Mi.q_acons, Mi.q_tup, Mi.q_lst, Mi.q_lstR, Mi.q_none, Mi.q_some, Mi.q_sl, Mi.q_blt, Mi.q_isi, Mi.q_isi2, Mi.q_iseq, Mi.q_r1, Mi.q_r2, Mi.q_z, Mi.q_lr1, Mi.q_lr2, Mi.q_comp, Mi.q_call, Mi.k_seq_nx, Mi.k_seq_rt, Mi.k_seq_bk, Mi.k_seq_ct, Mi.k_set, Mi.k_drop, Mi.k_ret, Mi.k_if, Mi.k_asg, Mi.asgR_some, Mi.k_par, Mi.k_par3, Mi.k_app, Mi.appR_l, Mi.k_putR, Mi.k_putR2, Mi.putR2_ref, Mi.k_for, Mi.k_bin, Mi.k_bin2, Mi.k_binS, Mi.k_binS2, Mi.k_bb, Mi.k_bb2, Mi.optB_some, Mi.k_un, Mi.k_and_t, Mi.k_and_f, Mi.k_or_t, Mi.k_or_f, Mi.k_not, Mi.k_ife, Mi.k_band, Mi.k_bor, Mi.k_bnot, Mi.k_val, Mi.k_chn, Mi.k_chn2, Mi.k_chn3, Mi.k_cons, Mi.k_cons2, Mi.k_tup, Mi.k_lst, Mi.k_lstR, Mi.lstR_some, Mi.pys_nil, Mi.pys_cons, Mi.k_some_i, Mi.k_some_n, Mi.k_sl, Mi.k_sl2, Mi.k_sl3T, Mi.k_sl3L, Mi.k_blt, Mi.k_isi, Mi.k_isi2, Mi.k_seqI_l, Mi.k_seqI_t, Mi.k_r1, Mi.k_r2, Mi.k_r22, Mi.k_z, Mi.k_z2l, Mi.k_z2t, Mi.k_lr1, Mi.k_lr2, Mi.k_lr22, Mi.k_comp, Mi.k_comp2, Mi.k_body_rt, Mi.k_body_nx, Mi.v_add_t, Mi.v_cat, Mi.v_rep, Mi.v_mul, Mi.v_div, Mi.v_mod, Mi.v_pow, Mi.v_neg, Mi.v_lt, Mi.v_le, Mi.v_gt, Mi.v_ge, Mi.v_bD, Mi.v_ne, Mi.v_eqI, Mi.v_eqB, Mi.v_isN_n, Mi.v_isN_i, Mi.v_isN_t, Mi.v_isnt, Mi.v_ix_l, Mi.v_ix_t, Mi.v_ix_s, Mi.v_len_l, Mi.v_len_t, Mi.v_len_s, Mi.v_max2, Mi.v_min2, Mi.v_tup_l, Mi.v_lst_t, Mi.v_all, Mi.v_sum, Mi.b_nm, Mi.b_tp, Mi.b_cons, Mi.b_nil, Mi.D.int, Mi.D.bool, Mi.D.tup, Mi.D.lst, Mi.D.non, Mi.wipeE, List.map_cons, List.map_nil, List.length_cons, List.length_nil, List.cons_append, List.nil_append, List.getElem?_cons_zero, List.getElem?_cons_succ, List.set_cons_zero, List.set_cons_succ, Option.map_some, Option.bind_some, decide_eq_true_eq, ↓reduceIte, Nat.reduceAdd, Nat.reduceSub, Mi.atI0, Mi.atI1, Mi.atI2, Mi.ixN0, Mi.ixN1, Bool.not_true, Bool.not_false, Bool.false_eq_true, decide_true, decide_false, Mi.q_ext, Mi.k_ext, Mi.extR_l, Mi.k_sl3TL, Mi.q_zX, Mi.k_ztl, Mi.k_zlt]
  | bool b => simp only [show isT "tuple" (tyN (D.p (PyData.bool b))) = false from rfl, tupN, Mi.wE_ok, Mi.bind_k, Mi.bind_b, Mi.bind_ite, Mi.optR_some, Mi.addF_int, Mi.int2_int, Mi.intB_int, Mi.q_seq, Mi.q_set, Mi.q_nil, Mi.q_drop, Mi.q_ret, Mi.q_if, Mi.q_brk, Mi.q_cnt, Mi.q_bad, Mi.q_asg, Mi.q_par, Mi.q_par3, Mi.q_app, Mi.q_put, Mi.q_putR, Mi.q_for, Mi.q_var, Mi.varR_some, Mi.q_con, Mi.q_bin, Mi.q_binS, Mi.q_bb, Mi.q_un, Mi.q_and, Mi.q_or, Mi.q_not, Mi.q_ife, Mi.q_band, Mi.q_bor, Mi.q_bnot, Mi.q_val, Mi.q_true, Mi.q_chn, Mi.q_anil, Mi.q_acons, Mi.q_tup, Mi.q_lst, Mi.q_lstR, Mi.q_none, Mi.q_some, Mi.q_sl, Mi.q_blt, Mi.q_isi, Mi.q_isi2, Mi.q_iseq, Mi.q_r1, Mi.q_r2, Mi.q_z, Mi.q_lr1, Mi.q_lr2, Mi.q_comp, Mi.q_call, Mi.k_seq_nx, Mi.k_seq_rt, Mi.k_seq_bk, Mi.k_seq_ct, Mi.k_set, Mi.k_drop, Mi.k_ret, Mi.k_if, Mi.k_asg, Mi.asgR_some, Mi.k_par, Mi.k_par3, Mi.k_app, Mi.appR_l, Mi.k_putR, Mi.k_putR2, Mi.putR2_ref, Mi.k_for, Mi.k_bin, Mi.k_bin2, Mi.k_binS, Mi.k_binS2, Mi.k_bb, Mi.k_bb2, Mi.optB_some, Mi.k_un, Mi.k_and_t, Mi.k_and_f, Mi.k_or_t, Mi.k_or_f, Mi.k_not, Mi.k_ife, Mi.k_band, Mi.k_bor, Mi.k_bnot, Mi.k_val, Mi.k_chn, Mi.k_chn2, Mi.k_chn3, Mi.k_cons, Mi.k_cons2, Mi.k_tup, Mi.k_lst, Mi.k_lstR, Mi.lstR_some, Mi.pys_nil, Mi.pys_cons, Mi.k_some_i, Mi.k_some_n, Mi.k_sl, Mi.k_sl2, Mi.k_sl3T, Mi.k_sl3L, Mi.k_blt, Mi.k_isi, Mi.k_isi2, Mi.k_seqI_l, Mi.k_seqI_t, Mi.k_r1, Mi.k_r2, Mi.k_r22, Mi.k_z, Mi.k_z2l, Mi.k_z2t, Mi.k_lr1, Mi.k_lr2, Mi.k_lr22, Mi.k_comp, Mi.k_comp2, Mi.k_body_rt, Mi.k_body_nx, Mi.v_add_t, Mi.v_cat, Mi.v_rep, Mi.v_mul, Mi.v_div, Mi.v_mod, Mi.v_pow, Mi.v_neg, Mi.v_lt, Mi.v_le, Mi.v_gt, Mi.v_ge, Mi.v_bD, Mi.v_ne, Mi.v_eqI, Mi.v_eqB, Mi.v_isN_n, Mi.v_isN_i, Mi.v_isN_t, Mi.v_isnt, Mi.v_ix_l, Mi.v_ix_t, Mi.v_ix_s, Mi.v_len_l, Mi.v_len_t, Mi.v_len_s, Mi.v_max2, Mi.v_min2, Mi.v_tup_l, Mi.v_lst_t, Mi.v_all, Mi.v_sum, Mi.b_nm, Mi.b_tp, Mi.b_cons, Mi.b_nil, Mi.D.int, Mi.D.bool, Mi.D.tup, Mi.D.lst, Mi.D.non, Mi.wipeE, List.map_cons, List.map_nil, List.length_cons, List.length_nil, List.cons_append, List.nil_append, List.getElem?_cons_zero, List.getElem?_cons_succ, List.set_cons_zero, List.set_cons_succ, Option.map_some, Option.bind_some, decide_eq_true_eq, ↓reduceIte, Nat.reduceAdd, Nat.reduceSub, Mi.atI0, Mi.atI1, Mi.atI2, Mi.ixN0, Mi.ixN1, Bool.not_true, Bool.not_false, Bool.false_eq_true, decide_true, decide_false, Mi.q_ext, Mi.k_ext, Mi.extR_l, Mi.k_sl3TL, Mi.q_zX, Mi.k_ztl, Mi.k_zlt]
  | int b => simp only [show isT "tuple" (tyN (D.p (PyData.int b))) = false from rfl, tupN, Mi.wE_ok, Mi.bind_k, Mi.bind_b, Mi.bind_ite, Mi.optR_some, Mi.addF_int, Mi.int2_int, Mi.intB_int, Mi.q_seq, Mi.q_set, Mi.q_nil, Mi.q_drop, Mi.q_ret, Mi.q_if, Mi.q_brk, Mi.q_cnt, Mi.q_bad, Mi.q_asg, Mi.q_par, Mi.q_par3, Mi.q_app, Mi.q_put, Mi.q_putR, Mi.q_for, Mi.q_var, Mi.varR_some, Mi.q_con, Mi.q_bin, Mi.q_binS, Mi.q_bb, Mi.q_un, Mi.q_and, Mi.q_or, Mi.q_not, Mi.q_ife, Mi.q_band, Mi.q_bor, Mi.q_bnot, Mi.q_val, Mi.q_true, Mi.q_chn, Mi.q_anil, Mi.q_acons, Mi.q_tup, Mi.q_lst, Mi.q_lstR, Mi.q_none, Mi.q_some, Mi.q_sl, Mi.q_blt, Mi.q_isi, Mi.q_isi2, Mi.q_iseq, Mi.q_r1, Mi.q_r2, Mi.q_z, Mi.q_lr1, Mi.q_lr2, Mi.q_comp, Mi.q_call, Mi.k_seq_nx, Mi.k_seq_rt, Mi.k_seq_bk, Mi.k_seq_ct, Mi.k_set, Mi.k_drop, Mi.k_ret, Mi.k_if, Mi.k_asg, Mi.asgR_some, Mi.k_par, Mi.k_par3, Mi.k_app, Mi.appR_l, Mi.k_putR, Mi.k_putR2, Mi.putR2_ref, Mi.k_for, Mi.k_bin, Mi.k_bin2, Mi.k_binS, Mi.k_binS2, Mi.k_bb, Mi.k_bb2, Mi.optB_some, Mi.k_un, Mi.k_and_t, Mi.k_and_f, Mi.k_or_t, Mi.k_or_f, Mi.k_not, Mi.k_ife, Mi.k_band, Mi.k_bor, Mi.k_bnot, Mi.k_val, Mi.k_chn, Mi.k_chn2, Mi.k_chn3, Mi.k_cons, Mi.k_cons2, Mi.k_tup, Mi.k_lst, Mi.k_lstR, Mi.lstR_some, Mi.pys_nil, Mi.pys_cons, Mi.k_some_i, Mi.k_some_n, Mi.k_sl, Mi.k_sl2, Mi.k_sl3T, Mi.k_sl3L, Mi.k_blt, Mi.k_isi, Mi.k_isi2, Mi.k_seqI_l, Mi.k_seqI_t, Mi.k_r1, Mi.k_r2, Mi.k_r22, Mi.k_z, Mi.k_z2l, Mi.k_z2t, Mi.k_lr1, Mi.k_lr2, Mi.k_lr22, Mi.k_comp, Mi.k_comp2, Mi.k_body_rt, Mi.k_body_nx, Mi.v_add_t, Mi.v_cat, Mi.v_rep, Mi.v_mul, Mi.v_div, Mi.v_mod, Mi.v_pow, Mi.v_neg, Mi.v_lt, Mi.v_le, Mi.v_gt, Mi.v_ge, Mi.v_bD, Mi.v_ne, Mi.v_eqI, Mi.v_eqB, Mi.v_isN_n, Mi.v_isN_i, Mi.v_isN_t, Mi.v_isnt, Mi.v_ix_l, Mi.v_ix_t, Mi.v_ix_s, Mi.v_len_l, Mi.v_len_t, Mi.v_len_s, Mi.v_max2, Mi.v_min2, Mi.v_tup_l, Mi.v_lst_t, Mi.v_all, Mi.v_sum, Mi.b_nm, Mi.b_tp, Mi.b_cons, Mi.b_nil, Mi.D.int, Mi.D.bool, Mi.D.tup, Mi.D.lst, Mi.D.non, Mi.wipeE, List.map_cons, List.map_nil, List.length_cons, List.length_nil, List.cons_append, List.nil_append, List.getElem?_cons_zero, List.getElem?_cons_succ, List.set_cons_zero, List.set_cons_succ, Option.map_some, Option.bind_some, decide_eq_true_eq, ↓reduceIte, Nat.reduceAdd, Nat.reduceSub, Mi.atI0, Mi.atI1, Mi.atI2, Mi.ixN0, Mi.ixN1, Bool.not_true, Bool.not_false, Bool.false_eq_true, decide_true, decide_false, Mi.q_ext, Mi.k_ext, Mi.extR_l, Mi.k_sl3TL, Mi.q_zX, Mi.k_ztl, Mi.k_zlt]
  | str b => simp only [show isT "tuple" (tyN (D.p (PyData.str b))) = false from rfl, tupN, Mi.wE_ok, Mi.bind_k, Mi.bind_b, Mi.bind_ite, Mi.optR_some, Mi.addF_int, Mi.int2_int, Mi.intB_int, Mi.q_seq, Mi.q_set, Mi.q_nil, Mi.q_drop, Mi.q_ret, Mi.q_if, Mi.q_brk, Mi.q_cnt, Mi.q_bad, Mi.q_asg, Mi.q_par, Mi.q_par3, Mi.q_app, Mi.q_put, Mi.q_putR, Mi.q_for, Mi.q_var, Mi.varR_some, Mi.q_con, Mi.q_bin, Mi.q_binS, Mi.q_bb, Mi.q_un, Mi.q_and, Mi.q_or, Mi.q_not, Mi.q_ife, Mi.q_band, Mi.q_bor, Mi.q_bnot, Mi.q_val, Mi.q_true, Mi.q_chn, Mi.q_anil, Mi.q_acons, Mi.q_tup, Mi.q_lst, Mi.q_lstR, Mi.q_none, Mi.q_some, Mi.q_sl, Mi.q_blt, Mi.q_isi, Mi.q_isi2, Mi.q_iseq, Mi.q_r1, Mi.q_r2, Mi.q_z, Mi.q_lr1, Mi.q_lr2, Mi.q_comp, Mi.q_call, Mi.k_seq_nx, Mi.k_seq_rt, Mi.k_seq_bk, Mi.k_seq_ct, Mi.k_set, Mi.k_drop, Mi.k_ret, Mi.k_if, Mi.k_asg, Mi.asgR_some, Mi.k_par, Mi.k_par3, Mi.k_app, Mi.appR_l, Mi.k_putR, Mi.k_putR2, Mi.putR2_ref, Mi.k_for, Mi.k_bin, Mi.k_bin2, Mi.k_binS, Mi.k_binS2, Mi.k_bb, Mi.k_bb2, Mi.optB_some, Mi.k_un, Mi.k_and_t, Mi.k_and_f, Mi.k_or_t, Mi.k_or_f, Mi.k_not, Mi.k_ife, Mi.k_band, Mi.k_bor, Mi.k_bnot, Mi.k_val, Mi.k_chn, Mi.k_chn2, Mi.k_chn3, Mi.k_cons, Mi.k_cons2, Mi.k_tup, Mi.k_lst, Mi.k_lstR, Mi.lstR_some, Mi.pys_nil, Mi.pys_cons, Mi.k_some_i, Mi.k_some_n, Mi.k_sl, Mi.k_sl2, Mi.k_sl3T, Mi.k_sl3L, Mi.k_blt, Mi.k_isi, Mi.k_isi2, Mi.k_seqI_l, Mi.k_seqI_t, Mi.k_r1, Mi.k_r2, Mi.k_r22, Mi.k_z, Mi.k_z2l, Mi.k_z2t, Mi.k_lr1, Mi.k_lr2, Mi.k_lr22, Mi.k_comp, Mi.k_comp2, Mi.k_body_rt, Mi.k_body_nx, Mi.v_add_t, Mi.v_cat, Mi.v_rep, Mi.v_mul, Mi.v_div, Mi.v_mod, Mi.v_pow, Mi.v_neg, Mi.v_lt, Mi.v_le, Mi.v_gt, Mi.v_ge, Mi.v_bD, Mi.v_ne, Mi.v_eqI, Mi.v_eqB, Mi.v_isN_n, Mi.v_isN_i, Mi.v_isN_t, Mi.v_isnt, Mi.v_ix_l, Mi.v_ix_t, Mi.v_ix_s, Mi.v_len_l, Mi.v_len_t, Mi.v_len_s, Mi.v_max2, Mi.v_min2, Mi.v_tup_l, Mi.v_lst_t, Mi.v_all, Mi.v_sum, Mi.b_nm, Mi.b_tp, Mi.b_cons, Mi.b_nil, Mi.D.int, Mi.D.bool, Mi.D.tup, Mi.D.lst, Mi.D.non, Mi.wipeE, List.map_cons, List.map_nil, List.length_cons, List.length_nil, List.cons_append, List.nil_append, List.getElem?_cons_zero, List.getElem?_cons_succ, List.set_cons_zero, List.set_cons_succ, Option.map_some, Option.bind_some, decide_eq_true_eq, ↓reduceIte, Nat.reduceAdd, Nat.reduceSub, Mi.atI0, Mi.atI1, Mi.atI2, Mi.ixN0, Mi.ixN1, Bool.not_true, Bool.not_false, Bool.false_eq_true, decide_true, decide_false, Mi.q_ext, Mi.k_ext, Mi.extR_l, Mi.k_sl3TL, Mi.q_zX, Mi.k_ztl, Mi.k_zlt]
  | list b => simp only [show isT "tuple" (tyN (D.p (PyData.list b))) = false from rfl, tupN, Mi.wE_ok, Mi.bind_k, Mi.bind_b, Mi.bind_ite, Mi.optR_some, Mi.addF_int, Mi.int2_int, Mi.intB_int, Mi.q_seq, Mi.q_set, Mi.q_nil, Mi.q_drop, Mi.q_ret, Mi.q_if, Mi.q_brk, Mi.q_cnt, Mi.q_bad, Mi.q_asg, Mi.q_par, Mi.q_par3, Mi.q_app, Mi.q_put, Mi.q_putR, Mi.q_for, Mi.q_var, Mi.varR_some, Mi.q_con, Mi.q_bin, Mi.q_binS, Mi.q_bb, Mi.q_un, Mi.q_and, Mi.q_or, Mi.q_not, Mi.q_ife, Mi.q_band, Mi.q_bor, Mi.q_bnot, Mi.q_val, Mi.q_true, Mi.q_chn, Mi.q_anil, Mi.q_acons, Mi.q_tup, Mi.q_lst, Mi.q_lstR, Mi.q_none, Mi.q_some, Mi.q_sl, Mi.q_blt, Mi.q_isi, Mi.q_isi2, Mi.q_iseq, Mi.q_r1, Mi.q_r2, Mi.q_z, Mi.q_lr1, Mi.q_lr2, Mi.q_comp, Mi.q_call, Mi.k_seq_nx, Mi.k_seq_rt, Mi.k_seq_bk, Mi.k_seq_ct, Mi.k_set, Mi.k_drop, Mi.k_ret, Mi.k_if, Mi.k_asg, Mi.asgR_some, Mi.k_par, Mi.k_par3, Mi.k_app, Mi.appR_l, Mi.k_putR, Mi.k_putR2, Mi.putR2_ref, Mi.k_for, Mi.k_bin, Mi.k_bin2, Mi.k_binS, Mi.k_binS2, Mi.k_bb, Mi.k_bb2, Mi.optB_some, Mi.k_un, Mi.k_and_t, Mi.k_and_f, Mi.k_or_t, Mi.k_or_f, Mi.k_not, Mi.k_ife, Mi.k_band, Mi.k_bor, Mi.k_bnot, Mi.k_val, Mi.k_chn, Mi.k_chn2, Mi.k_chn3, Mi.k_cons, Mi.k_cons2, Mi.k_tup, Mi.k_lst, Mi.k_lstR, Mi.lstR_some, Mi.pys_nil, Mi.pys_cons, Mi.k_some_i, Mi.k_some_n, Mi.k_sl, Mi.k_sl2, Mi.k_sl3T, Mi.k_sl3L, Mi.k_blt, Mi.k_isi, Mi.k_isi2, Mi.k_seqI_l, Mi.k_seqI_t, Mi.k_r1, Mi.k_r2, Mi.k_r22, Mi.k_z, Mi.k_z2l, Mi.k_z2t, Mi.k_lr1, Mi.k_lr2, Mi.k_lr22, Mi.k_comp, Mi.k_comp2, Mi.k_body_rt, Mi.k_body_nx, Mi.v_add_t, Mi.v_cat, Mi.v_rep, Mi.v_mul, Mi.v_div, Mi.v_mod, Mi.v_pow, Mi.v_neg, Mi.v_lt, Mi.v_le, Mi.v_gt, Mi.v_ge, Mi.v_bD, Mi.v_ne, Mi.v_eqI, Mi.v_eqB, Mi.v_isN_n, Mi.v_isN_i, Mi.v_isN_t, Mi.v_isnt, Mi.v_ix_l, Mi.v_ix_t, Mi.v_ix_s, Mi.v_len_l, Mi.v_len_t, Mi.v_len_s, Mi.v_max2, Mi.v_min2, Mi.v_tup_l, Mi.v_lst_t, Mi.v_all, Mi.v_sum, Mi.b_nm, Mi.b_tp, Mi.b_cons, Mi.b_nil, Mi.D.int, Mi.D.bool, Mi.D.tup, Mi.D.lst, Mi.D.non, Mi.wipeE, List.map_cons, List.map_nil, List.length_cons, List.length_nil, List.cons_append, List.nil_append, List.getElem?_cons_zero, List.getElem?_cons_succ, List.set_cons_zero, List.set_cons_succ, Option.map_some, Option.bind_some, decide_eq_true_eq, ↓reduceIte, Nat.reduceAdd, Nat.reduceSub, Mi.atI0, Mi.atI1, Mi.atI2, Mi.ixN0, Mi.ixN1, Bool.not_true, Bool.not_false, Bool.false_eq_true, decide_true, decide_false, Mi.q_ext, Mi.k_ext, Mi.extR_l, Mi.k_sl3TL, Mi.q_zX, Mi.k_ztl, Mi.k_zlt]
  | dict b => simp only [show isT "tuple" (tyN (D.p (PyData.dict b))) = false from rfl, tupN, Mi.wE_ok, Mi.bind_k, Mi.bind_b, Mi.bind_ite, Mi.optR_some, Mi.addF_int, Mi.int2_int, Mi.intB_int, Mi.q_seq, Mi.q_set, Mi.q_nil, Mi.q_drop, Mi.q_ret, Mi.q_if, Mi.q_brk, Mi.q_cnt, Mi.q_bad, Mi.q_asg, Mi.q_par, Mi.q_par3, Mi.q_app, Mi.q_put, Mi.q_putR, Mi.q_for, Mi.q_var, Mi.varR_some, Mi.q_con, Mi.q_bin, Mi.q_binS, Mi.q_bb, Mi.q_un, Mi.q_and, Mi.q_or, Mi.q_not, Mi.q_ife, Mi.q_band, Mi.q_bor, Mi.q_bnot, Mi.q_val, Mi.q_true, Mi.q_chn, Mi.q_anil, Mi.q_acons, Mi.q_tup, Mi.q_lst, Mi.q_lstR, Mi.q_none, Mi.q_some, Mi.q_sl, Mi.q_blt, Mi.q_isi, Mi.q_isi2, Mi.q_iseq, Mi.q_r1, Mi.q_r2, Mi.q_z, Mi.q_lr1, Mi.q_lr2, Mi.q_comp, Mi.q_call, Mi.k_seq_nx, Mi.k_seq_rt, Mi.k_seq_bk, Mi.k_seq_ct, Mi.k_set, Mi.k_drop, Mi.k_ret, Mi.k_if, Mi.k_asg, Mi.asgR_some, Mi.k_par, Mi.k_par3, Mi.k_app, Mi.appR_l, Mi.k_putR, Mi.k_putR2, Mi.putR2_ref, Mi.k_for, Mi.k_bin, Mi.k_bin2, Mi.k_binS, Mi.k_binS2, Mi.k_bb, Mi.k_bb2, Mi.optB_some, Mi.k_un, Mi.k_and_t, Mi.k_and_f, Mi.k_or_t, Mi.k_or_f, Mi.k_not, Mi.k_ife, Mi.k_band, Mi.k_bor, Mi.k_bnot, Mi.k_val, Mi.k_chn, Mi.k_chn2, Mi.k_chn3, Mi.k_cons, Mi.k_cons2, Mi.k_tup, Mi.k_lst, Mi.k_lstR, Mi.lstR_some, Mi.pys_nil, Mi.pys_cons, Mi.k_some_i, Mi.k_some_n, Mi.k_sl, Mi.k_sl2, Mi.k_sl3T, Mi.k_sl3L, Mi.k_blt, Mi.k_isi, Mi.k_isi2, Mi.k_seqI_l, Mi.k_seqI_t, Mi.k_r1, Mi.k_r2, Mi.k_r22, Mi.k_z, Mi.k_z2l, Mi.k_z2t, Mi.k_lr1, Mi.k_lr2, Mi.k_lr22, Mi.k_comp, Mi.k_comp2, Mi.k_body_rt, Mi.k_body_nx, Mi.v_add_t, Mi.v_cat, Mi.v_rep, Mi.v_mul, Mi.v_div, Mi.v_mod, Mi.v_pow, Mi.v_neg, Mi.v_lt, Mi.v_le, Mi.v_gt, Mi.v_ge, Mi.v_bD, Mi.v_ne, Mi.v_eqI, Mi.v_eqB, Mi.v_isN_n, Mi.v_isN_i, Mi.v_isN_t, Mi.v_isnt, Mi.v_ix_l, Mi.v_ix_t, Mi.v_ix_s, Mi.v_len_l, Mi.v_len_t, Mi.v_len_s, Mi.v_max2, Mi.v_min2, Mi.v_tup_l, Mi.v_lst_t, Mi.v_all, Mi.v_sum, Mi.b_nm, Mi.b_tp, Mi.b_cons, Mi.b_nil, Mi.D.int, Mi.D.bool, Mi.D.tup, Mi.D.lst, Mi.D.non, Mi.wipeE, List.map_cons, List.map_nil, List.length_cons, List.length_nil, List.cons_append, List.nil_append, List.getElem?_cons_zero, List.getElem?_cons_succ, List.set_cons_zero, List.set_cons_succ, Option.map_some, Option.bind_some, decide_eq_true_eq, ↓reduceIte, Nat.reduceAdd, Nat.reduceSub, Mi.atI0, Mi.atI1, Mi.atI2, Mi.ixN0, Mi.ixN1, Bool.not_true, Bool.not_false, Bool.false_eq_true, decide_true, decide_false, Mi.q_ext, Mi.k_ext, Mi.extR_l, Mi.k_sl3TL, Mi.q_zX, Mi.k_ztl, Mi.k_zlt]
theorem e_is_row (d : PyData) (S : Store) : c_is_row [.p d] S = .ok (.p (.bool (isRow d))) S := by
  rw [u_is_row, m_is_row]
  simp only [Mi.wE_ok, Mi.bind_k, Mi.bind_b, Mi.bind_ite, Mi.optR_some, Mi.addF_int, Mi.int2_int, Mi.intB_int, Mi.q_seq, Mi.q_set, Mi.q_nil, Mi.q_drop, Mi.q_ret, Mi.q_if, Mi.q_brk, Mi.q_cnt, Mi.q_bad, Mi.q_asg, Mi.q_par, Mi.q_par3, Mi.q_app, Mi.q_put, Mi.q_putR, Mi.q_for, Mi.q_var, Mi.varR_some, Mi.q_con, Mi.q_bin, Mi.q_binS, Mi.q_bb, Mi.q_un, Mi.q_and, Mi.q_or, Mi.q_not, Mi.q_ife, Mi.q_band, Mi.q_bor, Mi.q_bnot, Mi.q_val, Mi.q_true, Mi.q_chn, Mi.q_anil, Mi.q_acons, Mi.q_tup, Mi.q_lst, Mi.q_lstR, Mi.q_none, Mi.q_some, Mi.q_sl, Mi.q_blt, Mi.q_isi, Mi.q_isi2, Mi.q_iseq, Mi.q_r1, Mi.q_r2, Mi.q_z, Mi.q_lr1, Mi.q_lr2, Mi.q_comp, Mi.q_call, Mi.k_seq_nx, Mi.k_seq_rt, Mi.k_seq_bk, Mi.k_seq_ct, Mi.k_set, Mi.k_drop, Mi.k_ret, Mi.k_if, Mi.k_asg, Mi.asgR_some, Mi.k_par, Mi.k_par3, Mi.k_app, Mi.appR_l, Mi.k_putR, Mi.k_putR2, Mi.putR2_ref, Mi.k_for, Mi.k_bin, Mi.k_bin2, Mi.k_binS, Mi.k_binS2, Mi.k_bb, Mi.k_bb2, Mi.optB_some, Mi.k_un, Mi.k_and_t, Mi.k_and_f, Mi.k_or_t, Mi.k_or_f, Mi.k_not, Mi.k_ife, Mi.k_band, Mi.k_bor, Mi.k_bnot, Mi.k_val, Mi.k_chn, Mi.k_chn2, Mi.k_chn3, Mi.k_cons, Mi.k_cons2, Mi.k_tup, Mi.k_lst, Mi.k_lstR, Mi.lstR_some, Mi.pys_nil, Mi.pys_cons, Mi.k_some_i, Mi.k_some_n, Mi.k_sl, Mi.k_sl2, Mi.k_sl3T, Mi.k_sl3L, Mi.k_blt, Mi.k_isi, Mi.k_isi2, Mi.k_seqI_l, Mi.k_seqI_t, Mi.k_r1, Mi.k_r2, Mi.k_r22, Mi.k_z, Mi.k_z2l, Mi.k_z2t, Mi.k_lr1, Mi.k_lr2, Mi.k_lr22, Mi.k_comp, Mi.k_comp2, Mi.k_body_rt, Mi.k_body_nx, Mi.v_add_t, Mi.v_cat, Mi.v_rep, Mi.v_mul, Mi.v_div, Mi.v_mod, Mi.v_pow, Mi.v_neg, Mi.v_lt, Mi.v_le, Mi.v_gt, Mi.v_ge, Mi.v_bD, Mi.v_ne, Mi.v_eqI, Mi.v_eqB, Mi.v_isN_n, Mi.v_isN_i, Mi.v_isN_t, Mi.v_isnt, Mi.v_ix_l, Mi.v_ix_t, Mi.v_ix_s, Mi.v_len_l, Mi.v_len_t, Mi.v_len_s, Mi.v_max2, Mi.v_min2, Mi.v_tup_l, Mi.v_lst_t, Mi.v_all, Mi.v_sum, Mi.b_nm, Mi.b_tp, Mi.b_cons, Mi.b_nil, Mi.D.int, Mi.D.bool, Mi.D.tup, Mi.D.lst, Mi.D.non, Mi.wipeE, List.map_cons, List.map_nil, List.length_cons, List.length_nil, List.cons_append, List.nil_append, List.getElem?_cons_zero, List.getElem?_cons_succ, List.set_cons_zero, List.set_cons_succ, Option.map_some, Option.bind_some, decide_eq_true_eq, ↓reduceIte, Nat.reduceAdd, Nat.reduceSub, Mi.atI0, Mi.atI1, Mi.atI2, Mi.ixN0, Mi.ixN1, Bool.not_true, Bool.not_false, Bool.false_eq_true, decide_true, decide_false, Mi.q_ext, Mi.k_ext, Mi.extR_l, Mi.k_sl3TL, Mi.q_zX, Mi.k_ztl, Mi.k_zlt, e_is_tuple_of]
  cases h : tupN 2 2 d with
  | false => simp only [Mi.wE_ok, Mi.bind_k, Mi.bind_b, Mi.bind_ite, Mi.optR_some, Mi.addF_int, Mi.int2_int, Mi.intB_int, Mi.q_seq, Mi.q_set, Mi.q_nil, Mi.q_drop, Mi.q_ret, Mi.q_if, Mi.q_brk, Mi.q_cnt, Mi.q_bad, Mi.q_asg, Mi.q_par, Mi.q_par3, Mi.q_app, Mi.q_put, Mi.q_putR, Mi.q_for, Mi.q_var, Mi.varR_some, Mi.q_con, Mi.q_bin, Mi.q_binS, Mi.q_bb, Mi.q_un, Mi.q_and, Mi.q_or, Mi.q_not, Mi.q_ife, Mi.q_band, Mi.q_bor, Mi.q_bnot, Mi.q_val, Mi.q_true, Mi.q_chn, Mi.q_anil, Mi.q_acons, Mi.q_tup, Mi.q_lst, Mi.q_lstR, Mi.q_none, Mi.q_some, Mi.q_sl, Mi.q_blt, Mi.q_isi, Mi.q_isi2, Mi.q_iseq, Mi.q_r1, Mi.q_r2, Mi.q_z, Mi.q_lr1, Mi.q_lr2, Mi.q_comp, Mi.q_call, Mi.k_seq_nx, Mi.k_seq_rt, Mi.k_seq_bk, Mi.k_seq_ct, Mi.k_set, Mi.k_drop, Mi.k_ret, Mi.k_if, Mi.k_asg, Mi.asgR_some, Mi.k_par, Mi.k_par3, Mi.k_app, Mi.appR_l, Mi.k_putR, Mi.k_putR2, Mi.putR2_ref, Mi.k_for, Mi.k_bin, Mi.k_bin2, Mi.k_binS, Mi.k_binS2, Mi.k_bb, Mi.k_bb2, Mi.optB_some, Mi.k_un, Mi.k_and_t, Mi.k_and_f, Mi.k_or_t, Mi.k_or_f, Mi.k_not, Mi.k_ife, Mi.k_band, Mi.k_bor, Mi.k_bnot, Mi.k_val, Mi.k_chn, Mi.k_chn2, Mi.k_chn3, Mi.k_cons, Mi.k_cons2, Mi.k_tup, Mi.k_lst, Mi.k_lstR, Mi.lstR_some, Mi.pys_nil, Mi.pys_cons, Mi.k_some_i, Mi.k_some_n, Mi.k_sl, Mi.k_sl2, Mi.k_sl3T, Mi.k_sl3L, Mi.k_blt, Mi.k_isi, Mi.k_isi2, Mi.k_seqI_l, Mi.k_seqI_t, Mi.k_r1, Mi.k_r2, Mi.k_r22, Mi.k_z, Mi.k_z2l, Mi.k_z2t, Mi.k_lr1, Mi.k_lr2, Mi.k_lr22, Mi.k_comp, Mi.k_comp2, Mi.k_body_rt, Mi.k_body_nx, Mi.v_add_t, Mi.v_cat, Mi.v_rep, Mi.v_mul, Mi.v_div, Mi.v_mod, Mi.v_pow, Mi.v_neg, Mi.v_lt, Mi.v_le, Mi.v_gt, Mi.v_ge, Mi.v_bD, Mi.v_ne, Mi.v_eqI, Mi.v_eqB, Mi.v_isN_n, Mi.v_isN_i, Mi.v_isN_t, Mi.v_isnt, Mi.v_ix_l, Mi.v_ix_t, Mi.v_ix_s, Mi.v_len_l, Mi.v_len_t, Mi.v_len_s, Mi.v_max2, Mi.v_min2, Mi.v_tup_l, Mi.v_lst_t, Mi.v_all, Mi.v_sum, Mi.b_nm, Mi.b_tp, Mi.b_cons, Mi.b_nil, Mi.D.int, Mi.D.bool, Mi.D.tup, Mi.D.lst, Mi.D.non, Mi.wipeE, List.map_cons, List.map_nil, List.length_cons, List.length_nil, List.cons_append, List.nil_append, List.getElem?_cons_zero, List.getElem?_cons_succ, List.set_cons_zero, List.set_cons_succ, Option.map_some, Option.bind_some, decide_eq_true_eq, ↓reduceIte, Nat.reduceAdd, Nat.reduceSub, Mi.atI0, Mi.atI1, Mi.atI2, Mi.ixN0, Mi.ixN1, Bool.not_true, Bool.not_false, Bool.false_eq_true, decide_true, decide_false, Mi.q_ext, Mi.k_ext, Mi.extR_l, Mi.k_sl3TL, Mi.q_zX, Mi.k_ztl, Mi.k_zlt, isRow_no h]
  | true =>
    obtain ⟨a, b, rfl⟩ := tupN_2 h
    simp only [Mi.wE_ok, Mi.bind_k, Mi.bind_b, Mi.bind_ite, Mi.optR_some, Mi.addF_int, Mi.int2_int, Mi.intB_int, Mi.q_seq, Mi.q_set, Mi.q_nil, Mi.q_drop, Mi.q_ret, Mi.q_if, Mi.q_brk, Mi.q_cnt, Mi.q_bad, Mi.q_asg, Mi.q_par, Mi.q_par3, Mi.q_app, Mi.q_put, Mi.q_putR, Mi.q_for, Mi.q_var, Mi.varR_some, Mi.q_con, Mi.q_bin, Mi.q_binS, Mi.q_bb, Mi.q_un, Mi.q_and, Mi.q_or, Mi.q_not, Mi.q_ife, Mi.q_band, Mi.q_bor, Mi.q_bnot, Mi.q_val, Mi.q_true, Mi.q_chn, Mi.q_anil, Mi.q_acons, Mi.q_tup, Mi.q_lst, Mi.q_lstR, Mi.q_none, Mi.q_some, Mi.q_sl, Mi.q_blt, Mi.q_isi, Mi.q_isi2, Mi.q_iseq, Mi.q_r1, Mi.q_r2, Mi.q_z, Mi.q_lr1, Mi.q_lr2, Mi.q_comp, Mi.q_call, Mi.k_seq_nx, Mi.k_seq_rt, Mi.k_seq_bk, Mi.k_seq_ct, Mi.k_set, Mi.k_drop, Mi.k_ret, Mi.k_if, Mi.k_asg, Mi.asgR_some, Mi.k_par, Mi.k_par3, Mi.k_app, Mi.appR_l, Mi.k_putR, Mi.k_putR2, Mi.putR2_ref, Mi.k_for, Mi.k_bin, Mi.k_bin2, Mi.k_binS, Mi.k_binS2, Mi.k_bb, Mi.k_bb2, Mi.optB_some, Mi.k_un, Mi.k_and_t, Mi.k_and_f, Mi.k_or_t, Mi.k_or_f, Mi.k_not, Mi.k_ife, Mi.k_band, Mi.k_bor, Mi.k_bnot, Mi.k_val, Mi.k_chn, Mi.k_chn2, Mi.k_chn3, Mi.k_cons, Mi.k_cons2, Mi.k_tup, Mi.k_lst, Mi.k_lstR, Mi.lstR_some, Mi.pys_nil, Mi.pys_cons, Mi.k_some_i, Mi.k_some_n, Mi.k_sl, Mi.k_sl2, Mi.k_sl3T, Mi.k_sl3L, Mi.k_blt, Mi.k_isi, Mi.k_isi2, Mi.k_seqI_l, Mi.k_seqI_t, Mi.k_r1, Mi.k_r2, Mi.k_r22, Mi.k_z, Mi.k_z2l, Mi.k_z2t, Mi.k_lr1, Mi.k_lr2, Mi.k_lr22, Mi.k_comp, Mi.k_comp2, Mi.k_body_rt, Mi.k_body_nx, Mi.v_add_t, Mi.v_cat, Mi.v_rep, Mi.v_mul, Mi.v_div, Mi.v_mod, Mi.v_pow, Mi.v_neg, Mi.v_lt, Mi.v_le, Mi.v_gt, Mi.v_ge, Mi.v_bD, Mi.v_ne, Mi.v_eqI, Mi.v_eqB, Mi.v_isN_n, Mi.v_isN_i, Mi.v_isN_t, Mi.v_isnt, Mi.v_ix_l, Mi.v_ix_t, Mi.v_ix_s, Mi.v_len_l, Mi.v_len_t, Mi.v_len_s, Mi.v_max2, Mi.v_min2, Mi.v_tup_l, Mi.v_lst_t, Mi.v_all, Mi.v_sum, Mi.b_nm, Mi.b_tp, Mi.b_cons, Mi.b_nil, Mi.D.int, Mi.D.bool, Mi.D.tup, Mi.D.lst, Mi.D.non, Mi.wipeE, List.map_cons, List.map_nil, List.length_cons, List.length_nil, List.cons_append, List.nil_append, List.getElem?_cons_zero, List.getElem?_cons_succ, List.set_cons_zero, List.set_cons_succ, Option.map_some, Option.bind_some, decide_eq_true_eq, ↓reduceIte, Nat.reduceAdd, Nat.reduceSub, Mi.atI0, Mi.atI1, Mi.atI2, Mi.ixN0, Mi.ixN1, Bool.not_true, Bool.not_false, Bool.false_eq_true, decide_true, decide_false, Mi.q_ext, Mi.k_ext, Mi.extR_l, Mi.k_sl3TL, Mi.q_zX, Mi.k_ztl, Mi.k_zlt, e_is_between, isRow]
    cases btw 0 9 a with
    | true => simp only [Mi.wE_ok, Mi.bind_k, Mi.bind_b, Mi.bind_ite, Mi.optR_some, Mi.addF_int, Mi.int2_int, Mi.intB_int, Mi.q_seq, Mi.q_set, Mi.q_nil, Mi.q_drop, Mi.q_ret, Mi.q_if, Mi.q_brk, Mi.q_cnt, Mi.q_bad, Mi.q_asg, Mi.q_par, Mi.q_par3, Mi.q_app, Mi.q_put, Mi.q_putR, Mi.q_for, Mi.q_var, Mi.varR_some, Mi.q_con, Mi.q_bin, Mi.q_binS, Mi.q_bb, Mi.q_un, Mi.q_and, Mi.q_or, Mi.q_not, Mi.q_ife, Mi.q_band, Mi.q_bor, Mi.q_bnot, Mi.q_val, Mi.q_true, Mi.q_chn, Mi.q_anil, Mi.q_acons, Mi.q_tup, Mi.q_lst, Mi.q_lstR, Mi.q_none, Mi.q_some, Mi.q_sl, Mi.q_blt, Mi.q_isi, Mi.q_isi2, Mi.q_iseq, Mi.q_r1, Mi.q_r2, Mi.q_z, Mi.q_lr1, Mi.q_lr2, Mi.q_comp, Mi.q_call, Mi.k_seq_nx, Mi.k_seq_rt, Mi.k_seq_bk, Mi.k_seq_ct, Mi.k_set, Mi.k_drop, Mi.k_ret, Mi.k_if, Mi.k_asg, Mi.asgR_some, Mi.k_par, Mi.k_par3, Mi.k_app, Mi.appR_l, Mi.k_putR, Mi.k_putR2, Mi.putR2_ref, Mi.k_for, Mi.k_bin, Mi.k_bin2, Mi.k_binS, Mi.k_binS2, Mi.k_bb, Mi.k_bb2, Mi.optB_some, Mi.k_un, Mi.k_and_t, Mi.k_and_f, Mi.k_or_t, Mi.k_or_f, Mi.k_not, Mi.k_ife, Mi.k_band, Mi.k_bor, Mi.k_bnot, Mi.k_val, Mi.k_chn, Mi.k_chn2, Mi.k_chn3, Mi.k_cons, Mi.k_cons2, Mi.k_tup, Mi.k_lst, Mi.k_lstR, Mi.lstR_some, Mi.pys_nil, Mi.pys_cons, Mi.k_some_i, Mi.k_some_n, Mi.k_sl, Mi.k_sl2, Mi.k_sl3T, Mi.k_sl3L, Mi.k_blt, Mi.k_isi, Mi.k_isi2, Mi.k_seqI_l, Mi.k_seqI_t, Mi.k_r1, Mi.k_r2, Mi.k_r22, Mi.k_z, Mi.k_z2l, Mi.k_z2t, Mi.k_lr1, Mi.k_lr2, Mi.k_lr22, Mi.k_comp, Mi.k_comp2, Mi.k_body_rt, Mi.k_body_nx, Mi.v_add_t, Mi.v_cat, Mi.v_rep, Mi.v_mul, Mi.v_div, Mi.v_mod, Mi.v_pow, Mi.v_neg, Mi.v_lt, Mi.v_le, Mi.v_gt, Mi.v_ge, Mi.v_bD, Mi.v_ne, Mi.v_eqI, Mi.v_eqB, Mi.v_isN_n, Mi.v_isN_i, Mi.v_isN_t, Mi.v_isnt, Mi.v_ix_l, Mi.v_ix_t, Mi.v_ix_s, Mi.v_len_l, Mi.v_len_t, Mi.v_len_s, Mi.v_max2, Mi.v_min2, Mi.v_tup_l, Mi.v_lst_t, Mi.v_all, Mi.v_sum, Mi.b_nm, Mi.b_tp, Mi.b_cons, Mi.b_nil, Mi.D.int, Mi.D.bool, Mi.D.tup, Mi.D.lst, Mi.D.non, Mi.wipeE, List.map_cons, List.map_nil, List.length_cons, List.length_nil, List.cons_append, List.nil_append, List.getElem?_cons_zero, List.getElem?_cons_succ, List.set_cons_zero, List.set_cons_succ, Option.map_some, Option.bind_some, decide_eq_true_eq, ↓reduceIte, Nat.reduceAdd, Nat.reduceSub, Mi.atI0, Mi.atI1, Mi.atI2, Mi.ixN0, Mi.ixN1, Bool.not_true, Bool.not_false, Bool.false_eq_true, decide_true, decide_false, Mi.q_ext, Mi.k_ext, Mi.extR_l, Mi.k_sl3TL, Mi.q_zX, Mi.k_ztl, Mi.k_zlt, e_is_between, Bool.true_and]
    | false => simp only [Mi.wE_ok, Mi.bind_k, Mi.bind_b, Mi.bind_ite, Mi.optR_some, Mi.addF_int, Mi.int2_int, Mi.intB_int, Mi.q_seq, Mi.q_set, Mi.q_nil, Mi.q_drop, Mi.q_ret, Mi.q_if, Mi.q_brk, Mi.q_cnt, Mi.q_bad, Mi.q_asg, Mi.q_par, Mi.q_par3, Mi.q_app, Mi.q_put, Mi.q_putR, Mi.q_for, Mi.q_var, Mi.varR_some, Mi.q_con, Mi.q_bin, Mi.q_binS, Mi.q_bb, Mi.q_un, Mi.q_and, Mi.q_or, Mi.q_not, Mi.q_ife, Mi.q_band, Mi.q_bor, Mi.q_bnot, Mi.q_val, Mi.q_true, Mi.q_chn, Mi.q_anil, Mi.q_acons, Mi.q_tup, Mi.q_lst, Mi.q_lstR, Mi.q_none, Mi.q_some, Mi.q_sl, Mi.q_blt, Mi.q_isi, Mi.q_isi2, Mi.q_iseq, Mi.q_r1, Mi.q_r2, Mi.q_z, Mi.q_lr1, Mi.q_lr2, Mi.q_comp, Mi.q_call, Mi.k_seq_nx, Mi.k_seq_rt, Mi.k_seq_bk, Mi.k_seq_ct, Mi.k_set, Mi.k_drop, Mi.k_ret, Mi.k_if, Mi.k_asg, Mi.asgR_some, Mi.k_par, Mi.k_par3, Mi.k_app, Mi.appR_l, Mi.k_putR, Mi.k_putR2, Mi.putR2_ref, Mi.k_for, Mi.k_bin, Mi.k_bin2, Mi.k_binS, Mi.k_binS2, Mi.k_bb, Mi.k_bb2, Mi.optB_some, Mi.k_un, Mi.k_and_t, Mi.k_and_f, Mi.k_or_t, Mi.k_or_f, Mi.k_not, Mi.k_ife, Mi.k_band, Mi.k_bor, Mi.k_bnot, Mi.k_val, Mi.k_chn, Mi.k_chn2, Mi.k_chn3, Mi.k_cons, Mi.k_cons2, Mi.k_tup, Mi.k_lst, Mi.k_lstR, Mi.lstR_some, Mi.pys_nil, Mi.pys_cons, Mi.k_some_i, Mi.k_some_n, Mi.k_sl, Mi.k_sl2, Mi.k_sl3T, Mi.k_sl3L, Mi.k_blt, Mi.k_isi, Mi.k_isi2, Mi.k_seqI_l, Mi.k_seqI_t, Mi.k_r1, Mi.k_r2, Mi.k_r22, Mi.k_z, Mi.k_z2l, Mi.k_z2t, Mi.k_lr1, Mi.k_lr2, Mi.k_lr22, Mi.k_comp, Mi.k_comp2, Mi.k_body_rt, Mi.k_body_nx, Mi.v_add_t, Mi.v_cat, Mi.v_rep, Mi.v_mul, Mi.v_div, Mi.v_mod, Mi.v_pow, Mi.v_neg, Mi.v_lt, Mi.v_le, Mi.v_gt, Mi.v_ge, Mi.v_bD, Mi.v_ne, Mi.v_eqI, Mi.v_eqB, Mi.v_isN_n, Mi.v_isN_i, Mi.v_isN_t, Mi.v_isnt, Mi.v_ix_l, Mi.v_ix_t, Mi.v_ix_s, Mi.v_len_l, Mi.v_len_t, Mi.v_len_s, Mi.v_max2, Mi.v_min2, Mi.v_tup_l, Mi.v_lst_t, Mi.v_all, Mi.v_sum, Mi.b_nm, Mi.b_tp, Mi.b_cons, Mi.b_nil, Mi.D.int, Mi.D.bool, Mi.D.tup, Mi.D.lst, Mi.D.non, Mi.wipeE, List.map_cons, List.map_nil, List.length_cons, List.length_nil, List.cons_append, List.nil_append, List.getElem?_cons_zero, List.getElem?_cons_succ, List.set_cons_zero, List.set_cons_succ, Option.map_some, Option.bind_some, decide_eq_true_eq, ↓reduceIte, Nat.reduceAdd, Nat.reduceSub, Mi.atI0, Mi.atI1, Mi.atI2, Mi.ixN0, Mi.ixN1, Bool.not_true, Bool.not_false, Bool.false_eq_true, decide_true, decide_false, Mi.q_ext, Mi.k_ext, Mi.extR_l, Mi.k_sl3TL, Mi.q_zX, Mi.k_ztl, Mi.k_zlt, Bool.false_and]
theorem e_is_layer (d : PyData) (S : Store) : c_is_layer [.p d] S = .ok (.p (.bool (isLayer d))) S := by
  rw [u_is_layer, m_is_layer]
  simp only [Mi.wE_ok, Mi.bind_k, Mi.bind_b, Mi.bind_ite, Mi.optR_some, Mi.addF_int, Mi.int2_int, Mi.intB_int, Mi.q_seq, Mi.q_set, Mi.q_nil, Mi.q_drop, Mi.q_ret, Mi.q_if, Mi.q_brk, Mi.q_cnt, Mi.q_bad, Mi.q_asg, Mi.q_par, Mi.q_par3, Mi.q_app, Mi.q_put, Mi.q_putR, Mi.q_for, Mi.q_var, Mi.varR_some, Mi.q_con, Mi.q_bin, Mi.q_binS, Mi.q_bb, Mi.q_un, Mi.q_and, Mi.q_or, Mi.q_not, Mi.q_ife, Mi.q_band, Mi.q_bor, Mi.q_bnot, Mi.q_val, Mi.q_true, Mi.q_chn, Mi.q_anil, Mi.q_acons, Mi.q_tup, Mi.q_lst, Mi.q_lstR, Mi.q_none, Mi.q_some, Mi.q_sl, Mi.q_blt, Mi.q_isi, Mi.q_isi2, Mi.q_iseq, Mi.q_r1, Mi.q_r2, Mi.q_z, Mi.q_lr1, Mi.q_lr2, Mi.q_comp, Mi.q_call, Mi.k_seq_nx, Mi.k_seq_rt, Mi.k_seq_bk, Mi.k_seq_ct, Mi.k_set, Mi.k_drop, Mi.k_ret, Mi.k_if, Mi.k_asg, Mi.asgR_some, Mi.k_par, Mi.k_par3, Mi.k_app, Mi.appR_l, Mi.k_putR, Mi.k_putR2, Mi.putR2_ref, Mi.k_for, Mi.k_bin, Mi.k_bin2, Mi.k_binS, Mi.k_binS2, Mi.k_bb, Mi.k_bb2, Mi.optB_some, Mi.k_un, Mi.k_and_t, Mi.k_and_f, Mi.k_or_t, Mi.k_or_f, Mi.k_not, Mi.k_ife, Mi.k_band, Mi.k_bor, Mi.k_bnot, Mi.k_val, Mi.k_chn, Mi.k_chn2, Mi.k_chn3, Mi.k_cons, Mi.k_cons2, Mi.k_tup, Mi.k_lst, Mi.k_lstR, Mi.lstR_some, Mi.pys_nil, Mi.pys_cons, Mi.k_some_i, Mi.k_some_n, Mi.k_sl, Mi.k_sl2, Mi.k_sl3T, Mi.k_sl3L, Mi.k_blt, Mi.k_isi, Mi.k_isi2, Mi.k_seqI_l, Mi.k_seqI_t, Mi.k_r1, Mi.k_r2, Mi.k_r22, Mi.k_z, Mi.k_z2l, Mi.k_z2t, Mi.k_lr1, Mi.k_lr2, Mi.k_lr22, Mi.k_comp, Mi.k_comp2, Mi.k_body_rt, Mi.k_body_nx, Mi.v_add_t, Mi.v_cat, Mi.v_rep, Mi.v_mul, Mi.v_div, Mi.v_mod, Mi.v_pow, Mi.v_neg, Mi.v_lt, Mi.v_le, Mi.v_gt, Mi.v_ge, Mi.v_bD, Mi.v_ne, Mi.v_eqI, Mi.v_eqB, Mi.v_isN_n, Mi.v_isN_i, Mi.v_isN_t, Mi.v_isnt, Mi.v_ix_l, Mi.v_ix_t, Mi.v_ix_s, Mi.v_len_l, Mi.v_len_t, Mi.v_len_s, Mi.v_max2, Mi.v_min2, Mi.v_tup_l, Mi.v_lst_t, Mi.v_all, Mi.v_sum, Mi.b_nm, Mi.b_tp, Mi.b_cons, Mi.b_nil, Mi.D.int, Mi.D.bool, Mi.D.tup, Mi.D.lst, Mi.D.non, Mi.wipeE, List.map_cons, List.map_nil, List.length_cons, List.length_nil, List.cons_append, List.nil_append, List.getElem?_cons_zero, List.getElem?_cons_succ, List.set_cons_zero, List.set_cons_succ, Option.map_some, Option.bind_some, decide_eq_true_eq, ↓reduceIte, Nat.reduceAdd, Nat.reduceSub, Mi.atI0, Mi.atI1, Mi.atI2, Mi.ixN0, Mi.ixN1, Bool.not_true, Bool.not_false, Bool.false_eq_true, decide_true, decide_false, Mi.q_ext, Mi.k_ext, Mi.extR_l, Mi.k_sl3TL, Mi.q_zX, Mi.k_ztl, Mi.k_zlt, e_is_tuple_of]
  cases h : tupN 2 2 d with
  | false =>
    simp only [Mi.wE_ok, Mi.bind_k, Mi.bind_b, Mi.bind_ite, Mi.optR_some, Mi.addF_int, Mi.int2_int, Mi.intB_int, Mi.q_seq, Mi.q_set, Mi.q_nil, Mi.q_drop, Mi.q_ret, Mi.q_if, Mi.q_brk, Mi.q_cnt, Mi.q_bad, Mi.q_asg, Mi.q_par, Mi.q_par3, Mi.q_app, Mi.q_put, Mi.q_putR, Mi.q_for, Mi.q_var, Mi.varR_some, Mi.q_con, Mi.q_bin, Mi.q_binS, Mi.q_bb, Mi.q_un, Mi.q_and, Mi.q_or, Mi.q_not, Mi.q_ife, Mi.q_band, Mi.q_bor, Mi.q_bnot, Mi.q_val, Mi.q_true, Mi.q_chn, Mi.q_anil, Mi.q_acons, Mi.q_tup, Mi.q_lst, Mi.q_lstR, Mi.q_none, Mi.q_some, Mi.q_sl, Mi.q_blt, Mi.q_isi, Mi.q_isi2, Mi.q_iseq, Mi.q_r1, Mi.q_r2, Mi.q_z, Mi.q_lr1, Mi.q_lr2, Mi.q_comp, Mi.q_call, Mi.k_seq_nx, Mi.k_seq_rt, Mi.k_seq_bk, Mi.k_seq_ct, Mi.k_set, Mi.k_drop, Mi.k_ret, Mi.k_if, Mi.k_asg, Mi.asgR_some, Mi.k_par, Mi.k_par3, Mi.k_app, Mi.appR_l, Mi.k_putR, Mi.k_putR2, Mi.putR2_ref, Mi.k_for, Mi.k_bin, Mi.k_bin2, Mi.k_binS, Mi.k_binS2, Mi.k_bb, Mi.k_bb2, Mi.optB_some, Mi.k_un, Mi.k_and_t, Mi.k_and_f, Mi.k_or_t, Mi.k_or_f, Mi.k_not, Mi.k_ife, Mi.k_band, Mi.k_bor, Mi.k_bnot, Mi.k_val, Mi.k_chn, Mi.k_chn2, Mi.k_chn3, Mi.k_cons, Mi.k_cons2, Mi.k_tup, Mi.k_lst, Mi.k_lstR, Mi.lstR_some, Mi.pys_nil, Mi.pys_cons, Mi.k_some_i, Mi.k_some_n, Mi.k_sl, Mi.k_sl2, Mi.k_sl3T, Mi.k_sl3L, Mi.k_blt, Mi.k_isi, Mi.k_isi2, Mi.k_seqI_l, Mi.k_seqI_t, Mi.k_r1, Mi.k_r2, Mi.k_r22, Mi.k_z, Mi.k_z2l, Mi.k_z2t, Mi.k_lr1, Mi.k_lr2, Mi.k_lr22, Mi.k_comp, Mi.k_comp2, Mi.k_body_rt, Mi.k_body_nx, Mi.v_add_t, Mi.v_cat, Mi.v_rep, Mi.v_mul, Mi.v_div, Mi.v_mod, Mi.v_pow, Mi.v_neg, Mi.v_lt, Mi.v_le, Mi.v_gt, Mi.v_ge, Mi.v_bD, Mi.v_ne, Mi.v_eqI, Mi.v_eqB, Mi.v_isN_n, Mi.v_isN_i, Mi.v_isN_t, Mi.v_isnt, Mi.v_ix_l, Mi.v_ix_t, Mi.v_ix_s, Mi.v_len_l, Mi.v_len_t, Mi.v_len_s, Mi.v_max2, Mi.v_min2, Mi.v_tup_l, Mi.v_lst_t, Mi.v_all, Mi.v_sum, Mi.b_nm, Mi.b_tp, Mi.b_cons, Mi.b_nil, Mi.D.int, Mi.D.bool, Mi.D.tup, Mi.D.lst, Mi.D.non, Mi.wipeE, List.map_cons, List.map_nil, List.length_cons, List.length_nil, List.cons_append, List.nil_append, List.getElem?_cons_zero, List.getElem?_cons_succ, List.set_cons_zero, List.set_cons_succ, Option.map_some, Option.bind_some, decide_eq_true_eq, ↓reduceIte, Nat.reduceAdd, Nat.reduceSub, Mi.atI0, Mi.atI1, Mi.atI2, Mi.ixN0, Mi.ixN1, Bool.not_true, Bool.not_false, Bool.false_eq_true, decide_true, decide_false, Mi.q_ext, Mi.k_ext, Mi.extR_l, Mi.k_sl3TL, Mi.q_zX, Mi.k_ztl, Mi.k_zlt]
    have : isLayer d = false := by
      unfold isLayer
      split
      · exact absurd h (by simp [tupN])
      · rfl
    simp only [this]
  | true =>
    obtain ⟨a, b, rfl⟩ := tupN_2 h
    simp only [Mi.wE_ok, Mi.bind_k, Mi.bind_b, Mi.bind_ite, Mi.optR_some, Mi.addF_int, Mi.int2_int, Mi.intB_int, Mi.q_seq, Mi.q_set, Mi.q_nil, Mi.q_drop, Mi.q_ret, Mi.q_if, Mi.q_brk, Mi.q_cnt, Mi.q_bad, Mi.q_asg, Mi.q_par, Mi.q_par3, Mi.q_app, Mi.q_put, Mi.q_putR, Mi.q_for, Mi.q_var, Mi.varR_some, Mi.q_con, Mi.q_bin, Mi.q_binS, Mi.q_bb, Mi.q_un, Mi.q_and, Mi.q_or, Mi.q_not, Mi.q_ife, Mi.q_band, Mi.q_bor, Mi.q_bnot, Mi.q_val, Mi.q_true, Mi.q_chn, Mi.q_anil, Mi.q_acons, Mi.q_tup, Mi.q_lst, Mi.q_lstR, Mi.q_none, Mi.q_some, Mi.q_sl, Mi.q_blt, Mi.q_isi, Mi.q_isi2, Mi.q_iseq, Mi.q_r1, Mi.q_r2, Mi.q_z, Mi.q_lr1, Mi.q_lr2, Mi.q_comp, Mi.q_call, Mi.k_seq_nx, Mi.k_seq_rt, Mi.k_seq_bk, Mi.k_seq_ct, Mi.k_set, Mi.k_drop, Mi.k_ret, Mi.k_if, Mi.k_asg, Mi.asgR_some, Mi.k_par, Mi.k_par3, Mi.k_app, Mi.appR_l, Mi.k_putR, Mi.k_putR2, Mi.putR2_ref, Mi.k_for, Mi.k_bin, Mi.k_bin2, Mi.k_binS, Mi.k_binS2, Mi.k_bb, Mi.k_bb2, Mi.optB_some, Mi.k_un, Mi.k_and_t, Mi.k_and_f, Mi.k_or_t, Mi.k_or_f, Mi.k_not, Mi.k_ife, Mi.k_band, Mi.k_bor, Mi.k_bnot, Mi.k_val, Mi.k_chn, Mi.k_chn2, Mi.k_chn3, Mi.k_cons, Mi.k_cons2, Mi.k_tup, Mi.k_lst, Mi.k_lstR, Mi.lstR_some, Mi.pys_nil, Mi.pys_cons, Mi.k_some_i, Mi.k_some_n, Mi.k_sl, Mi.k_sl2, Mi.k_sl3T, Mi.k_sl3L, Mi.k_blt, Mi.k_isi, Mi.k_isi2, Mi.k_seqI_l, Mi.k_seqI_t, Mi.k_r1, Mi.k_r2, Mi.k_r22, Mi.k_z, Mi.k_z2l, Mi.k_z2t, Mi.k_lr1, Mi.k_lr2, Mi.k_lr22, Mi.k_comp, Mi.k_comp2, Mi.k_body_rt, Mi.k_body_nx, Mi.v_add_t, Mi.v_cat, Mi.v_rep, Mi.v_mul, Mi.v_div, Mi.v_mod, Mi.v_pow, Mi.v_neg, Mi.v_lt, Mi.v_le, Mi.v_gt, Mi.v_ge, Mi.v_bD, Mi.v_ne, Mi.v_eqI, Mi.v_eqB, Mi.v_isN_n, Mi.v_isN_i, Mi.v_isN_t, Mi.v_isnt, Mi.v_ix_l, Mi.v_ix_t, Mi.v_ix_s, Mi.v_len_l, Mi.v_len_t, Mi.v_len_s, Mi.v_max2, Mi.v_min2, Mi.v_tup_l, Mi.v_lst_t, Mi.v_all, Mi.v_sum, Mi.b_nm, Mi.b_tp, Mi.b_cons, Mi.b_nil, Mi.D.int, Mi.D.bool, Mi.D.tup, Mi.D.lst, Mi.D.non, Mi.wipeE, List.map_cons, List.map_nil, List.length_cons, List.length_nil, List.cons_append, List.nil_append, List.getElem?_cons_zero, List.getElem?_cons_succ, List.set_cons_zero, List.set_cons_succ, Option.map_some, Option.bind_some, decide_eq_true_eq, ↓reduceIte, Nat.reduceAdd, Nat.reduceSub, Mi.atI0, Mi.atI1, Mi.atI2, Mi.ixN0, Mi.ixN1, Bool.not_true, Bool.not_false, Bool.false_eq_true, decide_true, decide_false, Mi.q_ext, Mi.k_ext, Mi.extR_l, Mi.k_sl3TL, Mi.q_zX, Mi.k_ztl, Mi.k_zlt, e_is_tuple_of]
    cases h2 : tupN 0 8 a with
    | false =>
      simp only [Mi.wE_ok, Mi.bind_k, Mi.bind_b, Mi.bind_ite, Mi.optR_some, Mi.addF_int, Mi.int2_int, Mi.intB_int, Mi.q_seq, Mi.q_set, Mi.q_nil, Mi.q_drop, Mi.q_ret, Mi.q_if, Mi.q_brk, Mi.q_cnt, Mi.q_bad, Mi.q_asg, Mi.q_par, Mi.q_par3, Mi.q_app, Mi.q_put, Mi.q_putR, Mi.q_for, Mi.q_var, Mi.varR_some, Mi.q_con, Mi.q_bin, Mi.q_binS, Mi.q_bb, Mi.q_un, Mi.q_and, Mi.q_or, Mi.q_not, Mi.q_ife, Mi.q_band, Mi.q_bor, Mi.q_bnot, Mi.q_val, Mi.q_true, Mi.q_chn, Mi.q_anil, Mi.q_acons, Mi.q_tup, Mi.q_lst, Mi.q_lstR, Mi.q_none, Mi.q_some, Mi.q_sl, Mi.q_blt, Mi.q_isi, Mi.q_isi2, Mi.q_iseq, Mi.q_r1, Mi.q_r2, Mi.q_z, Mi.q_lr1, Mi.q_lr2, Mi.q_comp, Mi.q_call, Mi.k_seq_nx, Mi.k_seq_rt, Mi.k_seq_bk, Mi.k_seq_ct, Mi.k_set, Mi.k_drop, Mi.k_ret, Mi.k_if, Mi.k_asg, Mi.asgR_some, Mi.k_par, Mi.k_par3, Mi.k_app, Mi.appR_l, Mi.k_putR, Mi.k_putR2, Mi.putR2_ref, Mi.k_for, Mi.k_bin, Mi.k_bin2, Mi.k_binS, Mi.k_binS2, Mi.k_bb, Mi.k_bb2, Mi.optB_some, Mi.k_un, Mi.k_and_t, Mi.k_and_f, Mi.k_or_t, Mi.k_or_f, Mi.k_not, Mi.k_ife, Mi.k_band, Mi.k_bor, Mi.k_bnot, Mi.k_val, Mi.k_chn, Mi.k_chn2, Mi.k_chn3, Mi.k_cons, Mi.k_cons2, Mi.k_tup, Mi.k_lst, Mi.k_lstR, Mi.lstR_some, Mi.pys_nil, Mi.pys_cons, Mi.k_some_i, Mi.k_some_n, Mi.k_sl, Mi.k_sl2, Mi.k_sl3T, Mi.k_sl3L, Mi.k_blt, Mi.k_isi, Mi.k_isi2, Mi.k_seqI_l, Mi.k_seqI_t, Mi.k_r1, Mi.k_r2, Mi.k_r22, Mi.k_z, Mi.k_z2l, Mi.k_z2t, Mi.k_lr1, Mi.k_lr2, Mi.k_lr22, Mi.k_comp, Mi.k_comp2, Mi.k_body_rt, Mi.k_body_nx, Mi.v_add_t, Mi.v_cat, Mi.v_rep, Mi.v_mul, Mi.v_div, Mi.v_mod, Mi.v_pow, Mi.v_neg, Mi.v_lt, Mi.v_le, Mi.v_gt, Mi.v_ge, Mi.v_bD, Mi.v_ne, Mi.v_eqI, Mi.v_eqB, Mi.v_isN_n, Mi.v_isN_i, Mi.v_isN_t, Mi.v_isnt, Mi.v_ix_l, Mi.v_ix_t, Mi.v_ix_s, Mi.v_len_l, Mi.v_len_t, Mi.v_len_s, Mi.v_max2, Mi.v_min2, Mi.v_tup_l, Mi.v_lst_t, Mi.v_all, Mi.v_sum, Mi.b_nm, Mi.b_tp, Mi.b_cons, Mi.b_nil, Mi.D.int, Mi.D.bool, Mi.D.tup, Mi.D.lst, Mi.D.non, Mi.wipeE, List.map_cons, List.map_nil, List.length_cons, List.length_nil, List.cons_append, List.nil_append, List.getElem?_cons_zero, List.getElem?_cons_succ, List.set_cons_zero, List.set_cons_succ, Option.map_some, Option.bind_some, decide_eq_true_eq, ↓reduceIte, Nat.reduceAdd, Nat.reduceSub, Mi.atI0, Mi.atI1, Mi.atI2, Mi.ixN0, Mi.ixN1, Bool.not_true, Bool.not_false, Bool.false_eq_true, decide_true, decide_false, Mi.q_ext, Mi.k_ext, Mi.extR_l, Mi.k_sl3TL, Mi.q_zX, Mi.k_ztl, Mi.k_zlt]
      have : isLayer (.tuple [a, b]) = false := by
        cases a with
        | tuple rows =>
          have : ¬ rows.length ≤ 8 := fun z => by
            simp only [tupN, Bool.and_eq_false_iff, decide_eq_false_iff_not] at h2
            rcases h2 with h2 | h2 <;> omega
          simp only [isLayer, this, decide_false, Bool.false_and]
        | _ => rfl
      simp only [this]
    | true =>
      obtain ⟨rows, rfl, hl⟩ := tupN_0 h2
      have hl8 : rows.length ≤ 8 := by omega
      have hlim : (rows.map D.p).length ≤ lim := by rw [List.length_map, lim_v]; omega
      have hr := fun x => all_rows rows [some x, none] S isRow c_is_row e_is_row 1 (by simp)
      simp only [Mi.wE_ok, Mi.bind_k, Mi.bind_b, Mi.bind_ite, Mi.optR_some, Mi.addF_int, Mi.int2_int, Mi.intB_int, Mi.q_seq, Mi.q_set, Mi.q_nil, Mi.q_drop, Mi.q_ret, Mi.q_if, Mi.q_brk, Mi.q_cnt, Mi.q_bad, Mi.q_asg, Mi.q_par, Mi.q_par3, Mi.q_app, Mi.q_put, Mi.q_putR, Mi.q_for, Mi.q_var, Mi.varR_some, Mi.q_con, Mi.q_bin, Mi.q_binS, Mi.q_bb, Mi.q_un, Mi.q_and, Mi.q_or, Mi.q_not, Mi.q_ife, Mi.q_band, Mi.q_bor, Mi.q_bnot, Mi.q_val, Mi.q_true, Mi.q_chn, Mi.q_anil, Mi.q_acons, Mi.q_tup, Mi.q_lst, Mi.q_lstR, Mi.q_none, Mi.q_some, Mi.q_sl, Mi.q_blt, Mi.q_isi, Mi.q_isi2, Mi.q_iseq, Mi.q_r1, Mi.q_r2, Mi.q_z, Mi.q_lr1, Mi.q_lr2, Mi.q_comp, Mi.q_call, Mi.k_seq_nx, Mi.k_seq_rt, Mi.k_seq_bk, Mi.k_seq_ct, Mi.k_set, Mi.k_drop, Mi.k_ret, Mi.k_if, Mi.k_asg, Mi.asgR_some, Mi.k_par, Mi.k_par3, Mi.k_app, Mi.appR_l, Mi.k_putR, Mi.k_putR2, Mi.putR2_ref, Mi.k_for, Mi.k_bin, Mi.k_bin2, Mi.k_binS, Mi.k_binS2, Mi.k_bb, Mi.k_bb2, Mi.optB_some, Mi.k_un, Mi.k_and_t, Mi.k_and_f, Mi.k_or_t, Mi.k_or_f, Mi.k_not, Mi.k_ife, Mi.k_band, Mi.k_bor, Mi.k_bnot, Mi.k_val, Mi.k_chn, Mi.k_chn2, Mi.k_chn3, Mi.k_cons, Mi.k_cons2, Mi.k_tup, Mi.k_lst, Mi.k_lstR, Mi.lstR_some, Mi.pys_nil, Mi.pys_cons, Mi.k_some_i, Mi.k_some_n, Mi.k_sl, Mi.k_sl2, Mi.k_sl3T, Mi.k_sl3L, Mi.k_blt, Mi.k_isi, Mi.k_isi2, Mi.k_seqI_l, Mi.k_seqI_t, Mi.k_r1, Mi.k_r2, Mi.k_r22, Mi.k_z, Mi.k_z2l, Mi.k_z2t, Mi.k_lr1, Mi.k_lr2, Mi.k_lr22, Mi.k_comp, Mi.k_comp2, Mi.k_body_rt, Mi.k_body_nx, Mi.v_add_t, Mi.v_cat, Mi.v_rep, Mi.v_mul, Mi.v_div, Mi.v_mod, Mi.v_pow, Mi.v_neg, Mi.v_lt, Mi.v_le, Mi.v_gt, Mi.v_ge, Mi.v_bD, Mi.v_ne, Mi.v_eqI, Mi.v_eqB, Mi.v_isN_n, Mi.v_isN_i, Mi.v_isN_t, Mi.v_isnt, Mi.v_ix_l, Mi.v_ix_t, Mi.v_ix_s, Mi.v_len_l, Mi.v_len_t, Mi.v_len_s, Mi.v_max2, Mi.v_min2, Mi.v_tup_l, Mi.v_lst_t, Mi.v_all, Mi.v_sum, Mi.b_nm, Mi.b_tp, Mi.b_cons, Mi.b_nil, Mi.D.int, Mi.D.bool, Mi.D.tup, Mi.D.lst, Mi.D.non, Mi.wipeE, List.map_cons, List.map_nil, List.length_cons, List.length_nil, List.cons_append, List.nil_append, List.getElem?_cons_zero, List.getElem?_cons_succ, List.set_cons_zero, List.set_cons_succ, Option.map_some, Option.bind_some, decide_eq_true_eq, ↓reduceIte, Nat.reduceAdd, Nat.reduceSub, Mi.atI0, Mi.atI1, Mi.atI2, Mi.ixN0, Mi.ixN1, Bool.not_true, Bool.not_false, Bool.false_eq_true, decide_true, decide_false, Mi.q_ext, Mi.k_ext, Mi.extR_l, Mi.k_sl3TL, Mi.q_zX, Mi.k_ztl, Mi.k_zlt, hlim, hr, asBools_mapG, all_map]
      simp only [isLayer, hl8, decide_true, Bool.true_and]
      cases rows.all isRow with
      | false => simp only [Mi.wE_ok, Mi.bind_k, Mi.bind_b, Mi.bind_ite, Mi.optR_some, Mi.addF_int, Mi.int2_int, Mi.intB_int, Mi.q_seq, Mi.q_set, Mi.q_nil, Mi.q_drop, Mi.q_ret, Mi.q_if, Mi.q_brk, Mi.q_cnt, Mi.q_bad, Mi.q_asg, Mi.q_par, Mi.q_par3, Mi.q_app, Mi.q_put, Mi.q_putR, Mi.q_for, Mi.q_var, Mi.varR_some, Mi.q_con, Mi.q_bin, Mi.q_binS, Mi.q_bb, Mi.q_un, Mi.q_and, Mi.q_or, Mi.q_not, Mi.q_ife, Mi.q_band, Mi.q_bor, Mi.q_bnot, Mi.q_val, Mi.q_true, Mi.q_chn, Mi.q_anil, Mi.q_acons, Mi.q_tup, Mi.q_lst, Mi.q_lstR, Mi.q_none, Mi.q_some, Mi.q_sl, Mi.q_blt, Mi.q_isi, Mi.q_isi2, Mi.q_iseq, Mi.q_r1, Mi.q_r2, Mi.q_z, Mi.q_lr1, Mi.q_lr2, Mi.q_comp, Mi.q_call, Mi.k_seq_nx, Mi.k_seq_rt, Mi.k_seq_bk, Mi.k_seq_ct, Mi.k_set, Mi.k_drop, Mi.k_ret, Mi.k_if, Mi.k_asg, Mi.asgR_some, Mi.k_par, Mi.k_par3, Mi.k_app, Mi.appR_l, Mi.k_putR, Mi.k_putR2, Mi.putR2_ref, Mi.k_for, Mi.k_bin, Mi.k_bin2, Mi.k_binS, Mi.k_binS2, Mi.k_bb, Mi.k_bb2, Mi.optB_some, Mi.k_un, Mi.k_and_t, Mi.k_and_f, Mi.k_or_t, Mi.k_or_f, Mi.k_not, Mi.k_ife, Mi.k_band, Mi.k_bor, Mi.k_bnot, Mi.k_val, Mi.k_chn, Mi.k_chn2, Mi.k_chn3, Mi.k_cons, Mi.k_cons2, Mi.k_tup, Mi.k_lst, Mi.k_lstR, Mi.lstR_some, Mi.pys_nil, Mi.pys_cons, Mi.k_some_i, Mi.k_some_n, Mi.k_sl, Mi.k_sl2, Mi.k_sl3T, Mi.k_sl3L, Mi.k_blt, Mi.k_isi, Mi.k_isi2, Mi.k_seqI_l, Mi.k_seqI_t, Mi.k_r1, Mi.k_r2, Mi.k_r22, Mi.k_z, Mi.k_z2l, Mi.k_z2t, Mi.k_lr1, Mi.k_lr2, Mi.k_lr22, Mi.k_comp, Mi.k_comp2, Mi.k_body_rt, Mi.k_body_nx, Mi.v_add_t, Mi.v_cat, Mi.v_rep, Mi.v_mul, Mi.v_div, Mi.v_mod, Mi.v_pow, Mi.v_neg, Mi.v_lt, Mi.v_le, Mi.v_gt, Mi.v_ge, Mi.v_bD, Mi.v_ne, Mi.v_eqI, Mi.v_eqB, Mi.v_isN_n, Mi.v_isN_i, Mi.v_isN_t, Mi.v_isnt, Mi.v_ix_l, Mi.v_ix_t, Mi.v_ix_s, Mi.v_len_l, Mi.v_len_t, Mi.v_len_s, Mi.v_max2, Mi.v_min2, Mi.v_tup_l, Mi.v_lst_t, Mi.v_all, Mi.v_sum, Mi.b_nm, Mi.b_tp, Mi.b_cons, Mi.b_nil, Mi.D.int, Mi.D.bool, Mi.D.tup, Mi.D.lst, Mi.D.non, Mi.wipeE, List.map_cons, List.map_nil, List.length_cons, List.length_nil, List.cons_append, List.nil_append, List.getElem?_cons_zero, List.getElem?_cons_succ, List.set_cons_zero, List.set_cons_succ, Option.map_some, Option.bind_some, decide_eq_true_eq, ↓reduceIte, Nat.reduceAdd, Nat.reduceSub, Mi.atI0, Mi.atI1, Mi.atI2, Mi.ixN0, Mi.ixN1, Bool.not_true, Bool.not_false, Bool.false_eq_true, decide_true, decide_false, Mi.q_ext, Mi.k_ext, Mi.extR_l, Mi.k_sl3TL, Mi.q_zX, Mi.k_ztl, Mi.k_zlt, Bool.false_and]
      | true =>
        simp only [Mi.wE_ok, Mi.bind_k, Mi.bind_b, Mi.bind_ite, Mi.optR_some, Mi.addF_int, Mi.int2_int, Mi.intB_int, Mi.q_seq, Mi.q_set, Mi.q_nil, Mi.q_drop, Mi.q_ret, Mi.q_if, Mi.q_brk, Mi.q_cnt, Mi.q_bad, Mi.q_asg, Mi.q_par, Mi.q_par3, Mi.q_app, Mi.q_put, Mi.q_putR, Mi.q_for, Mi.q_var, Mi.varR_some, Mi.q_con, Mi.q_bin, Mi.q_binS, Mi.q_bb, Mi.q_un, Mi.q_and, Mi.q_or, Mi.q_not, Mi.q_ife, Mi.q_band, Mi.q_bor, Mi.q_bnot, Mi.q_val, Mi.q_true, Mi.q_chn, Mi.q_anil, Mi.q_acons, Mi.q_tup, Mi.q_lst, Mi.q_lstR, Mi.q_none, Mi.q_some, Mi.q_sl, Mi.q_blt, Mi.q_isi, Mi.q_isi2, Mi.q_iseq, Mi.q_r1, Mi.q_r2, Mi.q_z, Mi.q_lr1, Mi.q_lr2, Mi.q_comp, Mi.q_call, Mi.k_seq_nx, Mi.k_seq_rt, Mi.k_seq_bk, Mi.k_seq_ct, Mi.k_set, Mi.k_drop, Mi.k_ret, Mi.k_if, Mi.k_asg, Mi.asgR_some, Mi.k_par, Mi.k_par3, Mi.k_app, Mi.appR_l, Mi.k_putR, Mi.k_putR2, Mi.putR2_ref, Mi.k_for, Mi.k_bin, Mi.k_bin2, Mi.k_binS, Mi.k_binS2, Mi.k_bb, Mi.k_bb2, Mi.optB_some, Mi.k_un, Mi.k_and_t, Mi.k_and_f, Mi.k_or_t, Mi.k_or_f, Mi.k_not, Mi.k_ife, Mi.k_band, Mi.k_bor, Mi.k_bnot, Mi.k_val, Mi.k_chn, Mi.k_chn2, Mi.k_chn3, Mi.k_cons, Mi.k_cons2, Mi.k_tup, Mi.k_lst, Mi.k_lstR, Mi.lstR_some, Mi.pys_nil, Mi.pys_cons, Mi.k_some_i, Mi.k_some_n, Mi.k_sl, Mi.k_sl2, Mi.k_sl3T, Mi.k_sl3L, Mi.k_blt, Mi.k_isi, Mi.k_isi2, Mi.k_seqI_l, Mi.k_seqI_t, Mi.k_r1, Mi.k_r2, Mi.k_r22, Mi.k_z, Mi.k_z2l, Mi.k_z2t, Mi.k_lr1, Mi.k_lr2, Mi.k_lr22, Mi.k_comp, Mi.k_comp2, Mi.k_body_rt, Mi.k_body_nx, Mi.v_add_t, Mi.v_cat, Mi.v_rep, Mi.v_mul, Mi.v_div, Mi.v_mod, Mi.v_pow, Mi.v_neg, Mi.v_lt, Mi.v_le, Mi.v_gt, Mi.v_ge, Mi.v_bD, Mi.v_ne, Mi.v_eqI, Mi.v_eqB, Mi.v_isN_n, Mi.v_isN_i, Mi.v_isN_t, Mi.v_isnt, Mi.v_ix_l, Mi.v_ix_t, Mi.v_ix_s, Mi.v_len_l, Mi.v_len_t, Mi.v_len_s, Mi.v_max2, Mi.v_min2, Mi.v_tup_l, Mi.v_lst_t, Mi.v_all, Mi.v_sum, Mi.b_nm, Mi.b_tp, Mi.b_cons, Mi.b_nil, Mi.D.int, Mi.D.bool, Mi.D.tup, Mi.D.lst, Mi.D.non, Mi.wipeE, List.map_cons, List.map_nil, List.length_cons, List.length_nil, List.cons_append, List.nil_append, List.getElem?_cons_zero, List.getElem?_cons_succ, List.set_cons_zero, List.set_cons_succ, Option.map_some, Option.bind_some, decide_eq_true_eq, ↓reduceIte, Nat.reduceAdd, Nat.reduceSub, Mi.atI0, Mi.atI1, Mi.atI2, Mi.ixN0, Mi.ixN1, Bool.not_true, Bool.not_false, Bool.false_eq_true, decide_true, decide_false, Mi.q_ext, Mi.k_ext, Mi.extR_l, Mi.k_sl3TL, Mi.q_zX, Mi.k_ztl, Mi.k_zlt, Bool.true_and]
        cases b with
        | none => simp only [Mi.wE_ok, Mi.bind_k, Mi.bind_b, Mi.bind_ite, Mi.optR_some, Mi.addF_int, Mi.int2_int, Mi.intB_int, Mi.q_seq, Mi.q_set, Mi.q_nil, Mi.q_drop, Mi.q_ret, Mi.q_if, Mi.q_brk, Mi.q_cnt, Mi.q_bad, Mi.q_asg, Mi.q_par, Mi.q_par3, Mi.q_app, Mi.q_put, Mi.q_putR, Mi.q_for, Mi.q_var, Mi.varR_some, Mi.q_con, Mi.q_bin, Mi.q_binS, Mi.q_bb, Mi.q_un, Mi.q_and, Mi.q_or, Mi.q_not, Mi.q_ife, Mi.q_band, Mi.q_bor, Mi.q_bnot, Mi.q_val, Mi.q_true, Mi.q_chn, Mi.q_anil, Mi.q_acons, Mi.q_tup, Mi.q_lst, Mi.q_lstR, Mi.q_none, Mi.q_some, Mi.q_sl, Mi.q_blt, Mi.q_isi, Mi.q_isi2, Mi.q_iseq, Mi.q_r1, Mi.q_r2, Mi.q_z, Mi.q_lr1, Mi.q_lr2, Mi.q_comp, Mi.q_call, Mi.k_seq_nx, Mi.k_seq_rt, Mi.k_seq_bk, Mi.k_seq_ct, Mi.k_set, Mi.k_drop, Mi.k_ret, Mi.k_if, Mi.k_asg, Mi.asgR_some, Mi.k_par, Mi.k_par3, Mi.k_app, Mi.appR_l, Mi.k_putR, Mi.k_putR2, Mi.putR2_ref, Mi.k_for, Mi.k_bin, Mi.k_bin2, Mi.k_binS, Mi.k_binS2, Mi.k_bb, Mi.k_bb2, Mi.optB_some, Mi.k_un, Mi.k_and_t, Mi.k_and_f, Mi.k_or_t, Mi.k_or_f, Mi.k_not, Mi.k_ife, Mi.k_band, Mi.k_bor, Mi.k_bnot, Mi.k_val, Mi.k_chn, Mi.k_chn2, Mi.k_chn3, Mi.k_cons, Mi.k_cons2, Mi.k_tup, Mi.k_lst, Mi.k_lstR, Mi.lstR_some, Mi.pys_nil, Mi.pys_cons, Mi.k_some_i, Mi.k_some_n, Mi.k_sl, Mi.k_sl2, Mi.k_sl3T, Mi.k_sl3L, Mi.k_blt, Mi.k_isi, Mi.k_isi2, Mi.k_seqI_l, Mi.k_seqI_t, Mi.k_r1, Mi.k_r2, Mi.k_r22, Mi.k_z, Mi.k_z2l, Mi.k_z2t, Mi.k_lr1, Mi.k_lr2, Mi.k_lr22, Mi.k_comp, Mi.k_comp2, Mi.k_body_rt, Mi.k_body_nx, Mi.v_add_t, Mi.v_cat, Mi.v_rep, Mi.v_mul, Mi.v_div, Mi.v_mod, Mi.v_pow, Mi.v_neg, Mi.v_lt, Mi.v_le, Mi.v_gt, Mi.v_ge, Mi.v_bD, Mi.v_ne, Mi.v_eqI, Mi.v_eqB, Mi.v_isN_n, Mi.v_isN_i, Mi.v_isN_t, Mi.v_isnt, Mi.v_ix_l, Mi.v_ix_t, Mi.v_ix_s, Mi.v_len_l, Mi.v_len_t, Mi.v_len_s, Mi.v_max2, Mi.v_min2, Mi.v_tup_l, Mi.v_lst_t, Mi.v_all, Mi.v_sum, Mi.b_nm, Mi.b_tp, Mi.b_cons, Mi.b_nil, Mi.D.int, Mi.D.bool, Mi.D.tup, Mi.D.lst, Mi.D.non, Mi.wipeE, List.map_cons, List.map_nil, List.length_cons, List.length_nil, List.cons_append, List.nil_append, List.getElem?_cons_zero, List.getElem?_cons_succ, List.set_cons_zero, List.set_cons_succ, Option.map_some, Option.bind_some, decide_eq_true_eq, ↓reduceIte, Nat.reduceAdd, Nat.reduceSub, Mi.atI0, Mi.atI1, Mi.atI2, Mi.ixN0, Mi.ixN1, Bool.not_true, Bool.not_false, Bool.false_eq_true, decide_true, decide_false, Mi.q_ext, Mi.k_ext, Mi.extR_l, Mi.k_sl3TL, Mi.q_zX, Mi.k_ztl, Mi.k_zlt, isNF]
        | _ => simp only [Mi.wE_ok, Mi.bind_k, Mi.bind_b, Mi.bind_ite, Mi.optR_some, Mi.addF_int, Mi.int2_int, Mi.intB_int, Mi.q_seq, Mi.q_set, Mi.q_nil, Mi.q_drop, Mi.q_ret, Mi.q_if, Mi.q_brk, Mi.q_cnt, Mi.q_bad, Mi.q_asg, Mi.q_par, Mi.q_par3, Mi.q_app, Mi.q_put, Mi.q_putR, Mi.q_for, Mi.q_var, Mi.varR_some, Mi.q_con, Mi.q_bin, Mi.q_binS, Mi.q_bb, Mi.q_un, Mi.q_and, Mi.q_or, Mi.q_not, Mi.q_ife, Mi.q_band, Mi.q_bor, Mi.q_bnot, Mi.q_val, Mi.q_true, Mi.q_chn, Mi.q_anil, Mi.q_acons, Mi.q_tup, Mi.q_lst, Mi.q_lstR, Mi.q_none, Mi.q_some, Mi.q_sl, Mi.q_blt, Mi.q_isi, Mi.q_isi2, Mi.q_iseq, Mi.q_r1, Mi.q_r2, Mi.q_z, Mi.q_lr1, Mi.q_lr2, Mi.q_comp, Mi.q_call, Mi.k_seq_nx, Mi.k_seq_rt, Mi.k_seq_bk, Mi.k_seq_ct, Mi.k_set, Mi.k_drop, Mi.k_ret, Mi.k_if, Mi.k_asg, Mi.asgR_some, Mi.k_par, Mi.k_par3, Mi.k_app, Mi.appR_l, Mi.k_putR, Mi.k_putR2, Mi.putR2_ref, Mi.k_for, Mi.k_bin, Mi.k_bin2, Mi.k_binS, Mi.k_binS2, Mi.k_bb, Mi.k_bb2, Mi.optB_some, Mi.k_un, Mi.k_and_t, Mi.k_and_f, Mi.k_or_t, Mi.k_or_f, Mi.k_not, Mi.k_ife, Mi.k_band, Mi.k_bor, Mi.k_bnot, Mi.k_val, Mi.k_chn, Mi.k_chn2, Mi.k_chn3, Mi.k_cons, Mi.k_cons2, Mi.k_tup, Mi.k_lst, Mi.k_lstR, Mi.lstR_some, Mi.pys_nil, Mi.pys_cons, Mi.k_some_i, Mi.k_some_n, Mi.k_sl, Mi.k_sl2, Mi.k_sl3T, Mi.k_sl3L, Mi.k_blt, Mi.k_isi, Mi.k_isi2, Mi.k_seqI_l, Mi.k_seqI_t, Mi.k_r1, Mi.k_r2, Mi.k_r22, Mi.k_z, Mi.k_z2l, Mi.k_z2t, Mi.k_lr1, Mi.k_lr2, Mi.k_lr22, Mi.k_comp, Mi.k_comp2, Mi.k_body_rt, Mi.k_body_nx, Mi.v_add_t, Mi.v_cat, Mi.v_rep, Mi.v_mul, Mi.v_div, Mi.v_mod, Mi.v_pow, Mi.v_neg, Mi.v_lt, Mi.v_le, Mi.v_gt, Mi.v_ge, Mi.v_bD, Mi.v_ne, Mi.v_eqI, Mi.v_eqB, Mi.v_isN_n, Mi.v_isN_i, Mi.v_isN_t, Mi.v_isnt, Mi.v_ix_l, Mi.v_ix_t, Mi.v_ix_s, Mi.v_len_l, Mi.v_len_t, Mi.v_len_s, Mi.v_max2, Mi.v_min2, Mi.v_tup_l, Mi.v_lst_t, Mi.v_all, Mi.v_sum, Mi.b_nm, Mi.b_tp, Mi.b_cons, Mi.b_nil, Mi.D.int, Mi.D.bool, Mi.D.tup, Mi.D.lst, Mi.D.non, Mi.wipeE, List.map_cons, List.map_nil, List.length_cons, List.length_nil, List.cons_append, List.nil_append, List.getElem?_cons_zero, List.getElem?_cons_succ, List.set_cons_zero, List.set_cons_succ, Option.map_some, Option.bind_some, decide_eq_true_eq, ↓reduceIte, Nat.reduceAdd, Nat.reduceSub, Mi.atI0, Mi.atI1, Mi.atI2, Mi.ixN0, Mi.ixN1, Bool.not_true, Bool.not_false, Bool.false_eq_true, decide_true, decide_false, Mi.q_ext, Mi.k_ext, Mi.extR_l, Mi.k_sl3TL, Mi.q_zX, Mi.k_ztl, Mi.k_zlt, isNF, e_is_between]
theorem row_w {S : Store} {n : Nat} {w : Int} (G : Good S n) (h0 : 0 ≤ w) (h1 : w ≤ 3) : ∃ r S', c__law_row [.ref n, .p (.int w)] S = .ok (.p (encR r)) S' ∧ RowOk r ∧ Good S' n := by
  rw [u__law_row, m__law_row]
  obtain ⟨r1, S1, e1, a1, b1, G1⟩ := draw_w (k := 10) G (by omega) (by omega)
  obtain ⟨r2, S2, e2, a2, b2, G2⟩ := draw_w (k := 2) G1 (by omega) (by omega)
  obtain ⟨r3, S3, e3, a3, b3, G3⟩ := draw_w (k := 2) G2 (by omega) (by omega)
  obtain ⟨_, q1, d, rfl, d0, d9⟩ := atI_any (fun x => ∃ d : Int, x = PyData.int d ∧ 0 ≤ d ∧ d ≤ 9) [.int r1, .int r2, .int (1 + r3)] (i := w % 3) (by omega) (by simp only [List.length_cons, List.length_nil]; omega) (by
    intro x hx
    simp only [List.mem_cons, List.not_mem_nil, or_false] at hx
    rcases hx with rfl | rfl | rfl <;> exact ⟨_, rfl, by omega, by omega⟩)
  obtain ⟨_, q2, k, rfl, k0, k9⟩ := atI_any (fun x => ∃ d : Int, x = PyData.int d ∧ 1 ≤ d ∧ d ≤ 24) [.int 3, .int 24, .int 6, .int 1] (i := w) (by omega) (by simp only [List.length_cons, List.length_nil]; omega) (by
    intro x hx
    simp only [List.mem_cons, List.not_mem_nil, or_false] at hx
    rcases hx with rfl | rfl | rfl | rfl <;> exact ⟨_, rfl, by omega, by omega⟩)
  obtain ⟨r4, S4, e4, a4, b4, G4⟩ := draw_w (k := k) G3 (by omega) (by omega)
  have z : (0 : Int) < 3 := by decide
  simp only [Mi.wE_ok, Mi.bind_k, Mi.bind_b, Mi.bind_ite, Mi.optR_some, Mi.addF_int, Mi.int2_int, Mi.intB_int, Mi.q_seq, Mi.q_set, Mi.q_nil, Mi.q_drop, Mi.q_ret, Mi.q_if, Mi.q_brk, Mi.q_cnt, Mi.q_bad, Mi.q_asg, Mi.q_par, Mi.q_par3, Mi.q_app, Mi.q_put, Mi.q_putR, Mi.q_for, Mi.q_var, Mi.varR_some, Mi.q_con, Mi.q_bin, Mi.q_binS, Mi.q_bb, Mi.q_un, Mi.q_and, Mi.q_or, Mi.q_not, Mi.q_ife, Mi.q_band, Mi.q_bor, Mi.q_bnot, Mi.q_val, Mi.q_true, Mi.q_chn, Mi.q_anil, Mi.q_acons, Mi.q_tup, Mi.q_lst, Mi.q_lstR, Mi.q_none, Mi.q_some, Mi.q_sl, Mi.q_blt, Mi.q_isi, Mi.q_isi2, Mi.q_iseq, Mi.q_r1, Mi.q_r2, Mi.q_z, Mi.q_lr1, Mi.q_lr2, Mi.q_comp, Mi.q_call, Mi.k_seq_nx, Mi.k_seq_rt, Mi.k_seq_bk, Mi.k_seq_ct, Mi.k_set, Mi.k_drop, Mi.k_ret, Mi.k_if, Mi.k_asg, Mi.asgR_some, Mi.k_par, Mi.k_par3, Mi.k_app, Mi.appR_l, Mi.k_putR, Mi.k_putR2, Mi.putR2_ref, Mi.k_for, Mi.k_bin, Mi.k_bin2, Mi.k_binS, Mi.k_binS2, Mi.k_bb, Mi.k_bb2, Mi.optB_some, Mi.k_un, Mi.k_and_t, Mi.k_and_f, Mi.k_or_t, Mi.k_or_f, Mi.k_not, Mi.k_ife, Mi.k_band, Mi.k_bor, Mi.k_bnot, Mi.k_val, Mi.k_chn, Mi.k_chn2, Mi.k_chn3, Mi.k_cons, Mi.k_cons2, Mi.k_tup, Mi.k_lst, Mi.k_lstR, Mi.lstR_some, Mi.pys_nil, Mi.pys_cons, Mi.k_some_i, Mi.k_some_n, Mi.k_sl, Mi.k_sl2, Mi.k_sl3T, Mi.k_sl3L, Mi.k_blt, Mi.k_isi, Mi.k_isi2, Mi.k_seqI_l, Mi.k_seqI_t, Mi.k_r1, Mi.k_r2, Mi.k_r22, Mi.k_z, Mi.k_z2l, Mi.k_z2t, Mi.k_lr1, Mi.k_lr2, Mi.k_lr22, Mi.k_comp, Mi.k_comp2, Mi.k_body_rt, Mi.k_body_nx, Mi.v_add_t, Mi.v_cat, Mi.v_rep, Mi.v_mul, Mi.v_div, Mi.v_mod, Mi.v_pow, Mi.v_neg, Mi.v_lt, Mi.v_le, Mi.v_gt, Mi.v_ge, Mi.v_bD, Mi.v_ne, Mi.v_eqI, Mi.v_eqB, Mi.v_isN_n, Mi.v_isN_i, Mi.v_isN_t, Mi.v_isnt, Mi.v_ix_l, Mi.v_ix_t, Mi.v_ix_s, Mi.v_len_l, Mi.v_len_t, Mi.v_len_s, Mi.v_max2, Mi.v_min2, Mi.v_tup_l, Mi.v_lst_t, Mi.v_all, Mi.v_sum, Mi.b_nm, Mi.b_tp, Mi.b_cons, Mi.b_nil, Mi.D.int, Mi.D.bool, Mi.D.tup, Mi.D.lst, Mi.D.non, Mi.wipeE, List.map_cons, List.map_nil, List.length_cons, List.length_nil, List.cons_append, List.nil_append, List.getElem?_cons_zero, List.getElem?_cons_succ, List.set_cons_zero, List.set_cons_succ, Option.map_some, Option.bind_some, decide_eq_true_eq, ↓reduceIte, Nat.reduceAdd, Nat.reduceSub, Mi.atI0, Mi.atI1, Mi.atI2, Mi.ixN0, Mi.ixN1, Bool.not_true, Bool.not_false, Bool.false_eq_true, decide_true, decide_false, Mi.q_ext, Mi.k_ext, Mi.extR_l, Mi.k_sl3TL, Mi.q_zX, Mi.k_ztl, Mi.k_zlt, e1, e2, e3, z, q1, q2, e4]
  exact ⟨(d, 1 + r4), S4, rfl, ⟨d0, d9, by simp only; omega, by simp only; omega⟩, G4⟩
theorem layer_w {S : Store} {n : Nat} (G : Good S n) : ∃ l S', c__law_layer [.ref n] S = .ok (.p (encL l)) S' ∧ LayOk l ∧ Good S' n := by
  rw [u__law_layer, m__law_layer]
  obtain ⟨w, S1, e1, a1, b1, G1⟩ := draw_w (k := 4) G (by omega) (by omega)
  obtain ⟨r2, S2, e2, a2, b2, G2⟩ := draw_w (k := 9) G1 (by omega) (by omega)
  obtain ⟨r3, S3, e3, a3, b3, G3⟩ := draw_w (k := 3) G2 (by omega) (by omega)
  obtain ⟨r4, S4, e4, a4, b4, G4⟩ := draw_w (k := 3) G3 (by omega) (by omega)
  obtain ⟨_, q1, m, rfl, d0, d9⟩ := atI_any (fun x => ∃ d : Int, x = PyData.int d ∧ 0 ≤ d ∧ d ≤ 8) [.int r2, .int (1 + r3), .int 8] (i := r4) (by omega) (by simp only [List.length_cons, List.length_nil]; omega) (by
    intro x hx
    simp only [List.mem_cons, List.not_mem_nil, or_false] at hx
    rcases hx with rfl | rfl | rfl <;> exact ⟨_, rfl, by omega, by omega⟩)
  have hb : bnd m := bnd_of (by omega) (by omega)
  have hl : m.toNat ≤ lim := by rw [lim_v]; omega
  obtain ⟨_, S5, e5, rows, rfl, z5, p5, G5⟩ := wE_ex (compL_draw (p := .nm 4) (elt := eCall c__law_row (aCons (eVar 0) (aCons (eVar 1) aNil))) (ro := [some (.ref n), some (.p (.int w)), some (.p (.int m)), none, none, none]) encR RowOk (fun S => Good S n) (intR 0 m.toNat) S4 G4 (fun d _ S G => by
    refine ⟨_, b_nm, ?_⟩
    obtain ⟨r, S', e, h1, h2⟩ := row_w G a1 (by omega : w ≤ 3)
    simp only [Mi.wE_ok, Mi.bind_k, Mi.bind_b, Mi.bind_ite, Mi.optR_some, Mi.addF_int, Mi.int2_int, Mi.intB_int, Mi.q_seq, Mi.q_set, Mi.q_nil, Mi.q_drop, Mi.q_ret, Mi.q_if, Mi.q_brk, Mi.q_cnt, Mi.q_bad, Mi.q_asg, Mi.q_par, Mi.q_par3, Mi.q_app, Mi.q_put, Mi.q_putR, Mi.q_for, Mi.q_var, Mi.varR_some, Mi.q_con, Mi.q_bin, Mi.q_binS, Mi.q_bb, Mi.q_un, Mi.q_and, Mi.q_or, Mi.q_not, Mi.q_ife, Mi.q_band, Mi.q_bor, Mi.q_bnot, Mi.q_val, Mi.q_true, Mi.q_chn, Mi.q_anil, Mi.q_acons, Mi.q_tup, Mi.q_lst, Mi.q_lstR, Mi.q_none, Mi.q_some, Mi.q_sl, Mi.q_blt, Mi.q_isi, Mi.q_isi2, Mi.q_iseq, Mi.q_r1, Mi.q_r2, Mi.q_z, Mi.q_lr1, Mi.q_lr2, Mi.q_comp, Mi.q_call, Mi.k_seq_nx, Mi.k_seq_rt, Mi.k_seq_bk, Mi.k_seq_ct, Mi.k_set, Mi.k_drop, Mi.k_ret, Mi.k_if, Mi.k_asg, Mi.asgR_some, Mi.k_par, Mi.k_par3, Mi.k_app, Mi.appR_l, Mi.k_putR, Mi.k_putR2, Mi.putR2_ref, Mi.k_for, Mi.k_bin, Mi.k_bin2, Mi.k_binS, Mi.k_binS2, Mi.k_bb, Mi.k_bb2, Mi.optB_some, Mi.k_un, Mi.k_and_t, Mi.k_and_f, Mi.k_or_t, Mi.k_or_f, Mi.k_not, Mi.k_ife, Mi.k_band, Mi.k_bor, Mi.k_bnot, Mi.k_val, Mi.k_chn, Mi.k_chn2, Mi.k_chn3, Mi.k_cons, Mi.k_cons2, Mi.k_tup, Mi.k_lst, Mi.k_lstR, Mi.lstR_some, Mi.pys_nil, Mi.pys_cons, Mi.k_some_i, Mi.k_some_n, Mi.k_sl, Mi.k_sl2, Mi.k_sl3T, Mi.k_sl3L, Mi.k_blt, Mi.k_isi, Mi.k_isi2, Mi.k_seqI_l, Mi.k_seqI_t, Mi.k_r1, Mi.k_r2, Mi.k_r22, Mi.k_z, Mi.k_z2l, Mi.k_z2t, Mi.k_lr1, Mi.k_lr2, Mi.k_lr22, Mi.k_comp, Mi.k_comp2, Mi.k_body_rt, Mi.k_body_nx, Mi.v_add_t, Mi.v_cat, Mi.v_rep, Mi.v_mul, Mi.v_div, Mi.v_mod, Mi.v_pow, Mi.v_neg, Mi.v_lt, Mi.v_le, Mi.v_gt, Mi.v_ge, Mi.v_bD, Mi.v_ne, Mi.v_eqI, Mi.v_eqB, Mi.v_isN_n, Mi.v_isN_i, Mi.v_isN_t, Mi.v_isnt, Mi.v_ix_l, Mi.v_ix_t, Mi.v_ix_s, Mi.v_len_l, Mi.v_len_t, Mi.v_len_s, Mi.v_max2, Mi.v_min2, Mi.v_tup_l, Mi.v_lst_t, Mi.v_all, Mi.v_sum, Mi.b_nm, Mi.b_tp, Mi.b_cons, Mi.b_nil, Mi.D.int, Mi.D.bool, Mi.D.tup, Mi.D.lst, Mi.D.non, Mi.wipeE, List.map_cons, List.map_nil, List.length_cons, List.length_nil, List.cons_append, List.nil_append, List.getElem?_cons_zero, List.getElem?_cons_succ, List.set_cons_zero, List.set_cons_succ, Option.map_some, Option.bind_some, decide_eq_true_eq, ↓reduceIte, Nat.reduceAdd, Nat.reduceSub, Mi.atI0, Mi.atI1, Mi.atI2, Mi.ixN0, Mi.ixN1, Bool.not_true, Bool.not_false, Bool.false_eq_true, decide_true, decide_false, Mi.q_ext, Mi.k_ext, Mi.extR_l, Mi.k_sl3TL, Mi.q_zX, Mi.k_ztl, Mi.k_zlt, e]
    exact ⟨r, rfl, h1, h2⟩))
  rw [intR_len] at z5
  obtain ⟨b, S6, e6, a6, b6, G6⟩ := draw_w (k := (rows.length : Int) + 2) G5 (by omega) (by omega)
  simp only [Mi.wE_ok, Mi.bind_k, Mi.bind_b, Mi.bind_ite, Mi.optR_some, Mi.addF_int, Mi.int2_int, Mi.intB_int, Mi.q_seq, Mi.q_set, Mi.q_nil, Mi.q_drop, Mi.q_ret, Mi.q_if, Mi.q_brk, Mi.q_cnt, Mi.q_bad, Mi.q_asg, Mi.q_par, Mi.q_par3, Mi.q_app, Mi.q_put, Mi.q_putR, Mi.q_for, Mi.q_var, Mi.varR_some, Mi.q_con, Mi.q_bin, Mi.q_binS, Mi.q_bb, Mi.q_un, Mi.q_and, Mi.q_or, Mi.q_not, Mi.q_ife, Mi.q_band, Mi.q_bor, Mi.q_bnot, Mi.q_val, Mi.q_true, Mi.q_chn, Mi.q_anil, Mi.q_acons, Mi.q_tup, Mi.q_lst, Mi.q_lstR, Mi.q_none, Mi.q_some, Mi.q_sl, Mi.q_blt, Mi.q_isi, Mi.q_isi2, Mi.q_iseq, Mi.q_r1, Mi.q_r2, Mi.q_z, Mi.q_lr1, Mi.q_lr2, Mi.q_comp, Mi.q_call, Mi.k_seq_nx, Mi.k_seq_rt, Mi.k_seq_bk, Mi.k_seq_ct, Mi.k_set, Mi.k_drop, Mi.k_ret, Mi.k_if, Mi.k_asg, Mi.asgR_some, Mi.k_par, Mi.k_par3, Mi.k_app, Mi.appR_l, Mi.k_putR, Mi.k_putR2, Mi.putR2_ref, Mi.k_for, Mi.k_bin, Mi.k_bin2, Mi.k_binS, Mi.k_binS2, Mi.k_bb, Mi.k_bb2, Mi.optB_some, Mi.k_un, Mi.k_and_t, Mi.k_and_f, Mi.k_or_t, Mi.k_or_f, Mi.k_not, Mi.k_ife, Mi.k_band, Mi.k_bor, Mi.k_bnot, Mi.k_val, Mi.k_chn, Mi.k_chn2, Mi.k_chn3, Mi.k_cons, Mi.k_cons2, Mi.k_tup, Mi.k_lst, Mi.k_lstR, Mi.lstR_some, Mi.pys_nil, Mi.pys_cons, Mi.k_some_i, Mi.k_some_n, Mi.k_sl, Mi.k_sl2, Mi.k_sl3T, Mi.k_sl3L, Mi.k_blt, Mi.k_isi, Mi.k_isi2, Mi.k_seqI_l, Mi.k_seqI_t, Mi.k_r1, Mi.k_r2, Mi.k_r22, Mi.k_z, Mi.k_z2l, Mi.k_z2t, Mi.k_lr1, Mi.k_lr2, Mi.k_lr22, Mi.k_comp, Mi.k_comp2, Mi.k_body_rt, Mi.k_body_nx, Mi.v_add_t, Mi.v_cat, Mi.v_rep, Mi.v_mul, Mi.v_div, Mi.v_mod, Mi.v_pow, Mi.v_neg, Mi.v_lt, Mi.v_le, Mi.v_gt, Mi.v_ge, Mi.v_bD, Mi.v_ne, Mi.v_eqI, Mi.v_eqB, Mi.v_isN_n, Mi.v_isN_i, Mi.v_isN_t, Mi.v_isnt, Mi.v_ix_l, Mi.v_ix_t, Mi.v_ix_s, Mi.v_len_l, Mi.v_len_t, Mi.v_len_s, Mi.v_max2, Mi.v_min2, Mi.v_tup_l, Mi.v_lst_t, Mi.v_all, Mi.v_sum, Mi.b_nm, Mi.b_tp, Mi.b_cons, Mi.b_nil, Mi.D.int, Mi.D.bool, Mi.D.tup, Mi.D.lst, Mi.D.non, Mi.wipeE, List.map_cons, List.map_nil, List.length_cons, List.length_nil, List.cons_append, List.nil_append, List.getElem?_cons_zero, List.getElem?_cons_succ, List.set_cons_zero, List.set_cons_succ, Option.map_some, Option.bind_some, decide_eq_true_eq, ↓reduceIte, Nat.reduceAdd, Nat.reduceSub, Mi.atI0, Mi.atI1, Mi.atI2, Mi.ixN0, Mi.ixN1, Bool.not_true, Bool.not_false, Bool.false_eq_true, decide_true, decide_false, Mi.q_ext, Mi.k_ext, Mi.extR_l, Mi.k_sl3TL, Mi.q_zX, Mi.k_ztl, Mi.k_zlt, e1, e2, e3, e4, q1, hb, intR_len, hl, e5, encR_len, e6]
  by_cases hbk : b < (rows.length : Int)
  · simp only [Mi.wE_ok, Mi.bind_k, Mi.bind_b, Mi.bind_ite, Mi.optR_some, Mi.addF_int, Mi.int2_int, Mi.intB_int, Mi.q_seq, Mi.q_set, Mi.q_nil, Mi.q_drop, Mi.q_ret, Mi.q_if, Mi.q_brk, Mi.q_cnt, Mi.q_bad, Mi.q_asg, Mi.q_par, Mi.q_par3, Mi.q_app, Mi.q_put, Mi.q_putR, Mi.q_for, Mi.q_var, Mi.varR_some, Mi.q_con, Mi.q_bin, Mi.q_binS, Mi.q_bb, Mi.q_un, Mi.q_and, Mi.q_or, Mi.q_not, Mi.q_ife, Mi.q_band, Mi.q_bor, Mi.q_bnot, Mi.q_val, Mi.q_true, Mi.q_chn, Mi.q_anil, Mi.q_acons, Mi.q_tup, Mi.q_lst, Mi.q_lstR, Mi.q_none, Mi.q_some, Mi.q_sl, Mi.q_blt, Mi.q_isi, Mi.q_isi2, Mi.q_iseq, Mi.q_r1, Mi.q_r2, Mi.q_z, Mi.q_lr1, Mi.q_lr2, Mi.q_comp, Mi.q_call, Mi.k_seq_nx, Mi.k_seq_rt, Mi.k_seq_bk, Mi.k_seq_ct, Mi.k_set, Mi.k_drop, Mi.k_ret, Mi.k_if, Mi.k_asg, Mi.asgR_some, Mi.k_par, Mi.k_par3, Mi.k_app, Mi.appR_l, Mi.k_putR, Mi.k_putR2, Mi.putR2_ref, Mi.k_for, Mi.k_bin, Mi.k_bin2, Mi.k_binS, Mi.k_binS2, Mi.k_bb, Mi.k_bb2, Mi.optB_some, Mi.k_un, Mi.k_and_t, Mi.k_and_f, Mi.k_or_t, Mi.k_or_f, Mi.k_not, Mi.k_ife, Mi.k_band, Mi.k_bor, Mi.k_bnot, Mi.k_val, Mi.k_chn, Mi.k_chn2, Mi.k_chn3, Mi.k_cons, Mi.k_cons2, Mi.k_tup, Mi.k_lst, Mi.k_lstR, Mi.lstR_some, Mi.pys_nil, Mi.pys_cons, Mi.k_some_i, Mi.k_some_n, Mi.k_sl, Mi.k_sl2, Mi.k_sl3T, Mi.k_sl3L, Mi.k_blt, Mi.k_isi, Mi.k_isi2, Mi.k_seqI_l, Mi.k_seqI_t, Mi.k_r1, Mi.k_r2, Mi.k_r22, Mi.k_z, Mi.k_z2l, Mi.k_z2t, Mi.k_lr1, Mi.k_lr2, Mi.k_lr22, Mi.k_comp, Mi.k_comp2, Mi.k_body_rt, Mi.k_body_nx, Mi.v_add_t, Mi.v_cat, Mi.v_rep, Mi.v_mul, Mi.v_div, Mi.v_mod, Mi.v_pow, Mi.v_neg, Mi.v_lt, Mi.v_le, Mi.v_gt, Mi.v_ge, Mi.v_bD, Mi.v_ne, Mi.v_eqI, Mi.v_eqB, Mi.v_isN_n, Mi.v_isN_i, Mi.v_isN_t, Mi.v_isnt, Mi.v_ix_l, Mi.v_ix_t, Mi.v_ix_s, Mi.v_len_l, Mi.v_len_t, Mi.v_len_s, Mi.v_max2, Mi.v_min2, Mi.v_tup_l, Mi.v_lst_t, Mi.v_all, Mi.v_sum, Mi.b_nm, Mi.b_tp, Mi.b_cons, Mi.b_nil, Mi.D.int, Mi.D.bool, Mi.D.tup, Mi.D.lst, Mi.D.non, Mi.wipeE, List.map_cons, List.map_nil, List.length_cons, List.length_nil, List.cons_append, List.nil_append, List.getElem?_cons_zero, List.getElem?_cons_succ, List.set_cons_zero, List.set_cons_succ, Option.map_some, Option.bind_some, decide_eq_true_eq, ↓reduceIte, Nat.reduceAdd, Nat.reduceSub, Mi.atI0, Mi.atI1, Mi.atI2, Mi.ixN0, Mi.ixN1, Bool.not_true, Bool.not_false, Bool.false_eq_true, decide_true, decide_false, Mi.q_ext, Mi.k_ext, Mi.extR_l, Mi.k_sl3TL, Mi.q_zX, Mi.k_ztl, Mi.k_zlt, hbk]
    exact ⟨⟨rows, some b⟩, S6, rfl, ⟨by simp only; omega, p5, fun c hc => by cases hc; exact ⟨a6, hbk⟩⟩, G6⟩
  · simp only [Mi.wE_ok, Mi.bind_k, Mi.bind_b, Mi.bind_ite, Mi.optR_some, Mi.addF_int, Mi.int2_int, Mi.intB_int, Mi.q_seq, Mi.q_set, Mi.q_nil, Mi.q_drop, Mi.q_ret, Mi.q_if, Mi.q_brk, Mi.q_cnt, Mi.q_bad, Mi.q_asg, Mi.q_par, Mi.q_par3, Mi.q_app, Mi.q_put, Mi.q_putR, Mi.q_for, Mi.q_var, Mi.varR_some, Mi.q_con, Mi.q_bin, Mi.q_binS, Mi.q_bb, Mi.q_un, Mi.q_and, Mi.q_or, Mi.q_not, Mi.q_ife, Mi.q_band, Mi.q_bor, Mi.q_bnot, Mi.q_val, Mi.q_true, Mi.q_chn, Mi.q_anil, Mi.q_acons, Mi.q_tup, Mi.q_lst, Mi.q_lstR, Mi.q_none, Mi.q_some, Mi.q_sl, Mi.q_blt, Mi.q_isi, Mi.q_isi2, Mi.q_iseq, Mi.q_r1, Mi.q_r2, Mi.q_z, Mi.q_lr1, Mi.q_lr2, Mi.q_comp, Mi.q_call, Mi.k_seq_nx, Mi.k_seq_rt, Mi.k_seq_bk, Mi.k_seq_ct, Mi.k_set, Mi.k_drop, Mi.k_ret, Mi.k_if, Mi.k_asg, Mi.asgR_some, Mi.k_par, Mi.k_par3, Mi.k_app, Mi.appR_l, Mi.k_putR, Mi.k_putR2, Mi.putR2_ref, Mi.k_for, Mi.k_bin, Mi.k_bin2, Mi.k_binS, Mi.k_binS2, Mi.k_bb, Mi.k_bb2, Mi.optB_some, Mi.k_un, Mi.k_and_t, Mi.k_and_f, Mi.k_or_t, Mi.k_or_f, Mi.k_not, Mi.k_ife, Mi.k_band, Mi.k_bor, Mi.k_bnot, Mi.k_val, Mi.k_chn, Mi.k_chn2, Mi.k_chn3, Mi.k_cons, Mi.k_cons2, Mi.k_tup, Mi.k_lst, Mi.k_lstR, Mi.lstR_some, Mi.pys_nil, Mi.pys_cons, Mi.k_some_i, Mi.k_some_n, Mi.k_sl, Mi.k_sl2, Mi.k_sl3T, Mi.k_sl3L, Mi.k_blt, Mi.k_isi, Mi.k_isi2, Mi.k_seqI_l, Mi.k_seqI_t, Mi.k_r1, Mi.k_r2, Mi.k_r22, Mi.k_z, Mi.k_z2l, Mi.k_z2t, Mi.k_lr1, Mi.k_lr2, Mi.k_lr22, Mi.k_comp, Mi.k_comp2, Mi.k_body_rt, Mi.k_body_nx, Mi.v_add_t, Mi.v_cat, Mi.v_rep, Mi.v_mul, Mi.v_div, Mi.v_mod, Mi.v_pow, Mi.v_neg, Mi.v_lt, Mi.v_le, Mi.v_gt, Mi.v_ge, Mi.v_bD, Mi.v_ne, Mi.v_eqI, Mi.v_eqB, Mi.v_isN_n, Mi.v_isN_i, Mi.v_isN_t, Mi.v_isnt, Mi.v_ix_l, Mi.v_ix_t, Mi.v_ix_s, Mi.v_len_l, Mi.v_len_t, Mi.v_len_s, Mi.v_max2, Mi.v_min2, Mi.v_tup_l, Mi.v_lst_t, Mi.v_all, Mi.v_sum, Mi.b_nm, Mi.b_tp, Mi.b_cons, Mi.b_nil, Mi.D.int, Mi.D.bool, Mi.D.tup, Mi.D.lst, Mi.D.non, Mi.wipeE, List.map_cons, List.map_nil, List.length_cons, List.length_nil, List.cons_append, List.nil_append, List.getElem?_cons_zero, List.getElem?_cons_succ, List.set_cons_zero, List.set_cons_succ, Option.map_some, Option.bind_some, decide_eq_true_eq, ↓reduceIte, Nat.reduceAdd, Nat.reduceSub, Mi.atI0, Mi.atI1, Mi.atI2, Mi.ixN0, Mi.ixN1, Bool.not_true, Bool.not_false, Bool.false_eq_true, decide_true, decide_false, Mi.q_ext, Mi.k_ext, Mi.extR_l, Mi.k_sl3TL, Mi.q_zX, Mi.k_ztl, Mi.k_zlt, hbk]
    exact ⟨⟨rows, none⟩, S6, rfl, ⟨by simp only; omega, p5, fun c hc => by cases hc⟩, G6⟩
/-! ### the law's state, its own comparing -/
theorem cell_w (ns : List Int) (k : Int) (h0 : 0 ≤ k) (S : Store) : ∃ c : Int, c__law_cell_at [.scr ns, .p (.int k)] S = .ok (.p (.int c)) S := by
  rw [u__law_cell_at, m__law_cell_at]
  by_cases h : k < (ns.length : Int)
  · obtain ⟨c, e, _⟩ := atI_any (fun _ => True) ns h0 h (fun _ _ => trivial)
    exact ⟨c, by simp only [Mi.wE_ok, Mi.bind_k, Mi.bind_b, Mi.bind_ite, Mi.optR_some, Mi.addF_int, Mi.int2_int, Mi.intB_int, Mi.q_seq, Mi.q_set, Mi.q_nil, Mi.q_drop, Mi.q_ret, Mi.q_if, Mi.q_brk, Mi.q_cnt, Mi.q_bad, Mi.q_asg, Mi.q_par, Mi.q_par3, Mi.q_app, Mi.q_put, Mi.q_putR, Mi.q_for, Mi.q_var, Mi.varR_some, Mi.q_con, Mi.q_bin, Mi.q_binS, Mi.q_bb, Mi.q_un, Mi.q_and, Mi.q_or, Mi.q_not, Mi.q_ife, Mi.q_band, Mi.q_bor, Mi.q_bnot, Mi.q_val, Mi.q_true, Mi.q_chn, Mi.q_anil, Mi.q_acons, Mi.q_tup, Mi.q_lst, Mi.q_lstR, Mi.q_none, Mi.q_some, Mi.q_sl, Mi.q_blt, Mi.q_isi, Mi.q_isi2, Mi.q_iseq, Mi.q_r1, Mi.q_r2, Mi.q_z, Mi.q_lr1, Mi.q_lr2, Mi.q_comp, Mi.q_call, Mi.k_seq_nx, Mi.k_seq_rt, Mi.k_seq_bk, Mi.k_seq_ct, Mi.k_set, Mi.k_drop, Mi.k_ret, Mi.k_if, Mi.k_asg, Mi.asgR_some, Mi.k_par, Mi.k_par3, Mi.k_app, Mi.appR_l, Mi.k_putR, Mi.k_putR2, Mi.putR2_ref, Mi.k_for, Mi.k_bin, Mi.k_bin2, Mi.k_binS, Mi.k_binS2, Mi.k_bb, Mi.k_bb2, Mi.optB_some, Mi.k_un, Mi.k_and_t, Mi.k_and_f, Mi.k_or_t, Mi.k_or_f, Mi.k_not, Mi.k_ife, Mi.k_band, Mi.k_bor, Mi.k_bnot, Mi.k_val, Mi.k_chn, Mi.k_chn2, Mi.k_chn3, Mi.k_cons, Mi.k_cons2, Mi.k_tup, Mi.k_lst, Mi.k_lstR, Mi.lstR_some, Mi.pys_nil, Mi.pys_cons, Mi.k_some_i, Mi.k_some_n, Mi.k_sl, Mi.k_sl2, Mi.k_sl3T, Mi.k_sl3L, Mi.k_blt, Mi.k_isi, Mi.k_isi2, Mi.k_seqI_l, Mi.k_seqI_t, Mi.k_r1, Mi.k_r2, Mi.k_r22, Mi.k_z, Mi.k_z2l, Mi.k_z2t, Mi.k_lr1, Mi.k_lr2, Mi.k_lr22, Mi.k_comp, Mi.k_comp2, Mi.k_body_rt, Mi.k_body_nx, Mi.v_add_t, Mi.v_cat, Mi.v_rep, Mi.v_mul, Mi.v_div, Mi.v_mod, Mi.v_pow, Mi.v_neg, Mi.v_lt, Mi.v_le, Mi.v_gt, Mi.v_ge, Mi.v_bD, Mi.v_ne, Mi.v_eqI, Mi.v_eqB, Mi.v_isN_n, Mi.v_isN_i, Mi.v_isN_t, Mi.v_isnt, Mi.v_ix_l, Mi.v_ix_t, Mi.v_ix_s, Mi.v_len_l, Mi.v_len_t, Mi.v_len_s, Mi.v_max2, Mi.v_min2, Mi.v_tup_l, Mi.v_lst_t, Mi.v_all, Mi.v_sum, Mi.b_nm, Mi.b_tp, Mi.b_cons, Mi.b_nil, Mi.D.int, Mi.D.bool, Mi.D.tup, Mi.D.lst, Mi.D.non, Mi.wipeE, List.map_cons, List.map_nil, List.length_cons, List.length_nil, List.cons_append, List.nil_append, List.getElem?_cons_zero, List.getElem?_cons_succ, List.set_cons_zero, List.set_cons_succ, Option.map_some, Option.bind_some, decide_eq_true_eq, ↓reduceIte, Nat.reduceAdd, Nat.reduceSub, Mi.atI0, Mi.atI1, Mi.atI2, Mi.ixN0, Mi.ixN1, Bool.not_true, Bool.not_false, Bool.false_eq_true, decide_true, decide_false, Mi.q_ext, Mi.k_ext, Mi.extR_l, Mi.k_sl3TL, Mi.q_zX, Mi.k_ztl, Mi.k_zlt, h, e]⟩
  · exact ⟨0, by simp only [Mi.wE_ok, Mi.bind_k, Mi.bind_b, Mi.bind_ite, Mi.optR_some, Mi.addF_int, Mi.int2_int, Mi.intB_int, Mi.q_seq, Mi.q_set, Mi.q_nil, Mi.q_drop, Mi.q_ret, Mi.q_if, Mi.q_brk, Mi.q_cnt, Mi.q_bad, Mi.q_asg, Mi.q_par, Mi.q_par3, Mi.q_app, Mi.q_put, Mi.q_putR, Mi.q_for, Mi.q_var, Mi.varR_some, Mi.q_con, Mi.q_bin, Mi.q_binS, Mi.q_bb, Mi.q_un, Mi.q_and, Mi.q_or, Mi.q_not, Mi.q_ife, Mi.q_band, Mi.q_bor, Mi.q_bnot, Mi.q_val, Mi.q_true, Mi.q_chn, Mi.q_anil, Mi.q_acons, Mi.q_tup, Mi.q_lst, Mi.q_lstR, Mi.q_none, Mi.q_some, Mi.q_sl, Mi.q_blt, Mi.q_isi, Mi.q_isi2, Mi.q_iseq, Mi.q_r1, Mi.q_r2, Mi.q_z, Mi.q_lr1, Mi.q_lr2, Mi.q_comp, Mi.q_call, Mi.k_seq_nx, Mi.k_seq_rt, Mi.k_seq_bk, Mi.k_seq_ct, Mi.k_set, Mi.k_drop, Mi.k_ret, Mi.k_if, Mi.k_asg, Mi.asgR_some, Mi.k_par, Mi.k_par3, Mi.k_app, Mi.appR_l, Mi.k_putR, Mi.k_putR2, Mi.putR2_ref, Mi.k_for, Mi.k_bin, Mi.k_bin2, Mi.k_binS, Mi.k_binS2, Mi.k_bb, Mi.k_bb2, Mi.optB_some, Mi.k_un, Mi.k_and_t, Mi.k_and_f, Mi.k_or_t, Mi.k_or_f, Mi.k_not, Mi.k_ife, Mi.k_band, Mi.k_bor, Mi.k_bnot, Mi.k_val, Mi.k_chn, Mi.k_chn2, Mi.k_chn3, Mi.k_cons, Mi.k_cons2, Mi.k_tup, Mi.k_lst, Mi.k_lstR, Mi.lstR_some, Mi.pys_nil, Mi.pys_cons, Mi.k_some_i, Mi.k_some_n, Mi.k_sl, Mi.k_sl2, Mi.k_sl3T, Mi.k_sl3L, Mi.k_blt, Mi.k_isi, Mi.k_isi2, Mi.k_seqI_l, Mi.k_seqI_t, Mi.k_r1, Mi.k_r2, Mi.k_r22, Mi.k_z, Mi.k_z2l, Mi.k_z2t, Mi.k_lr1, Mi.k_lr2, Mi.k_lr22, Mi.k_comp, Mi.k_comp2, Mi.k_body_rt, Mi.k_body_nx, Mi.v_add_t, Mi.v_cat, Mi.v_rep, Mi.v_mul, Mi.v_div, Mi.v_mod, Mi.v_pow, Mi.v_neg, Mi.v_lt, Mi.v_le, Mi.v_gt, Mi.v_ge, Mi.v_bD, Mi.v_ne, Mi.v_eqI, Mi.v_eqB, Mi.v_isN_n, Mi.v_isN_i, Mi.v_isN_t, Mi.v_isnt, Mi.v_ix_l, Mi.v_ix_t, Mi.v_ix_s, Mi.v_len_l, Mi.v_len_t, Mi.v_len_s, Mi.v_max2, Mi.v_min2, Mi.v_tup_l, Mi.v_lst_t, Mi.v_all, Mi.v_sum, Mi.b_nm, Mi.b_tp, Mi.b_cons, Mi.b_nil, Mi.D.int, Mi.D.bool, Mi.D.tup, Mi.D.lst, Mi.D.non, Mi.wipeE, List.map_cons, List.map_nil, List.length_cons, List.length_nil, List.cons_append, List.nil_append, List.getElem?_cons_zero, List.getElem?_cons_succ, List.set_cons_zero, List.set_cons_succ, Option.map_some, Option.bind_some, decide_eq_true_eq, ↓reduceIte, Nat.reduceAdd, Nat.reduceSub, Mi.atI0, Mi.atI1, Mi.atI2, Mi.ixN0, Mi.ixN1, Bool.not_true, Bool.not_false, Bool.false_eq_true, decide_true, decide_false, Mi.q_ext, Mi.k_ext, Mi.extR_l, Mi.k_sl3TL, Mi.q_zX, Mi.k_ztl, Mi.k_zlt, h]⟩
theorem state_w (ns : List Int) (k : Int) (h0 : 0 ≤ k) (S : Store) (hF : FlatS S) : ∃ n S', c__law_state [.scr ns, .p (.int k)] S = .ok (.ref n) S' ∧ Good S' n := by
  obtain ⟨c, e⟩ := cell_w ns k h0 S
  rw [u__law_state, m__law_state]
  have z : CPow 10 18 := ⟨by decide, by decide, by decide⟩
  have z2 : (0 : Int) < 2147483647 := by decide
  simp only [Mi.wE_ok, Mi.bind_k, Mi.bind_b, Mi.bind_ite, Mi.optR_some, Mi.addF_int, Mi.int2_int, Mi.intB_int, Mi.q_seq, Mi.q_set, Mi.q_nil, Mi.q_drop, Mi.q_ret, Mi.q_if, Mi.q_brk, Mi.q_cnt, Mi.q_bad, Mi.q_asg, Mi.q_par, Mi.q_par3, Mi.q_app, Mi.q_put, Mi.q_putR, Mi.q_for, Mi.q_var, Mi.varR_some, Mi.q_con, Mi.q_bin, Mi.q_binS, Mi.q_bb, Mi.q_un, Mi.q_and, Mi.q_or, Mi.q_not, Mi.q_ife, Mi.q_band, Mi.q_bor, Mi.q_bnot, Mi.q_val, Mi.q_true, Mi.q_chn, Mi.q_anil, Mi.q_acons, Mi.q_tup, Mi.q_lst, Mi.q_lstR, Mi.q_none, Mi.q_some, Mi.q_sl, Mi.q_blt, Mi.q_isi, Mi.q_isi2, Mi.q_iseq, Mi.q_r1, Mi.q_r2, Mi.q_z, Mi.q_lr1, Mi.q_lr2, Mi.q_comp, Mi.q_call, Mi.k_seq_nx, Mi.k_seq_rt, Mi.k_seq_bk, Mi.k_seq_ct, Mi.k_set, Mi.k_drop, Mi.k_ret, Mi.k_if, Mi.k_asg, Mi.asgR_some, Mi.k_par, Mi.k_par3, Mi.k_app, Mi.appR_l, Mi.k_putR, Mi.k_putR2, Mi.putR2_ref, Mi.k_for, Mi.k_bin, Mi.k_bin2, Mi.k_binS, Mi.k_binS2, Mi.k_bb, Mi.k_bb2, Mi.optB_some, Mi.k_un, Mi.k_and_t, Mi.k_and_f, Mi.k_or_t, Mi.k_or_f, Mi.k_not, Mi.k_ife, Mi.k_band, Mi.k_bor, Mi.k_bnot, Mi.k_val, Mi.k_chn, Mi.k_chn2, Mi.k_chn3, Mi.k_cons, Mi.k_cons2, Mi.k_tup, Mi.k_lst, Mi.k_lstR, Mi.lstR_some, Mi.pys_nil, Mi.pys_cons, Mi.k_some_i, Mi.k_some_n, Mi.k_sl, Mi.k_sl2, Mi.k_sl3T, Mi.k_sl3L, Mi.k_blt, Mi.k_isi, Mi.k_isi2, Mi.k_seqI_l, Mi.k_seqI_t, Mi.k_r1, Mi.k_r2, Mi.k_r22, Mi.k_z, Mi.k_z2l, Mi.k_z2t, Mi.k_lr1, Mi.k_lr2, Mi.k_lr22, Mi.k_comp, Mi.k_comp2, Mi.k_body_rt, Mi.k_body_nx, Mi.v_add_t, Mi.v_cat, Mi.v_rep, Mi.v_mul, Mi.v_div, Mi.v_mod, Mi.v_pow, Mi.v_neg, Mi.v_lt, Mi.v_le, Mi.v_gt, Mi.v_ge, Mi.v_bD, Mi.v_ne, Mi.v_eqI, Mi.v_eqB, Mi.v_isN_n, Mi.v_isN_i, Mi.v_isN_t, Mi.v_isnt, Mi.v_ix_l, Mi.v_ix_t, Mi.v_ix_s, Mi.v_len_l, Mi.v_len_t, Mi.v_len_s, Mi.v_max2, Mi.v_min2, Mi.v_tup_l, Mi.v_lst_t, Mi.v_all, Mi.v_sum, Mi.b_nm, Mi.b_tp, Mi.b_cons, Mi.b_nil, Mi.D.int, Mi.D.bool, Mi.D.tup, Mi.D.lst, Mi.D.non, Mi.wipeE, List.map_cons, List.map_nil, List.length_cons, List.length_nil, List.cons_append, List.nil_append, List.getElem?_cons_zero, List.getElem?_cons_succ, List.set_cons_zero, List.set_cons_succ, Option.map_some, Option.bind_some, decide_eq_true_eq, ↓reduceIte, Nat.reduceAdd, Nat.reduceSub, Mi.atI0, Mi.atI1, Mi.atI2, Mi.ixN0, Mi.ixN1, Bool.not_true, Bool.not_false, Bool.false_eq_true, decide_true, decide_false, Mi.q_ext, Mi.k_ext, Mi.extR_l, Mi.k_sl3TL, Mi.q_zX, Mi.k_ztl, Mi.k_zlt, e, z, z2]
  exact ⟨_, _, rfl, (fun o ho => by rcases List.mem_append.mp ho with h1 | h1; exact hF o h1; rw [List.mem_singleton.mp h1]; rfl), _, _, List.getElem?_concat_length, Int.le_max_left _ _, Int.emod_nonneg _ (by decide), Int.emod_lt_of_pos _ (by decide)⟩
theorem same_i (i : Nat) (a b : Int) (S : Store) : c__law_same (i + 1) [.p (.int a), .p (.int b)] S = .ok (.p (.bool (a == b))) S := by
  rw [u__law_same, m__law_same]
  simp only [Mi.wE_ok, Mi.bind_k, Mi.bind_b, Mi.bind_ite, Mi.optR_some, Mi.addF_int, Mi.int2_int, Mi.intB_int, Mi.q_seq, Mi.q_set, Mi.q_nil, Mi.q_drop, Mi.q_ret, Mi.q_if, Mi.q_brk, Mi.q_cnt, Mi.q_bad, Mi.q_asg, Mi.q_par, Mi.q_par3, Mi.q_app, Mi.q_put, Mi.q_putR, Mi.q_for, Mi.q_var, Mi.varR_some, Mi.q_con, Mi.q_bin, Mi.q_binS, Mi.q_bb, Mi.q_un, Mi.q_and, Mi.q_or, Mi.q_not, Mi.q_ife, Mi.q_band, Mi.q_bor, Mi.q_bnot, Mi.q_val, Mi.q_true, Mi.q_chn, Mi.q_anil, Mi.q_acons, Mi.q_tup, Mi.q_lst, Mi.q_lstR, Mi.q_none, Mi.q_some, Mi.q_sl, Mi.q_blt, Mi.q_isi, Mi.q_isi2, Mi.q_iseq, Mi.q_r1, Mi.q_r2, Mi.q_z, Mi.q_lr1, Mi.q_lr2, Mi.q_comp, Mi.q_call, Mi.k_seq_nx, Mi.k_seq_rt, Mi.k_seq_bk, Mi.k_seq_ct, Mi.k_set, Mi.k_drop, Mi.k_ret, Mi.k_if, Mi.k_asg, Mi.asgR_some, Mi.k_par, Mi.k_par3, Mi.k_app, Mi.appR_l, Mi.k_putR, Mi.k_putR2, Mi.putR2_ref, Mi.k_for, Mi.k_bin, Mi.k_bin2, Mi.k_binS, Mi.k_binS2, Mi.k_bb, Mi.k_bb2, Mi.optB_some, Mi.k_un, Mi.k_and_t, Mi.k_and_f, Mi.k_or_t, Mi.k_or_f, Mi.k_not, Mi.k_ife, Mi.k_band, Mi.k_bor, Mi.k_bnot, Mi.k_val, Mi.k_chn, Mi.k_chn2, Mi.k_chn3, Mi.k_cons, Mi.k_cons2, Mi.k_tup, Mi.k_lst, Mi.k_lstR, Mi.lstR_some, Mi.pys_nil, Mi.pys_cons, Mi.k_some_i, Mi.k_some_n, Mi.k_sl, Mi.k_sl2, Mi.k_sl3T, Mi.k_sl3L, Mi.k_blt, Mi.k_isi, Mi.k_isi2, Mi.k_seqI_l, Mi.k_seqI_t, Mi.k_r1, Mi.k_r2, Mi.k_r22, Mi.k_z, Mi.k_z2l, Mi.k_z2t, Mi.k_lr1, Mi.k_lr2, Mi.k_lr22, Mi.k_comp, Mi.k_comp2, Mi.k_body_rt, Mi.k_body_nx, Mi.v_add_t, Mi.v_cat, Mi.v_rep, Mi.v_mul, Mi.v_div, Mi.v_mod, Mi.v_pow, Mi.v_neg, Mi.v_lt, Mi.v_le, Mi.v_gt, Mi.v_ge, Mi.v_bD, Mi.v_ne, Mi.v_eqI, Mi.v_eqB, Mi.v_isN_n, Mi.v_isN_i, Mi.v_isN_t, Mi.v_isnt, Mi.v_ix_l, Mi.v_ix_t, Mi.v_ix_s, Mi.v_len_l, Mi.v_len_t, Mi.v_len_s, Mi.v_max2, Mi.v_min2, Mi.v_tup_l, Mi.v_lst_t, Mi.v_all, Mi.v_sum, Mi.b_nm, Mi.b_tp, Mi.b_cons, Mi.b_nil, Mi.D.int, Mi.D.bool, Mi.D.tup, Mi.D.lst, Mi.D.non, Mi.wipeE, List.map_cons, List.map_nil, List.length_cons, List.length_nil, List.cons_append, List.nil_append, List.getElem?_cons_zero, List.getElem?_cons_succ, List.set_cons_zero, List.set_cons_succ, Option.map_some, Option.bind_some, decide_eq_true_eq, ↓reduceIte, Nat.reduceAdd, Nat.reduceSub, Mi.atI0, Mi.atI1, Mi.atI2, Mi.ixN0, Mi.ixN1, Bool.not_true, Bool.not_false, Bool.false_eq_true, decide_true, decide_false, Mi.q_ext, Mi.k_ext, Mi.extR_l, Mi.k_sl3TL, Mi.q_zX, Mi.k_ztl, Mi.k_zlt, show (isT "tuple" (tyN (D.p (PyData.int b))) || isT "list" (tyN (D.p (PyData.int b)))) = false from rfl, show isT "bool" (tyN (D.p (PyData.int a))) = false from rfl, show isT "bool" (tyN (D.p (PyData.int b))) = false from rfl, show (false == false) = true from rfl]
theorem same_o (i : Nat) (o : Option Int) (S : Store) : c__law_same (i + 1) [.p (encO o), .p (encO o)] S = .ok (.p (.bool true)) S := by
  cases o with
  | some a => rw [encO, same_i, beq_self_eq_true]
  | none =>
    have e : eqF (.p .none) (.p .none) = some true := rfl
    rw [u__law_same, m__law_same]
    simp only [encO, Mi.wE_ok, Mi.bind_k, Mi.bind_b, Mi.bind_ite, Mi.optR_some, Mi.addF_int, Mi.int2_int, Mi.intB_int, Mi.q_seq, Mi.q_set, Mi.q_nil, Mi.q_drop, Mi.q_ret, Mi.q_if, Mi.q_brk, Mi.q_cnt, Mi.q_bad, Mi.q_asg, Mi.q_par, Mi.q_par3, Mi.q_app, Mi.q_put, Mi.q_putR, Mi.q_for, Mi.q_var, Mi.varR_some, Mi.q_con, Mi.q_bin, Mi.q_binS, Mi.q_bb, Mi.q_un, Mi.q_and, Mi.q_or, Mi.q_not, Mi.q_ife, Mi.q_band, Mi.q_bor, Mi.q_bnot, Mi.q_val, Mi.q_true, Mi.q_chn, Mi.q_anil, Mi.q_acons, Mi.q_tup, Mi.q_lst, Mi.q_lstR, Mi.q_none, Mi.q_some, Mi.q_sl, Mi.q_blt, Mi.q_isi, Mi.q_isi2, Mi.q_iseq, Mi.q_r1, Mi.q_r2, Mi.q_z, Mi.q_lr1, Mi.q_lr2, Mi.q_comp, Mi.q_call, Mi.k_seq_nx, Mi.k_seq_rt, Mi.k_seq_bk, Mi.k_seq_ct, Mi.k_set, Mi.k_drop, Mi.k_ret, Mi.k_if, Mi.k_asg, Mi.asgR_some, Mi.k_par, Mi.k_par3, Mi.k_app, Mi.appR_l, Mi.k_putR, Mi.k_putR2, Mi.putR2_ref, Mi.k_for, Mi.k_bin, Mi.k_bin2, Mi.k_binS, Mi.k_binS2, Mi.k_bb, Mi.k_bb2, Mi.optB_some, Mi.k_un, Mi.k_and_t, Mi.k_and_f, Mi.k_or_t, Mi.k_or_f, Mi.k_not, Mi.k_ife, Mi.k_band, Mi.k_bor, Mi.k_bnot, Mi.k_val, Mi.k_chn, Mi.k_chn2, Mi.k_chn3, Mi.k_cons, Mi.k_cons2, Mi.k_tup, Mi.k_lst, Mi.k_lstR, Mi.lstR_some, Mi.pys_nil, Mi.pys_cons, Mi.k_some_i, Mi.k_some_n, Mi.k_sl, Mi.k_sl2, Mi.k_sl3T, Mi.k_sl3L, Mi.k_blt, Mi.k_isi, Mi.k_isi2, Mi.k_seqI_l, Mi.k_seqI_t, Mi.k_r1, Mi.k_r2, Mi.k_r22, Mi.k_z, Mi.k_z2l, Mi.k_z2t, Mi.k_lr1, Mi.k_lr2, Mi.k_lr22, Mi.k_comp, Mi.k_comp2, Mi.k_body_rt, Mi.k_body_nx, Mi.v_add_t, Mi.v_cat, Mi.v_rep, Mi.v_mul, Mi.v_div, Mi.v_mod, Mi.v_pow, Mi.v_neg, Mi.v_lt, Mi.v_le, Mi.v_gt, Mi.v_ge, Mi.v_bD, Mi.v_ne, Mi.v_eqI, Mi.v_eqB, Mi.v_isN_n, Mi.v_isN_i, Mi.v_isN_t, Mi.v_isnt, Mi.v_ix_l, Mi.v_ix_t, Mi.v_ix_s, Mi.v_len_l, Mi.v_len_t, Mi.v_len_s, Mi.v_max2, Mi.v_min2, Mi.v_tup_l, Mi.v_lst_t, Mi.v_all, Mi.v_sum, Mi.b_nm, Mi.b_tp, Mi.b_cons, Mi.b_nil, Mi.D.int, Mi.D.bool, Mi.D.tup, Mi.D.lst, Mi.D.non, Mi.wipeE, List.map_cons, List.map_nil, List.length_cons, List.length_nil, List.cons_append, List.nil_append, List.getElem?_cons_zero, List.getElem?_cons_succ, List.set_cons_zero, List.set_cons_succ, Option.map_some, Option.bind_some, decide_eq_true_eq, ↓reduceIte, Nat.reduceAdd, Nat.reduceSub, Mi.atI0, Mi.atI1, Mi.atI2, Mi.ixN0, Mi.ixN1, Bool.not_true, Bool.not_false, Bool.false_eq_true, decide_true, decide_false, Mi.q_ext, Mi.k_ext, Mi.extR_l, Mi.k_sl3TL, Mi.q_zX, Mi.k_ztl, Mi.k_zlt, show (isT "tuple" (tyN (D.p PyData.none)) || isT "list" (tyN (D.p PyData.none))) = false from rfl, show isT "bool" (tyN (D.p PyData.none)) = false from rfl, show (false == false) = true from rfl, e]
theorem same_refl (S : Store) : ∀ (i : Nat) (d : PyData), tame d = true → wideD d ≤ 1000000 → dep d < i → c__law_same i [.p d, .p d] S = .ok (.p (.bool true)) S
  | 0, _, _, _, h => absurd h (Nat.not_lt_zero _)
  | i + 1, .int a, _, _, _ => by rw [same_i, beq_self_eq_true]
  | i + 1, .none, _, _, _ => same_o i Option.none S
  | i + 1, .bool b, _, _, _ => by
    have e : eqF (.p (.bool b)) (.p (.bool b)) = some true := by rw [v_eqB, beq_self_eq_true]
    rw [u__law_same, m__law_same]
    simp only [Mi.wE_ok, Mi.bind_k, Mi.bind_b, Mi.bind_ite, Mi.optR_some, Mi.addF_int, Mi.int2_int, Mi.intB_int, Mi.q_seq, Mi.q_set, Mi.q_nil, Mi.q_drop, Mi.q_ret, Mi.q_if, Mi.q_brk, Mi.q_cnt, Mi.q_bad, Mi.q_asg, Mi.q_par, Mi.q_par3, Mi.q_app, Mi.q_put, Mi.q_putR, Mi.q_for, Mi.q_var, Mi.varR_some, Mi.q_con, Mi.q_bin, Mi.q_binS, Mi.q_bb, Mi.q_un, Mi.q_and, Mi.q_or, Mi.q_not, Mi.q_ife, Mi.q_band, Mi.q_bor, Mi.q_bnot, Mi.q_val, Mi.q_true, Mi.q_chn, Mi.q_anil, Mi.q_acons, Mi.q_tup, Mi.q_lst, Mi.q_lstR, Mi.q_none, Mi.q_some, Mi.q_sl, Mi.q_blt, Mi.q_isi, Mi.q_isi2, Mi.q_iseq, Mi.q_r1, Mi.q_r2, Mi.q_z, Mi.q_lr1, Mi.q_lr2, Mi.q_comp, Mi.q_call, Mi.k_seq_nx, Mi.k_seq_rt, Mi.k_seq_bk, Mi.k_seq_ct, Mi.k_set, Mi.k_drop, Mi.k_ret, Mi.k_if, Mi.k_asg, Mi.asgR_some, Mi.k_par, Mi.k_par3, Mi.k_app, Mi.appR_l, Mi.k_putR, Mi.k_putR2, Mi.putR2_ref, Mi.k_for, Mi.k_bin, Mi.k_bin2, Mi.k_binS, Mi.k_binS2, Mi.k_bb, Mi.k_bb2, Mi.optB_some, Mi.k_un, Mi.k_and_t, Mi.k_and_f, Mi.k_or_t, Mi.k_or_f, Mi.k_not, Mi.k_ife, Mi.k_band, Mi.k_bor, Mi.k_bnot, Mi.k_val, Mi.k_chn, Mi.k_chn2, Mi.k_chn3, Mi.k_cons, Mi.k_cons2, Mi.k_tup, Mi.k_lst, Mi.k_lstR, Mi.lstR_some, Mi.pys_nil, Mi.pys_cons, Mi.k_some_i, Mi.k_some_n, Mi.k_sl, Mi.k_sl2, Mi.k_sl3T, Mi.k_sl3L, Mi.k_blt, Mi.k_isi, Mi.k_isi2, Mi.k_seqI_l, Mi.k_seqI_t, Mi.k_r1, Mi.k_r2, Mi.k_r22, Mi.k_z, Mi.k_z2l, Mi.k_z2t, Mi.k_lr1, Mi.k_lr2, Mi.k_lr22, Mi.k_comp, Mi.k_comp2, Mi.k_body_rt, Mi.k_body_nx, Mi.v_add_t, Mi.v_cat, Mi.v_rep, Mi.v_mul, Mi.v_div, Mi.v_mod, Mi.v_pow, Mi.v_neg, Mi.v_lt, Mi.v_le, Mi.v_gt, Mi.v_ge, Mi.v_bD, Mi.v_ne, Mi.v_eqI, Mi.v_eqB, Mi.v_isN_n, Mi.v_isN_i, Mi.v_isN_t, Mi.v_isnt, Mi.v_ix_l, Mi.v_ix_t, Mi.v_ix_s, Mi.v_len_l, Mi.v_len_t, Mi.v_len_s, Mi.v_max2, Mi.v_min2, Mi.v_tup_l, Mi.v_lst_t, Mi.v_all, Mi.v_sum, Mi.b_nm, Mi.b_tp, Mi.b_cons, Mi.b_nil, Mi.D.int, Mi.D.bool, Mi.D.tup, Mi.D.lst, Mi.D.non, Mi.wipeE, List.map_cons, List.map_nil, List.length_cons, List.length_nil, List.cons_append, List.nil_append, List.getElem?_cons_zero, List.getElem?_cons_succ, List.set_cons_zero, List.set_cons_succ, Option.map_some, Option.bind_some, decide_eq_true_eq, ↓reduceIte, Nat.reduceAdd, Nat.reduceSub, Mi.atI0, Mi.atI1, Mi.atI2, Mi.ixN0, Mi.ixN1, Bool.not_true, Bool.not_false, Bool.false_eq_true, decide_true, decide_false, Mi.q_ext, Mi.k_ext, Mi.extR_l, Mi.k_sl3TL, Mi.q_zX, Mi.k_ztl, Mi.k_zlt, show (isT "tuple" (tyN (D.p (PyData.bool b))) || isT "list" (tyN (D.p (PyData.bool b)))) = false from rfl, show isT "bool" (tyN (D.p (PyData.bool b))) = true from rfl, show (true == true) = true from rfl, beq_self_eq_true]
  | i + 1, .str _, t, _, _ => by simp [tame] at t
  | i + 1, .dict _, t, _, _ => by simp [tame] at t
  | i + 1, .tuple ds, t, w, h => by
    have ta : tameAll ds = true := by simpa only [tame] using t
    have hl : ds.length ≤ lim := by
      have := wide_len ds
      simp only [wideD] at w
      rw [lim_v]
      omega
    have hc := fun r0 r1 => compL_pure (p := .tp [.nm 2, .nm 3]) (elt := eCall (c__law_same i) (aCons (eVar 2) (aCons (eVar 3) aNil))) (ro := [some r0, some r1, none, none]) (S := S) (fun x => D.p (PyData.tuple [x, x])) (fun _ => .bool true) ds (fun x hx => ⟨[some r0, some r1, some (.p x), some (.p x)], by simp only [Mi.wE_ok, Mi.bind_k, Mi.bind_b, Mi.bind_ite, Mi.optR_some, Mi.addF_int, Mi.int2_int, Mi.intB_int, Mi.q_seq, Mi.q_set, Mi.q_nil, Mi.q_drop, Mi.q_ret, Mi.q_if, Mi.q_brk, Mi.q_cnt, Mi.q_bad, Mi.q_asg, Mi.q_par, Mi.q_par3, Mi.q_app, Mi.q_put, Mi.q_putR, Mi.q_for, Mi.q_var, Mi.varR_some, Mi.q_con, Mi.q_bin, Mi.q_binS, Mi.q_bb, Mi.q_un, Mi.q_and, Mi.q_or, Mi.q_not, Mi.q_ife, Mi.q_band, Mi.q_bor, Mi.q_bnot, Mi.q_val, Mi.q_true, Mi.q_chn, Mi.q_anil, Mi.q_acons, Mi.q_tup, Mi.q_lst, Mi.q_lstR, Mi.q_none, Mi.q_some, Mi.q_sl, Mi.q_blt, Mi.q_isi, Mi.q_isi2, Mi.q_iseq, Mi.q_r1, Mi.q_r2, Mi.q_z, Mi.q_lr1, Mi.q_lr2, Mi.q_comp, Mi.q_call, Mi.k_seq_nx, Mi.k_seq_rt, Mi.k_seq_bk, Mi.k_seq_ct, Mi.k_set, Mi.k_drop, Mi.k_ret, Mi.k_if, Mi.k_asg, Mi.asgR_some, Mi.k_par, Mi.k_par3, Mi.k_app, Mi.appR_l, Mi.k_putR, Mi.k_putR2, Mi.putR2_ref, Mi.k_for, Mi.k_bin, Mi.k_bin2, Mi.k_binS, Mi.k_binS2, Mi.k_bb, Mi.k_bb2, Mi.optB_some, Mi.k_un, Mi.k_and_t, Mi.k_and_f, Mi.k_or_t, Mi.k_or_f, Mi.k_not, Mi.k_ife, Mi.k_band, Mi.k_bor, Mi.k_bnot, Mi.k_val, Mi.k_chn, Mi.k_chn2, Mi.k_chn3, Mi.k_cons, Mi.k_cons2, Mi.k_tup, Mi.k_lst, Mi.k_lstR, Mi.lstR_some, Mi.pys_nil, Mi.pys_cons, Mi.k_some_i, Mi.k_some_n, Mi.k_sl, Mi.k_sl2, Mi.k_sl3T, Mi.k_sl3L, Mi.k_blt, Mi.k_isi, Mi.k_isi2, Mi.k_seqI_l, Mi.k_seqI_t, Mi.k_r1, Mi.k_r2, Mi.k_r22, Mi.k_z, Mi.k_z2l, Mi.k_z2t, Mi.k_lr1, Mi.k_lr2, Mi.k_lr22, Mi.k_comp, Mi.k_comp2, Mi.k_body_rt, Mi.k_body_nx, Mi.v_add_t, Mi.v_cat, Mi.v_rep, Mi.v_mul, Mi.v_div, Mi.v_mod, Mi.v_pow, Mi.v_neg, Mi.v_lt, Mi.v_le, Mi.v_gt, Mi.v_ge, Mi.v_bD, Mi.v_ne, Mi.v_eqI, Mi.v_eqB, Mi.v_isN_n, Mi.v_isN_i, Mi.v_isN_t, Mi.v_isnt, Mi.v_ix_l, Mi.v_ix_t, Mi.v_ix_s, Mi.v_len_l, Mi.v_len_t, Mi.v_len_s, Mi.v_max2, Mi.v_min2, Mi.v_tup_l, Mi.v_lst_t, Mi.v_all, Mi.v_sum, Mi.b_nm, Mi.b_tp, Mi.b_cons, Mi.b_nil, Mi.D.int, Mi.D.bool, Mi.D.tup, Mi.D.lst, Mi.D.non, Mi.wipeE, List.map_cons, List.map_nil, List.length_cons, List.length_nil, List.cons_append, List.nil_append, List.getElem?_cons_zero, List.getElem?_cons_succ, List.set_cons_zero, List.set_cons_succ, Option.map_some, Option.bind_some, decide_eq_true_eq, ↓reduceIte, Nat.reduceAdd, Nat.reduceSub, Mi.atI0, Mi.atI1, Mi.atI2, Mi.ixN0, Mi.ixN1, Bool.not_true, Bool.not_false, Bool.false_eq_true, decide_true, decide_false, Mi.q_ext, Mi.k_ext, Mi.extR_l, Mi.k_sl3TL, Mi.q_zX, Mi.k_ztl, Mi.k_zlt], by
      have ih := same_refl S i x (tame_mem ta hx) (by have := wide_mem hx; simp only [wideD] at w; omega) (by have := dep_mem hx; simp only [dep] at h; omega)
      simp only [Mi.wE_ok, Mi.bind_k, Mi.bind_b, Mi.bind_ite, Mi.optR_some, Mi.addF_int, Mi.int2_int, Mi.intB_int, Mi.q_seq, Mi.q_set, Mi.q_nil, Mi.q_drop, Mi.q_ret, Mi.q_if, Mi.q_brk, Mi.q_cnt, Mi.q_bad, Mi.q_asg, Mi.q_par, Mi.q_par3, Mi.q_app, Mi.q_put, Mi.q_putR, Mi.q_for, Mi.q_var, Mi.varR_some, Mi.q_con, Mi.q_bin, Mi.q_binS, Mi.q_bb, Mi.q_un, Mi.q_and, Mi.q_or, Mi.q_not, Mi.q_ife, Mi.q_band, Mi.q_bor, Mi.q_bnot, Mi.q_val, Mi.q_true, Mi.q_chn, Mi.q_anil, Mi.q_acons, Mi.q_tup, Mi.q_lst, Mi.q_lstR, Mi.q_none, Mi.q_some, Mi.q_sl, Mi.q_blt, Mi.q_isi, Mi.q_isi2, Mi.q_iseq, Mi.q_r1, Mi.q_r2, Mi.q_z, Mi.q_lr1, Mi.q_lr2, Mi.q_comp, Mi.q_call, Mi.k_seq_nx, Mi.k_seq_rt, Mi.k_seq_bk, Mi.k_seq_ct, Mi.k_set, Mi.k_drop, Mi.k_ret, Mi.k_if, Mi.k_asg, Mi.asgR_some, Mi.k_par, Mi.k_par3, Mi.k_app, Mi.appR_l, Mi.k_putR, Mi.k_putR2, Mi.putR2_ref, Mi.k_for, Mi.k_bin, Mi.k_bin2, Mi.k_binS, Mi.k_binS2, Mi.k_bb, Mi.k_bb2, Mi.optB_some, Mi.k_un, Mi.k_and_t, Mi.k_and_f, Mi.k_or_t, Mi.k_or_f, Mi.k_not, Mi.k_ife, Mi.k_band, Mi.k_bor, Mi.k_bnot, Mi.k_val, Mi.k_chn, Mi.k_chn2, Mi.k_chn3, Mi.k_cons, Mi.k_cons2, Mi.k_tup, Mi.k_lst, Mi.k_lstR, Mi.lstR_some, Mi.pys_nil, Mi.pys_cons, Mi.k_some_i, Mi.k_some_n, Mi.k_sl, Mi.k_sl2, Mi.k_sl3T, Mi.k_sl3L, Mi.k_blt, Mi.k_isi, Mi.k_isi2, Mi.k_seqI_l, Mi.k_seqI_t, Mi.k_r1, Mi.k_r2, Mi.k_r22, Mi.k_z, Mi.k_z2l, Mi.k_z2t, Mi.k_lr1, Mi.k_lr2, Mi.k_lr22, Mi.k_comp, Mi.k_comp2, Mi.k_body_rt, Mi.k_body_nx, Mi.v_add_t, Mi.v_cat, Mi.v_rep, Mi.v_mul, Mi.v_div, Mi.v_mod, Mi.v_pow, Mi.v_neg, Mi.v_lt, Mi.v_le, Mi.v_gt, Mi.v_ge, Mi.v_bD, Mi.v_ne, Mi.v_eqI, Mi.v_eqB, Mi.v_isN_n, Mi.v_isN_i, Mi.v_isN_t, Mi.v_isnt, Mi.v_ix_l, Mi.v_ix_t, Mi.v_ix_s, Mi.v_len_l, Mi.v_len_t, Mi.v_len_s, Mi.v_max2, Mi.v_min2, Mi.v_tup_l, Mi.v_lst_t, Mi.v_all, Mi.v_sum, Mi.b_nm, Mi.b_tp, Mi.b_cons, Mi.b_nil, Mi.D.int, Mi.D.bool, Mi.D.tup, Mi.D.lst, Mi.D.non, Mi.wipeE, List.map_cons, List.map_nil, List.length_cons, List.length_nil, List.cons_append, List.nil_append, List.getElem?_cons_zero, List.getElem?_cons_succ, List.set_cons_zero, List.set_cons_succ, Option.map_some, Option.bind_some, decide_eq_true_eq, ↓reduceIte, Nat.reduceAdd, Nat.reduceSub, Mi.atI0, Mi.atI1, Mi.atI2, Mi.ixN0, Mi.ixN1, Bool.not_true, Bool.not_false, Bool.false_eq_true, decide_true, decide_false, Mi.q_ext, Mi.k_ext, Mi.extR_l, Mi.k_sl3TL, Mi.q_zX, Mi.k_ztl, Mi.k_zlt, ih]⟩)
    rw [u__law_same, m__law_same]
    simp only [Mi.wE_ok, Mi.bind_k, Mi.bind_b, Mi.bind_ite, Mi.optR_some, Mi.addF_int, Mi.int2_int, Mi.intB_int, Mi.q_seq, Mi.q_set, Mi.q_nil, Mi.q_drop, Mi.q_ret, Mi.q_if, Mi.q_brk, Mi.q_cnt, Mi.q_bad, Mi.q_asg, Mi.q_par, Mi.q_par3, Mi.q_app, Mi.q_put, Mi.q_putR, Mi.q_for, Mi.q_var, Mi.varR_some, Mi.q_con, Mi.q_bin, Mi.q_binS, Mi.q_bb, Mi.q_un, Mi.q_and, Mi.q_or, Mi.q_not, Mi.q_ife, Mi.q_band, Mi.q_bor, Mi.q_bnot, Mi.q_val, Mi.q_true, Mi.q_chn, Mi.q_anil, Mi.q_acons, Mi.q_tup, Mi.q_lst, Mi.q_lstR, Mi.q_none, Mi.q_some, Mi.q_sl, Mi.q_blt, Mi.q_isi, Mi.q_isi2, Mi.q_iseq, Mi.q_r1, Mi.q_r2, Mi.q_z, Mi.q_lr1, Mi.q_lr2, Mi.q_comp, Mi.q_call, Mi.k_seq_nx, Mi.k_seq_rt, Mi.k_seq_bk, Mi.k_seq_ct, Mi.k_set, Mi.k_drop, Mi.k_ret, Mi.k_if, Mi.k_asg, Mi.asgR_some, Mi.k_par, Mi.k_par3, Mi.k_app, Mi.appR_l, Mi.k_putR, Mi.k_putR2, Mi.putR2_ref, Mi.k_for, Mi.k_bin, Mi.k_bin2, Mi.k_binS, Mi.k_binS2, Mi.k_bb, Mi.k_bb2, Mi.optB_some, Mi.k_un, Mi.k_and_t, Mi.k_and_f, Mi.k_or_t, Mi.k_or_f, Mi.k_not, Mi.k_ife, Mi.k_band, Mi.k_bor, Mi.k_bnot, Mi.k_val, Mi.k_chn, Mi.k_chn2, Mi.k_chn3, Mi.k_cons, Mi.k_cons2, Mi.k_tup, Mi.k_lst, Mi.k_lstR, Mi.lstR_some, Mi.pys_nil, Mi.pys_cons, Mi.k_some_i, Mi.k_some_n, Mi.k_sl, Mi.k_sl2, Mi.k_sl3T, Mi.k_sl3L, Mi.k_blt, Mi.k_isi, Mi.k_isi2, Mi.k_seqI_l, Mi.k_seqI_t, Mi.k_r1, Mi.k_r2, Mi.k_r22, Mi.k_z, Mi.k_z2l, Mi.k_z2t, Mi.k_lr1, Mi.k_lr2, Mi.k_lr22, Mi.k_comp, Mi.k_comp2, Mi.k_body_rt, Mi.k_body_nx, Mi.v_add_t, Mi.v_cat, Mi.v_rep, Mi.v_mul, Mi.v_div, Mi.v_mod, Mi.v_pow, Mi.v_neg, Mi.v_lt, Mi.v_le, Mi.v_gt, Mi.v_ge, Mi.v_bD, Mi.v_ne, Mi.v_eqI, Mi.v_eqB, Mi.v_isN_n, Mi.v_isN_i, Mi.v_isN_t, Mi.v_isnt, Mi.v_ix_l, Mi.v_ix_t, Mi.v_ix_s, Mi.v_len_l, Mi.v_len_t, Mi.v_len_s, Mi.v_max2, Mi.v_min2, Mi.v_tup_l, Mi.v_lst_t, Mi.v_all, Mi.v_sum, Mi.b_nm, Mi.b_tp, Mi.b_cons, Mi.b_nil, Mi.D.int, Mi.D.bool, Mi.D.tup, Mi.D.lst, Mi.D.non, Mi.wipeE, List.map_cons, List.map_nil, List.length_cons, List.length_nil, List.cons_append, List.nil_append, List.getElem?_cons_zero, List.getElem?_cons_succ, List.set_cons_zero, List.set_cons_succ, Option.map_some, Option.bind_some, decide_eq_true_eq, ↓reduceIte, Nat.reduceAdd, Nat.reduceSub, Mi.atI0, Mi.atI1, Mi.atI2, Mi.ixN0, Mi.ixN1, Bool.not_true, Bool.not_false, Bool.false_eq_true, decide_true, decide_false, Mi.q_ext, Mi.k_ext, Mi.extR_l, Mi.k_sl3TL, Mi.q_zX, Mi.k_ztl, Mi.k_zlt, show (isT "tuple" (tyN (D.p (PyData.tuple ds))) || isT "list" (tyN (D.p (PyData.tuple ds)))) = true from rfl, beq_self_eq_true, pairs_self, List.length_map, hl, hc, all_true, all_true2]
  | i + 1, .list ds, t, w, h => by
    have ta : tameAll ds = true := by simpa only [tame] using t
    have hl : ds.length ≤ lim := by
      have := wide_len ds
      simp only [wideD] at w
      rw [lim_v]
      omega
    have hc := fun r0 r1 => compL_pure (p := .tp [.nm 2, .nm 3]) (elt := eCall (c__law_same i) (aCons (eVar 2) (aCons (eVar 3) aNil))) (ro := [some r0, some r1, none, none]) (S := S) (fun x => D.p (PyData.tuple [x, x])) (fun _ => .bool true) ds (fun x hx => ⟨[some r0, some r1, some (.p x), some (.p x)], by simp only [Mi.wE_ok, Mi.bind_k, Mi.bind_b, Mi.bind_ite, Mi.optR_some, Mi.addF_int, Mi.int2_int, Mi.intB_int, Mi.q_seq, Mi.q_set, Mi.q_nil, Mi.q_drop, Mi.q_ret, Mi.q_if, Mi.q_brk, Mi.q_cnt, Mi.q_bad, Mi.q_asg, Mi.q_par, Mi.q_par3, Mi.q_app, Mi.q_put, Mi.q_putR, Mi.q_for, Mi.q_var, Mi.varR_some, Mi.q_con, Mi.q_bin, Mi.q_binS, Mi.q_bb, Mi.q_un, Mi.q_and, Mi.q_or, Mi.q_not, Mi.q_ife, Mi.q_band, Mi.q_bor, Mi.q_bnot, Mi.q_val, Mi.q_true, Mi.q_chn, Mi.q_anil, Mi.q_acons, Mi.q_tup, Mi.q_lst, Mi.q_lstR, Mi.q_none, Mi.q_some, Mi.q_sl, Mi.q_blt, Mi.q_isi, Mi.q_isi2, Mi.q_iseq, Mi.q_r1, Mi.q_r2, Mi.q_z, Mi.q_lr1, Mi.q_lr2, Mi.q_comp, Mi.q_call, Mi.k_seq_nx, Mi.k_seq_rt, Mi.k_seq_bk, Mi.k_seq_ct, Mi.k_set, Mi.k_drop, Mi.k_ret, Mi.k_if, Mi.k_asg, Mi.asgR_some, Mi.k_par, Mi.k_par3, Mi.k_app, Mi.appR_l, Mi.k_putR, Mi.k_putR2, Mi.putR2_ref, Mi.k_for, Mi.k_bin, Mi.k_bin2, Mi.k_binS, Mi.k_binS2, Mi.k_bb, Mi.k_bb2, Mi.optB_some, Mi.k_un, Mi.k_and_t, Mi.k_and_f, Mi.k_or_t, Mi.k_or_f, Mi.k_not, Mi.k_ife, Mi.k_band, Mi.k_bor, Mi.k_bnot, Mi.k_val, Mi.k_chn, Mi.k_chn2, Mi.k_chn3, Mi.k_cons, Mi.k_cons2, Mi.k_tup, Mi.k_lst, Mi.k_lstR, Mi.lstR_some, Mi.pys_nil, Mi.pys_cons, Mi.k_some_i, Mi.k_some_n, Mi.k_sl, Mi.k_sl2, Mi.k_sl3T, Mi.k_sl3L, Mi.k_blt, Mi.k_isi, Mi.k_isi2, Mi.k_seqI_l, Mi.k_seqI_t, Mi.k_r1, Mi.k_r2, Mi.k_r22, Mi.k_z, Mi.k_z2l, Mi.k_z2t, Mi.k_lr1, Mi.k_lr2, Mi.k_lr22, Mi.k_comp, Mi.k_comp2, Mi.k_body_rt, Mi.k_body_nx, Mi.v_add_t, Mi.v_cat, Mi.v_rep, Mi.v_mul, Mi.v_div, Mi.v_mod, Mi.v_pow, Mi.v_neg, Mi.v_lt, Mi.v_le, Mi.v_gt, Mi.v_ge, Mi.v_bD, Mi.v_ne, Mi.v_eqI, Mi.v_eqB, Mi.v_isN_n, Mi.v_isN_i, Mi.v_isN_t, Mi.v_isnt, Mi.v_ix_l, Mi.v_ix_t, Mi.v_ix_s, Mi.v_len_l, Mi.v_len_t, Mi.v_len_s, Mi.v_max2, Mi.v_min2, Mi.v_tup_l, Mi.v_lst_t, Mi.v_all, Mi.v_sum, Mi.b_nm, Mi.b_tp, Mi.b_cons, Mi.b_nil, Mi.D.int, Mi.D.bool, Mi.D.tup, Mi.D.lst, Mi.D.non, Mi.wipeE, List.map_cons, List.map_nil, List.length_cons, List.length_nil, List.cons_append, List.nil_append, List.getElem?_cons_zero, List.getElem?_cons_succ, List.set_cons_zero, List.set_cons_succ, Option.map_some, Option.bind_some, decide_eq_true_eq, ↓reduceIte, Nat.reduceAdd, Nat.reduceSub, Mi.atI0, Mi.atI1, Mi.atI2, Mi.ixN0, Mi.ixN1, Bool.not_true, Bool.not_false, Bool.false_eq_true, decide_true, decide_false, Mi.q_ext, Mi.k_ext, Mi.extR_l, Mi.k_sl3TL, Mi.q_zX, Mi.k_ztl, Mi.k_zlt], by
      have ih := same_refl S i x (tame_mem ta hx) (by have := wide_mem hx; simp only [wideD] at w; omega) (by have := dep_mem hx; simp only [dep] at h; omega)
      simp only [Mi.wE_ok, Mi.bind_k, Mi.bind_b, Mi.bind_ite, Mi.optR_some, Mi.addF_int, Mi.int2_int, Mi.intB_int, Mi.q_seq, Mi.q_set, Mi.q_nil, Mi.q_drop, Mi.q_ret, Mi.q_if, Mi.q_brk, Mi.q_cnt, Mi.q_bad, Mi.q_asg, Mi.q_par, Mi.q_par3, Mi.q_app, Mi.q_put, Mi.q_putR, Mi.q_for, Mi.q_var, Mi.varR_some, Mi.q_con, Mi.q_bin, Mi.q_binS, Mi.q_bb, Mi.q_un, Mi.q_and, Mi.q_or, Mi.q_not, Mi.q_ife, Mi.q_band, Mi.q_bor, Mi.q_bnot, Mi.q_val, Mi.q_true, Mi.q_chn, Mi.q_anil, Mi.q_acons, Mi.q_tup, Mi.q_lst, Mi.q_lstR, Mi.q_none, Mi.q_some, Mi.q_sl, Mi.q_blt, Mi.q_isi, Mi.q_isi2, Mi.q_iseq, Mi.q_r1, Mi.q_r2, Mi.q_z, Mi.q_lr1, Mi.q_lr2, Mi.q_comp, Mi.q_call, Mi.k_seq_nx, Mi.k_seq_rt, Mi.k_seq_bk, Mi.k_seq_ct, Mi.k_set, Mi.k_drop, Mi.k_ret, Mi.k_if, Mi.k_asg, Mi.asgR_some, Mi.k_par, Mi.k_par3, Mi.k_app, Mi.appR_l, Mi.k_putR, Mi.k_putR2, Mi.putR2_ref, Mi.k_for, Mi.k_bin, Mi.k_bin2, Mi.k_binS, Mi.k_binS2, Mi.k_bb, Mi.k_bb2, Mi.optB_some, Mi.k_un, Mi.k_and_t, Mi.k_and_f, Mi.k_or_t, Mi.k_or_f, Mi.k_not, Mi.k_ife, Mi.k_band, Mi.k_bor, Mi.k_bnot, Mi.k_val, Mi.k_chn, Mi.k_chn2, Mi.k_chn3, Mi.k_cons, Mi.k_cons2, Mi.k_tup, Mi.k_lst, Mi.k_lstR, Mi.lstR_some, Mi.pys_nil, Mi.pys_cons, Mi.k_some_i, Mi.k_some_n, Mi.k_sl, Mi.k_sl2, Mi.k_sl3T, Mi.k_sl3L, Mi.k_blt, Mi.k_isi, Mi.k_isi2, Mi.k_seqI_l, Mi.k_seqI_t, Mi.k_r1, Mi.k_r2, Mi.k_r22, Mi.k_z, Mi.k_z2l, Mi.k_z2t, Mi.k_lr1, Mi.k_lr2, Mi.k_lr22, Mi.k_comp, Mi.k_comp2, Mi.k_body_rt, Mi.k_body_nx, Mi.v_add_t, Mi.v_cat, Mi.v_rep, Mi.v_mul, Mi.v_div, Mi.v_mod, Mi.v_pow, Mi.v_neg, Mi.v_lt, Mi.v_le, Mi.v_gt, Mi.v_ge, Mi.v_bD, Mi.v_ne, Mi.v_eqI, Mi.v_eqB, Mi.v_isN_n, Mi.v_isN_i, Mi.v_isN_t, Mi.v_isnt, Mi.v_ix_l, Mi.v_ix_t, Mi.v_ix_s, Mi.v_len_l, Mi.v_len_t, Mi.v_len_s, Mi.v_max2, Mi.v_min2, Mi.v_tup_l, Mi.v_lst_t, Mi.v_all, Mi.v_sum, Mi.b_nm, Mi.b_tp, Mi.b_cons, Mi.b_nil, Mi.D.int, Mi.D.bool, Mi.D.tup, Mi.D.lst, Mi.D.non, Mi.wipeE, List.map_cons, List.map_nil, List.length_cons, List.length_nil, List.cons_append, List.nil_append, List.getElem?_cons_zero, List.getElem?_cons_succ, List.set_cons_zero, List.set_cons_succ, Option.map_some, Option.bind_some, decide_eq_true_eq, ↓reduceIte, Nat.reduceAdd, Nat.reduceSub, Mi.atI0, Mi.atI1, Mi.atI2, Mi.ixN0, Mi.ixN1, Bool.not_true, Bool.not_false, Bool.false_eq_true, decide_true, decide_false, Mi.q_ext, Mi.k_ext, Mi.extR_l, Mi.k_sl3TL, Mi.q_zX, Mi.k_ztl, Mi.k_zlt, ih]⟩)
    rw [u__law_same, m__law_same]
    simp only [Mi.wE_ok, Mi.bind_k, Mi.bind_b, Mi.bind_ite, Mi.optR_some, Mi.addF_int, Mi.int2_int, Mi.intB_int, Mi.q_seq, Mi.q_set, Mi.q_nil, Mi.q_drop, Mi.q_ret, Mi.q_if, Mi.q_brk, Mi.q_cnt, Mi.q_bad, Mi.q_asg, Mi.q_par, Mi.q_par3, Mi.q_app, Mi.q_put, Mi.q_putR, Mi.q_for, Mi.q_var, Mi.varR_some, Mi.q_con, Mi.q_bin, Mi.q_binS, Mi.q_bb, Mi.q_un, Mi.q_and, Mi.q_or, Mi.q_not, Mi.q_ife, Mi.q_band, Mi.q_bor, Mi.q_bnot, Mi.q_val, Mi.q_true, Mi.q_chn, Mi.q_anil, Mi.q_acons, Mi.q_tup, Mi.q_lst, Mi.q_lstR, Mi.q_none, Mi.q_some, Mi.q_sl, Mi.q_blt, Mi.q_isi, Mi.q_isi2, Mi.q_iseq, Mi.q_r1, Mi.q_r2, Mi.q_z, Mi.q_lr1, Mi.q_lr2, Mi.q_comp, Mi.q_call, Mi.k_seq_nx, Mi.k_seq_rt, Mi.k_seq_bk, Mi.k_seq_ct, Mi.k_set, Mi.k_drop, Mi.k_ret, Mi.k_if, Mi.k_asg, Mi.asgR_some, Mi.k_par, Mi.k_par3, Mi.k_app, Mi.appR_l, Mi.k_putR, Mi.k_putR2, Mi.putR2_ref, Mi.k_for, Mi.k_bin, Mi.k_bin2, Mi.k_binS, Mi.k_binS2, Mi.k_bb, Mi.k_bb2, Mi.optB_some, Mi.k_un, Mi.k_and_t, Mi.k_and_f, Mi.k_or_t, Mi.k_or_f, Mi.k_not, Mi.k_ife, Mi.k_band, Mi.k_bor, Mi.k_bnot, Mi.k_val, Mi.k_chn, Mi.k_chn2, Mi.k_chn3, Mi.k_cons, Mi.k_cons2, Mi.k_tup, Mi.k_lst, Mi.k_lstR, Mi.lstR_some, Mi.pys_nil, Mi.pys_cons, Mi.k_some_i, Mi.k_some_n, Mi.k_sl, Mi.k_sl2, Mi.k_sl3T, Mi.k_sl3L, Mi.k_blt, Mi.k_isi, Mi.k_isi2, Mi.k_seqI_l, Mi.k_seqI_t, Mi.k_r1, Mi.k_r2, Mi.k_r22, Mi.k_z, Mi.k_z2l, Mi.k_z2t, Mi.k_lr1, Mi.k_lr2, Mi.k_lr22, Mi.k_comp, Mi.k_comp2, Mi.k_body_rt, Mi.k_body_nx, Mi.v_add_t, Mi.v_cat, Mi.v_rep, Mi.v_mul, Mi.v_div, Mi.v_mod, Mi.v_pow, Mi.v_neg, Mi.v_lt, Mi.v_le, Mi.v_gt, Mi.v_ge, Mi.v_bD, Mi.v_ne, Mi.v_eqI, Mi.v_eqB, Mi.v_isN_n, Mi.v_isN_i, Mi.v_isN_t, Mi.v_isnt, Mi.v_ix_l, Mi.v_ix_t, Mi.v_ix_s, Mi.v_len_l, Mi.v_len_t, Mi.v_len_s, Mi.v_max2, Mi.v_min2, Mi.v_tup_l, Mi.v_lst_t, Mi.v_all, Mi.v_sum, Mi.b_nm, Mi.b_tp, Mi.b_cons, Mi.b_nil, Mi.D.int, Mi.D.bool, Mi.D.tup, Mi.D.lst, Mi.D.non, Mi.wipeE, List.map_cons, List.map_nil, List.length_cons, List.length_nil, List.cons_append, List.nil_append, List.getElem?_cons_zero, List.getElem?_cons_succ, List.set_cons_zero, List.set_cons_succ, Option.map_some, Option.bind_some, decide_eq_true_eq, ↓reduceIte, Nat.reduceAdd, Nat.reduceSub, Mi.atI0, Mi.atI1, Mi.atI2, Mi.ixN0, Mi.ixN1, Bool.not_true, Bool.not_false, Bool.false_eq_true, decide_true, decide_false, Mi.q_ext, Mi.k_ext, Mi.extR_l, Mi.k_sl3TL, Mi.q_zX, Mi.k_ztl, Mi.k_zlt, show (isT "tuple" (tyN (D.p (PyData.list ds))) || isT "list" (tyN (D.p (PyData.list ds)))) = true from rfl, beq_self_eq_true, pairs_self, List.length_map, hl, hc, all_true, all_true2]
theorem e_holds_of (rows : List Row) (hl : rows.length ≤ 1000) (S : Store) : c_holds_of [.p (.tuple (rows.map encR))] S = .ok (.p (.int (holds rows))) S := by
  rw [u_holds_of, m_holds_of]
  have h1 : ((rows.map encR).map D.p).length ≤ lim := by rw [List.length_map, List.length_map, lim_v]; omega
  have h2 := fun x => compL_enc (p := .nm 1) (elt := eBinS idxF (eVar 1) (eCon (.p (.int 1)))) (ro := [some x, none]) (S := S) encR (fun r => .int r.2) rows (fun r _ => ⟨_, b_nm, by simp only [encR, Mi.wE_ok, Mi.bind_k, Mi.bind_b, Mi.bind_ite, Mi.optR_some, Mi.addF_int, Mi.int2_int, Mi.intB_int, Mi.q_seq, Mi.q_set, Mi.q_nil, Mi.q_drop, Mi.q_ret, Mi.q_if, Mi.q_brk, Mi.q_cnt, Mi.q_bad, Mi.q_asg, Mi.q_par, Mi.q_par3, Mi.q_app, Mi.q_put, Mi.q_putR, Mi.q_for, Mi.q_var, Mi.varR_some, Mi.q_con, Mi.q_bin, Mi.q_binS, Mi.q_bb, Mi.q_un, Mi.q_and, Mi.q_or, Mi.q_not, Mi.q_ife, Mi.q_band, Mi.q_bor, Mi.q_bnot, Mi.q_val, Mi.q_true, Mi.q_chn, Mi.q_anil, Mi.q_acons, Mi.q_tup, Mi.q_lst, Mi.q_lstR, Mi.q_none, Mi.q_some, Mi.q_sl, Mi.q_blt, Mi.q_isi, Mi.q_isi2, Mi.q_iseq, Mi.q_r1, Mi.q_r2, Mi.q_z, Mi.q_lr1, Mi.q_lr2, Mi.q_comp, Mi.q_call, Mi.k_seq_nx, Mi.k_seq_rt, Mi.k_seq_bk, Mi.k_seq_ct, Mi.k_set, Mi.k_drop, Mi.k_ret, Mi.k_if, Mi.k_asg, Mi.asgR_some, Mi.k_par, Mi.k_par3, Mi.k_app, Mi.appR_l, Mi.k_putR, Mi.k_putR2, Mi.putR2_ref, Mi.k_for, Mi.k_bin, Mi.k_bin2, Mi.k_binS, Mi.k_binS2, Mi.k_bb, Mi.k_bb2, Mi.optB_some, Mi.k_un, Mi.k_and_t, Mi.k_and_f, Mi.k_or_t, Mi.k_or_f, Mi.k_not, Mi.k_ife, Mi.k_band, Mi.k_bor, Mi.k_bnot, Mi.k_val, Mi.k_chn, Mi.k_chn2, Mi.k_chn3, Mi.k_cons, Mi.k_cons2, Mi.k_tup, Mi.k_lst, Mi.k_lstR, Mi.lstR_some, Mi.pys_nil, Mi.pys_cons, Mi.k_some_i, Mi.k_some_n, Mi.k_sl, Mi.k_sl2, Mi.k_sl3T, Mi.k_sl3L, Mi.k_blt, Mi.k_isi, Mi.k_isi2, Mi.k_seqI_l, Mi.k_seqI_t, Mi.k_r1, Mi.k_r2, Mi.k_r22, Mi.k_z, Mi.k_z2l, Mi.k_z2t, Mi.k_lr1, Mi.k_lr2, Mi.k_lr22, Mi.k_comp, Mi.k_comp2, Mi.k_body_rt, Mi.k_body_nx, Mi.v_add_t, Mi.v_cat, Mi.v_rep, Mi.v_mul, Mi.v_div, Mi.v_mod, Mi.v_pow, Mi.v_neg, Mi.v_lt, Mi.v_le, Mi.v_gt, Mi.v_ge, Mi.v_bD, Mi.v_ne, Mi.v_eqI, Mi.v_eqB, Mi.v_isN_n, Mi.v_isN_i, Mi.v_isN_t, Mi.v_isnt, Mi.v_ix_l, Mi.v_ix_t, Mi.v_ix_s, Mi.v_len_l, Mi.v_len_t, Mi.v_len_s, Mi.v_max2, Mi.v_min2, Mi.v_tup_l, Mi.v_lst_t, Mi.v_all, Mi.v_sum, Mi.b_nm, Mi.b_tp, Mi.b_cons, Mi.b_nil, Mi.D.int, Mi.D.bool, Mi.D.tup, Mi.D.lst, Mi.D.non, Mi.wipeE, List.map_cons, List.map_nil, List.length_cons, List.length_nil, List.cons_append, List.nil_append, List.getElem?_cons_zero, List.getElem?_cons_succ, List.set_cons_zero, List.set_cons_succ, Option.map_some, Option.bind_some, decide_eq_true_eq, ↓reduceIte, Nat.reduceAdd, Nat.reduceSub, Mi.atI0, Mi.atI1, Mi.atI2, Mi.ixN0, Mi.ixN1, Bool.not_true, Bool.not_false, Bool.false_eq_true, decide_true, decide_false, Mi.q_ext, Mi.k_ext, Mi.extR_l, Mi.k_sl3TL, Mi.q_zX, Mi.k_ztl, Mi.k_zlt]⟩)
  simp only [Mi.wE_ok, Mi.bind_k, Mi.bind_b, Mi.bind_ite, Mi.optR_some, Mi.addF_int, Mi.int2_int, Mi.intB_int, Mi.q_seq, Mi.q_set, Mi.q_nil, Mi.q_drop, Mi.q_ret, Mi.q_if, Mi.q_brk, Mi.q_cnt, Mi.q_bad, Mi.q_asg, Mi.q_par, Mi.q_par3, Mi.q_app, Mi.q_put, Mi.q_putR, Mi.q_for, Mi.q_var, Mi.varR_some, Mi.q_con, Mi.q_bin, Mi.q_binS, Mi.q_bb, Mi.q_un, Mi.q_and, Mi.q_or, Mi.q_not, Mi.q_ife, Mi.q_band, Mi.q_bor, Mi.q_bnot, Mi.q_val, Mi.q_true, Mi.q_chn, Mi.q_anil, Mi.q_acons, Mi.q_tup, Mi.q_lst, Mi.q_lstR, Mi.q_none, Mi.q_some, Mi.q_sl, Mi.q_blt, Mi.q_isi, Mi.q_isi2, Mi.q_iseq, Mi.q_r1, Mi.q_r2, Mi.q_z, Mi.q_lr1, Mi.q_lr2, Mi.q_comp, Mi.q_call, Mi.k_seq_nx, Mi.k_seq_rt, Mi.k_seq_bk, Mi.k_seq_ct, Mi.k_set, Mi.k_drop, Mi.k_ret, Mi.k_if, Mi.k_asg, Mi.asgR_some, Mi.k_par, Mi.k_par3, Mi.k_app, Mi.appR_l, Mi.k_putR, Mi.k_putR2, Mi.putR2_ref, Mi.k_for, Mi.k_bin, Mi.k_bin2, Mi.k_binS, Mi.k_binS2, Mi.k_bb, Mi.k_bb2, Mi.optB_some, Mi.k_un, Mi.k_and_t, Mi.k_and_f, Mi.k_or_t, Mi.k_or_f, Mi.k_not, Mi.k_ife, Mi.k_band, Mi.k_bor, Mi.k_bnot, Mi.k_val, Mi.k_chn, Mi.k_chn2, Mi.k_chn3, Mi.k_cons, Mi.k_cons2, Mi.k_tup, Mi.k_lst, Mi.k_lstR, Mi.lstR_some, Mi.pys_nil, Mi.pys_cons, Mi.k_some_i, Mi.k_some_n, Mi.k_sl, Mi.k_sl2, Mi.k_sl3T, Mi.k_sl3L, Mi.k_blt, Mi.k_isi, Mi.k_isi2, Mi.k_seqI_l, Mi.k_seqI_t, Mi.k_r1, Mi.k_r2, Mi.k_r22, Mi.k_z, Mi.k_z2l, Mi.k_z2t, Mi.k_lr1, Mi.k_lr2, Mi.k_lr22, Mi.k_comp, Mi.k_comp2, Mi.k_body_rt, Mi.k_body_nx, Mi.v_add_t, Mi.v_cat, Mi.v_rep, Mi.v_mul, Mi.v_div, Mi.v_mod, Mi.v_pow, Mi.v_neg, Mi.v_lt, Mi.v_le, Mi.v_gt, Mi.v_ge, Mi.v_bD, Mi.v_ne, Mi.v_eqI, Mi.v_eqB, Mi.v_isN_n, Mi.v_isN_i, Mi.v_isN_t, Mi.v_isnt, Mi.v_ix_l, Mi.v_ix_t, Mi.v_ix_s, Mi.v_len_l, Mi.v_len_t, Mi.v_len_s, Mi.v_max2, Mi.v_min2, Mi.v_tup_l, Mi.v_lst_t, Mi.v_all, Mi.v_sum, Mi.b_nm, Mi.b_tp, Mi.b_cons, Mi.b_nil, Mi.D.int, Mi.D.bool, Mi.D.tup, Mi.D.lst, Mi.D.non, Mi.wipeE, List.map_cons, List.map_nil, List.length_cons, List.length_nil, List.cons_append, List.nil_append, List.getElem?_cons_zero, List.getElem?_cons_succ, List.set_cons_zero, List.set_cons_succ, Option.map_some, Option.bind_some, decide_eq_true_eq, ↓reduceIte, Nat.reduceAdd, Nat.reduceSub, Mi.atI0, Mi.atI1, Mi.atI2, Mi.ixN0, Mi.ixN1, Bool.not_true, Bool.not_false, Bool.false_eq_true, decide_true, decide_false, Mi.q_ext, Mi.k_ext, Mi.extR_l, Mi.k_sl3TL, Mi.q_zX, Mi.k_ztl, Mi.k_zlt, h1, h2, asInts_mapG]
  rfl
theorem e_look_at_layer {l : Lay} (h : LayOk l) (S : Store) : c_look_at_layer [.p (encL l)] S = .ok (.p .none) S := by
  rw [u_look_at_layer, m_look_at_layer]
  simp only [Mi.wE_ok, Mi.bind_k, Mi.bind_b, Mi.bind_ite, Mi.optR_some, Mi.addF_int, Mi.int2_int, Mi.intB_int, Mi.q_seq, Mi.q_set, Mi.q_nil, Mi.q_drop, Mi.q_ret, Mi.q_if, Mi.q_brk, Mi.q_cnt, Mi.q_bad, Mi.q_asg, Mi.q_par, Mi.q_par3, Mi.q_app, Mi.q_put, Mi.q_putR, Mi.q_for, Mi.q_var, Mi.varR_some, Mi.q_con, Mi.q_bin, Mi.q_binS, Mi.q_bb, Mi.q_un, Mi.q_and, Mi.q_or, Mi.q_not, Mi.q_ife, Mi.q_band, Mi.q_bor, Mi.q_bnot, Mi.q_val, Mi.q_true, Mi.q_chn, Mi.q_anil, Mi.q_acons, Mi.q_tup, Mi.q_lst, Mi.q_lstR, Mi.q_none, Mi.q_some, Mi.q_sl, Mi.q_blt, Mi.q_isi, Mi.q_isi2, Mi.q_iseq, Mi.q_r1, Mi.q_r2, Mi.q_z, Mi.q_lr1, Mi.q_lr2, Mi.q_comp, Mi.q_call, Mi.k_seq_nx, Mi.k_seq_rt, Mi.k_seq_bk, Mi.k_seq_ct, Mi.k_set, Mi.k_drop, Mi.k_ret, Mi.k_if, Mi.k_asg, Mi.asgR_some, Mi.k_par, Mi.k_par3, Mi.k_app, Mi.appR_l, Mi.k_putR, Mi.k_putR2, Mi.putR2_ref, Mi.k_for, Mi.k_bin, Mi.k_bin2, Mi.k_binS, Mi.k_binS2, Mi.k_bb, Mi.k_bb2, Mi.optB_some, Mi.k_un, Mi.k_and_t, Mi.k_and_f, Mi.k_or_t, Mi.k_or_f, Mi.k_not, Mi.k_ife, Mi.k_band, Mi.k_bor, Mi.k_bnot, Mi.k_val, Mi.k_chn, Mi.k_chn2, Mi.k_chn3, Mi.k_cons, Mi.k_cons2, Mi.k_tup, Mi.k_lst, Mi.k_lstR, Mi.lstR_some, Mi.pys_nil, Mi.pys_cons, Mi.k_some_i, Mi.k_some_n, Mi.k_sl, Mi.k_sl2, Mi.k_sl3T, Mi.k_sl3L, Mi.k_blt, Mi.k_isi, Mi.k_isi2, Mi.k_seqI_l, Mi.k_seqI_t, Mi.k_r1, Mi.k_r2, Mi.k_r22, Mi.k_z, Mi.k_z2l, Mi.k_z2t, Mi.k_lr1, Mi.k_lr2, Mi.k_lr22, Mi.k_comp, Mi.k_comp2, Mi.k_body_rt, Mi.k_body_nx, Mi.v_add_t, Mi.v_cat, Mi.v_rep, Mi.v_mul, Mi.v_div, Mi.v_mod, Mi.v_pow, Mi.v_neg, Mi.v_lt, Mi.v_le, Mi.v_gt, Mi.v_ge, Mi.v_bD, Mi.v_ne, Mi.v_eqI, Mi.v_eqB, Mi.v_isN_n, Mi.v_isN_i, Mi.v_isN_t, Mi.v_isnt, Mi.v_ix_l, Mi.v_ix_t, Mi.v_ix_s, Mi.v_len_l, Mi.v_len_t, Mi.v_len_s, Mi.v_max2, Mi.v_min2, Mi.v_tup_l, Mi.v_lst_t, Mi.v_all, Mi.v_sum, Mi.b_nm, Mi.b_tp, Mi.b_cons, Mi.b_nil, Mi.D.int, Mi.D.bool, Mi.D.tup, Mi.D.lst, Mi.D.non, Mi.wipeE, List.map_cons, List.map_nil, List.length_cons, List.length_nil, List.cons_append, List.nil_append, List.getElem?_cons_zero, List.getElem?_cons_succ, List.set_cons_zero, List.set_cons_succ, Option.map_some, Option.bind_some, decide_eq_true_eq, ↓reduceIte, Nat.reduceAdd, Nat.reduceSub, Mi.atI0, Mi.atI1, Mi.atI2, Mi.ixN0, Mi.ixN1, Bool.not_true, Bool.not_false, Bool.false_eq_true, decide_true, decide_false, Mi.q_ext, Mi.k_ext, Mi.extR_l, Mi.k_sl3TL, Mi.q_zX, Mi.k_ztl, Mi.k_zlt, e_is_layer, isLayer_enc h]
/-- .. as laid: the list of the first so many -/
theorem e_laying {l : Lay} (ok : LayOk l) (many : Int) (h0 : 0 ≤ many) (h9 : many ≤ 100000) (S : Store) : ∃ xs : List Int, c__law_laying [.p (encL l), .p (.int many)] S = .ok (.p (.list (xs.map PyData.int))) S ∧ (xs.length : Int) = many ∧ ∀ (i : Nat) (x : Int), xs[i]? = some x → x = dAt l i := by
  rw [u__law_laying, m__law_laying]
  -- what stands at the head of each turn
  let I : Nat → Mi.Env → Store → Prop := fun n ro S2 => S2 = S ∧ ∃ (xs : List Int) (p q : Nat) (z : Option D), ro = [some (.p (encL l)), some (.p (.int many)), some (.p (.tuple (l.rows.map encR))), some (.p (encO l.back)), some (.p (.list (xs.map PyData.int))), some (.p (.int p)), z] ∧
    n = (many - xs.length).toNat ∧ p ≤ l.rows.length ∧ (xs.length : Int) = holds (l.rows.take p) + q * sizeL l ∧ Bk l p q ∧ (∀ (i : Nat) (x : Int), xs[i]? = some x → x = dAt l i) ∧ (xs.length : Int) ≤ many + 24
  -- the row at place p laid
  have lay : ∀ (xs : List Int) (p q : Nat) (z : Option D) (d h : Int), l.rows[p]? = some (d, h) → (xs.length : Int) = holds (l.rows.take p) + q * sizeL l → Bk l p q → (∀ (i : Nat) (x : Int), xs[i]? = some x → x = dAt l i) → (xs.length : Int) < many →
      ∃ z' : Option D, forL (.nm 6) lb__law_laying_0 (intR 0 h.toNat) [some (.p (encL l)), some (.p (.int many)), some (.p (.tuple (l.rows.map encR))), some (.p (encO l.back)), some (.p (.list (xs.map PyData.int))), some (.p (.int p)), z] S =
        .ok (.nx [some (.p (encL l)), some (.p (.int many)), some (.p (.tuple (l.rows.map encR))), some (.p (encO l.back)), some (.p (.list ((xs ++ List.replicate h.toNat d).map PyData.int))), some (.p (.int p)), z']) S ∧
      (∀ (i : Nat) (x : Int), (xs ++ List.replicate h.toNat d)[i]? = some x → x = dAt l i) := by
    intro xs p q z d h hr hx hq hd hm
    obtain ⟨r1, r2, r3, r4⟩ := ok.rows _ (List.mem_of_getElem? hr)
    simp only at r3 r4
    have hix : atI (l.rows.map encR) (p : Int) = some (encR (d, h)) := atI_nat (by rw [List.getElem?_map, hr]; rfl)
    obtain ⟨ro', S', e, rfl, z', rfl⟩ := forL_go (p := .nm 6) (m := lb__law_laying_0) (fun k ro S2 => S2 = S ∧ ∃ z : Option D, ro = [some (.p (encL l)), some (.p (.int many)), some (.p (.tuple (l.rows.map encR))), some (.p (encO l.back)), some (.p (.list ((xs ++ List.replicate k d).map PyData.int))), some (.p (.int p)), z]) (intR 0 h.toNat) (fun k e ro S2 hd hk ⟨eS, z, er⟩ => by
      subst eS er
      rw [intR_len] at hk
      refine ⟨_, b_nm, ?_⟩
      have hlim : ((xs ++ List.replicate k d).map PyData.int).length < lim := by rw [List.length_map, List.length_append, List.length_replicate, lim_v]; omega
      rw [lb__law_laying_0]
      simp only [encR] at hix
      simp only [Mi.wE_ok, Mi.bind_k, Mi.bind_b, Mi.bind_ite, Mi.optR_some, Mi.addF_int, Mi.int2_int, Mi.intB_int, Mi.q_seq, Mi.q_set, Mi.q_nil, Mi.q_drop, Mi.q_ret, Mi.q_if, Mi.q_brk, Mi.q_cnt, Mi.q_bad, Mi.q_asg, Mi.q_par, Mi.q_par3, Mi.q_app, Mi.q_put, Mi.q_putR, Mi.q_for, Mi.q_var, Mi.varR_some, Mi.q_con, Mi.q_bin, Mi.q_binS, Mi.q_bb, Mi.q_un, Mi.q_and, Mi.q_or, Mi.q_not, Mi.q_ife, Mi.q_band, Mi.q_bor, Mi.q_bnot, Mi.q_val, Mi.q_true, Mi.q_chn, Mi.q_anil, Mi.q_acons, Mi.q_tup, Mi.q_lst, Mi.q_lstR, Mi.q_none, Mi.q_some, Mi.q_sl, Mi.q_blt, Mi.q_isi, Mi.q_isi2, Mi.q_iseq, Mi.q_r1, Mi.q_r2, Mi.q_z, Mi.q_lr1, Mi.q_lr2, Mi.q_comp, Mi.q_call, Mi.k_seq_nx, Mi.k_seq_rt, Mi.k_seq_bk, Mi.k_seq_ct, Mi.k_set, Mi.k_drop, Mi.k_ret, Mi.k_if, Mi.k_asg, Mi.asgR_some, Mi.k_par, Mi.k_par3, Mi.k_app, Mi.appR_l, Mi.k_putR, Mi.k_putR2, Mi.putR2_ref, Mi.k_for, Mi.k_bin, Mi.k_bin2, Mi.k_binS, Mi.k_binS2, Mi.k_bb, Mi.k_bb2, Mi.optB_some, Mi.k_un, Mi.k_and_t, Mi.k_and_f, Mi.k_or_t, Mi.k_or_f, Mi.k_not, Mi.k_ife, Mi.k_band, Mi.k_bor, Mi.k_bnot, Mi.k_val, Mi.k_chn, Mi.k_chn2, Mi.k_chn3, Mi.k_cons, Mi.k_cons2, Mi.k_tup, Mi.k_lst, Mi.k_lstR, Mi.lstR_some, Mi.pys_nil, Mi.pys_cons, Mi.k_some_i, Mi.k_some_n, Mi.k_sl, Mi.k_sl2, Mi.k_sl3T, Mi.k_sl3L, Mi.k_blt, Mi.k_isi, Mi.k_isi2, Mi.k_seqI_l, Mi.k_seqI_t, Mi.k_r1, Mi.k_r2, Mi.k_r22, Mi.k_z, Mi.k_z2l, Mi.k_z2t, Mi.k_lr1, Mi.k_lr2, Mi.k_lr22, Mi.k_comp, Mi.k_comp2, Mi.k_body_rt, Mi.k_body_nx, Mi.v_add_t, Mi.v_cat, Mi.v_rep, Mi.v_mul, Mi.v_div, Mi.v_mod, Mi.v_pow, Mi.v_neg, Mi.v_lt, Mi.v_le, Mi.v_gt, Mi.v_ge, Mi.v_bD, Mi.v_ne, Mi.v_eqI, Mi.v_eqB, Mi.v_isN_n, Mi.v_isN_i, Mi.v_isN_t, Mi.v_isnt, Mi.v_ix_l, Mi.v_ix_t, Mi.v_ix_s, Mi.v_len_l, Mi.v_len_t, Mi.v_len_s, Mi.v_max2, Mi.v_min2, Mi.v_tup_l, Mi.v_lst_t, Mi.v_all, Mi.v_sum, Mi.b_nm, Mi.b_tp, Mi.b_cons, Mi.b_nil, Mi.D.int, Mi.D.bool, Mi.D.tup, Mi.D.lst, Mi.D.non, Mi.wipeE, List.map_cons, List.map_nil, List.length_cons, List.length_nil, List.cons_append, List.nil_append, List.getElem?_cons_zero, List.getElem?_cons_succ, List.set_cons_zero, List.set_cons_succ, Option.map_some, Option.bind_some, decide_eq_true_eq, ↓reduceIte, Nat.reduceAdd, Nat.reduceSub, Mi.atI0, Mi.atI1, Mi.atI2, Mi.ixN0, Mi.ixN1, Bool.not_true, Bool.not_false, Bool.false_eq_true, decide_true, decide_false, Mi.q_ext, Mi.k_ext, Mi.extR_l, Mi.k_sl3TL, Mi.q_zX, Mi.k_ztl, Mi.k_zlt, hix, hlim]
      refine ⟨_, _, rfl, rfl, some e, ?_⟩
      rw [List.replicate_succ', ← List.append_assoc, List.map_append (l₂ := [d])]
      rfl) (ro := [some (.p (encL l)), some (.p (.int many)), some (.p (.tuple (l.rows.map encR))), some (.p (encO l.back)), some (.p (.list (xs.map PyData.int))), some (.p (.int p)), z]) (S := S) ⟨rfl, z, by rw [List.replicate_zero, List.append_nil]⟩
    rw [intR_len] at e
    refine ⟨z', e, fun i x hi => ?_⟩
    by_cases hl : i < xs.length
    · rw [List.getElem?_append_left hl] at hi
      exact hd i x hi
    · rw [List.getElem?_append_right (by omega)] at hi
      rw [List.getElem?_replicate] at hi
      split at hi
      · rename_i hlt
        cases hi
        have := dAt_at ok (j := (i : Int) - xs.length) (q := q) hr (by omega) (by omega) hq
        rw [← this]
        congr 1
        omega
      · cases hi
  have fin : ∀ (xs : List Int) , cutG (xs.map PyData.int) none (some many) = (xs.take many.toNat).map PyData.int := by
    intro xs
    have e : (many : Int) = ((many.toNat : Nat) : Int) := by omega
    unfold cutG
    rw [e, HT.sIx_nat, HT.sIx_none, List.drop_zero, List.length_map, Nat.sub_zero, Int.toNat_natCast, List.map_take]
    by_cases h : many.toNat ≤ xs.length
    · rw [Nat.min_eq_left h]
    · rw [Nat.min_eq_right (by omega), List.take_of_length_le (by rw [List.length_map]; omega), List.take_of_length_le (by rw [List.length_map]; omega)]
  obtain ⟨f, S', e, hQ⟩ := wE_ex (while_go (c := bBin ltI (eBlt lenF (aCons (eVar 4) aNil)) (eVar 1)) (m := lb__law_laying_1) I (fun f S2 => S2 = S ∧ ∃ xs : List Int, (∀ (i : Nat) (x : Int), xs[i]? = some x → x = dAt l i) ∧
      ((f = .rt (.p (.list (xs.map PyData.int))) ∧ (xs.length : Int) = many) ∨ ∃ (z5 z6 : Option D), f = .nx [some (.p (encL l)), some (.p (.int many)), some (.p (.tuple (l.rows.map encR))), some (.p (encO l.back)), some (.p (.list (xs.map PyData.int))), z5, z6] ∧ many ≤ xs.length)) (fun n ro S2 hI => by
    obtain ⟨eS, xs, p, q, z, er, hn, hp, hx, hq, hd, hb⟩ := hI
    subst eS er
    by_cases hm : (xs.length : Int) < many
    · refine ⟨true, by simp only [Mi.wE_ok, Mi.bind_k, Mi.bind_b, Mi.bind_ite, Mi.optR_some, Mi.addF_int, Mi.int2_int, Mi.intB_int, Mi.q_seq, Mi.q_set, Mi.q_nil, Mi.q_drop, Mi.q_ret, Mi.q_if, Mi.q_brk, Mi.q_cnt, Mi.q_bad, Mi.q_asg, Mi.q_par, Mi.q_par3, Mi.q_app, Mi.q_put, Mi.q_putR, Mi.q_for, Mi.q_var, Mi.varR_some, Mi.q_con, Mi.q_bin, Mi.q_binS, Mi.q_bb, Mi.q_un, Mi.q_and, Mi.q_or, Mi.q_not, Mi.q_ife, Mi.q_band, Mi.q_bor, Mi.q_bnot, Mi.q_val, Mi.q_true, Mi.q_chn, Mi.q_anil, Mi.q_acons, Mi.q_tup, Mi.q_lst, Mi.q_lstR, Mi.q_none, Mi.q_some, Mi.q_sl, Mi.q_blt, Mi.q_isi, Mi.q_isi2, Mi.q_iseq, Mi.q_r1, Mi.q_r2, Mi.q_z, Mi.q_lr1, Mi.q_lr2, Mi.q_comp, Mi.q_call, Mi.k_seq_nx, Mi.k_seq_rt, Mi.k_seq_bk, Mi.k_seq_ct, Mi.k_set, Mi.k_drop, Mi.k_ret, Mi.k_if, Mi.k_asg, Mi.asgR_some, Mi.k_par, Mi.k_par3, Mi.k_app, Mi.appR_l, Mi.k_putR, Mi.k_putR2, Mi.putR2_ref, Mi.k_for, Mi.k_bin, Mi.k_bin2, Mi.k_binS, Mi.k_binS2, Mi.k_bb, Mi.k_bb2, Mi.optB_some, Mi.k_un, Mi.k_and_t, Mi.k_and_f, Mi.k_or_t, Mi.k_or_f, Mi.k_not, Mi.k_ife, Mi.k_band, Mi.k_bor, Mi.k_bnot, Mi.k_val, Mi.k_chn, Mi.k_chn2, Mi.k_chn3, Mi.k_cons, Mi.k_cons2, Mi.k_tup, Mi.k_lst, Mi.k_lstR, Mi.lstR_some, Mi.pys_nil, Mi.pys_cons, Mi.k_some_i, Mi.k_some_n, Mi.k_sl, Mi.k_sl2, Mi.k_sl3T, Mi.k_sl3L, Mi.k_blt, Mi.k_isi, Mi.k_isi2, Mi.k_seqI_l, Mi.k_seqI_t, Mi.k_r1, Mi.k_r2, Mi.k_r22, Mi.k_z, Mi.k_z2l, Mi.k_z2t, Mi.k_lr1, Mi.k_lr2, Mi.k_lr22, Mi.k_comp, Mi.k_comp2, Mi.k_body_rt, Mi.k_body_nx, Mi.v_add_t, Mi.v_cat, Mi.v_rep, Mi.v_mul, Mi.v_div, Mi.v_mod, Mi.v_pow, Mi.v_neg, Mi.v_lt, Mi.v_le, Mi.v_gt, Mi.v_ge, Mi.v_bD, Mi.v_ne, Mi.v_eqI, Mi.v_eqB, Mi.v_isN_n, Mi.v_isN_i, Mi.v_isN_t, Mi.v_isnt, Mi.v_ix_l, Mi.v_ix_t, Mi.v_ix_s, Mi.v_len_l, Mi.v_len_t, Mi.v_len_s, Mi.v_max2, Mi.v_min2, Mi.v_tup_l, Mi.v_lst_t, Mi.v_all, Mi.v_sum, Mi.b_nm, Mi.b_tp, Mi.b_cons, Mi.b_nil, Mi.D.int, Mi.D.bool, Mi.D.tup, Mi.D.lst, Mi.D.non, Mi.wipeE, List.map_cons, List.map_nil, List.length_cons, List.length_nil, List.cons_append, List.nil_append, List.getElem?_cons_zero, List.getElem?_cons_succ, List.set_cons_zero, List.set_cons_succ, Option.map_some, Option.bind_some, decide_eq_true_eq, ↓reduceIte, Nat.reduceAdd, Nat.reduceSub, Mi.atI0, Mi.atI1, Mi.atI2, Mi.ixN0, Mi.ixN1, Bool.not_true, Bool.not_false, Bool.false_eq_true, decide_true, decide_false, Mi.q_ext, Mi.k_ext, Mi.extR_l, Mi.k_sl3TL, Mi.q_zX, Mi.k_ztl, Mi.k_zlt, List.length_map, hm], fun h => (by cases h), fun _ => ?_⟩
      rw [lb__law_laying_1]
      have sz := size_pos ok
      -- the row at a place that there is
      have go : ∀ (p q : Nat), p < l.rows.length → (xs.length : Int) = holds (l.rows.take p) + q * sizeL l → Bk l p q →
          wE (sSeq (sFor (.nm 6) (iR1 (eBinS idxF (eBinS idxF (eVar 2) (eVar 5)) (eCon (.p (.int 1))))) lb__law_laying_0) (sSet 5 (xAdd (eVar 5) (eCon (.p (.int 1)))))
            [some (.p (encL l)), some (.p (.int many)), some (.p (.tuple (l.rows.map encR))), some (.p (encO l.back)), some (.p (.list (xs.map PyData.int))), some (.p (.int p)), z] S2) fun f S1 => ∃ ro2 n', f = .nx ro2 ∧ n' < n ∧ I n' ro2 S1 := by
        intro p q hp hx hq
        obtain ⟨⟨d, h⟩, hr⟩ : ∃ r, l.rows[p]? = some r := ⟨_, List.getElem?_eq_getElem hp⟩
        obtain ⟨r1, r2, r3, r4⟩ := ok.rows _ (List.mem_of_getElem? hr)
        simp only at r3 r4
        have hix : atI (l.rows.map encR) (p : Int) = some (encR (d, h)) := atI_nat (by rw [List.getElem?_map, hr]; rfl)
        simp only [encR] at hix
        obtain ⟨z', e1, hd'⟩ := lay xs p q z d h hr hx hq hd hm
        have bh : bnd h := bnd_of (by omega) (by omega)
        simp only [Mi.wE_ok, Mi.bind_k, Mi.bind_b, Mi.bind_ite, Mi.optR_some, Mi.addF_int, Mi.int2_int, Mi.intB_int, Mi.q_seq, Mi.q_set, Mi.q_nil, Mi.q_drop, Mi.q_ret, Mi.q_if, Mi.q_brk, Mi.q_cnt, Mi.q_bad, Mi.q_asg, Mi.q_par, Mi.q_par3, Mi.q_app, Mi.q_put, Mi.q_putR, Mi.q_for, Mi.q_var, Mi.varR_some, Mi.q_con, Mi.q_bin, Mi.q_binS, Mi.q_bb, Mi.q_un, Mi.q_and, Mi.q_or, Mi.q_not, Mi.q_ife, Mi.q_band, Mi.q_bor, Mi.q_bnot, Mi.q_val, Mi.q_true, Mi.q_chn, Mi.q_anil, Mi.q_acons, Mi.q_tup, Mi.q_lst, Mi.q_lstR, Mi.q_none, Mi.q_some, Mi.q_sl, Mi.q_blt, Mi.q_isi, Mi.q_isi2, Mi.q_iseq, Mi.q_r1, Mi.q_r2, Mi.q_z, Mi.q_lr1, Mi.q_lr2, Mi.q_comp, Mi.q_call, Mi.k_seq_nx, Mi.k_seq_rt, Mi.k_seq_bk, Mi.k_seq_ct, Mi.k_set, Mi.k_drop, Mi.k_ret, Mi.k_if, Mi.k_asg, Mi.asgR_some, Mi.k_par, Mi.k_par3, Mi.k_app, Mi.appR_l, Mi.k_putR, Mi.k_putR2, Mi.putR2_ref, Mi.k_for, Mi.k_bin, Mi.k_bin2, Mi.k_binS, Mi.k_binS2, Mi.k_bb, Mi.k_bb2, Mi.optB_some, Mi.k_un, Mi.k_and_t, Mi.k_and_f, Mi.k_or_t, Mi.k_or_f, Mi.k_not, Mi.k_ife, Mi.k_band, Mi.k_bor, Mi.k_bnot, Mi.k_val, Mi.k_chn, Mi.k_chn2, Mi.k_chn3, Mi.k_cons, Mi.k_cons2, Mi.k_tup, Mi.k_lst, Mi.k_lstR, Mi.lstR_some, Mi.pys_nil, Mi.pys_cons, Mi.k_some_i, Mi.k_some_n, Mi.k_sl, Mi.k_sl2, Mi.k_sl3T, Mi.k_sl3L, Mi.k_blt, Mi.k_isi, Mi.k_isi2, Mi.k_seqI_l, Mi.k_seqI_t, Mi.k_r1, Mi.k_r2, Mi.k_r22, Mi.k_z, Mi.k_z2l, Mi.k_z2t, Mi.k_lr1, Mi.k_lr2, Mi.k_lr22, Mi.k_comp, Mi.k_comp2, Mi.k_body_rt, Mi.k_body_nx, Mi.v_add_t, Mi.v_cat, Mi.v_rep, Mi.v_mul, Mi.v_div, Mi.v_mod, Mi.v_pow, Mi.v_neg, Mi.v_lt, Mi.v_le, Mi.v_gt, Mi.v_ge, Mi.v_bD, Mi.v_ne, Mi.v_eqI, Mi.v_eqB, Mi.v_isN_n, Mi.v_isN_i, Mi.v_isN_t, Mi.v_isnt, Mi.v_ix_l, Mi.v_ix_t, Mi.v_ix_s, Mi.v_len_l, Mi.v_len_t, Mi.v_len_s, Mi.v_max2, Mi.v_min2, Mi.v_tup_l, Mi.v_lst_t, Mi.v_all, Mi.v_sum, Mi.b_nm, Mi.b_tp, Mi.b_cons, Mi.b_nil, Mi.D.int, Mi.D.bool, Mi.D.tup, Mi.D.lst, Mi.D.non, Mi.wipeE, List.map_cons, List.map_nil, List.length_cons, List.length_nil, List.cons_append, List.nil_append, List.getElem?_cons_zero, List.getElem?_cons_succ, List.set_cons_zero, List.set_cons_succ, Option.map_some, Option.bind_some, decide_eq_true_eq, ↓reduceIte, Nat.reduceAdd, Nat.reduceSub, Mi.atI0, Mi.atI1, Mi.atI2, Mi.ixN0, Mi.ixN1, Bool.not_true, Bool.not_false, Bool.false_eq_true, decide_true, decide_false, Mi.q_ext, Mi.k_ext, Mi.extR_l, Mi.k_sl3TL, Mi.q_zX, Mi.k_ztl, Mi.k_zlt, hix, bh, e1]
        have t1 := holds_take_succ hr
        simp only at t1
        have ll : ((xs ++ List.replicate h.toNat d).length : Int) = xs.length + h := by rw [List.length_append, List.length_replicate]; omega
        refine ⟨_, (many - (xs ++ List.replicate h.toNat d).length).toNat, rfl, by omega, rfl, _, p + 1, q, _, by rw [show ((p + 1 : Nat) : Int) = (p : Int) + 1 by omega], rfl, hp, by rw [ll, t1]; omega, fun h0 => (by obtain ⟨b, h1, h2⟩ := hq h0; exact ⟨b, h1, by omega⟩), hd', by omega⟩
      have go2 : ∀ (p q : Nat), p < l.rows.length → (xs.length : Int) = holds (l.rows.take p) + q * sizeL l → Bk l p q → ∃ ro2 n' S1, sSeq (sFor (.nm 6) (iR1 (eBinS idxF (eBinS idxF (eVar 2) (eVar 5)) (eCon (.p (.int 1))))) lb__law_laying_0) (sSet 5 (xAdd (eVar 5) (eCon (.p (.int 1)))))
            [some (.p (encL l)), some (.p (.int many)), some (.p (.tuple (l.rows.map encR))), some (.p (encO l.back)), some (.p (.list (xs.map PyData.int))), some (.p (.int p)), z] S2 = .ok (.nx ro2) S1 ∧ n' < n ∧ I n' ro2 S1 := by
        intro p q a b c
        obtain ⟨f, S1, e, ro2, n', rfl, h1, h2⟩ := wE_ex (go p q a b c)
        exact ⟨ro2, n', S1, e, h1, h2⟩
      by_cases hpl : p < l.rows.length
      · obtain ⟨ro2, n', S1, e1, h1, h2⟩ := go2 p q hpl hx hq
        have hne : ((p : Int) == (l.rows.length : Int)) = false := by
          rw [beq_eq_false_iff_ne]
          omega
        rw [q_seq]
        rw [show sIf (bBin eqF (eVar 5) (eBlt lenF (aCons (eVar 2) aNil))) (sSeq (sIf (bBin isNF (eVar 3) (eCon (.p .none))) (sRet (xCat (eVar 4) (xRep (eLst (aCons (eCon (.p (.int 0))) aNil)) (xSub (eVar 1) (eBlt lenF (aCons (eVar 4) aNil)))))) sNil) (sSet 5 (eVar 3))) sNil
            [some (.p (encL l)), some (.p (.int many)), some (.p (.tuple (l.rows.map encR))), some (.p (encO l.back)), some (.p (.list (xs.map PyData.int))), some (.p (.int p)), z] S2 = .ok (.nx [some (.p (encL l)), some (.p (.int many)), some (.p (.tuple (l.rows.map encR))), some (.p (encO l.back)), some (.p (.list (xs.map PyData.int))), some (.p (.int p)), z]) S2 by simp only [Mi.wE_ok, Mi.bind_k, Mi.bind_b, Mi.bind_ite, Mi.optR_some, Mi.addF_int, Mi.int2_int, Mi.intB_int, Mi.q_seq, Mi.q_set, Mi.q_nil, Mi.q_drop, Mi.q_ret, Mi.q_if, Mi.q_brk, Mi.q_cnt, Mi.q_bad, Mi.q_asg, Mi.q_par, Mi.q_par3, Mi.q_app, Mi.q_put, Mi.q_putR, Mi.q_for, Mi.q_var, Mi.varR_some, Mi.q_con, Mi.q_bin, Mi.q_binS, Mi.q_bb, Mi.q_un, Mi.q_and, Mi.q_or, Mi.q_not, Mi.q_ife, Mi.q_band, Mi.q_bor, Mi.q_bnot, Mi.q_val, Mi.q_true, Mi.q_chn, Mi.q_anil, Mi.q_acons, Mi.q_tup, Mi.q_lst, Mi.q_lstR, Mi.q_none, Mi.q_some, Mi.q_sl, Mi.q_blt, Mi.q_isi, Mi.q_isi2, Mi.q_iseq, Mi.q_r1, Mi.q_r2, Mi.q_z, Mi.q_lr1, Mi.q_lr2, Mi.q_comp, Mi.q_call, Mi.k_seq_nx, Mi.k_seq_rt, Mi.k_seq_bk, Mi.k_seq_ct, Mi.k_set, Mi.k_drop, Mi.k_ret, Mi.k_if, Mi.k_asg, Mi.asgR_some, Mi.k_par, Mi.k_par3, Mi.k_app, Mi.appR_l, Mi.k_putR, Mi.k_putR2, Mi.putR2_ref, Mi.k_for, Mi.k_bin, Mi.k_bin2, Mi.k_binS, Mi.k_binS2, Mi.k_bb, Mi.k_bb2, Mi.optB_some, Mi.k_un, Mi.k_and_t, Mi.k_and_f, Mi.k_or_t, Mi.k_or_f, Mi.k_not, Mi.k_ife, Mi.k_band, Mi.k_bor, Mi.k_bnot, Mi.k_val, Mi.k_chn, Mi.k_chn2, Mi.k_chn3, Mi.k_cons, Mi.k_cons2, Mi.k_tup, Mi.k_lst, Mi.k_lstR, Mi.lstR_some, Mi.pys_nil, Mi.pys_cons, Mi.k_some_i, Mi.k_some_n, Mi.k_sl, Mi.k_sl2, Mi.k_sl3T, Mi.k_sl3L, Mi.k_blt, Mi.k_isi, Mi.k_isi2, Mi.k_seqI_l, Mi.k_seqI_t, Mi.k_r1, Mi.k_r2, Mi.k_r22, Mi.k_z, Mi.k_z2l, Mi.k_z2t, Mi.k_lr1, Mi.k_lr2, Mi.k_lr22, Mi.k_comp, Mi.k_comp2, Mi.k_body_rt, Mi.k_body_nx, Mi.v_add_t, Mi.v_cat, Mi.v_rep, Mi.v_mul, Mi.v_div, Mi.v_mod, Mi.v_pow, Mi.v_neg, Mi.v_lt, Mi.v_le, Mi.v_gt, Mi.v_ge, Mi.v_bD, Mi.v_ne, Mi.v_eqI, Mi.v_eqB, Mi.v_isN_n, Mi.v_isN_i, Mi.v_isN_t, Mi.v_isnt, Mi.v_ix_l, Mi.v_ix_t, Mi.v_ix_s, Mi.v_len_l, Mi.v_len_t, Mi.v_len_s, Mi.v_max2, Mi.v_min2, Mi.v_tup_l, Mi.v_lst_t, Mi.v_all, Mi.v_sum, Mi.b_nm, Mi.b_tp, Mi.b_cons, Mi.b_nil, Mi.D.int, Mi.D.bool, Mi.D.tup, Mi.D.lst, Mi.D.non, Mi.wipeE, List.map_cons, List.map_nil, List.length_cons, List.length_nil, List.cons_append, List.nil_append, List.getElem?_cons_zero, List.getElem?_cons_succ, List.set_cons_zero, List.set_cons_succ, Option.map_some, Option.bind_some, decide_eq_true_eq, ↓reduceIte, Nat.reduceAdd, Nat.reduceSub, Mi.atI0, Mi.atI1, Mi.atI2, Mi.ixN0, Mi.ixN1, Bool.not_true, Bool.not_false, Bool.false_eq_true, decide_true, decide_false, Mi.q_ext, Mi.k_ext, Mi.extR_l, Mi.k_sl3TL, Mi.q_zX, Mi.k_ztl, Mi.k_zlt, List.length_map, hne], bind_k, k_seq_nx]
        exact wE_of e1 ⟨n', h1, h2⟩
      · have hpe : p = l.rows.length := by omega
        subst hpe
        have heq : ((l.rows.length : Int) == (l.rows.length : Int)) = true := beq_self_eq_true _
        rw [List.take_length] at hx
        cases hb2 : l.back with
        | none =>
          have q0 : q = 0 := by
            cases q with
            | zero => rfl
            | succ q =>
              obtain ⟨b, h1, _⟩ := hq (Nat.succ_pos _)
              rw [hb2] at h1
              cases h1
          subst q0
          have hx0 : (xs.length : Int) = holds l.rows := by simpa using hx
          have c1 : -(2 ^ 63) ≤ many - (xs.length : Int) ∧ many - (xs.length : Int) < 2 ^ 63 ∧ (0 + 1) * (many - (xs.length : Int)).toNat ≤ lim := by rw [lim_v]; omega
          have c2 : xs.length + (many - (xs.length : Int)).toNat ≤ lim := by rw [lim_v]; omega
          simp only [encO, Mi.wE_ok, Mi.bind_k, Mi.bind_b, Mi.bind_ite, Mi.optR_some, Mi.addF_int, Mi.int2_int, Mi.intB_int, Mi.q_seq, Mi.q_set, Mi.q_nil, Mi.q_drop, Mi.q_ret, Mi.q_if, Mi.q_brk, Mi.q_cnt, Mi.q_bad, Mi.q_asg, Mi.q_par, Mi.q_par3, Mi.q_app, Mi.q_put, Mi.q_putR, Mi.q_for, Mi.q_var, Mi.varR_some, Mi.q_con, Mi.q_bin, Mi.q_binS, Mi.q_bb, Mi.q_un, Mi.q_and, Mi.q_or, Mi.q_not, Mi.q_ife, Mi.q_band, Mi.q_bor, Mi.q_bnot, Mi.q_val, Mi.q_true, Mi.q_chn, Mi.q_anil, Mi.q_acons, Mi.q_tup, Mi.q_lst, Mi.q_lstR, Mi.q_none, Mi.q_some, Mi.q_sl, Mi.q_blt, Mi.q_isi, Mi.q_isi2, Mi.q_iseq, Mi.q_r1, Mi.q_r2, Mi.q_z, Mi.q_lr1, Mi.q_lr2, Mi.q_comp, Mi.q_call, Mi.k_seq_nx, Mi.k_seq_rt, Mi.k_seq_bk, Mi.k_seq_ct, Mi.k_set, Mi.k_drop, Mi.k_ret, Mi.k_if, Mi.k_asg, Mi.asgR_some, Mi.k_par, Mi.k_par3, Mi.k_app, Mi.appR_l, Mi.k_putR, Mi.k_putR2, Mi.putR2_ref, Mi.k_for, Mi.k_bin, Mi.k_bin2, Mi.k_binS, Mi.k_binS2, Mi.k_bb, Mi.k_bb2, Mi.optB_some, Mi.k_un, Mi.k_and_t, Mi.k_and_f, Mi.k_or_t, Mi.k_or_f, Mi.k_not, Mi.k_ife, Mi.k_band, Mi.k_bor, Mi.k_bnot, Mi.k_val, Mi.k_chn, Mi.k_chn2, Mi.k_chn3, Mi.k_cons, Mi.k_cons2, Mi.k_tup, Mi.k_lst, Mi.k_lstR, Mi.lstR_some, Mi.pys_nil, Mi.pys_cons, Mi.k_some_i, Mi.k_some_n, Mi.k_sl, Mi.k_sl2, Mi.k_sl3T, Mi.k_sl3L, Mi.k_blt, Mi.k_isi, Mi.k_isi2, Mi.k_seqI_l, Mi.k_seqI_t, Mi.k_r1, Mi.k_r2, Mi.k_r22, Mi.k_z, Mi.k_z2l, Mi.k_z2t, Mi.k_lr1, Mi.k_lr2, Mi.k_lr22, Mi.k_comp, Mi.k_comp2, Mi.k_body_rt, Mi.k_body_nx, Mi.v_add_t, Mi.v_cat, Mi.v_rep, Mi.v_mul, Mi.v_div, Mi.v_mod, Mi.v_pow, Mi.v_neg, Mi.v_lt, Mi.v_le, Mi.v_gt, Mi.v_ge, Mi.v_bD, Mi.v_ne, Mi.v_eqI, Mi.v_eqB, Mi.v_isN_n, Mi.v_isN_i, Mi.v_isN_t, Mi.v_isnt, Mi.v_ix_l, Mi.v_ix_t, Mi.v_ix_s, Mi.v_len_l, Mi.v_len_t, Mi.v_len_s, Mi.v_max2, Mi.v_min2, Mi.v_tup_l, Mi.v_lst_t, Mi.v_all, Mi.v_sum, Mi.b_nm, Mi.b_tp, Mi.b_cons, Mi.b_nil, Mi.D.int, Mi.D.bool, Mi.D.tup, Mi.D.lst, Mi.D.non, Mi.wipeE, List.map_cons, List.map_nil, List.length_cons, List.length_nil, List.cons_append, List.nil_append, List.getElem?_cons_zero, List.getElem?_cons_succ, List.set_cons_zero, List.set_cons_succ, Option.map_some, Option.bind_some, decide_eq_true_eq, ↓reduceIte, Nat.reduceAdd, Nat.reduceSub, Mi.atI0, Mi.atI1, Mi.atI2, Mi.ixN0, Mi.ixN1, Bool.not_true, Bool.not_false, Bool.false_eq_true, decide_true, decide_false, Mi.q_ext, Mi.k_ext, Mi.extR_l, Mi.k_sl3TL, Mi.q_zX, Mi.k_ztl, Mi.k_zlt, List.length_map, heq, c1, and_self, List.flatten_replicate_singleton, List.length_replicate, c2]
          refine ⟨trivial, xs ++ List.replicate (many - (xs.length : Int)).toNat 0, fun i x hi => ?_, .inl ⟨by rw [List.map_append, List.map_replicate], by rw [List.length_append, List.length_replicate]; omega⟩⟩
          by_cases hl : i < xs.length
          · rw [List.getElem?_append_left hl] at hi
            exact hd i x hi
          · rw [List.getElem?_append_right (by omega), List.getElem?_replicate] at hi
            split at hi
            · cases hi
              unfold dAt
              rw [hb2]
              exact (walk_end ok.rows (by omega)).symm
            · cases hi
        | some b =>
          obtain ⟨b0, b1⟩ := ok.back b hb2
          have hs : sizeL l = holds l.rows - aheadL l b := by unfold sizeL; rw [hb2]
          have eb : ((b.toNat : Nat) : Int) = b := by omega
          obtain ⟨ro2, n', S1, e1, h1, h2⟩ := go2 b.toNat (q + 1) (by omega) (by
            rw [hx, show (((q + 1 : Nat)) : Int) = (q : Int) + 1 by omega, Int.add_mul, Int.one_mul, hs]
            unfold aheadL
            omega) (fun _ => ⟨b, hb2, by omega⟩)
          rw [q_seq]
          rw [hb2, eb] at e1
          rw [show sIf (bBin eqF (eVar 5) (eBlt lenF (aCons (eVar 2) aNil))) (sSeq (sIf (bBin isNF (eVar 3) (eCon (.p .none))) (sRet (xCat (eVar 4) (xRep (eLst (aCons (eCon (.p (.int 0))) aNil)) (xSub (eVar 1) (eBlt lenF (aCons (eVar 4) aNil)))))) sNil) (sSet 5 (eVar 3))) sNil
            [some (.p (encL l)), some (.p (.int many)), some (.p (.tuple (l.rows.map encR))), some (.p (encO (some b))), some (.p (.list (xs.map PyData.int))), some (.p (.int l.rows.length)), z] S2 = .ok (.nx [some (.p (encL l)), some (.p (.int many)), some (.p (.tuple (l.rows.map encR))), some (.p (encO (some b))), some (.p (.list (xs.map PyData.int))), some (.p (.int b)), z]) S2 by simp only [encO, Mi.wE_ok, Mi.bind_k, Mi.bind_b, Mi.bind_ite, Mi.optR_some, Mi.addF_int, Mi.int2_int, Mi.intB_int, Mi.q_seq, Mi.q_set, Mi.q_nil, Mi.q_drop, Mi.q_ret, Mi.q_if, Mi.q_brk, Mi.q_cnt, Mi.q_bad, Mi.q_asg, Mi.q_par, Mi.q_par3, Mi.q_app, Mi.q_put, Mi.q_putR, Mi.q_for, Mi.q_var, Mi.varR_some, Mi.q_con, Mi.q_bin, Mi.q_binS, Mi.q_bb, Mi.q_un, Mi.q_and, Mi.q_or, Mi.q_not, Mi.q_ife, Mi.q_band, Mi.q_bor, Mi.q_bnot, Mi.q_val, Mi.q_true, Mi.q_chn, Mi.q_anil, Mi.q_acons, Mi.q_tup, Mi.q_lst, Mi.q_lstR, Mi.q_none, Mi.q_some, Mi.q_sl, Mi.q_blt, Mi.q_isi, Mi.q_isi2, Mi.q_iseq, Mi.q_r1, Mi.q_r2, Mi.q_z, Mi.q_lr1, Mi.q_lr2, Mi.q_comp, Mi.q_call, Mi.k_seq_nx, Mi.k_seq_rt, Mi.k_seq_bk, Mi.k_seq_ct, Mi.k_set, Mi.k_drop, Mi.k_ret, Mi.k_if, Mi.k_asg, Mi.asgR_some, Mi.k_par, Mi.k_par3, Mi.k_app, Mi.appR_l, Mi.k_putR, Mi.k_putR2, Mi.putR2_ref, Mi.k_for, Mi.k_bin, Mi.k_bin2, Mi.k_binS, Mi.k_binS2, Mi.k_bb, Mi.k_bb2, Mi.optB_some, Mi.k_un, Mi.k_and_t, Mi.k_and_f, Mi.k_or_t, Mi.k_or_f, Mi.k_not, Mi.k_ife, Mi.k_band, Mi.k_bor, Mi.k_bnot, Mi.k_val, Mi.k_chn, Mi.k_chn2, Mi.k_chn3, Mi.k_cons, Mi.k_cons2, Mi.k_tup, Mi.k_lst, Mi.k_lstR, Mi.lstR_some, Mi.pys_nil, Mi.pys_cons, Mi.k_some_i, Mi.k_some_n, Mi.k_sl, Mi.k_sl2, Mi.k_sl3T, Mi.k_sl3L, Mi.k_blt, Mi.k_isi, Mi.k_isi2, Mi.k_seqI_l, Mi.k_seqI_t, Mi.k_r1, Mi.k_r2, Mi.k_r22, Mi.k_z, Mi.k_z2l, Mi.k_z2t, Mi.k_lr1, Mi.k_lr2, Mi.k_lr22, Mi.k_comp, Mi.k_comp2, Mi.k_body_rt, Mi.k_body_nx, Mi.v_add_t, Mi.v_cat, Mi.v_rep, Mi.v_mul, Mi.v_div, Mi.v_mod, Mi.v_pow, Mi.v_neg, Mi.v_lt, Mi.v_le, Mi.v_gt, Mi.v_ge, Mi.v_bD, Mi.v_ne, Mi.v_eqI, Mi.v_eqB, Mi.v_isN_n, Mi.v_isN_i, Mi.v_isN_t, Mi.v_isnt, Mi.v_ix_l, Mi.v_ix_t, Mi.v_ix_s, Mi.v_len_l, Mi.v_len_t, Mi.v_len_s, Mi.v_max2, Mi.v_min2, Mi.v_tup_l, Mi.v_lst_t, Mi.v_all, Mi.v_sum, Mi.b_nm, Mi.b_tp, Mi.b_cons, Mi.b_nil, Mi.D.int, Mi.D.bool, Mi.D.tup, Mi.D.lst, Mi.D.non, Mi.wipeE, List.map_cons, List.map_nil, List.length_cons, List.length_nil, List.cons_append, List.nil_append, List.getElem?_cons_zero, List.getElem?_cons_succ, List.set_cons_zero, List.set_cons_succ, Option.map_some, Option.bind_some, decide_eq_true_eq, ↓reduceIte, Nat.reduceAdd, Nat.reduceSub, Mi.atI0, Mi.atI1, Mi.atI2, Mi.ixN0, Mi.ixN1, Bool.not_true, Bool.not_false, Bool.false_eq_true, decide_true, decide_false, Mi.q_ext, Mi.k_ext, Mi.extR_l, Mi.k_sl3TL, Mi.q_zX, Mi.k_ztl, Mi.k_zlt, List.length_map, heq], bind_k, k_seq_nx]
          exact wE_of e1 ⟨n', h1, h2⟩
    · refine ⟨false, by simp only [Mi.wE_ok, Mi.bind_k, Mi.bind_b, Mi.bind_ite, Mi.optR_some, Mi.addF_int, Mi.int2_int, Mi.intB_int, Mi.q_seq, Mi.q_set, Mi.q_nil, Mi.q_drop, Mi.q_ret, Mi.q_if, Mi.q_brk, Mi.q_cnt, Mi.q_bad, Mi.q_asg, Mi.q_par, Mi.q_par3, Mi.q_app, Mi.q_put, Mi.q_putR, Mi.q_for, Mi.q_var, Mi.varR_some, Mi.q_con, Mi.q_bin, Mi.q_binS, Mi.q_bb, Mi.q_un, Mi.q_and, Mi.q_or, Mi.q_not, Mi.q_ife, Mi.q_band, Mi.q_bor, Mi.q_bnot, Mi.q_val, Mi.q_true, Mi.q_chn, Mi.q_anil, Mi.q_acons, Mi.q_tup, Mi.q_lst, Mi.q_lstR, Mi.q_none, Mi.q_some, Mi.q_sl, Mi.q_blt, Mi.q_isi, Mi.q_isi2, Mi.q_iseq, Mi.q_r1, Mi.q_r2, Mi.q_z, Mi.q_lr1, Mi.q_lr2, Mi.q_comp, Mi.q_call, Mi.k_seq_nx, Mi.k_seq_rt, Mi.k_seq_bk, Mi.k_seq_ct, Mi.k_set, Mi.k_drop, Mi.k_ret, Mi.k_if, Mi.k_asg, Mi.asgR_some, Mi.k_par, Mi.k_par3, Mi.k_app, Mi.appR_l, Mi.k_putR, Mi.k_putR2, Mi.putR2_ref, Mi.k_for, Mi.k_bin, Mi.k_bin2, Mi.k_binS, Mi.k_binS2, Mi.k_bb, Mi.k_bb2, Mi.optB_some, Mi.k_un, Mi.k_and_t, Mi.k_and_f, Mi.k_or_t, Mi.k_or_f, Mi.k_not, Mi.k_ife, Mi.k_band, Mi.k_bor, Mi.k_bnot, Mi.k_val, Mi.k_chn, Mi.k_chn2, Mi.k_chn3, Mi.k_cons, Mi.k_cons2, Mi.k_tup, Mi.k_lst, Mi.k_lstR, Mi.lstR_some, Mi.pys_nil, Mi.pys_cons, Mi.k_some_i, Mi.k_some_n, Mi.k_sl, Mi.k_sl2, Mi.k_sl3T, Mi.k_sl3L, Mi.k_blt, Mi.k_isi, Mi.k_isi2, Mi.k_seqI_l, Mi.k_seqI_t, Mi.k_r1, Mi.k_r2, Mi.k_r22, Mi.k_z, Mi.k_z2l, Mi.k_z2t, Mi.k_lr1, Mi.k_lr2, Mi.k_lr22, Mi.k_comp, Mi.k_comp2, Mi.k_body_rt, Mi.k_body_nx, Mi.v_add_t, Mi.v_cat, Mi.v_rep, Mi.v_mul, Mi.v_div, Mi.v_mod, Mi.v_pow, Mi.v_neg, Mi.v_lt, Mi.v_le, Mi.v_gt, Mi.v_ge, Mi.v_bD, Mi.v_ne, Mi.v_eqI, Mi.v_eqB, Mi.v_isN_n, Mi.v_isN_i, Mi.v_isN_t, Mi.v_isnt, Mi.v_ix_l, Mi.v_ix_t, Mi.v_ix_s, Mi.v_len_l, Mi.v_len_t, Mi.v_len_s, Mi.v_max2, Mi.v_min2, Mi.v_tup_l, Mi.v_lst_t, Mi.v_all, Mi.v_sum, Mi.b_nm, Mi.b_tp, Mi.b_cons, Mi.b_nil, Mi.D.int, Mi.D.bool, Mi.D.tup, Mi.D.lst, Mi.D.non, Mi.wipeE, List.map_cons, List.map_nil, List.length_cons, List.length_nil, List.cons_append, List.nil_append, List.getElem?_cons_zero, List.getElem?_cons_succ, List.set_cons_zero, List.set_cons_succ, Option.map_some, Option.bind_some, decide_eq_true_eq, ↓reduceIte, Nat.reduceAdd, Nat.reduceSub, Mi.atI0, Mi.atI1, Mi.atI2, Mi.ixN0, Mi.ixN1, Bool.not_true, Bool.not_false, Bool.false_eq_true, decide_true, decide_false, Mi.q_ext, Mi.k_ext, Mi.extR_l, Mi.k_sl3TL, Mi.q_zX, Mi.k_ztl, Mi.k_zlt, List.length_map, hm], fun _ => ⟨rfl, xs, hd, .inr ⟨_, _, rfl, by omega⟩⟩, fun h => by cases h⟩) (many - ((0 : Nat) : Int)).toNat [some (.p (encL l)), some (.p (.int many)), some (.p (.tuple (l.rows.map encR))), some (.p (encO l.back)), some (.p (.list [])), some (.p (.int 0)), none] S ⟨rfl, [], 0, 0, none, rfl, rfl, Nat.zero_le _, by simp [holds], fun h => absurd h (by decide), fun i x h => by simp at h, by simp; omega⟩)
  obtain ⟨rfl, xs, hd, hc⟩ := hQ
  have hlay : encL l = .tuple [.tuple (l.rows.map encR), encO l.back] := rfl
  rcases hc with ⟨rfl, hl⟩ | ⟨z5, z6, rfl, hl⟩
  · refine ⟨xs, ?_, hl, hd⟩
    rw [hlay] at e ⊢
    simp only [Mi.wE_ok, Mi.bind_k, Mi.bind_b, Mi.bind_ite, Mi.optR_some, Mi.addF_int, Mi.int2_int, Mi.intB_int, Mi.q_seq, Mi.q_set, Mi.q_nil, Mi.q_drop, Mi.q_ret, Mi.q_if, Mi.q_brk, Mi.q_cnt, Mi.q_bad, Mi.q_asg, Mi.q_par, Mi.q_par3, Mi.q_app, Mi.q_put, Mi.q_putR, Mi.q_for, Mi.q_var, Mi.varR_some, Mi.q_con, Mi.q_bin, Mi.q_binS, Mi.q_bb, Mi.q_un, Mi.q_and, Mi.q_or, Mi.q_not, Mi.q_ife, Mi.q_band, Mi.q_bor, Mi.q_bnot, Mi.q_val, Mi.q_true, Mi.q_chn, Mi.q_anil, Mi.q_acons, Mi.q_tup, Mi.q_lst, Mi.q_lstR, Mi.q_none, Mi.q_some, Mi.q_sl, Mi.q_blt, Mi.q_isi, Mi.q_isi2, Mi.q_iseq, Mi.q_r1, Mi.q_r2, Mi.q_z, Mi.q_lr1, Mi.q_lr2, Mi.q_comp, Mi.q_call, Mi.k_seq_nx, Mi.k_seq_rt, Mi.k_seq_bk, Mi.k_seq_ct, Mi.k_set, Mi.k_drop, Mi.k_ret, Mi.k_if, Mi.k_asg, Mi.asgR_some, Mi.k_par, Mi.k_par3, Mi.k_app, Mi.appR_l, Mi.k_putR, Mi.k_putR2, Mi.putR2_ref, Mi.k_for, Mi.k_bin, Mi.k_bin2, Mi.k_binS, Mi.k_binS2, Mi.k_bb, Mi.k_bb2, Mi.optB_some, Mi.k_un, Mi.k_and_t, Mi.k_and_f, Mi.k_or_t, Mi.k_or_f, Mi.k_not, Mi.k_ife, Mi.k_band, Mi.k_bor, Mi.k_bnot, Mi.k_val, Mi.k_chn, Mi.k_chn2, Mi.k_chn3, Mi.k_cons, Mi.k_cons2, Mi.k_tup, Mi.k_lst, Mi.k_lstR, Mi.lstR_some, Mi.pys_nil, Mi.pys_cons, Mi.k_some_i, Mi.k_some_n, Mi.k_sl, Mi.k_sl2, Mi.k_sl3T, Mi.k_sl3L, Mi.k_blt, Mi.k_isi, Mi.k_isi2, Mi.k_seqI_l, Mi.k_seqI_t, Mi.k_r1, Mi.k_r2, Mi.k_r22, Mi.k_z, Mi.k_z2l, Mi.k_z2t, Mi.k_lr1, Mi.k_lr2, Mi.k_lr22, Mi.k_comp, Mi.k_comp2, Mi.k_body_rt, Mi.k_body_nx, Mi.v_add_t, Mi.v_cat, Mi.v_rep, Mi.v_mul, Mi.v_div, Mi.v_mod, Mi.v_pow, Mi.v_neg, Mi.v_lt, Mi.v_le, Mi.v_gt, Mi.v_ge, Mi.v_bD, Mi.v_ne, Mi.v_eqI, Mi.v_eqB, Mi.v_isN_n, Mi.v_isN_i, Mi.v_isN_t, Mi.v_isnt, Mi.v_ix_l, Mi.v_ix_t, Mi.v_ix_s, Mi.v_len_l, Mi.v_len_t, Mi.v_len_s, Mi.v_max2, Mi.v_min2, Mi.v_tup_l, Mi.v_lst_t, Mi.v_all, Mi.v_sum, Mi.b_nm, Mi.b_tp, Mi.b_cons, Mi.b_nil, Mi.D.int, Mi.D.bool, Mi.D.tup, Mi.D.lst, Mi.D.non, Mi.wipeE, List.map_cons, List.map_nil, List.length_cons, List.length_nil, List.cons_append, List.nil_append, List.getElem?_cons_zero, List.getElem?_cons_succ, List.set_cons_zero, List.set_cons_succ, Option.map_some, Option.bind_some, decide_eq_true_eq, ↓reduceIte, Nat.reduceAdd, Nat.reduceSub, Mi.atI0, Mi.atI1, Mi.atI2, Mi.ixN0, Mi.ixN1, Bool.not_true, Bool.not_false, Bool.false_eq_true, decide_true, decide_false, Mi.q_ext, Mi.k_ext, Mi.extR_l, Mi.k_sl3TL, Mi.q_zX, Mi.k_ztl, Mi.k_zlt, e]
  · refine ⟨xs.take many.toNat, ?_, by rw [List.length_take]; omega, fun i x hi => ?_⟩
    · rw [hlay] at e ⊢
      simp only [Mi.wE_ok, Mi.bind_k, Mi.bind_b, Mi.bind_ite, Mi.optR_some, Mi.addF_int, Mi.int2_int, Mi.intB_int, Mi.q_seq, Mi.q_set, Mi.q_nil, Mi.q_drop, Mi.q_ret, Mi.q_if, Mi.q_brk, Mi.q_cnt, Mi.q_bad, Mi.q_asg, Mi.q_par, Mi.q_par3, Mi.q_app, Mi.q_put, Mi.q_putR, Mi.q_for, Mi.q_var, Mi.varR_some, Mi.q_con, Mi.q_bin, Mi.q_binS, Mi.q_bb, Mi.q_un, Mi.q_and, Mi.q_or, Mi.q_not, Mi.q_ife, Mi.q_band, Mi.q_bor, Mi.q_bnot, Mi.q_val, Mi.q_true, Mi.q_chn, Mi.q_anil, Mi.q_acons, Mi.q_tup, Mi.q_lst, Mi.q_lstR, Mi.q_none, Mi.q_some, Mi.q_sl, Mi.q_blt, Mi.q_isi, Mi.q_isi2, Mi.q_iseq, Mi.q_r1, Mi.q_r2, Mi.q_z, Mi.q_lr1, Mi.q_lr2, Mi.q_comp, Mi.q_call, Mi.k_seq_nx, Mi.k_seq_rt, Mi.k_seq_bk, Mi.k_seq_ct, Mi.k_set, Mi.k_drop, Mi.k_ret, Mi.k_if, Mi.k_asg, Mi.asgR_some, Mi.k_par, Mi.k_par3, Mi.k_app, Mi.appR_l, Mi.k_putR, Mi.k_putR2, Mi.putR2_ref, Mi.k_for, Mi.k_bin, Mi.k_bin2, Mi.k_binS, Mi.k_binS2, Mi.k_bb, Mi.k_bb2, Mi.optB_some, Mi.k_un, Mi.k_and_t, Mi.k_and_f, Mi.k_or_t, Mi.k_or_f, Mi.k_not, Mi.k_ife, Mi.k_band, Mi.k_bor, Mi.k_bnot, Mi.k_val, Mi.k_chn, Mi.k_chn2, Mi.k_chn3, Mi.k_cons, Mi.k_cons2, Mi.k_tup, Mi.k_lst, Mi.k_lstR, Mi.lstR_some, Mi.pys_nil, Mi.pys_cons, Mi.k_some_i, Mi.k_some_n, Mi.k_sl, Mi.k_sl2, Mi.k_sl3T, Mi.k_sl3L, Mi.k_blt, Mi.k_isi, Mi.k_isi2, Mi.k_seqI_l, Mi.k_seqI_t, Mi.k_r1, Mi.k_r2, Mi.k_r22, Mi.k_z, Mi.k_z2l, Mi.k_z2t, Mi.k_lr1, Mi.k_lr2, Mi.k_lr22, Mi.k_comp, Mi.k_comp2, Mi.k_body_rt, Mi.k_body_nx, Mi.v_add_t, Mi.v_cat, Mi.v_rep, Mi.v_mul, Mi.v_div, Mi.v_mod, Mi.v_pow, Mi.v_neg, Mi.v_lt, Mi.v_le, Mi.v_gt, Mi.v_ge, Mi.v_bD, Mi.v_ne, Mi.v_eqI, Mi.v_eqB, Mi.v_isN_n, Mi.v_isN_i, Mi.v_isN_t, Mi.v_isnt, Mi.v_ix_l, Mi.v_ix_t, Mi.v_ix_s, Mi.v_len_l, Mi.v_len_t, Mi.v_len_s, Mi.v_max2, Mi.v_min2, Mi.v_tup_l, Mi.v_lst_t, Mi.v_all, Mi.v_sum, Mi.b_nm, Mi.b_tp, Mi.b_cons, Mi.b_nil, Mi.D.int, Mi.D.bool, Mi.D.tup, Mi.D.lst, Mi.D.non, Mi.wipeE, List.map_cons, List.map_nil, List.length_cons, List.length_nil, List.cons_append, List.nil_append, List.getElem?_cons_zero, List.getElem?_cons_succ, List.set_cons_zero, List.set_cons_succ, Option.map_some, Option.bind_some, decide_eq_true_eq, ↓reduceIte, Nat.reduceAdd, Nat.reduceSub, Mi.atI0, Mi.atI1, Mi.atI2, Mi.ixN0, Mi.ixN1, Bool.not_true, Bool.not_false, Bool.false_eq_true, decide_true, decide_false, Mi.q_ext, Mi.k_ext, Mi.extR_l, Mi.k_sl3TL, Mi.q_zX, Mi.k_ztl, Mi.k_zlt, e, fin xs]
    · rw [List.getElem?_take] at hi
      split at hi
      · exact hd i x hi
      · cases hi
/-! ### the drawing at a moment -/
theorem loop_di (q0 q2 q3 q4 q5 : Option D) (S : Store) : ∀ (rows : List Row) (m : Int) (z6 z7 : Option D), (forL (.tp [.nm 6, .nm 7]) lb_drawing_in_0 ((rows.map encR).map D.p) [q0, some (.p (.int m)), q2, q3, q4, q5, z6, z7] S).bind (kSeq (sRet (eCon (.p (.int 0))))) = .ok (.rt (.p (.int (walkR rows m)))) S
  | [], m, z6, z7 => rfl
  | (d, h) :: r, m, z6, z7 => by
    rw [List.map_cons, List.map_cons, forL_cons (ro1 := [q0, some (.p (.int m)), q2, q3, q4, q5, some (.p (.int d)), some (.p (.int h))]) (by simp only [encR, Mi.wE_ok, Mi.bind_k, Mi.bind_b, Mi.bind_ite, Mi.optR_some, Mi.addF_int, Mi.int2_int, Mi.intB_int, Mi.q_seq, Mi.q_set, Mi.q_nil, Mi.q_drop, Mi.q_ret, Mi.q_if, Mi.q_brk, Mi.q_cnt, Mi.q_bad, Mi.q_asg, Mi.q_par, Mi.q_par3, Mi.q_app, Mi.q_put, Mi.q_putR, Mi.q_for, Mi.q_var, Mi.varR_some, Mi.q_con, Mi.q_bin, Mi.q_binS, Mi.q_bb, Mi.q_un, Mi.q_and, Mi.q_or, Mi.q_not, Mi.q_ife, Mi.q_band, Mi.q_bor, Mi.q_bnot, Mi.q_val, Mi.q_true, Mi.q_chn, Mi.q_anil, Mi.q_acons, Mi.q_tup, Mi.q_lst, Mi.q_lstR, Mi.q_none, Mi.q_some, Mi.q_sl, Mi.q_blt, Mi.q_isi, Mi.q_isi2, Mi.q_iseq, Mi.q_r1, Mi.q_r2, Mi.q_z, Mi.q_lr1, Mi.q_lr2, Mi.q_comp, Mi.q_call, Mi.k_seq_nx, Mi.k_seq_rt, Mi.k_seq_bk, Mi.k_seq_ct, Mi.k_set, Mi.k_drop, Mi.k_ret, Mi.k_if, Mi.k_asg, Mi.asgR_some, Mi.k_par, Mi.k_par3, Mi.k_app, Mi.appR_l, Mi.k_putR, Mi.k_putR2, Mi.putR2_ref, Mi.k_for, Mi.k_bin, Mi.k_bin2, Mi.k_binS, Mi.k_binS2, Mi.k_bb, Mi.k_bb2, Mi.optB_some, Mi.k_un, Mi.k_and_t, Mi.k_and_f, Mi.k_or_t, Mi.k_or_f, Mi.k_not, Mi.k_ife, Mi.k_band, Mi.k_bor, Mi.k_bnot, Mi.k_val, Mi.k_chn, Mi.k_chn2, Mi.k_chn3, Mi.k_cons, Mi.k_cons2, Mi.k_tup, Mi.k_lst, Mi.k_lstR, Mi.lstR_some, Mi.pys_nil, Mi.pys_cons, Mi.k_some_i, Mi.k_some_n, Mi.k_sl, Mi.k_sl2, Mi.k_sl3T, Mi.k_sl3L, Mi.k_blt, Mi.k_isi, Mi.k_isi2, Mi.k_seqI_l, Mi.k_seqI_t, Mi.k_r1, Mi.k_r2, Mi.k_r22, Mi.k_z, Mi.k_z2l, Mi.k_z2t, Mi.k_lr1, Mi.k_lr2, Mi.k_lr22, Mi.k_comp, Mi.k_comp2, Mi.k_body_rt, Mi.k_body_nx, Mi.v_add_t, Mi.v_cat, Mi.v_rep, Mi.v_mul, Mi.v_div, Mi.v_mod, Mi.v_pow, Mi.v_neg, Mi.v_lt, Mi.v_le, Mi.v_gt, Mi.v_ge, Mi.v_bD, Mi.v_ne, Mi.v_eqI, Mi.v_eqB, Mi.v_isN_n, Mi.v_isN_i, Mi.v_isN_t, Mi.v_isnt, Mi.v_ix_l, Mi.v_ix_t, Mi.v_ix_s, Mi.v_len_l, Mi.v_len_t, Mi.v_len_s, Mi.v_max2, Mi.v_min2, Mi.v_tup_l, Mi.v_lst_t, Mi.v_all, Mi.v_sum, Mi.b_nm, Mi.b_tp, Mi.b_cons, Mi.b_nil, Mi.D.int, Mi.D.bool, Mi.D.tup, Mi.D.lst, Mi.D.non, Mi.wipeE, List.map_cons, List.map_nil, List.length_cons, List.length_nil, List.cons_append, List.nil_append, List.getElem?_cons_zero, List.getElem?_cons_succ, List.set_cons_zero, List.set_cons_succ, Option.map_some, Option.bind_some, decide_eq_true_eq, ↓reduceIte, Nat.reduceAdd, Nat.reduceSub, Mi.atI0, Mi.atI1, Mi.atI2, Mi.ixN0, Mi.ixN1, Bool.not_true, Bool.not_false, Bool.false_eq_true, decide_true, decide_false, Mi.q_ext, Mi.k_ext, Mi.extR_l, Mi.k_sl3TL, Mi.q_zX, Mi.k_ztl, Mi.k_zlt]), lb_drawing_in_0]
    unfold walkR
    by_cases hm : m < h
    · simp only [Mi.wE_ok, Mi.bind_k, Mi.bind_b, Mi.bind_ite, Mi.optR_some, Mi.addF_int, Mi.int2_int, Mi.intB_int, Mi.q_seq, Mi.q_set, Mi.q_nil, Mi.q_drop, Mi.q_ret, Mi.q_if, Mi.q_brk, Mi.q_cnt, Mi.q_bad, Mi.q_asg, Mi.q_par, Mi.q_par3, Mi.q_app, Mi.q_put, Mi.q_putR, Mi.q_for, Mi.q_var, Mi.varR_some, Mi.q_con, Mi.q_bin, Mi.q_binS, Mi.q_bb, Mi.q_un, Mi.q_and, Mi.q_or, Mi.q_not, Mi.q_ife, Mi.q_band, Mi.q_bor, Mi.q_bnot, Mi.q_val, Mi.q_true, Mi.q_chn, Mi.q_anil, Mi.q_acons, Mi.q_tup, Mi.q_lst, Mi.q_lstR, Mi.q_none, Mi.q_some, Mi.q_sl, Mi.q_blt, Mi.q_isi, Mi.q_isi2, Mi.q_iseq, Mi.q_r1, Mi.q_r2, Mi.q_z, Mi.q_lr1, Mi.q_lr2, Mi.q_comp, Mi.q_call, Mi.k_seq_nx, Mi.k_seq_rt, Mi.k_seq_bk, Mi.k_seq_ct, Mi.k_set, Mi.k_drop, Mi.k_ret, Mi.k_if, Mi.k_asg, Mi.asgR_some, Mi.k_par, Mi.k_par3, Mi.k_app, Mi.appR_l, Mi.k_putR, Mi.k_putR2, Mi.putR2_ref, Mi.k_for, Mi.k_bin, Mi.k_bin2, Mi.k_binS, Mi.k_binS2, Mi.k_bb, Mi.k_bb2, Mi.optB_some, Mi.k_un, Mi.k_and_t, Mi.k_and_f, Mi.k_or_t, Mi.k_or_f, Mi.k_not, Mi.k_ife, Mi.k_band, Mi.k_bor, Mi.k_bnot, Mi.k_val, Mi.k_chn, Mi.k_chn2, Mi.k_chn3, Mi.k_cons, Mi.k_cons2, Mi.k_tup, Mi.k_lst, Mi.k_lstR, Mi.lstR_some, Mi.pys_nil, Mi.pys_cons, Mi.k_some_i, Mi.k_some_n, Mi.k_sl, Mi.k_sl2, Mi.k_sl3T, Mi.k_sl3L, Mi.k_blt, Mi.k_isi, Mi.k_isi2, Mi.k_seqI_l, Mi.k_seqI_t, Mi.k_r1, Mi.k_r2, Mi.k_r22, Mi.k_z, Mi.k_z2l, Mi.k_z2t, Mi.k_lr1, Mi.k_lr2, Mi.k_lr22, Mi.k_comp, Mi.k_comp2, Mi.k_body_rt, Mi.k_body_nx, Mi.v_add_t, Mi.v_cat, Mi.v_rep, Mi.v_mul, Mi.v_div, Mi.v_mod, Mi.v_pow, Mi.v_neg, Mi.v_lt, Mi.v_le, Mi.v_gt, Mi.v_ge, Mi.v_bD, Mi.v_ne, Mi.v_eqI, Mi.v_eqB, Mi.v_isN_n, Mi.v_isN_i, Mi.v_isN_t, Mi.v_isnt, Mi.v_ix_l, Mi.v_ix_t, Mi.v_ix_s, Mi.v_len_l, Mi.v_len_t, Mi.v_len_s, Mi.v_max2, Mi.v_min2, Mi.v_tup_l, Mi.v_lst_t, Mi.v_all, Mi.v_sum, Mi.b_nm, Mi.b_tp, Mi.b_cons, Mi.b_nil, Mi.D.int, Mi.D.bool, Mi.D.tup, Mi.D.lst, Mi.D.non, Mi.wipeE, List.map_cons, List.map_nil, List.length_cons, List.length_nil, List.cons_append, List.nil_append, List.getElem?_cons_zero, List.getElem?_cons_succ, List.set_cons_zero, List.set_cons_succ, Option.map_some, Option.bind_some, decide_eq_true_eq, ↓reduceIte, Nat.reduceAdd, Nat.reduceSub, Mi.atI0, Mi.atI1, Mi.atI2, Mi.ixN0, Mi.ixN1, Bool.not_true, Bool.not_false, Bool.false_eq_true, decide_true, decide_false, Mi.q_ext, Mi.k_ext, Mi.extR_l, Mi.k_sl3TL, Mi.q_zX, Mi.k_ztl, Mi.k_zlt, hm, kForT_rt]
    · rw [if_neg hm, ← loop_di q0 q2 q3 q4 q5 S r (m - h) (some (.p (.int d))) (some (.p (.int h)))]
      simp only [Mi.wE_ok, Mi.bind_k, Mi.bind_b, Mi.bind_ite, Mi.optR_some, Mi.addF_int, Mi.int2_int, Mi.intB_int, Mi.q_seq, Mi.q_set, Mi.q_nil, Mi.q_drop, Mi.q_ret, Mi.q_if, Mi.q_brk, Mi.q_cnt, Mi.q_bad, Mi.q_asg, Mi.q_par, Mi.q_par3, Mi.q_app, Mi.q_put, Mi.q_putR, Mi.q_for, Mi.q_var, Mi.varR_some, Mi.q_con, Mi.q_bin, Mi.q_binS, Mi.q_bb, Mi.q_un, Mi.q_and, Mi.q_or, Mi.q_not, Mi.q_ife, Mi.q_band, Mi.q_bor, Mi.q_bnot, Mi.q_val, Mi.q_true, Mi.q_chn, Mi.q_anil, Mi.q_acons, Mi.q_tup, Mi.q_lst, Mi.q_lstR, Mi.q_none, Mi.q_some, Mi.q_sl, Mi.q_blt, Mi.q_isi, Mi.q_isi2, Mi.q_iseq, Mi.q_r1, Mi.q_r2, Mi.q_z, Mi.q_lr1, Mi.q_lr2, Mi.q_comp, Mi.q_call, Mi.k_seq_nx, Mi.k_seq_rt, Mi.k_seq_bk, Mi.k_seq_ct, Mi.k_set, Mi.k_drop, Mi.k_ret, Mi.k_if, Mi.k_asg, Mi.asgR_some, Mi.k_par, Mi.k_par3, Mi.k_app, Mi.appR_l, Mi.k_putR, Mi.k_putR2, Mi.putR2_ref, Mi.k_for, Mi.k_bin, Mi.k_bin2, Mi.k_binS, Mi.k_binS2, Mi.k_bb, Mi.k_bb2, Mi.optB_some, Mi.k_un, Mi.k_and_t, Mi.k_and_f, Mi.k_or_t, Mi.k_or_f, Mi.k_not, Mi.k_ife, Mi.k_band, Mi.k_bor, Mi.k_bnot, Mi.k_val, Mi.k_chn, Mi.k_chn2, Mi.k_chn3, Mi.k_cons, Mi.k_cons2, Mi.k_tup, Mi.k_lst, Mi.k_lstR, Mi.lstR_some, Mi.pys_nil, Mi.pys_cons, Mi.k_some_i, Mi.k_some_n, Mi.k_sl, Mi.k_sl2, Mi.k_sl3T, Mi.k_sl3L, Mi.k_blt, Mi.k_isi, Mi.k_isi2, Mi.k_seqI_l, Mi.k_seqI_t, Mi.k_r1, Mi.k_r2, Mi.k_r22, Mi.k_z, Mi.k_z2l, Mi.k_z2t, Mi.k_lr1, Mi.k_lr2, Mi.k_lr22, Mi.k_comp, Mi.k_comp2, Mi.k_body_rt, Mi.k_body_nx, Mi.v_add_t, Mi.v_cat, Mi.v_rep, Mi.v_mul, Mi.v_div, Mi.v_mod, Mi.v_pow, Mi.v_neg, Mi.v_lt, Mi.v_le, Mi.v_gt, Mi.v_ge, Mi.v_bD, Mi.v_ne, Mi.v_eqI, Mi.v_eqB, Mi.v_isN_n, Mi.v_isN_i, Mi.v_isN_t, Mi.v_isnt, Mi.v_ix_l, Mi.v_ix_t, Mi.v_ix_s, Mi.v_len_l, Mi.v_len_t, Mi.v_len_s, Mi.v_max2, Mi.v_min2, Mi.v_tup_l, Mi.v_lst_t, Mi.v_all, Mi.v_sum, Mi.b_nm, Mi.b_tp, Mi.b_cons, Mi.b_nil, Mi.D.int, Mi.D.bool, Mi.D.tup, Mi.D.lst, Mi.D.non, Mi.wipeE, List.map_cons, List.map_nil, List.length_cons, List.length_nil, List.cons_append, List.nil_append, List.getElem?_cons_zero, List.getElem?_cons_succ, List.set_cons_zero, List.set_cons_succ, Option.map_some, Option.bind_some, decide_eq_true_eq, ↓reduceIte, Nat.reduceAdd, Nat.reduceSub, Mi.atI0, Mi.atI1, Mi.atI2, Mi.ixN0, Mi.ixN1, Bool.not_true, Bool.not_false, Bool.false_eq_true, decide_true, decide_false, Mi.q_ext, Mi.k_ext, Mi.extR_l, Mi.k_sl3TL, Mi.q_zX, Mi.k_ztl, Mi.k_zlt, hm, kForT_nx]
      rfl
theorem e_drawing_in {l : Lay} (ok : LayOk l) (m : Int) (S : Store) : c_drawing_in [.p (encL l), .p (.int m)] S = .ok (.p (.int (dAt l m))) S := by
  rw [u_drawing_in, m_drawing_in]
  obtain ⟨rows, back⟩ := l
  have hl := ok.len
  have hr := ok.rows
  simp only at hl hr
  have hh := e_holds_of rows (by omega)
  unfold dAt
  cases back with
  | none =>
    by_cases hm : holds rows ≤ m
    · simp only [encL, encO, Mi.wE_ok, Mi.bind_k, Mi.bind_b, Mi.bind_ite, Mi.optR_some, Mi.addF_int, Mi.int2_int, Mi.intB_int, Mi.q_seq, Mi.q_set, Mi.q_nil, Mi.q_drop, Mi.q_ret, Mi.q_if, Mi.q_brk, Mi.q_cnt, Mi.q_bad, Mi.q_asg, Mi.q_par, Mi.q_par3, Mi.q_app, Mi.q_put, Mi.q_putR, Mi.q_for, Mi.q_var, Mi.varR_some, Mi.q_con, Mi.q_bin, Mi.q_binS, Mi.q_bb, Mi.q_un, Mi.q_and, Mi.q_or, Mi.q_not, Mi.q_ife, Mi.q_band, Mi.q_bor, Mi.q_bnot, Mi.q_val, Mi.q_true, Mi.q_chn, Mi.q_anil, Mi.q_acons, Mi.q_tup, Mi.q_lst, Mi.q_lstR, Mi.q_none, Mi.q_some, Mi.q_sl, Mi.q_blt, Mi.q_isi, Mi.q_isi2, Mi.q_iseq, Mi.q_r1, Mi.q_r2, Mi.q_z, Mi.q_lr1, Mi.q_lr2, Mi.q_comp, Mi.q_call, Mi.k_seq_nx, Mi.k_seq_rt, Mi.k_seq_bk, Mi.k_seq_ct, Mi.k_set, Mi.k_drop, Mi.k_ret, Mi.k_if, Mi.k_asg, Mi.asgR_some, Mi.k_par, Mi.k_par3, Mi.k_app, Mi.appR_l, Mi.k_putR, Mi.k_putR2, Mi.putR2_ref, Mi.k_for, Mi.k_bin, Mi.k_bin2, Mi.k_binS, Mi.k_binS2, Mi.k_bb, Mi.k_bb2, Mi.optB_some, Mi.k_un, Mi.k_and_t, Mi.k_and_f, Mi.k_or_t, Mi.k_or_f, Mi.k_not, Mi.k_ife, Mi.k_band, Mi.k_bor, Mi.k_bnot, Mi.k_val, Mi.k_chn, Mi.k_chn2, Mi.k_chn3, Mi.k_cons, Mi.k_cons2, Mi.k_tup, Mi.k_lst, Mi.k_lstR, Mi.lstR_some, Mi.pys_nil, Mi.pys_cons, Mi.k_some_i, Mi.k_some_n, Mi.k_sl, Mi.k_sl2, Mi.k_sl3T, Mi.k_sl3L, Mi.k_blt, Mi.k_isi, Mi.k_isi2, Mi.k_seqI_l, Mi.k_seqI_t, Mi.k_r1, Mi.k_r2, Mi.k_r22, Mi.k_z, Mi.k_z2l, Mi.k_z2t, Mi.k_lr1, Mi.k_lr2, Mi.k_lr22, Mi.k_comp, Mi.k_comp2, Mi.k_body_rt, Mi.k_body_nx, Mi.v_add_t, Mi.v_cat, Mi.v_rep, Mi.v_mul, Mi.v_div, Mi.v_mod, Mi.v_pow, Mi.v_neg, Mi.v_lt, Mi.v_le, Mi.v_gt, Mi.v_ge, Mi.v_bD, Mi.v_ne, Mi.v_eqI, Mi.v_eqB, Mi.v_isN_n, Mi.v_isN_i, Mi.v_isN_t, Mi.v_isnt, Mi.v_ix_l, Mi.v_ix_t, Mi.v_ix_s, Mi.v_len_l, Mi.v_len_t, Mi.v_len_s, Mi.v_max2, Mi.v_min2, Mi.v_tup_l, Mi.v_lst_t, Mi.v_all, Mi.v_sum, Mi.b_nm, Mi.b_tp, Mi.b_cons, Mi.b_nil, Mi.D.int, Mi.D.bool, Mi.D.tup, Mi.D.lst, Mi.D.non, Mi.wipeE, List.map_cons, List.map_nil, List.length_cons, List.length_nil, List.cons_append, List.nil_append, List.getElem?_cons_zero, List.getElem?_cons_succ, List.set_cons_zero, List.set_cons_succ, Option.map_some, Option.bind_some, decide_eq_true_eq, ↓reduceIte, Nat.reduceAdd, Nat.reduceSub, Mi.atI0, Mi.atI1, Mi.atI2, Mi.ixN0, Mi.ixN1, Bool.not_true, Bool.not_false, Bool.false_eq_true, decide_true, decide_false, Mi.q_ext, Mi.k_ext, Mi.extR_l, Mi.k_sl3TL, Mi.q_zX, Mi.k_ztl, Mi.k_zlt, hh, hm, walk_end hr hm]
    · simp only [encL, encO, Mi.wE_ok, Mi.bind_k, Mi.bind_b, Mi.bind_ite, Mi.optR_some, Mi.addF_int, Mi.int2_int, Mi.intB_int, Mi.q_seq, Mi.q_set, Mi.q_nil, Mi.q_drop, Mi.q_ret, Mi.q_if, Mi.q_brk, Mi.q_cnt, Mi.q_bad, Mi.q_asg, Mi.q_par, Mi.q_par3, Mi.q_app, Mi.q_put, Mi.q_putR, Mi.q_for, Mi.q_var, Mi.varR_some, Mi.q_con, Mi.q_bin, Mi.q_binS, Mi.q_bb, Mi.q_un, Mi.q_and, Mi.q_or, Mi.q_not, Mi.q_ife, Mi.q_band, Mi.q_bor, Mi.q_bnot, Mi.q_val, Mi.q_true, Mi.q_chn, Mi.q_anil, Mi.q_acons, Mi.q_tup, Mi.q_lst, Mi.q_lstR, Mi.q_none, Mi.q_some, Mi.q_sl, Mi.q_blt, Mi.q_isi, Mi.q_isi2, Mi.q_iseq, Mi.q_r1, Mi.q_r2, Mi.q_z, Mi.q_lr1, Mi.q_lr2, Mi.q_comp, Mi.q_call, Mi.k_seq_nx, Mi.k_seq_rt, Mi.k_seq_bk, Mi.k_seq_ct, Mi.k_set, Mi.k_drop, Mi.k_ret, Mi.k_if, Mi.k_asg, Mi.asgR_some, Mi.k_par, Mi.k_par3, Mi.k_app, Mi.appR_l, Mi.k_putR, Mi.k_putR2, Mi.putR2_ref, Mi.k_for, Mi.k_bin, Mi.k_bin2, Mi.k_binS, Mi.k_binS2, Mi.k_bb, Mi.k_bb2, Mi.optB_some, Mi.k_un, Mi.k_and_t, Mi.k_and_f, Mi.k_or_t, Mi.k_or_f, Mi.k_not, Mi.k_ife, Mi.k_band, Mi.k_bor, Mi.k_bnot, Mi.k_val, Mi.k_chn, Mi.k_chn2, Mi.k_chn3, Mi.k_cons, Mi.k_cons2, Mi.k_tup, Mi.k_lst, Mi.k_lstR, Mi.lstR_some, Mi.pys_nil, Mi.pys_cons, Mi.k_some_i, Mi.k_some_n, Mi.k_sl, Mi.k_sl2, Mi.k_sl3T, Mi.k_sl3L, Mi.k_blt, Mi.k_isi, Mi.k_isi2, Mi.k_seqI_l, Mi.k_seqI_t, Mi.k_r1, Mi.k_r2, Mi.k_r22, Mi.k_z, Mi.k_z2l, Mi.k_z2t, Mi.k_lr1, Mi.k_lr2, Mi.k_lr22, Mi.k_comp, Mi.k_comp2, Mi.k_body_rt, Mi.k_body_nx, Mi.v_add_t, Mi.v_cat, Mi.v_rep, Mi.v_mul, Mi.v_div, Mi.v_mod, Mi.v_pow, Mi.v_neg, Mi.v_lt, Mi.v_le, Mi.v_gt, Mi.v_ge, Mi.v_bD, Mi.v_ne, Mi.v_eqI, Mi.v_eqB, Mi.v_isN_n, Mi.v_isN_i, Mi.v_isN_t, Mi.v_isnt, Mi.v_ix_l, Mi.v_ix_t, Mi.v_ix_s, Mi.v_len_l, Mi.v_len_t, Mi.v_len_s, Mi.v_max2, Mi.v_min2, Mi.v_tup_l, Mi.v_lst_t, Mi.v_all, Mi.v_sum, Mi.b_nm, Mi.b_tp, Mi.b_cons, Mi.b_nil, Mi.D.int, Mi.D.bool, Mi.D.tup, Mi.D.lst, Mi.D.non, Mi.wipeE, List.map_cons, List.map_nil, List.length_cons, List.length_nil, List.cons_append, List.nil_append, List.getElem?_cons_zero, List.getElem?_cons_succ, List.set_cons_zero, List.set_cons_succ, Option.map_some, Option.bind_some, decide_eq_true_eq, ↓reduceIte, Nat.reduceAdd, Nat.reduceSub, Mi.atI0, Mi.atI1, Mi.atI2, Mi.ixN0, Mi.ixN1, Bool.not_true, Bool.not_false, Bool.false_eq_true, decide_true, decide_false, Mi.q_ext, Mi.k_ext, Mi.extR_l, Mi.k_sl3TL, Mi.q_zX, Mi.k_ztl, Mi.k_zlt, hh, hm]
      rw [loop_di]
      rfl
  | some b =>
    obtain ⟨b0, b1⟩ := ok.back b rfl
    have sp := size_pos ok
    have hs : sizeL ⟨rows, some b⟩ = holds rows - aheadL ⟨rows, some b⟩ b := rfl
    have ha := e_holds_of (rows.take b.toNat) (by rw [List.length_take]; omega)
    have e1 : holds (rows.take b.toNat) = aheadL ⟨rows, some b⟩ b := rfl
    have hz : 0 < holds rows - aheadL ⟨rows, some b⟩ b := by rw [← hs]; exact sp
    by_cases hm : holds rows ≤ m
    · have hm2 : ¬ m < holds rows := by omega
      simp only [encL, encO, Mi.wE_ok, Mi.bind_k, Mi.bind_b, Mi.bind_ite, Mi.optR_some, Mi.addF_int, Mi.int2_int, Mi.intB_int, Mi.q_seq, Mi.q_set, Mi.q_nil, Mi.q_drop, Mi.q_ret, Mi.q_if, Mi.q_brk, Mi.q_cnt, Mi.q_bad, Mi.q_asg, Mi.q_par, Mi.q_par3, Mi.q_app, Mi.q_put, Mi.q_putR, Mi.q_for, Mi.q_var, Mi.varR_some, Mi.q_con, Mi.q_bin, Mi.q_binS, Mi.q_bb, Mi.q_un, Mi.q_and, Mi.q_or, Mi.q_not, Mi.q_ife, Mi.q_band, Mi.q_bor, Mi.q_bnot, Mi.q_val, Mi.q_true, Mi.q_chn, Mi.q_anil, Mi.q_acons, Mi.q_tup, Mi.q_lst, Mi.q_lstR, Mi.q_none, Mi.q_some, Mi.q_sl, Mi.q_blt, Mi.q_isi, Mi.q_isi2, Mi.q_iseq, Mi.q_r1, Mi.q_r2, Mi.q_z, Mi.q_lr1, Mi.q_lr2, Mi.q_comp, Mi.q_call, Mi.k_seq_nx, Mi.k_seq_rt, Mi.k_seq_bk, Mi.k_seq_ct, Mi.k_set, Mi.k_drop, Mi.k_ret, Mi.k_if, Mi.k_asg, Mi.asgR_some, Mi.k_par, Mi.k_par3, Mi.k_app, Mi.appR_l, Mi.k_putR, Mi.k_putR2, Mi.putR2_ref, Mi.k_for, Mi.k_bin, Mi.k_bin2, Mi.k_binS, Mi.k_binS2, Mi.k_bb, Mi.k_bb2, Mi.optB_some, Mi.k_un, Mi.k_and_t, Mi.k_and_f, Mi.k_or_t, Mi.k_or_f, Mi.k_not, Mi.k_ife, Mi.k_band, Mi.k_bor, Mi.k_bnot, Mi.k_val, Mi.k_chn, Mi.k_chn2, Mi.k_chn3, Mi.k_cons, Mi.k_cons2, Mi.k_tup, Mi.k_lst, Mi.k_lstR, Mi.lstR_some, Mi.pys_nil, Mi.pys_cons, Mi.k_some_i, Mi.k_some_n, Mi.k_sl, Mi.k_sl2, Mi.k_sl3T, Mi.k_sl3L, Mi.k_blt, Mi.k_isi, Mi.k_isi2, Mi.k_seqI_l, Mi.k_seqI_t, Mi.k_r1, Mi.k_r2, Mi.k_r22, Mi.k_z, Mi.k_z2l, Mi.k_z2t, Mi.k_lr1, Mi.k_lr2, Mi.k_lr22, Mi.k_comp, Mi.k_comp2, Mi.k_body_rt, Mi.k_body_nx, Mi.v_add_t, Mi.v_cat, Mi.v_rep, Mi.v_mul, Mi.v_div, Mi.v_mod, Mi.v_pow, Mi.v_neg, Mi.v_lt, Mi.v_le, Mi.v_gt, Mi.v_ge, Mi.v_bD, Mi.v_ne, Mi.v_eqI, Mi.v_eqB, Mi.v_isN_n, Mi.v_isN_i, Mi.v_isN_t, Mi.v_isnt, Mi.v_ix_l, Mi.v_ix_t, Mi.v_ix_s, Mi.v_len_l, Mi.v_len_t, Mi.v_len_s, Mi.v_max2, Mi.v_min2, Mi.v_tup_l, Mi.v_lst_t, Mi.v_all, Mi.v_sum, Mi.b_nm, Mi.b_tp, Mi.b_cons, Mi.b_nil, Mi.D.int, Mi.D.bool, Mi.D.tup, Mi.D.lst, Mi.D.non, Mi.wipeE, List.map_cons, List.map_nil, List.length_cons, List.length_nil, List.cons_append, List.nil_append, List.getElem?_cons_zero, List.getElem?_cons_succ, List.set_cons_zero, List.set_cons_succ, Option.map_some, Option.bind_some, decide_eq_true_eq, ↓reduceIte, Nat.reduceAdd, Nat.reduceSub, Mi.atI0, Mi.atI1, Mi.atI2, Mi.ixN0, Mi.ixN1, Bool.not_true, Bool.not_false, Bool.false_eq_true, decide_true, decide_false, Mi.q_ext, Mi.k_ext, Mi.extR_l, Mi.k_sl3TL, Mi.q_zX, Mi.k_ztl, Mi.k_zlt, hh, hm, cut_take _ b0, ← List.map_take, ha, e1, hz, hm2]
      rw [loop_di]
      rfl
    · have hm2 : m < holds rows := by omega
      simp only [encL, encO, Mi.wE_ok, Mi.bind_k, Mi.bind_b, Mi.bind_ite, Mi.optR_some, Mi.addF_int, Mi.int2_int, Mi.intB_int, Mi.q_seq, Mi.q_set, Mi.q_nil, Mi.q_drop, Mi.q_ret, Mi.q_if, Mi.q_brk, Mi.q_cnt, Mi.q_bad, Mi.q_asg, Mi.q_par, Mi.q_par3, Mi.q_app, Mi.q_put, Mi.q_putR, Mi.q_for, Mi.q_var, Mi.varR_some, Mi.q_con, Mi.q_bin, Mi.q_binS, Mi.q_bb, Mi.q_un, Mi.q_and, Mi.q_or, Mi.q_not, Mi.q_ife, Mi.q_band, Mi.q_bor, Mi.q_bnot, Mi.q_val, Mi.q_true, Mi.q_chn, Mi.q_anil, Mi.q_acons, Mi.q_tup, Mi.q_lst, Mi.q_lstR, Mi.q_none, Mi.q_some, Mi.q_sl, Mi.q_blt, Mi.q_isi, Mi.q_isi2, Mi.q_iseq, Mi.q_r1, Mi.q_r2, Mi.q_z, Mi.q_lr1, Mi.q_lr2, Mi.q_comp, Mi.q_call, Mi.k_seq_nx, Mi.k_seq_rt, Mi.k_seq_bk, Mi.k_seq_ct, Mi.k_set, Mi.k_drop, Mi.k_ret, Mi.k_if, Mi.k_asg, Mi.asgR_some, Mi.k_par, Mi.k_par3, Mi.k_app, Mi.appR_l, Mi.k_putR, Mi.k_putR2, Mi.putR2_ref, Mi.k_for, Mi.k_bin, Mi.k_bin2, Mi.k_binS, Mi.k_binS2, Mi.k_bb, Mi.k_bb2, Mi.optB_some, Mi.k_un, Mi.k_and_t, Mi.k_and_f, Mi.k_or_t, Mi.k_or_f, Mi.k_not, Mi.k_ife, Mi.k_band, Mi.k_bor, Mi.k_bnot, Mi.k_val, Mi.k_chn, Mi.k_chn2, Mi.k_chn3, Mi.k_cons, Mi.k_cons2, Mi.k_tup, Mi.k_lst, Mi.k_lstR, Mi.lstR_some, Mi.pys_nil, Mi.pys_cons, Mi.k_some_i, Mi.k_some_n, Mi.k_sl, Mi.k_sl2, Mi.k_sl3T, Mi.k_sl3L, Mi.k_blt, Mi.k_isi, Mi.k_isi2, Mi.k_seqI_l, Mi.k_seqI_t, Mi.k_r1, Mi.k_r2, Mi.k_r22, Mi.k_z, Mi.k_z2l, Mi.k_z2t, Mi.k_lr1, Mi.k_lr2, Mi.k_lr22, Mi.k_comp, Mi.k_comp2, Mi.k_body_rt, Mi.k_body_nx, Mi.v_add_t, Mi.v_cat, Mi.v_rep, Mi.v_mul, Mi.v_div, Mi.v_mod, Mi.v_pow, Mi.v_neg, Mi.v_lt, Mi.v_le, Mi.v_gt, Mi.v_ge, Mi.v_bD, Mi.v_ne, Mi.v_eqI, Mi.v_eqB, Mi.v_isN_n, Mi.v_isN_i, Mi.v_isN_t, Mi.v_isnt, Mi.v_ix_l, Mi.v_ix_t, Mi.v_ix_s, Mi.v_len_l, Mi.v_len_t, Mi.v_len_s, Mi.v_max2, Mi.v_min2, Mi.v_tup_l, Mi.v_lst_t, Mi.v_all, Mi.v_sum, Mi.b_nm, Mi.b_tp, Mi.b_cons, Mi.b_nil, Mi.D.int, Mi.D.bool, Mi.D.tup, Mi.D.lst, Mi.D.non, Mi.wipeE, List.map_cons, List.map_nil, List.length_cons, List.length_nil, List.cons_append, List.nil_append, List.getElem?_cons_zero, List.getElem?_cons_succ, List.set_cons_zero, List.set_cons_succ, Option.map_some, Option.bind_some, decide_eq_true_eq, ↓reduceIte, Nat.reduceAdd, Nat.reduceSub, Mi.atI0, Mi.atI1, Mi.atI2, Mi.ixN0, Mi.ixN1, Bool.not_true, Bool.not_false, Bool.false_eq_true, decide_true, decide_false, Mi.q_ext, Mi.k_ext, Mi.extR_l, Mi.k_sl3TL, Mi.q_zX, Mi.k_ztl, Mi.k_zlt, hh, hm, hm2]
      rw [loop_di]
      rfl
theorem same_ints (xs : List Int) (h : ∀ x ∈ xs, -1000 ≤ x ∧ x ≤ 1000) (hl : xs.length ≤ 10000) (S : Store) : c__law_same 6 [.p (.list (xs.map PyData.int)), .p (.list (xs.map PyData.int))] S = .ok (.p (.bool true)) S := by
  obtain ⟨h1, h2, h3⟩ := tame_ints xs h
  refine same_refl S 6 _ (by simpa only [tame] using h1) ?_ ?_
  · simp only [wideD, h2]
    omega
  · simp only [dep, h3]
    omega
theorem same_place {w : Win} (ok : WinOk w) (m : Int) (h0 : 0 ≤ m) (S : Store) : c__law_same 6 [.p (placeW w m), .p (placeW w m)] S = .ok (.p (.bool true)) S := by
  obtain ⟨h1, h2, h3⟩ := tame_walk w.ms w.x w.y m ok.ms h0 ok.x ok.y
  exact same_refl S 6 _ h1 (by show wideD (walkW w.x w.y w.ms m) ≤ _; omega) (by show dep (walkW w.x w.y w.ms m) < 6; omega)
theorem same_tm {W n : Nat} {d : PyData} (h : Tm W n d) (hw : W ≤ 1000000) (hn : n < 6) (S : Store) : c__law_same 6 [.p d, .p d] S = .ok (.p (.bool true)) S :=
  same_refl S 6 d h.t (Nat.le_trans h.w hw) (by have := h.d; omega)
theorem e_layL {l : Lay} (ok : LayOk l) (many : Int) (h0 : 0 ≤ many) (h9 : many ≤ 100000) (S : Store) : c__law_laying [.p (encL l), .p (.int many)] S = .ok (.p (.list ((layL l many.toNat).map PyData.int))) S := by
  obtain ⟨xs, e, hl, hx⟩ := e_laying ok many h0 h9 S
  rw [e, layL_of h0 hl hx]
theorem same_b (i : Nat) (a b : Bool) (S : Store) : c__law_same (i + 1) [.p (.bool a), .p (.bool b)] S = .ok (.p (.bool (a == b))) S := by
  rw [u__law_same, m__law_same]
  simp only [Mi.wE_ok, Mi.bind_k, Mi.bind_b, Mi.bind_ite, Mi.optR_some, Mi.addF_int, Mi.int2_int, Mi.intB_int, Mi.q_seq, Mi.q_set, Mi.q_nil, Mi.q_drop, Mi.q_ret, Mi.q_if, Mi.q_brk, Mi.q_cnt, Mi.q_bad, Mi.q_asg, Mi.q_par, Mi.q_par3, Mi.q_app, Mi.q_put, Mi.q_putR, Mi.q_for, Mi.q_var, Mi.varR_some, Mi.q_con, Mi.q_bin, Mi.q_binS, Mi.q_bb, Mi.q_un, Mi.q_and, Mi.q_or, Mi.q_not, Mi.q_ife, Mi.q_band, Mi.q_bor, Mi.q_bnot, Mi.q_val, Mi.q_true, Mi.q_chn, Mi.q_anil, Mi.q_acons, Mi.q_tup, Mi.q_lst, Mi.q_lstR, Mi.q_none, Mi.q_some, Mi.q_sl, Mi.q_blt, Mi.q_isi, Mi.q_isi2, Mi.q_iseq, Mi.q_r1, Mi.q_r2, Mi.q_z, Mi.q_lr1, Mi.q_lr2, Mi.q_comp, Mi.q_call, Mi.k_seq_nx, Mi.k_seq_rt, Mi.k_seq_bk, Mi.k_seq_ct, Mi.k_set, Mi.k_drop, Mi.k_ret, Mi.k_if, Mi.k_asg, Mi.asgR_some, Mi.k_par, Mi.k_par3, Mi.k_app, Mi.appR_l, Mi.k_putR, Mi.k_putR2, Mi.putR2_ref, Mi.k_for, Mi.k_bin, Mi.k_bin2, Mi.k_binS, Mi.k_binS2, Mi.k_bb, Mi.k_bb2, Mi.optB_some, Mi.k_un, Mi.k_and_t, Mi.k_and_f, Mi.k_or_t, Mi.k_or_f, Mi.k_not, Mi.k_ife, Mi.k_band, Mi.k_bor, Mi.k_bnot, Mi.k_val, Mi.k_chn, Mi.k_chn2, Mi.k_chn3, Mi.k_cons, Mi.k_cons2, Mi.k_tup, Mi.k_lst, Mi.k_lstR, Mi.lstR_some, Mi.pys_nil, Mi.pys_cons, Mi.k_some_i, Mi.k_some_n, Mi.k_sl, Mi.k_sl2, Mi.k_sl3T, Mi.k_sl3L, Mi.k_blt, Mi.k_isi, Mi.k_isi2, Mi.k_seqI_l, Mi.k_seqI_t, Mi.k_r1, Mi.k_r2, Mi.k_r22, Mi.k_z, Mi.k_z2l, Mi.k_z2t, Mi.k_lr1, Mi.k_lr2, Mi.k_lr22, Mi.k_comp, Mi.k_comp2, Mi.k_body_rt, Mi.k_body_nx, Mi.v_add_t, Mi.v_cat, Mi.v_rep, Mi.v_mul, Mi.v_div, Mi.v_mod, Mi.v_pow, Mi.v_neg, Mi.v_lt, Mi.v_le, Mi.v_gt, Mi.v_ge, Mi.v_bD, Mi.v_ne, Mi.v_eqI, Mi.v_eqB, Mi.v_isN_n, Mi.v_isN_i, Mi.v_isN_t, Mi.v_isnt, Mi.v_ix_l, Mi.v_ix_t, Mi.v_ix_s, Mi.v_len_l, Mi.v_len_t, Mi.v_len_s, Mi.v_max2, Mi.v_min2, Mi.v_tup_l, Mi.v_lst_t, Mi.v_all, Mi.v_sum, Mi.b_nm, Mi.b_tp, Mi.b_cons, Mi.b_nil, Mi.D.int, Mi.D.bool, Mi.D.tup, Mi.D.lst, Mi.D.non, Mi.wipeE, List.map_cons, List.map_nil, List.length_cons, List.length_nil, List.cons_append, List.nil_append, List.getElem?_cons_zero, List.getElem?_cons_succ, List.set_cons_zero, List.set_cons_succ, Option.map_some, Option.bind_some, decide_eq_true_eq, ↓reduceIte, Nat.reduceAdd, Nat.reduceSub, Mi.atI0, Mi.atI1, Mi.atI2, Mi.ixN0, Mi.ixN1, Bool.not_true, Bool.not_false, Bool.false_eq_true, decide_true, decide_false, Mi.q_ext, Mi.k_ext, Mi.extR_l, Mi.k_sl3TL, Mi.q_zX, Mi.k_ztl, Mi.k_zlt, show (isT "tuple" (tyN (D.p (PyData.bool b))) || isT "list" (tyN (D.p (PyData.bool b)))) = false from rfl, show isT "bool" (tyN (D.p (PyData.bool a))) = true from rfl, show isT "bool" (tyN (D.p (PyData.bool b))) = true from rfl, show (true == true) = true from rfl, v_eqB]
/-- things of other kinds -/
def oddL : List PyData := [.none, .bool true, .bool false, .int (-1), .int 0, .int 25, .int 10, .str (PySem.Str.ofString ""), .str (PySem.Str.ofString "0"), .str (PySem.Str.ofString "1x3"), .tuple [], .list [], .dict [], .tuple [.int 0], .list [.int 0], .int 100000000000000000000000000000, .int (-100000000000000000000),
    .tuple [.int 0, .int 0], .list [.int 0, .int 1], .tuple [.tuple [.int 0, .int 1]], .dict [(.str (PySem.Str.ofString "rows"), .int 0)], .tuple [.int 1, .int 2, .int 3], .tuple [.tuple [], .none, .int 0], .tuple [.none, .tuple []], .int (1000000000 + 1)]
def OddOk (d : PyData) : Prop := ∃ b, Shw b 60 3 d
theorem odd_ok {d : PyData} (h : d ∈ oddL) : OddOk d := by
  simp only [oddL, List.mem_cons, List.not_mem_nil, or_false] at h
  rcases h with rfl | rfl | rfl | rfl | rfl | rfl | rfl | rfl | rfl | rfl | rfl | rfl | rfl | rfl | rfl | rfl | rfl | rfl | rfl | rfl | rfl | rfl | rfl | rfl | rfl <;>
    first
      | exact ⟨true, by decide +kernel, by decide +kernel, by decide +kernel, by decide +kernel, by decide +kernel⟩
      | exact ⟨false, by decide +kernel, by decide +kernel, by decide +kernel, by decide +kernel, by decide +kernel⟩
theorem e_told_round {l : Lay} (ok : LayOk l) (S : Store) : c_told_round [.p (encL l)] S = .ok (.p (.tuple [.int (ahd l), .int (sizeL l)])) S := by
  rw [u_told_round, m_told_round]
  have hl := ok.len
  have h1 := e_holds_of l.rows (by omega) S
  have h2 := fun n => e_holds_of (l.rows.take n) (by rw [List.length_take]; omega) S
  have h3 := fun n => e_holds_of (l.rows.drop n) (by rw [List.length_drop]; omega) S
  cases hb : l.back with
  | none =>
    have e1 : ahd l = holds l.rows := by unfold ahd; rw [hb]
    have e2 : sizeL l = 1 := by unfold sizeL; rw [hb]
    simp only [encL, hb, encO, Mi.wE_ok, Mi.bind_k, Mi.bind_b, Mi.bind_ite, Mi.optR_some, Mi.addF_int, Mi.int2_int, Mi.intB_int, Mi.q_seq, Mi.q_set, Mi.q_nil, Mi.q_drop, Mi.q_ret, Mi.q_if, Mi.q_brk, Mi.q_cnt, Mi.q_bad, Mi.q_asg, Mi.q_par, Mi.q_par3, Mi.q_app, Mi.q_put, Mi.q_putR, Mi.q_for, Mi.q_var, Mi.varR_some, Mi.q_con, Mi.q_bin, Mi.q_binS, Mi.q_bb, Mi.q_un, Mi.q_and, Mi.q_or, Mi.q_not, Mi.q_ife, Mi.q_band, Mi.q_bor, Mi.q_bnot, Mi.q_val, Mi.q_true, Mi.q_chn, Mi.q_anil, Mi.q_acons, Mi.q_tup, Mi.q_lst, Mi.q_lstR, Mi.q_none, Mi.q_some, Mi.q_sl, Mi.q_blt, Mi.q_isi, Mi.q_isi2, Mi.q_iseq, Mi.q_r1, Mi.q_r2, Mi.q_z, Mi.q_lr1, Mi.q_lr2, Mi.q_comp, Mi.q_call, Mi.k_seq_nx, Mi.k_seq_rt, Mi.k_seq_bk, Mi.k_seq_ct, Mi.k_set, Mi.k_drop, Mi.k_ret, Mi.k_if, Mi.k_asg, Mi.asgR_some, Mi.k_par, Mi.k_par3, Mi.k_app, Mi.appR_l, Mi.k_putR, Mi.k_putR2, Mi.putR2_ref, Mi.k_for, Mi.k_bin, Mi.k_bin2, Mi.k_binS, Mi.k_binS2, Mi.k_bb, Mi.k_bb2, Mi.optB_some, Mi.k_un, Mi.k_and_t, Mi.k_and_f, Mi.k_or_t, Mi.k_or_f, Mi.k_not, Mi.k_ife, Mi.k_band, Mi.k_bor, Mi.k_bnot, Mi.k_val, Mi.k_chn, Mi.k_chn2, Mi.k_chn3, Mi.k_cons, Mi.k_cons2, Mi.k_tup, Mi.k_lst, Mi.k_lstR, Mi.lstR_some, Mi.pys_nil, Mi.pys_cons, Mi.k_some_i, Mi.k_some_n, Mi.k_sl, Mi.k_sl2, Mi.k_sl3T, Mi.k_sl3L, Mi.k_blt, Mi.k_isi, Mi.k_isi2, Mi.k_seqI_l, Mi.k_seqI_t, Mi.k_r1, Mi.k_r2, Mi.k_r22, Mi.k_z, Mi.k_z2l, Mi.k_z2t, Mi.k_lr1, Mi.k_lr2, Mi.k_lr22, Mi.k_comp, Mi.k_comp2, Mi.k_body_rt, Mi.k_body_nx, Mi.v_add_t, Mi.v_cat, Mi.v_rep, Mi.v_mul, Mi.v_div, Mi.v_mod, Mi.v_pow, Mi.v_neg, Mi.v_lt, Mi.v_le, Mi.v_gt, Mi.v_ge, Mi.v_bD, Mi.v_ne, Mi.v_eqI, Mi.v_eqB, Mi.v_isN_n, Mi.v_isN_i, Mi.v_isN_t, Mi.v_isnt, Mi.v_ix_l, Mi.v_ix_t, Mi.v_ix_s, Mi.v_len_l, Mi.v_len_t, Mi.v_len_s, Mi.v_max2, Mi.v_min2, Mi.v_tup_l, Mi.v_lst_t, Mi.v_all, Mi.v_sum, Mi.b_nm, Mi.b_tp, Mi.b_cons, Mi.b_nil, Mi.D.int, Mi.D.bool, Mi.D.tup, Mi.D.lst, Mi.D.non, Mi.wipeE, List.map_cons, List.map_nil, List.length_cons, List.length_nil, List.cons_append, List.nil_append, List.getElem?_cons_zero, List.getElem?_cons_succ, List.set_cons_zero, List.set_cons_succ, Option.map_some, Option.bind_some, decide_eq_true_eq, ↓reduceIte, Nat.reduceAdd, Nat.reduceSub, Mi.atI0, Mi.atI1, Mi.atI2, Mi.ixN0, Mi.ixN1, Bool.not_true, Bool.not_false, Bool.false_eq_true, decide_true, decide_false, Mi.q_ext, Mi.k_ext, Mi.extR_l, Mi.k_sl3TL, Mi.q_zX, Mi.k_ztl, Mi.k_zlt, h1, e1, e2]
  | some b =>
    have b0 := (ok.back b hb).1
    have e1 : ahd l = holds (l.rows.take b.toNat) := by unfold ahd; rw [hb]; rfl
    have e2 : sizeL l = holds (l.rows.drop b.toNat) := by unfold sizeL; rw [hb, holds_split]; rfl
    simp only [encL, hb, encO, Mi.wE_ok, Mi.bind_k, Mi.bind_b, Mi.bind_ite, Mi.optR_some, Mi.addF_int, Mi.int2_int, Mi.intB_int, Mi.q_seq, Mi.q_set, Mi.q_nil, Mi.q_drop, Mi.q_ret, Mi.q_if, Mi.q_brk, Mi.q_cnt, Mi.q_bad, Mi.q_asg, Mi.q_par, Mi.q_par3, Mi.q_app, Mi.q_put, Mi.q_putR, Mi.q_for, Mi.q_var, Mi.varR_some, Mi.q_con, Mi.q_bin, Mi.q_binS, Mi.q_bb, Mi.q_un, Mi.q_and, Mi.q_or, Mi.q_not, Mi.q_ife, Mi.q_band, Mi.q_bor, Mi.q_bnot, Mi.q_val, Mi.q_true, Mi.q_chn, Mi.q_anil, Mi.q_acons, Mi.q_tup, Mi.q_lst, Mi.q_lstR, Mi.q_none, Mi.q_some, Mi.q_sl, Mi.q_blt, Mi.q_isi, Mi.q_isi2, Mi.q_iseq, Mi.q_r1, Mi.q_r2, Mi.q_z, Mi.q_lr1, Mi.q_lr2, Mi.q_comp, Mi.q_call, Mi.k_seq_nx, Mi.k_seq_rt, Mi.k_seq_bk, Mi.k_seq_ct, Mi.k_set, Mi.k_drop, Mi.k_ret, Mi.k_if, Mi.k_asg, Mi.asgR_some, Mi.k_par, Mi.k_par3, Mi.k_app, Mi.appR_l, Mi.k_putR, Mi.k_putR2, Mi.putR2_ref, Mi.k_for, Mi.k_bin, Mi.k_bin2, Mi.k_binS, Mi.k_binS2, Mi.k_bb, Mi.k_bb2, Mi.optB_some, Mi.k_un, Mi.k_and_t, Mi.k_and_f, Mi.k_or_t, Mi.k_or_f, Mi.k_not, Mi.k_ife, Mi.k_band, Mi.k_bor, Mi.k_bnot, Mi.k_val, Mi.k_chn, Mi.k_chn2, Mi.k_chn3, Mi.k_cons, Mi.k_cons2, Mi.k_tup, Mi.k_lst, Mi.k_lstR, Mi.lstR_some, Mi.pys_nil, Mi.pys_cons, Mi.k_some_i, Mi.k_some_n, Mi.k_sl, Mi.k_sl2, Mi.k_sl3T, Mi.k_sl3L, Mi.k_blt, Mi.k_isi, Mi.k_isi2, Mi.k_seqI_l, Mi.k_seqI_t, Mi.k_r1, Mi.k_r2, Mi.k_r22, Mi.k_z, Mi.k_z2l, Mi.k_z2t, Mi.k_lr1, Mi.k_lr2, Mi.k_lr22, Mi.k_comp, Mi.k_comp2, Mi.k_body_rt, Mi.k_body_nx, Mi.v_add_t, Mi.v_cat, Mi.v_rep, Mi.v_mul, Mi.v_div, Mi.v_mod, Mi.v_pow, Mi.v_neg, Mi.v_lt, Mi.v_le, Mi.v_gt, Mi.v_ge, Mi.v_bD, Mi.v_ne, Mi.v_eqI, Mi.v_eqB, Mi.v_isN_n, Mi.v_isN_i, Mi.v_isN_t, Mi.v_isnt, Mi.v_ix_l, Mi.v_ix_t, Mi.v_ix_s, Mi.v_len_l, Mi.v_len_t, Mi.v_len_s, Mi.v_max2, Mi.v_min2, Mi.v_tup_l, Mi.v_lst_t, Mi.v_all, Mi.v_sum, Mi.b_nm, Mi.b_tp, Mi.b_cons, Mi.b_nil, Mi.D.int, Mi.D.bool, Mi.D.tup, Mi.D.lst, Mi.D.non, Mi.wipeE, List.map_cons, List.map_nil, List.length_cons, List.length_nil, List.cons_append, List.nil_append, List.getElem?_cons_zero, List.getElem?_cons_succ, List.set_cons_zero, List.set_cons_succ, Option.map_some, Option.bind_some, decide_eq_true_eq, ↓reduceIte, Nat.reduceAdd, Nat.reduceSub, Mi.atI0, Mi.atI1, Mi.atI2, Mi.ixN0, Mi.ixN1, Bool.not_true, Bool.not_false, Bool.false_eq_true, decide_true, decide_false, Mi.q_ext, Mi.k_ext, Mi.extR_l, Mi.k_sl3TL, Mi.q_zX, Mi.k_ztl, Mi.k_zlt, cut_take _ b0, cut_fromI _ b0, ← List.map_take, ← List.map_drop, h2, h3, e1, e2]
theorem e_round_in {l : Lay} (ok : LayOk l) (S : Store) : ∃ a p : Int, c_round_in [.p (encL l)] S = .ok (.p (.tuple [.int a, .int p])) S ∧ Rnd (dAt l) a p ∧ a ≤ ahd l ∧ p ∣ sizeL l ∧ p ≤ sizeL l := by
  rw [u_round_in, m_round_in]
  have sp := size_pos ok
  have sl := size_le ok
  have an := ahd_nn ok
  have hp := dAt_per ok
  have hbM : bnd (sizeL l) := bnd_of (by omega) (by omega)
  have hlM : (intR 0 (sizeL l).toNat).length ≤ lim := by rw [intR_len, lim_v]; omega
  -- the pictures of the round
  have h2 := fun x y => compL_pure (p := .nm 4) (elt := eCall c_drawing_in (aCons (eVar 0) (aCons (xAdd (eVar 1) (eVar 4)) aNil))) (ro := [some (.p (encL l)), some (.p (.int (ahd l))), some (.p (.int (sizeL l))), x, none, y, none]) (S := S) (fun i : Nat => D.p (.int (0 + (i : Nat)))) (fun i : Nat => PyData.int (dAt l (ahd l + (0 + (i : Nat))))) (List.range (sizeL l).toNat) (fun i hi => ⟨_, b_nm, by simp only [Mi.wE_ok, Mi.bind_k, Mi.bind_b, Mi.bind_ite, Mi.optR_some, Mi.addF_int, Mi.int2_int, Mi.intB_int, Mi.q_seq, Mi.q_set, Mi.q_nil, Mi.q_drop, Mi.q_ret, Mi.q_if, Mi.q_brk, Mi.q_cnt, Mi.q_bad, Mi.q_asg, Mi.q_par, Mi.q_par3, Mi.q_app, Mi.q_put, Mi.q_putR, Mi.q_for, Mi.q_var, Mi.varR_some, Mi.q_con, Mi.q_bin, Mi.q_binS, Mi.q_bb, Mi.q_un, Mi.q_and, Mi.q_or, Mi.q_not, Mi.q_ife, Mi.q_band, Mi.q_bor, Mi.q_bnot, Mi.q_val, Mi.q_true, Mi.q_chn, Mi.q_anil, Mi.q_acons, Mi.q_tup, Mi.q_lst, Mi.q_lstR, Mi.q_none, Mi.q_some, Mi.q_sl, Mi.q_blt, Mi.q_isi, Mi.q_isi2, Mi.q_iseq, Mi.q_r1, Mi.q_r2, Mi.q_z, Mi.q_lr1, Mi.q_lr2, Mi.q_comp, Mi.q_call, Mi.k_seq_nx, Mi.k_seq_rt, Mi.k_seq_bk, Mi.k_seq_ct, Mi.k_set, Mi.k_drop, Mi.k_ret, Mi.k_if, Mi.k_asg, Mi.asgR_some, Mi.k_par, Mi.k_par3, Mi.k_app, Mi.appR_l, Mi.k_putR, Mi.k_putR2, Mi.putR2_ref, Mi.k_for, Mi.k_bin, Mi.k_bin2, Mi.k_binS, Mi.k_binS2, Mi.k_bb, Mi.k_bb2, Mi.optB_some, Mi.k_un, Mi.k_and_t, Mi.k_and_f, Mi.k_or_t, Mi.k_or_f, Mi.k_not, Mi.k_ife, Mi.k_band, Mi.k_bor, Mi.k_bnot, Mi.k_val, Mi.k_chn, Mi.k_chn2, Mi.k_chn3, Mi.k_cons, Mi.k_cons2, Mi.k_tup, Mi.k_lst, Mi.k_lstR, Mi.lstR_some, Mi.pys_nil, Mi.pys_cons, Mi.k_some_i, Mi.k_some_n, Mi.k_sl, Mi.k_sl2, Mi.k_sl3T, Mi.k_sl3L, Mi.k_blt, Mi.k_isi, Mi.k_isi2, Mi.k_seqI_l, Mi.k_seqI_t, Mi.k_r1, Mi.k_r2, Mi.k_r22, Mi.k_z, Mi.k_z2l, Mi.k_z2t, Mi.k_lr1, Mi.k_lr2, Mi.k_lr22, Mi.k_comp, Mi.k_comp2, Mi.k_body_rt, Mi.k_body_nx, Mi.v_add_t, Mi.v_cat, Mi.v_rep, Mi.v_mul, Mi.v_div, Mi.v_mod, Mi.v_pow, Mi.v_neg, Mi.v_lt, Mi.v_le, Mi.v_gt, Mi.v_ge, Mi.v_bD, Mi.v_ne, Mi.v_eqI, Mi.v_eqB, Mi.v_isN_n, Mi.v_isN_i, Mi.v_isN_t, Mi.v_isnt, Mi.v_ix_l, Mi.v_ix_t, Mi.v_ix_s, Mi.v_len_l, Mi.v_len_t, Mi.v_len_s, Mi.v_max2, Mi.v_min2, Mi.v_tup_l, Mi.v_lst_t, Mi.v_all, Mi.v_sum, Mi.b_nm, Mi.b_tp, Mi.b_cons, Mi.b_nil, Mi.D.int, Mi.D.bool, Mi.D.tup, Mi.D.lst, Mi.D.non, Mi.wipeE, List.map_cons, List.map_nil, List.length_cons, List.length_nil, List.cons_append, List.nil_append, List.getElem?_cons_zero, List.getElem?_cons_succ, List.set_cons_zero, List.set_cons_succ, Option.map_some, Option.bind_some, decide_eq_true_eq, ↓reduceIte, Nat.reduceAdd, Nat.reduceSub, Mi.atI0, Mi.atI1, Mi.atI2, Mi.ixN0, Mi.ixN1, Bool.not_true, Bool.not_false, Bool.false_eq_true, decide_true, decide_false, Mi.q_ext, Mi.k_ext, Mi.extR_l, Mi.k_sl3TL, Mi.q_zX, Mi.k_ztl, Mi.k_zlt, e_drawing_in ok]⟩)
  have ei : intR 0 (sizeL l).toNat = (List.range (sizeL l).toNat).map fun i : Nat => D.p (.int (0 + (i : Nat))) := rfl
  have eo : (List.range (sizeL l).toNat).map (fun i : Nat => PyData.int (dAt l (ahd l + (0 + (i : Nat))))) = (tailL l).map PyData.int := by
    unfold tailL
    rw [List.map_map]
    refine List.map_congr_left fun i _ => ?_
    rw [Int.zero_add]
    rfl
  rw [← ei, eo] at h2
  -- the sizes that fit
  have c1 : bnd 1 ∧ bnd (sizeL l + 1) := ⟨bnd_of (by omega) (by omega), bnd_of (by omega) (by omega)⟩
  have en : (sizeL l + 1 - 1).toNat = (sizeL l).toNat := by omega
  have hl2 : (intR 1 (sizeL l).toNat).length ≤ lim := by rw [intR_len, lim_v]; omega
  have ei2 : intR 1 (sizeL l).toNat = (List.range (sizeL l).toNat).map fun i => D.p (.int (1 + (i : Nat))) := rfl
  let q : Nat → Bool := fun i => (sizeL l % (1 + (i : Nat)) == 0) && decide (tailL l = (tailL l).drop (1 + i) ++ (tailL l).take (1 + i))
  have hc := fun r0 => compL_filter (p := .nm 6) (c := bAnd (bBin eqF (xMod (eVar 2) (eVar 6)) (eCon (.p (.int 0)))) (bBin eqF (eVar 3) (xCat (eSl slL (eVar 3) (oSome (eVar 6)) oNone) (eSl slL (eVar 3) oNone (oSome (eVar 6)))))) (elt := eVar 6) (ro := [some (.p (encL l)), some (.p (.int (ahd l))), some (.p (.int (sizeL l))), some (.p (.list ((tailL l).map PyData.int))), none, r0, none]) (S := S) (fun i : Nat => D.p (.int (1 + (i : Nat)))) q (fun i : Nat => PyData.int (1 + (i : Nat))) (List.range (sizeL l).toNat) (fun i hi => ⟨[some (.p (encL l)), some (.p (.int (ahd l))), some (.p (.int (sizeL l))), some (.p (.list ((tailL l).map PyData.int))), none, r0, some (.p (.int (1 + (i : Nat))))], by simp only [Mi.wE_ok, Mi.bind_k, Mi.bind_b, Mi.bind_ite, Mi.optR_some, Mi.addF_int, Mi.int2_int, Mi.intB_int, Mi.q_seq, Mi.q_set, Mi.q_nil, Mi.q_drop, Mi.q_ret, Mi.q_if, Mi.q_brk, Mi.q_cnt, Mi.q_bad, Mi.q_asg, Mi.q_par, Mi.q_par3, Mi.q_app, Mi.q_put, Mi.q_putR, Mi.q_for, Mi.q_var, Mi.varR_some, Mi.q_con, Mi.q_bin, Mi.q_binS, Mi.q_bb, Mi.q_un, Mi.q_and, Mi.q_or, Mi.q_not, Mi.q_ife, Mi.q_band, Mi.q_bor, Mi.q_bnot, Mi.q_val, Mi.q_true, Mi.q_chn, Mi.q_anil, Mi.q_acons, Mi.q_tup, Mi.q_lst, Mi.q_lstR, Mi.q_none, Mi.q_some, Mi.q_sl, Mi.q_blt, Mi.q_isi, Mi.q_isi2, Mi.q_iseq, Mi.q_r1, Mi.q_r2, Mi.q_z, Mi.q_lr1, Mi.q_lr2, Mi.q_comp, Mi.q_call, Mi.k_seq_nx, Mi.k_seq_rt, Mi.k_seq_bk, Mi.k_seq_ct, Mi.k_set, Mi.k_drop, Mi.k_ret, Mi.k_if, Mi.k_asg, Mi.asgR_some, Mi.k_par, Mi.k_par3, Mi.k_app, Mi.appR_l, Mi.k_putR, Mi.k_putR2, Mi.putR2_ref, Mi.k_for, Mi.k_bin, Mi.k_bin2, Mi.k_binS, Mi.k_binS2, Mi.k_bb, Mi.k_bb2, Mi.optB_some, Mi.k_un, Mi.k_and_t, Mi.k_and_f, Mi.k_or_t, Mi.k_or_f, Mi.k_not, Mi.k_ife, Mi.k_band, Mi.k_bor, Mi.k_bnot, Mi.k_val, Mi.k_chn, Mi.k_chn2, Mi.k_chn3, Mi.k_cons, Mi.k_cons2, Mi.k_tup, Mi.k_lst, Mi.k_lstR, Mi.lstR_some, Mi.pys_nil, Mi.pys_cons, Mi.k_some_i, Mi.k_some_n, Mi.k_sl, Mi.k_sl2, Mi.k_sl3T, Mi.k_sl3L, Mi.k_blt, Mi.k_isi, Mi.k_isi2, Mi.k_seqI_l, Mi.k_seqI_t, Mi.k_r1, Mi.k_r2, Mi.k_r22, Mi.k_z, Mi.k_z2l, Mi.k_z2t, Mi.k_lr1, Mi.k_lr2, Mi.k_lr22, Mi.k_comp, Mi.k_comp2, Mi.k_body_rt, Mi.k_body_nx, Mi.v_add_t, Mi.v_cat, Mi.v_rep, Mi.v_mul, Mi.v_div, Mi.v_mod, Mi.v_pow, Mi.v_neg, Mi.v_lt, Mi.v_le, Mi.v_gt, Mi.v_ge, Mi.v_bD, Mi.v_ne, Mi.v_eqI, Mi.v_eqB, Mi.v_isN_n, Mi.v_isN_i, Mi.v_isN_t, Mi.v_isnt, Mi.v_ix_l, Mi.v_ix_t, Mi.v_ix_s, Mi.v_len_l, Mi.v_len_t, Mi.v_len_s, Mi.v_max2, Mi.v_min2, Mi.v_tup_l, Mi.v_lst_t, Mi.v_all, Mi.v_sum, Mi.b_nm, Mi.b_tp, Mi.b_cons, Mi.b_nil, Mi.D.int, Mi.D.bool, Mi.D.tup, Mi.D.lst, Mi.D.non, Mi.wipeE, List.map_cons, List.map_nil, List.length_cons, List.length_nil, List.cons_append, List.nil_append, List.getElem?_cons_zero, List.getElem?_cons_succ, List.set_cons_zero, List.set_cons_succ, Option.map_some, Option.bind_some, decide_eq_true_eq, ↓reduceIte, Nat.reduceAdd, Nat.reduceSub, Mi.atI0, Mi.atI1, Mi.atI2, Mi.ixN0, Mi.ixN1, Bool.not_true, Bool.not_false, Bool.false_eq_true, decide_true, decide_false, Mi.q_ext, Mi.k_ext, Mi.extR_l, Mi.k_sl3TL, Mi.q_zX, Mi.k_ztl, Mi.k_zlt], by
    have i0 : (0 : Int) < 1 + (i : Nat) := by omega
    have i1 : (0 : Int) ≤ 1 + (i : Nat) := by omega
    have e1 : ((1 : Int) + (i : Nat)).toNat = 1 + i := by omega
    have lc : (((tailL l).map PyData.int).drop (1 + i)).length + (((tailL l).map PyData.int).take (1 + i)).length ≤ lim := by
      rw [List.length_drop, List.length_take, List.length_map, tailL_len, lim_v]
      omega
    cases hm : (sizeL l % (1 + (i : Nat)) == 0) with
    | false => simp only [Mi.wE_ok, Mi.bind_k, Mi.bind_b, Mi.bind_ite, Mi.optR_some, Mi.addF_int, Mi.int2_int, Mi.intB_int, Mi.q_seq, Mi.q_set, Mi.q_nil, Mi.q_drop, Mi.q_ret, Mi.q_if, Mi.q_brk, Mi.q_cnt, Mi.q_bad, Mi.q_asg, Mi.q_par, Mi.q_par3, Mi.q_app, Mi.q_put, Mi.q_putR, Mi.q_for, Mi.q_var, Mi.varR_some, Mi.q_con, Mi.q_bin, Mi.q_binS, Mi.q_bb, Mi.q_un, Mi.q_and, Mi.q_or, Mi.q_not, Mi.q_ife, Mi.q_band, Mi.q_bor, Mi.q_bnot, Mi.q_val, Mi.q_true, Mi.q_chn, Mi.q_anil, Mi.q_acons, Mi.q_tup, Mi.q_lst, Mi.q_lstR, Mi.q_none, Mi.q_some, Mi.q_sl, Mi.q_blt, Mi.q_isi, Mi.q_isi2, Mi.q_iseq, Mi.q_r1, Mi.q_r2, Mi.q_z, Mi.q_lr1, Mi.q_lr2, Mi.q_comp, Mi.q_call, Mi.k_seq_nx, Mi.k_seq_rt, Mi.k_seq_bk, Mi.k_seq_ct, Mi.k_set, Mi.k_drop, Mi.k_ret, Mi.k_if, Mi.k_asg, Mi.asgR_some, Mi.k_par, Mi.k_par3, Mi.k_app, Mi.appR_l, Mi.k_putR, Mi.k_putR2, Mi.putR2_ref, Mi.k_for, Mi.k_bin, Mi.k_bin2, Mi.k_binS, Mi.k_binS2, Mi.k_bb, Mi.k_bb2, Mi.optB_some, Mi.k_un, Mi.k_and_t, Mi.k_and_f, Mi.k_or_t, Mi.k_or_f, Mi.k_not, Mi.k_ife, Mi.k_band, Mi.k_bor, Mi.k_bnot, Mi.k_val, Mi.k_chn, Mi.k_chn2, Mi.k_chn3, Mi.k_cons, Mi.k_cons2, Mi.k_tup, Mi.k_lst, Mi.k_lstR, Mi.lstR_some, Mi.pys_nil, Mi.pys_cons, Mi.k_some_i, Mi.k_some_n, Mi.k_sl, Mi.k_sl2, Mi.k_sl3T, Mi.k_sl3L, Mi.k_blt, Mi.k_isi, Mi.k_isi2, Mi.k_seqI_l, Mi.k_seqI_t, Mi.k_r1, Mi.k_r2, Mi.k_r22, Mi.k_z, Mi.k_z2l, Mi.k_z2t, Mi.k_lr1, Mi.k_lr2, Mi.k_lr22, Mi.k_comp, Mi.k_comp2, Mi.k_body_rt, Mi.k_body_nx, Mi.v_add_t, Mi.v_cat, Mi.v_rep, Mi.v_mul, Mi.v_div, Mi.v_mod, Mi.v_pow, Mi.v_neg, Mi.v_lt, Mi.v_le, Mi.v_gt, Mi.v_ge, Mi.v_bD, Mi.v_ne, Mi.v_eqI, Mi.v_eqB, Mi.v_isN_n, Mi.v_isN_i, Mi.v_isN_t, Mi.v_isnt, Mi.v_ix_l, Mi.v_ix_t, Mi.v_ix_s, Mi.v_len_l, Mi.v_len_t, Mi.v_len_s, Mi.v_max2, Mi.v_min2, Mi.v_tup_l, Mi.v_lst_t, Mi.v_all, Mi.v_sum, Mi.b_nm, Mi.b_tp, Mi.b_cons, Mi.b_nil, Mi.D.int, Mi.D.bool, Mi.D.tup, Mi.D.lst, Mi.D.non, Mi.wipeE, List.map_cons, List.map_nil, List.length_cons, List.length_nil, List.cons_append, List.nil_append, List.getElem?_cons_zero, List.getElem?_cons_succ, List.set_cons_zero, List.set_cons_succ, Option.map_some, Option.bind_some, decide_eq_true_eq, ↓reduceIte, Nat.reduceAdd, Nat.reduceSub, Mi.atI0, Mi.atI1, Mi.atI2, Mi.ixN0, Mi.ixN1, Bool.not_true, Bool.not_false, Bool.false_eq_true, decide_true, decide_false, Mi.q_ext, Mi.k_ext, Mi.extR_l, Mi.k_sl3TL, Mi.q_zX, Mi.k_ztl, Mi.k_zlt, i0, hm, q, Bool.false_and]
    | true =>
      simp only [Mi.wE_ok, Mi.bind_k, Mi.bind_b, Mi.bind_ite, Mi.optR_some, Mi.addF_int, Mi.int2_int, Mi.intB_int, Mi.q_seq, Mi.q_set, Mi.q_nil, Mi.q_drop, Mi.q_ret, Mi.q_if, Mi.q_brk, Mi.q_cnt, Mi.q_bad, Mi.q_asg, Mi.q_par, Mi.q_par3, Mi.q_app, Mi.q_put, Mi.q_putR, Mi.q_for, Mi.q_var, Mi.varR_some, Mi.q_con, Mi.q_bin, Mi.q_binS, Mi.q_bb, Mi.q_un, Mi.q_and, Mi.q_or, Mi.q_not, Mi.q_ife, Mi.q_band, Mi.q_bor, Mi.q_bnot, Mi.q_val, Mi.q_true, Mi.q_chn, Mi.q_anil, Mi.q_acons, Mi.q_tup, Mi.q_lst, Mi.q_lstR, Mi.q_none, Mi.q_some, Mi.q_sl, Mi.q_blt, Mi.q_isi, Mi.q_isi2, Mi.q_iseq, Mi.q_r1, Mi.q_r2, Mi.q_z, Mi.q_lr1, Mi.q_lr2, Mi.q_comp, Mi.q_call, Mi.k_seq_nx, Mi.k_seq_rt, Mi.k_seq_bk, Mi.k_seq_ct, Mi.k_set, Mi.k_drop, Mi.k_ret, Mi.k_if, Mi.k_asg, Mi.asgR_some, Mi.k_par, Mi.k_par3, Mi.k_app, Mi.appR_l, Mi.k_putR, Mi.k_putR2, Mi.putR2_ref, Mi.k_for, Mi.k_bin, Mi.k_bin2, Mi.k_binS, Mi.k_binS2, Mi.k_bb, Mi.k_bb2, Mi.optB_some, Mi.k_un, Mi.k_and_t, Mi.k_and_f, Mi.k_or_t, Mi.k_or_f, Mi.k_not, Mi.k_ife, Mi.k_band, Mi.k_bor, Mi.k_bnot, Mi.k_val, Mi.k_chn, Mi.k_chn2, Mi.k_chn3, Mi.k_cons, Mi.k_cons2, Mi.k_tup, Mi.k_lst, Mi.k_lstR, Mi.lstR_some, Mi.pys_nil, Mi.pys_cons, Mi.k_some_i, Mi.k_some_n, Mi.k_sl, Mi.k_sl2, Mi.k_sl3T, Mi.k_sl3L, Mi.k_blt, Mi.k_isi, Mi.k_isi2, Mi.k_seqI_l, Mi.k_seqI_t, Mi.k_r1, Mi.k_r2, Mi.k_r22, Mi.k_z, Mi.k_z2l, Mi.k_z2t, Mi.k_lr1, Mi.k_lr2, Mi.k_lr22, Mi.k_comp, Mi.k_comp2, Mi.k_body_rt, Mi.k_body_nx, Mi.v_add_t, Mi.v_cat, Mi.v_rep, Mi.v_mul, Mi.v_div, Mi.v_mod, Mi.v_pow, Mi.v_neg, Mi.v_lt, Mi.v_le, Mi.v_gt, Mi.v_ge, Mi.v_bD, Mi.v_ne, Mi.v_eqI, Mi.v_eqB, Mi.v_isN_n, Mi.v_isN_i, Mi.v_isN_t, Mi.v_isnt, Mi.v_ix_l, Mi.v_ix_t, Mi.v_ix_s, Mi.v_len_l, Mi.v_len_t, Mi.v_len_s, Mi.v_max2, Mi.v_min2, Mi.v_tup_l, Mi.v_lst_t, Mi.v_all, Mi.v_sum, Mi.b_nm, Mi.b_tp, Mi.b_cons, Mi.b_nil, Mi.D.int, Mi.D.bool, Mi.D.tup, Mi.D.lst, Mi.D.non, Mi.wipeE, List.map_cons, List.map_nil, List.length_cons, List.length_nil, List.cons_append, List.nil_append, List.getElem?_cons_zero, List.getElem?_cons_succ, List.set_cons_zero, List.set_cons_succ, Option.map_some, Option.bind_some, decide_eq_true_eq, ↓reduceIte, Nat.reduceAdd, Nat.reduceSub, Mi.atI0, Mi.atI1, Mi.atI2, Mi.ixN0, Mi.ixN1, Bool.not_true, Bool.not_false, Bool.false_eq_true, decide_true, decide_false, Mi.q_ext, Mi.k_ext, Mi.extR_l, Mi.k_sl3TL, Mi.q_zX, Mi.k_ztl, Mi.k_zlt, i0, hm, q, Bool.true_and, cut_fromI _ i1, cut_take _ i1, e1, lc]
      rw [← List.map_drop, ← List.map_take, ← List.map_append, eq_ints]
      simp only [Mi.wE_ok, Mi.bind_k, Mi.bind_b, Mi.bind_ite, Mi.optR_some, Mi.addF_int, Mi.int2_int, Mi.intB_int, Mi.q_seq, Mi.q_set, Mi.q_nil, Mi.q_drop, Mi.q_ret, Mi.q_if, Mi.q_brk, Mi.q_cnt, Mi.q_bad, Mi.q_asg, Mi.q_par, Mi.q_par3, Mi.q_app, Mi.q_put, Mi.q_putR, Mi.q_for, Mi.q_var, Mi.varR_some, Mi.q_con, Mi.q_bin, Mi.q_binS, Mi.q_bb, Mi.q_un, Mi.q_and, Mi.q_or, Mi.q_not, Mi.q_ife, Mi.q_band, Mi.q_bor, Mi.q_bnot, Mi.q_val, Mi.q_true, Mi.q_chn, Mi.q_anil, Mi.q_acons, Mi.q_tup, Mi.q_lst, Mi.q_lstR, Mi.q_none, Mi.q_some, Mi.q_sl, Mi.q_blt, Mi.q_isi, Mi.q_isi2, Mi.q_iseq, Mi.q_r1, Mi.q_r2, Mi.q_z, Mi.q_lr1, Mi.q_lr2, Mi.q_comp, Mi.q_call, Mi.k_seq_nx, Mi.k_seq_rt, Mi.k_seq_bk, Mi.k_seq_ct, Mi.k_set, Mi.k_drop, Mi.k_ret, Mi.k_if, Mi.k_asg, Mi.asgR_some, Mi.k_par, Mi.k_par3, Mi.k_app, Mi.appR_l, Mi.k_putR, Mi.k_putR2, Mi.putR2_ref, Mi.k_for, Mi.k_bin, Mi.k_bin2, Mi.k_binS, Mi.k_binS2, Mi.k_bb, Mi.k_bb2, Mi.optB_some, Mi.k_un, Mi.k_and_t, Mi.k_and_f, Mi.k_or_t, Mi.k_or_f, Mi.k_not, Mi.k_ife, Mi.k_band, Mi.k_bor, Mi.k_bnot, Mi.k_val, Mi.k_chn, Mi.k_chn2, Mi.k_chn3, Mi.k_cons, Mi.k_cons2, Mi.k_tup, Mi.k_lst, Mi.k_lstR, Mi.lstR_some, Mi.pys_nil, Mi.pys_cons, Mi.k_some_i, Mi.k_some_n, Mi.k_sl, Mi.k_sl2, Mi.k_sl3T, Mi.k_sl3L, Mi.k_blt, Mi.k_isi, Mi.k_isi2, Mi.k_seqI_l, Mi.k_seqI_t, Mi.k_r1, Mi.k_r2, Mi.k_r22, Mi.k_z, Mi.k_z2l, Mi.k_z2t, Mi.k_lr1, Mi.k_lr2, Mi.k_lr22, Mi.k_comp, Mi.k_comp2, Mi.k_body_rt, Mi.k_body_nx, Mi.v_add_t, Mi.v_cat, Mi.v_rep, Mi.v_mul, Mi.v_div, Mi.v_mod, Mi.v_pow, Mi.v_neg, Mi.v_lt, Mi.v_le, Mi.v_gt, Mi.v_ge, Mi.v_bD, Mi.v_ne, Mi.v_eqI, Mi.v_eqB, Mi.v_isN_n, Mi.v_isN_i, Mi.v_isN_t, Mi.v_isnt, Mi.v_ix_l, Mi.v_ix_t, Mi.v_ix_s, Mi.v_len_l, Mi.v_len_t, Mi.v_len_s, Mi.v_max2, Mi.v_min2, Mi.v_tup_l, Mi.v_lst_t, Mi.v_all, Mi.v_sum, Mi.b_nm, Mi.b_tp, Mi.b_cons, Mi.b_nil, Mi.D.int, Mi.D.bool, Mi.D.tup, Mi.D.lst, Mi.D.non, Mi.wipeE, List.map_cons, List.map_nil, List.length_cons, List.length_nil, List.cons_append, List.nil_append, List.getElem?_cons_zero, List.getElem?_cons_succ, List.set_cons_zero, List.set_cons_succ, Option.map_some, Option.bind_some, decide_eq_true_eq, ↓reduceIte, Nat.reduceAdd, Nat.reduceSub, Mi.atI0, Mi.atI1, Mi.atI2, Mi.ixN0, Mi.ixN1, Bool.not_true, Bool.not_false, Bool.false_eq_true, decide_true, decide_false, Mi.q_ext, Mi.k_ext, Mi.extR_l, Mi.k_sl3TL, Mi.q_zX, Mi.k_ztl, Mi.k_zlt], fun _ => by simp only [Mi.wE_ok, Mi.bind_k, Mi.bind_b, Mi.bind_ite, Mi.optR_some, Mi.addF_int, Mi.int2_int, Mi.intB_int, Mi.q_seq, Mi.q_set, Mi.q_nil, Mi.q_drop, Mi.q_ret, Mi.q_if, Mi.q_brk, Mi.q_cnt, Mi.q_bad, Mi.q_asg, Mi.q_par, Mi.q_par3, Mi.q_app, Mi.q_put, Mi.q_putR, Mi.q_for, Mi.q_var, Mi.varR_some, Mi.q_con, Mi.q_bin, Mi.q_binS, Mi.q_bb, Mi.q_un, Mi.q_and, Mi.q_or, Mi.q_not, Mi.q_ife, Mi.q_band, Mi.q_bor, Mi.q_bnot, Mi.q_val, Mi.q_true, Mi.q_chn, Mi.q_anil, Mi.q_acons, Mi.q_tup, Mi.q_lst, Mi.q_lstR, Mi.q_none, Mi.q_some, Mi.q_sl, Mi.q_blt, Mi.q_isi, Mi.q_isi2, Mi.q_iseq, Mi.q_r1, Mi.q_r2, Mi.q_z, Mi.q_lr1, Mi.q_lr2, Mi.q_comp, Mi.q_call, Mi.k_seq_nx, Mi.k_seq_rt, Mi.k_seq_bk, Mi.k_seq_ct, Mi.k_set, Mi.k_drop, Mi.k_ret, Mi.k_if, Mi.k_asg, Mi.asgR_some, Mi.k_par, Mi.k_par3, Mi.k_app, Mi.appR_l, Mi.k_putR, Mi.k_putR2, Mi.putR2_ref, Mi.k_for, Mi.k_bin, Mi.k_bin2, Mi.k_binS, Mi.k_binS2, Mi.k_bb, Mi.k_bb2, Mi.optB_some, Mi.k_un, Mi.k_and_t, Mi.k_and_f, Mi.k_or_t, Mi.k_or_f, Mi.k_not, Mi.k_ife, Mi.k_band, Mi.k_bor, Mi.k_bnot, Mi.k_val, Mi.k_chn, Mi.k_chn2, Mi.k_chn3, Mi.k_cons, Mi.k_cons2, Mi.k_tup, Mi.k_lst, Mi.k_lstR, Mi.lstR_some, Mi.pys_nil, Mi.pys_cons, Mi.k_some_i, Mi.k_some_n, Mi.k_sl, Mi.k_sl2, Mi.k_sl3T, Mi.k_sl3L, Mi.k_blt, Mi.k_isi, Mi.k_isi2, Mi.k_seqI_l, Mi.k_seqI_t, Mi.k_r1, Mi.k_r2, Mi.k_r22, Mi.k_z, Mi.k_z2l, Mi.k_z2t, Mi.k_lr1, Mi.k_lr2, Mi.k_lr22, Mi.k_comp, Mi.k_comp2, Mi.k_body_rt, Mi.k_body_nx, Mi.v_add_t, Mi.v_cat, Mi.v_rep, Mi.v_mul, Mi.v_div, Mi.v_mod, Mi.v_pow, Mi.v_neg, Mi.v_lt, Mi.v_le, Mi.v_gt, Mi.v_ge, Mi.v_bD, Mi.v_ne, Mi.v_eqI, Mi.v_eqB, Mi.v_isN_n, Mi.v_isN_i, Mi.v_isN_t, Mi.v_isnt, Mi.v_ix_l, Mi.v_ix_t, Mi.v_ix_s, Mi.v_len_l, Mi.v_len_t, Mi.v_len_s, Mi.v_max2, Mi.v_min2, Mi.v_tup_l, Mi.v_lst_t, Mi.v_all, Mi.v_sum, Mi.b_nm, Mi.b_tp, Mi.b_cons, Mi.b_nil, Mi.D.int, Mi.D.bool, Mi.D.tup, Mi.D.lst, Mi.D.non, Mi.wipeE, List.map_cons, List.map_nil, List.length_cons, List.length_nil, List.cons_append, List.nil_append, List.getElem?_cons_zero, List.getElem?_cons_succ, List.set_cons_zero, List.set_cons_succ, Option.map_some, Option.bind_some, decide_eq_true_eq, ↓reduceIte, Nat.reduceAdd, Nat.reduceSub, Mi.atI0, Mi.atI1, Mi.atI2, Mi.ixN0, Mi.ixN1, Bool.not_true, Bool.not_false, Bool.false_eq_true, decide_true, decide_false, Mi.q_ext, Mi.k_ext, Mi.extR_l, Mi.k_sl3TL, Mi.q_zX, Mi.k_ztl, Mi.k_zlt]⟩)
  -- the least of them
  have rot := fun (i : Nat) (hi : i < (sizeL l).toNat) => rot_iff (p := 1 + (i : Nat)) hp sp (by omega) (by omega)
  have qi : ∀ i : Nat, i < (sizeL l).toNat → (q i = true ↔ (1 + (i : Int)) ∣ sizeL l ∧ Per (dAt l) (ahd l) (1 + (i : Nat))) := fun i hi => by
    have r := rot i hi
    simp only at r
    rw [show ((1 : Int) + (i : Nat)).toNat = 1 + i by omega] at r
    show ((sizeL l % (1 + (i : Nat)) == 0) && decide (tailL l = (tailL l).drop (1 + i) ++ (tailL l).take (1 + i))) = true ↔ _
    rw [Bool.and_eq_true, decide_eq_true_eq, beq_iff_eq]
    unfold tailL
    rw [r]
    exact ⟨fun h => ⟨Int.dvd_of_emod_eq_zero h.1, h.2⟩, fun h => ⟨Int.emod_eq_zero_of_dvd h.1, h.2⟩⟩
  obtain ⟨i, hi, hq, hlt⟩ := exists_least q ((sizeL l).toNat - 1) ((qi _ (by omega)).mpr ⟨by rw [show (1 : Int) + (((sizeL l).toNat - 1 : Nat) : Int) = sizeL l by omega]; exact Int.dvd_refl _, by rw [show (1 : Int) + (((sizeL l).toNat - 1 : Nat) : Int) = sizeL l by omega]; exact hp⟩)
  obtain ⟨r, hr⟩ := first_of q (n := (sizeL l).toNat) (i := i) (by omega) hq hlt
  rw [hr, List.map_cons, ← ei2] at hc
  obtain ⟨dv, pr⟩ := (qi i (by omega)).mp hq
  have L : Least (dAt l) (ahd l) (sizeL l) (1 + (i : Nat)) := ⟨by omega, dv, pr, fun z z1 zd zp => by
    have zl := Int.le_of_dvd sp zd
    rcases Int.lt_or_le z (1 + (i : Nat)) with lt | le
    · have h := hlt (z - 1).toNat (by omega)
      have h2 := (qi (z - 1).toNat (by omega)).mpr (by rw [show (1 : Int) + (((z - 1).toNat : Nat) : Int) = z by omega]; exact ⟨zd, zp⟩)
      rw [h] at h2
      cases h2
    · exact le⟩
  -- as far ahead as it goes
  obtain ⟨f, S', e, rfl, a, rfl, a0, a1, pa, la⟩ := wE_ex (while_go (c := bAnd (bBin gtI (eVar 1) (eCon (.p (.int 0)))) (bBin eqF (eCall c_drawing_in (aCons (eVar 0) (aCons (xSub (eVar 1) (eCon (.p (.int 1)))) aNil))) (eCall c_drawing_in (aCons (eVar 0) (aCons (xAdd (xSub (eVar 1) (eCon (.p (.int 1)))) (eVar 5)) aNil))))) (m := lb_round_in_0)
    (fun n ro S2 => S2 = S ∧ ∃ a : Int, ro = [some (.p (encL l)), some (.p (.int a)), some (.p (.int (sizeL l))), some (.p (.list ((tailL l).map PyData.int))), none, some (.p (.int (1 + (i : Nat)))), none] ∧ n = a.toNat ∧ 0 ≤ a ∧ a ≤ ahd l ∧ Per (dAt l) a (1 + (i : Nat)))
    (fun f S2 => S2 = S ∧ ∃ a : Int, f = .nx [some (.p (encL l)), some (.p (.int a)), some (.p (.int (sizeL l))), some (.p (.list ((tailL l).map PyData.int))), none, some (.p (.int (1 + (i : Nat)))), none] ∧ 0 ≤ a ∧ a ≤ ahd l ∧ Per (dAt l) a (1 + (i : Nat)) ∧ (a = 0 ∨ dAt l (a - 1) ≠ dAt l (a - 1 + (1 + (i : Nat)))))
    (fun n ro S2 hI => by
      obtain ⟨rfl, a, rfl, rfl, a0, a1, pa⟩ := hI
      by_cases hz : 0 < a
      · cases hd : (dAt l (a - 1) == dAt l (a - 1 + (1 + (i : Nat)))) with
        | true =>
          refine ⟨true, by simp only [Mi.wE_ok, Mi.bind_k, Mi.bind_b, Mi.bind_ite, Mi.optR_some, Mi.addF_int, Mi.int2_int, Mi.intB_int, Mi.q_seq, Mi.q_set, Mi.q_nil, Mi.q_drop, Mi.q_ret, Mi.q_if, Mi.q_brk, Mi.q_cnt, Mi.q_bad, Mi.q_asg, Mi.q_par, Mi.q_par3, Mi.q_app, Mi.q_put, Mi.q_putR, Mi.q_for, Mi.q_var, Mi.varR_some, Mi.q_con, Mi.q_bin, Mi.q_binS, Mi.q_bb, Mi.q_un, Mi.q_and, Mi.q_or, Mi.q_not, Mi.q_ife, Mi.q_band, Mi.q_bor, Mi.q_bnot, Mi.q_val, Mi.q_true, Mi.q_chn, Mi.q_anil, Mi.q_acons, Mi.q_tup, Mi.q_lst, Mi.q_lstR, Mi.q_none, Mi.q_some, Mi.q_sl, Mi.q_blt, Mi.q_isi, Mi.q_isi2, Mi.q_iseq, Mi.q_r1, Mi.q_r2, Mi.q_z, Mi.q_lr1, Mi.q_lr2, Mi.q_comp, Mi.q_call, Mi.k_seq_nx, Mi.k_seq_rt, Mi.k_seq_bk, Mi.k_seq_ct, Mi.k_set, Mi.k_drop, Mi.k_ret, Mi.k_if, Mi.k_asg, Mi.asgR_some, Mi.k_par, Mi.k_par3, Mi.k_app, Mi.appR_l, Mi.k_putR, Mi.k_putR2, Mi.putR2_ref, Mi.k_for, Mi.k_bin, Mi.k_bin2, Mi.k_binS, Mi.k_binS2, Mi.k_bb, Mi.k_bb2, Mi.optB_some, Mi.k_un, Mi.k_and_t, Mi.k_and_f, Mi.k_or_t, Mi.k_or_f, Mi.k_not, Mi.k_ife, Mi.k_band, Mi.k_bor, Mi.k_bnot, Mi.k_val, Mi.k_chn, Mi.k_chn2, Mi.k_chn3, Mi.k_cons, Mi.k_cons2, Mi.k_tup, Mi.k_lst, Mi.k_lstR, Mi.lstR_some, Mi.pys_nil, Mi.pys_cons, Mi.k_some_i, Mi.k_some_n, Mi.k_sl, Mi.k_sl2, Mi.k_sl3T, Mi.k_sl3L, Mi.k_blt, Mi.k_isi, Mi.k_isi2, Mi.k_seqI_l, Mi.k_seqI_t, Mi.k_r1, Mi.k_r2, Mi.k_r22, Mi.k_z, Mi.k_z2l, Mi.k_z2t, Mi.k_lr1, Mi.k_lr2, Mi.k_lr22, Mi.k_comp, Mi.k_comp2, Mi.k_body_rt, Mi.k_body_nx, Mi.v_add_t, Mi.v_cat, Mi.v_rep, Mi.v_mul, Mi.v_div, Mi.v_mod, Mi.v_pow, Mi.v_neg, Mi.v_lt, Mi.v_le, Mi.v_gt, Mi.v_ge, Mi.v_bD, Mi.v_ne, Mi.v_eqI, Mi.v_eqB, Mi.v_isN_n, Mi.v_isN_i, Mi.v_isN_t, Mi.v_isnt, Mi.v_ix_l, Mi.v_ix_t, Mi.v_ix_s, Mi.v_len_l, Mi.v_len_t, Mi.v_len_s, Mi.v_max2, Mi.v_min2, Mi.v_tup_l, Mi.v_lst_t, Mi.v_all, Mi.v_sum, Mi.b_nm, Mi.b_tp, Mi.b_cons, Mi.b_nil, Mi.D.int, Mi.D.bool, Mi.D.tup, Mi.D.lst, Mi.D.non, Mi.wipeE, List.map_cons, List.map_nil, List.length_cons, List.length_nil, List.cons_append, List.nil_append, List.getElem?_cons_zero, List.getElem?_cons_succ, List.set_cons_zero, List.set_cons_succ, Option.map_some, Option.bind_some, decide_eq_true_eq, ↓reduceIte, Nat.reduceAdd, Nat.reduceSub, Mi.atI0, Mi.atI1, Mi.atI2, Mi.ixN0, Mi.ixN1, Bool.not_true, Bool.not_false, Bool.false_eq_true, decide_true, decide_false, Mi.q_ext, Mi.k_ext, Mi.extR_l, Mi.k_sl3TL, Mi.q_zX, Mi.k_ztl, Mi.k_zlt, hz, e_drawing_in ok, hd], fun h => (by cases h), fun _ => ?_⟩
          rw [lb_round_in_0]
          simp only [Mi.wE_ok, Mi.bind_k, Mi.bind_b, Mi.bind_ite, Mi.optR_some, Mi.addF_int, Mi.int2_int, Mi.intB_int, Mi.q_seq, Mi.q_set, Mi.q_nil, Mi.q_drop, Mi.q_ret, Mi.q_if, Mi.q_brk, Mi.q_cnt, Mi.q_bad, Mi.q_asg, Mi.q_par, Mi.q_par3, Mi.q_app, Mi.q_put, Mi.q_putR, Mi.q_for, Mi.q_var, Mi.varR_some, Mi.q_con, Mi.q_bin, Mi.q_binS, Mi.q_bb, Mi.q_un, Mi.q_and, Mi.q_or, Mi.q_not, Mi.q_ife, Mi.q_band, Mi.q_bor, Mi.q_bnot, Mi.q_val, Mi.q_true, Mi.q_chn, Mi.q_anil, Mi.q_acons, Mi.q_tup, Mi.q_lst, Mi.q_lstR, Mi.q_none, Mi.q_some, Mi.q_sl, Mi.q_blt, Mi.q_isi, Mi.q_isi2, Mi.q_iseq, Mi.q_r1, Mi.q_r2, Mi.q_z, Mi.q_lr1, Mi.q_lr2, Mi.q_comp, Mi.q_call, Mi.k_seq_nx, Mi.k_seq_rt, Mi.k_seq_bk, Mi.k_seq_ct, Mi.k_set, Mi.k_drop, Mi.k_ret, Mi.k_if, Mi.k_asg, Mi.asgR_some, Mi.k_par, Mi.k_par3, Mi.k_app, Mi.appR_l, Mi.k_putR, Mi.k_putR2, Mi.putR2_ref, Mi.k_for, Mi.k_bin, Mi.k_bin2, Mi.k_binS, Mi.k_binS2, Mi.k_bb, Mi.k_bb2, Mi.optB_some, Mi.k_un, Mi.k_and_t, Mi.k_and_f, Mi.k_or_t, Mi.k_or_f, Mi.k_not, Mi.k_ife, Mi.k_band, Mi.k_bor, Mi.k_bnot, Mi.k_val, Mi.k_chn, Mi.k_chn2, Mi.k_chn3, Mi.k_cons, Mi.k_cons2, Mi.k_tup, Mi.k_lst, Mi.k_lstR, Mi.lstR_some, Mi.pys_nil, Mi.pys_cons, Mi.k_some_i, Mi.k_some_n, Mi.k_sl, Mi.k_sl2, Mi.k_sl3T, Mi.k_sl3L, Mi.k_blt, Mi.k_isi, Mi.k_isi2, Mi.k_seqI_l, Mi.k_seqI_t, Mi.k_r1, Mi.k_r2, Mi.k_r22, Mi.k_z, Mi.k_z2l, Mi.k_z2t, Mi.k_lr1, Mi.k_lr2, Mi.k_lr22, Mi.k_comp, Mi.k_comp2, Mi.k_body_rt, Mi.k_body_nx, Mi.v_add_t, Mi.v_cat, Mi.v_rep, Mi.v_mul, Mi.v_div, Mi.v_mod, Mi.v_pow, Mi.v_neg, Mi.v_lt, Mi.v_le, Mi.v_gt, Mi.v_ge, Mi.v_bD, Mi.v_ne, Mi.v_eqI, Mi.v_eqB, Mi.v_isN_n, Mi.v_isN_i, Mi.v_isN_t, Mi.v_isnt, Mi.v_ix_l, Mi.v_ix_t, Mi.v_ix_s, Mi.v_len_l, Mi.v_len_t, Mi.v_len_s, Mi.v_max2, Mi.v_min2, Mi.v_tup_l, Mi.v_lst_t, Mi.v_all, Mi.v_sum, Mi.b_nm, Mi.b_tp, Mi.b_cons, Mi.b_nil, Mi.D.int, Mi.D.bool, Mi.D.tup, Mi.D.lst, Mi.D.non, Mi.wipeE, List.map_cons, List.map_nil, List.length_cons, List.length_nil, List.cons_append, List.nil_append, List.getElem?_cons_zero, List.getElem?_cons_succ, List.set_cons_zero, List.set_cons_succ, Option.map_some, Option.bind_some, decide_eq_true_eq, ↓reduceIte, Nat.reduceAdd, Nat.reduceSub, Mi.atI0, Mi.atI1, Mi.atI2, Mi.ixN0, Mi.ixN1, Bool.not_true, Bool.not_false, Bool.false_eq_true, decide_true, decide_false, Mi.q_ext, Mi.k_ext, Mi.extR_l, Mi.k_sl3TL, Mi.q_zX, Mi.k_ztl, Mi.k_zlt]
          refine ⟨(a - 1).toNat, by omega, trivial, a - 1, rfl, rfl, by omega, by omega, fun t ht => ?_⟩
          rcases Int.lt_or_le t a with lt | le
          · have et : t = a - 1 := by omega
            rw [et]
            exact (beq_iff_eq.mp hd).symm
          · exact pa t le
        | false =>
          refine ⟨false, by simp only [Mi.wE_ok, Mi.bind_k, Mi.bind_b, Mi.bind_ite, Mi.optR_some, Mi.addF_int, Mi.int2_int, Mi.intB_int, Mi.q_seq, Mi.q_set, Mi.q_nil, Mi.q_drop, Mi.q_ret, Mi.q_if, Mi.q_brk, Mi.q_cnt, Mi.q_bad, Mi.q_asg, Mi.q_par, Mi.q_par3, Mi.q_app, Mi.q_put, Mi.q_putR, Mi.q_for, Mi.q_var, Mi.varR_some, Mi.q_con, Mi.q_bin, Mi.q_binS, Mi.q_bb, Mi.q_un, Mi.q_and, Mi.q_or, Mi.q_not, Mi.q_ife, Mi.q_band, Mi.q_bor, Mi.q_bnot, Mi.q_val, Mi.q_true, Mi.q_chn, Mi.q_anil, Mi.q_acons, Mi.q_tup, Mi.q_lst, Mi.q_lstR, Mi.q_none, Mi.q_some, Mi.q_sl, Mi.q_blt, Mi.q_isi, Mi.q_isi2, Mi.q_iseq, Mi.q_r1, Mi.q_r2, Mi.q_z, Mi.q_lr1, Mi.q_lr2, Mi.q_comp, Mi.q_call, Mi.k_seq_nx, Mi.k_seq_rt, Mi.k_seq_bk, Mi.k_seq_ct, Mi.k_set, Mi.k_drop, Mi.k_ret, Mi.k_if, Mi.k_asg, Mi.asgR_some, Mi.k_par, Mi.k_par3, Mi.k_app, Mi.appR_l, Mi.k_putR, Mi.k_putR2, Mi.putR2_ref, Mi.k_for, Mi.k_bin, Mi.k_bin2, Mi.k_binS, Mi.k_binS2, Mi.k_bb, Mi.k_bb2, Mi.optB_some, Mi.k_un, Mi.k_and_t, Mi.k_and_f, Mi.k_or_t, Mi.k_or_f, Mi.k_not, Mi.k_ife, Mi.k_band, Mi.k_bor, Mi.k_bnot, Mi.k_val, Mi.k_chn, Mi.k_chn2, Mi.k_chn3, Mi.k_cons, Mi.k_cons2, Mi.k_tup, Mi.k_lst, Mi.k_lstR, Mi.lstR_some, Mi.pys_nil, Mi.pys_cons, Mi.k_some_i, Mi.k_some_n, Mi.k_sl, Mi.k_sl2, Mi.k_sl3T, Mi.k_sl3L, Mi.k_blt, Mi.k_isi, Mi.k_isi2, Mi.k_seqI_l, Mi.k_seqI_t, Mi.k_r1, Mi.k_r2, Mi.k_r22, Mi.k_z, Mi.k_z2l, Mi.k_z2t, Mi.k_lr1, Mi.k_lr2, Mi.k_lr22, Mi.k_comp, Mi.k_comp2, Mi.k_body_rt, Mi.k_body_nx, Mi.v_add_t, Mi.v_cat, Mi.v_rep, Mi.v_mul, Mi.v_div, Mi.v_mod, Mi.v_pow, Mi.v_neg, Mi.v_lt, Mi.v_le, Mi.v_gt, Mi.v_ge, Mi.v_bD, Mi.v_ne, Mi.v_eqI, Mi.v_eqB, Mi.v_isN_n, Mi.v_isN_i, Mi.v_isN_t, Mi.v_isnt, Mi.v_ix_l, Mi.v_ix_t, Mi.v_ix_s, Mi.v_len_l, Mi.v_len_t, Mi.v_len_s, Mi.v_max2, Mi.v_min2, Mi.v_tup_l, Mi.v_lst_t, Mi.v_all, Mi.v_sum, Mi.b_nm, Mi.b_tp, Mi.b_cons, Mi.b_nil, Mi.D.int, Mi.D.bool, Mi.D.tup, Mi.D.lst, Mi.D.non, Mi.wipeE, List.map_cons, List.map_nil, List.length_cons, List.length_nil, List.cons_append, List.nil_append, List.getElem?_cons_zero, List.getElem?_cons_succ, List.set_cons_zero, List.set_cons_succ, Option.map_some, Option.bind_some, decide_eq_true_eq, ↓reduceIte, Nat.reduceAdd, Nat.reduceSub, Mi.atI0, Mi.atI1, Mi.atI2, Mi.ixN0, Mi.ixN1, Bool.not_true, Bool.not_false, Bool.false_eq_true, decide_true, decide_false, Mi.q_ext, Mi.k_ext, Mi.extR_l, Mi.k_sl3TL, Mi.q_zX, Mi.k_ztl, Mi.k_zlt, hz, e_drawing_in ok, hd], fun _ => ⟨rfl, a, rfl, a0, a1, pa, .inr ?_⟩, fun h => (by cases h)⟩
          exact beq_eq_false_iff_ne.mp hd
      · refine ⟨false, by simp only [Mi.wE_ok, Mi.bind_k, Mi.bind_b, Mi.bind_ite, Mi.optR_some, Mi.addF_int, Mi.int2_int, Mi.intB_int, Mi.q_seq, Mi.q_set, Mi.q_nil, Mi.q_drop, Mi.q_ret, Mi.q_if, Mi.q_brk, Mi.q_cnt, Mi.q_bad, Mi.q_asg, Mi.q_par, Mi.q_par3, Mi.q_app, Mi.q_put, Mi.q_putR, Mi.q_for, Mi.q_var, Mi.varR_some, Mi.q_con, Mi.q_bin, Mi.q_binS, Mi.q_bb, Mi.q_un, Mi.q_and, Mi.q_or, Mi.q_not, Mi.q_ife, Mi.q_band, Mi.q_bor, Mi.q_bnot, Mi.q_val, Mi.q_true, Mi.q_chn, Mi.q_anil, Mi.q_acons, Mi.q_tup, Mi.q_lst, Mi.q_lstR, Mi.q_none, Mi.q_some, Mi.q_sl, Mi.q_blt, Mi.q_isi, Mi.q_isi2, Mi.q_iseq, Mi.q_r1, Mi.q_r2, Mi.q_z, Mi.q_lr1, Mi.q_lr2, Mi.q_comp, Mi.q_call, Mi.k_seq_nx, Mi.k_seq_rt, Mi.k_seq_bk, Mi.k_seq_ct, Mi.k_set, Mi.k_drop, Mi.k_ret, Mi.k_if, Mi.k_asg, Mi.asgR_some, Mi.k_par, Mi.k_par3, Mi.k_app, Mi.appR_l, Mi.k_putR, Mi.k_putR2, Mi.putR2_ref, Mi.k_for, Mi.k_bin, Mi.k_bin2, Mi.k_binS, Mi.k_binS2, Mi.k_bb, Mi.k_bb2, Mi.optB_some, Mi.k_un, Mi.k_and_t, Mi.k_and_f, Mi.k_or_t, Mi.k_or_f, Mi.k_not, Mi.k_ife, Mi.k_band, Mi.k_bor, Mi.k_bnot, Mi.k_val, Mi.k_chn, Mi.k_chn2, Mi.k_chn3, Mi.k_cons, Mi.k_cons2, Mi.k_tup, Mi.k_lst, Mi.k_lstR, Mi.lstR_some, Mi.pys_nil, Mi.pys_cons, Mi.k_some_i, Mi.k_some_n, Mi.k_sl, Mi.k_sl2, Mi.k_sl3T, Mi.k_sl3L, Mi.k_blt, Mi.k_isi, Mi.k_isi2, Mi.k_seqI_l, Mi.k_seqI_t, Mi.k_r1, Mi.k_r2, Mi.k_r22, Mi.k_z, Mi.k_z2l, Mi.k_z2t, Mi.k_lr1, Mi.k_lr2, Mi.k_lr22, Mi.k_comp, Mi.k_comp2, Mi.k_body_rt, Mi.k_body_nx, Mi.v_add_t, Mi.v_cat, Mi.v_rep, Mi.v_mul, Mi.v_div, Mi.v_mod, Mi.v_pow, Mi.v_neg, Mi.v_lt, Mi.v_le, Mi.v_gt, Mi.v_ge, Mi.v_bD, Mi.v_ne, Mi.v_eqI, Mi.v_eqB, Mi.v_isN_n, Mi.v_isN_i, Mi.v_isN_t, Mi.v_isnt, Mi.v_ix_l, Mi.v_ix_t, Mi.v_ix_s, Mi.v_len_l, Mi.v_len_t, Mi.v_len_s, Mi.v_max2, Mi.v_min2, Mi.v_tup_l, Mi.v_lst_t, Mi.v_all, Mi.v_sum, Mi.b_nm, Mi.b_tp, Mi.b_cons, Mi.b_nil, Mi.D.int, Mi.D.bool, Mi.D.tup, Mi.D.lst, Mi.D.non, Mi.wipeE, List.map_cons, List.map_nil, List.length_cons, List.length_nil, List.cons_append, List.nil_append, List.getElem?_cons_zero, List.getElem?_cons_succ, List.set_cons_zero, List.set_cons_succ, Option.map_some, Option.bind_some, decide_eq_true_eq, ↓reduceIte, Nat.reduceAdd, Nat.reduceSub, Mi.atI0, Mi.atI1, Mi.atI2, Mi.ixN0, Mi.ixN1, Bool.not_true, Bool.not_false, Bool.false_eq_true, decide_true, decide_false, Mi.q_ext, Mi.k_ext, Mi.extR_l, Mi.k_sl3TL, Mi.q_zX, Mi.k_ztl, Mi.k_zlt, hz], fun _ => ⟨rfl, a, rfl, a0, a1, pa, .inl (by omega)⟩, fun h => (by cases h)⟩) (ahd l).toNat [some (.p (encL l)), some (.p (.int (ahd l))), some (.p (.int (sizeL l))), some (.p (.list ((tailL l).map PyData.int))), none, some (.p (.int (1 + (i : Nat)))), none] S ⟨rfl, ahd l, rfl, rfl, an, Int.le_refl _, pr⟩)
  refine ⟨a, 1 + (i : Nat), ?_, Rnd.of L sp hp a0 pa la, a1, dv, by omega⟩
  simp only [Mi.wE_ok, Mi.bind_k, Mi.bind_b, Mi.bind_ite, Mi.optR_some, Mi.addF_int, Mi.int2_int, Mi.intB_int, Mi.q_seq, Mi.q_set, Mi.q_nil, Mi.q_drop, Mi.q_ret, Mi.q_if, Mi.q_brk, Mi.q_cnt, Mi.q_bad, Mi.q_asg, Mi.q_par, Mi.q_par3, Mi.q_app, Mi.q_put, Mi.q_putR, Mi.q_for, Mi.q_var, Mi.varR_some, Mi.q_con, Mi.q_bin, Mi.q_binS, Mi.q_bb, Mi.q_un, Mi.q_and, Mi.q_or, Mi.q_not, Mi.q_ife, Mi.q_band, Mi.q_bor, Mi.q_bnot, Mi.q_val, Mi.q_true, Mi.q_chn, Mi.q_anil, Mi.q_acons, Mi.q_tup, Mi.q_lst, Mi.q_lstR, Mi.q_none, Mi.q_some, Mi.q_sl, Mi.q_blt, Mi.q_isi, Mi.q_isi2, Mi.q_iseq, Mi.q_r1, Mi.q_r2, Mi.q_z, Mi.q_lr1, Mi.q_lr2, Mi.q_comp, Mi.q_call, Mi.k_seq_nx, Mi.k_seq_rt, Mi.k_seq_bk, Mi.k_seq_ct, Mi.k_set, Mi.k_drop, Mi.k_ret, Mi.k_if, Mi.k_asg, Mi.asgR_some, Mi.k_par, Mi.k_par3, Mi.k_app, Mi.appR_l, Mi.k_putR, Mi.k_putR2, Mi.putR2_ref, Mi.k_for, Mi.k_bin, Mi.k_bin2, Mi.k_binS, Mi.k_binS2, Mi.k_bb, Mi.k_bb2, Mi.optB_some, Mi.k_un, Mi.k_and_t, Mi.k_and_f, Mi.k_or_t, Mi.k_or_f, Mi.k_not, Mi.k_ife, Mi.k_band, Mi.k_bor, Mi.k_bnot, Mi.k_val, Mi.k_chn, Mi.k_chn2, Mi.k_chn3, Mi.k_cons, Mi.k_cons2, Mi.k_tup, Mi.k_lst, Mi.k_lstR, Mi.lstR_some, Mi.pys_nil, Mi.pys_cons, Mi.k_some_i, Mi.k_some_n, Mi.k_sl, Mi.k_sl2, Mi.k_sl3T, Mi.k_sl3L, Mi.k_blt, Mi.k_isi, Mi.k_isi2, Mi.k_seqI_l, Mi.k_seqI_t, Mi.k_r1, Mi.k_r2, Mi.k_r22, Mi.k_z, Mi.k_z2l, Mi.k_z2t, Mi.k_lr1, Mi.k_lr2, Mi.k_lr22, Mi.k_comp, Mi.k_comp2, Mi.k_body_rt, Mi.k_body_nx, Mi.v_add_t, Mi.v_cat, Mi.v_rep, Mi.v_mul, Mi.v_div, Mi.v_mod, Mi.v_pow, Mi.v_neg, Mi.v_lt, Mi.v_le, Mi.v_gt, Mi.v_ge, Mi.v_bD, Mi.v_ne, Mi.v_eqI, Mi.v_eqB, Mi.v_isN_n, Mi.v_isN_i, Mi.v_isN_t, Mi.v_isnt, Mi.v_ix_l, Mi.v_ix_t, Mi.v_ix_s, Mi.v_len_l, Mi.v_len_t, Mi.v_len_s, Mi.v_max2, Mi.v_min2, Mi.v_tup_l, Mi.v_lst_t, Mi.v_all, Mi.v_sum, Mi.b_nm, Mi.b_tp, Mi.b_cons, Mi.b_nil, Mi.D.int, Mi.D.bool, Mi.D.tup, Mi.D.lst, Mi.D.non, Mi.wipeE, List.map_cons, List.map_nil, List.length_cons, List.length_nil, List.cons_append, List.nil_append, List.getElem?_cons_zero, List.getElem?_cons_succ, List.set_cons_zero, List.set_cons_succ, Option.map_some, Option.bind_some, decide_eq_true_eq, ↓reduceIte, Nat.reduceAdd, Nat.reduceSub, Mi.atI0, Mi.atI1, Mi.atI2, Mi.ixN0, Mi.ixN1, Bool.not_true, Bool.not_false, Bool.false_eq_true, decide_true, decide_false, Mi.q_ext, Mi.k_ext, Mi.extR_l, Mi.k_sl3TL, Mi.q_zX, Mi.k_ztl, Mi.k_zlt, e_told_round ok, hbM, hlM, h2, c1, and_self, en, hl2, hc, e]
theorem e_is_round {l : Lay} (ok : LayOk l) (d : PyData) (S : Store) : c_is_round [.p (encL l), .p d] S = .ok (.p (.bool (goodR l d))) S := by
  rw [u_is_round, m_is_round]
  obtain ⟨a, p, e1, R, _, _, _⟩ := e_round_in ok S
  have pp : 0 < p := by have := R.p1; omega
  simp only [Mi.wE_ok, Mi.bind_k, Mi.bind_b, Mi.bind_ite, Mi.optR_some, Mi.addF_int, Mi.int2_int, Mi.intB_int, Mi.q_seq, Mi.q_set, Mi.q_nil, Mi.q_drop, Mi.q_ret, Mi.q_if, Mi.q_brk, Mi.q_cnt, Mi.q_bad, Mi.q_asg, Mi.q_par, Mi.q_par3, Mi.q_app, Mi.q_put, Mi.q_putR, Mi.q_for, Mi.q_var, Mi.varR_some, Mi.q_con, Mi.q_bin, Mi.q_binS, Mi.q_bb, Mi.q_un, Mi.q_and, Mi.q_or, Mi.q_not, Mi.q_ife, Mi.q_band, Mi.q_bor, Mi.q_bnot, Mi.q_val, Mi.q_true, Mi.q_chn, Mi.q_anil, Mi.q_acons, Mi.q_tup, Mi.q_lst, Mi.q_lstR, Mi.q_none, Mi.q_some, Mi.q_sl, Mi.q_blt, Mi.q_isi, Mi.q_isi2, Mi.q_iseq, Mi.q_r1, Mi.q_r2, Mi.q_z, Mi.q_lr1, Mi.q_lr2, Mi.q_comp, Mi.q_call, Mi.k_seq_nx, Mi.k_seq_rt, Mi.k_seq_bk, Mi.k_seq_ct, Mi.k_set, Mi.k_drop, Mi.k_ret, Mi.k_if, Mi.k_asg, Mi.asgR_some, Mi.k_par, Mi.k_par3, Mi.k_app, Mi.appR_l, Mi.k_putR, Mi.k_putR2, Mi.putR2_ref, Mi.k_for, Mi.k_bin, Mi.k_bin2, Mi.k_binS, Mi.k_binS2, Mi.k_bb, Mi.k_bb2, Mi.optB_some, Mi.k_un, Mi.k_and_t, Mi.k_and_f, Mi.k_or_t, Mi.k_or_f, Mi.k_not, Mi.k_ife, Mi.k_band, Mi.k_bor, Mi.k_bnot, Mi.k_val, Mi.k_chn, Mi.k_chn2, Mi.k_chn3, Mi.k_cons, Mi.k_cons2, Mi.k_tup, Mi.k_lst, Mi.k_lstR, Mi.lstR_some, Mi.pys_nil, Mi.pys_cons, Mi.k_some_i, Mi.k_some_n, Mi.k_sl, Mi.k_sl2, Mi.k_sl3T, Mi.k_sl3L, Mi.k_blt, Mi.k_isi, Mi.k_isi2, Mi.k_seqI_l, Mi.k_seqI_t, Mi.k_r1, Mi.k_r2, Mi.k_r22, Mi.k_z, Mi.k_z2l, Mi.k_z2t, Mi.k_lr1, Mi.k_lr2, Mi.k_lr22, Mi.k_comp, Mi.k_comp2, Mi.k_body_rt, Mi.k_body_nx, Mi.v_add_t, Mi.v_cat, Mi.v_rep, Mi.v_mul, Mi.v_div, Mi.v_mod, Mi.v_pow, Mi.v_neg, Mi.v_lt, Mi.v_le, Mi.v_gt, Mi.v_ge, Mi.v_bD, Mi.v_ne, Mi.v_eqI, Mi.v_eqB, Mi.v_isN_n, Mi.v_isN_i, Mi.v_isN_t, Mi.v_isnt, Mi.v_ix_l, Mi.v_ix_t, Mi.v_ix_s, Mi.v_len_l, Mi.v_len_t, Mi.v_len_s, Mi.v_max2, Mi.v_min2, Mi.v_tup_l, Mi.v_lst_t, Mi.v_all, Mi.v_sum, Mi.b_nm, Mi.b_tp, Mi.b_cons, Mi.b_nil, Mi.D.int, Mi.D.bool, Mi.D.tup, Mi.D.lst, Mi.D.non, Mi.wipeE, List.map_cons, List.map_nil, List.length_cons, List.length_nil, List.cons_append, List.nil_append, List.getElem?_cons_zero, List.getElem?_cons_succ, List.set_cons_zero, List.set_cons_succ, Option.map_some, Option.bind_some, decide_eq_true_eq, ↓reduceIte, Nat.reduceAdd, Nat.reduceSub, Mi.atI0, Mi.atI1, Mi.atI2, Mi.ixN0, Mi.ixN1, Bool.not_true, Bool.not_false, Bool.false_eq_true, decide_true, decide_false, Mi.q_ext, Mi.k_ext, Mi.extR_l, Mi.k_sl3TL, Mi.q_zX, Mi.k_ztl, Mi.k_zlt, e_look_at_layer ok, e_is_tuple_of]
  cases h : tupN 2 2 d with
  | false =>
    rw [goodR_no (fun a n e => by rw [e] at h; exact absurd h (by simp [tupN]))]
    simp only [Mi.wE_ok, Mi.bind_k, Mi.bind_b, Mi.bind_ite, Mi.optR_some, Mi.addF_int, Mi.int2_int, Mi.intB_int, Mi.q_seq, Mi.q_set, Mi.q_nil, Mi.q_drop, Mi.q_ret, Mi.q_if, Mi.q_brk, Mi.q_cnt, Mi.q_bad, Mi.q_asg, Mi.q_par, Mi.q_par3, Mi.q_app, Mi.q_put, Mi.q_putR, Mi.q_for, Mi.q_var, Mi.varR_some, Mi.q_con, Mi.q_bin, Mi.q_binS, Mi.q_bb, Mi.q_un, Mi.q_and, Mi.q_or, Mi.q_not, Mi.q_ife, Mi.q_band, Mi.q_bor, Mi.q_bnot, Mi.q_val, Mi.q_true, Mi.q_chn, Mi.q_anil, Mi.q_acons, Mi.q_tup, Mi.q_lst, Mi.q_lstR, Mi.q_none, Mi.q_some, Mi.q_sl, Mi.q_blt, Mi.q_isi, Mi.q_isi2, Mi.q_iseq, Mi.q_r1, Mi.q_r2, Mi.q_z, Mi.q_lr1, Mi.q_lr2, Mi.q_comp, Mi.q_call, Mi.k_seq_nx, Mi.k_seq_rt, Mi.k_seq_bk, Mi.k_seq_ct, Mi.k_set, Mi.k_drop, Mi.k_ret, Mi.k_if, Mi.k_asg, Mi.asgR_some, Mi.k_par, Mi.k_par3, Mi.k_app, Mi.appR_l, Mi.k_putR, Mi.k_putR2, Mi.putR2_ref, Mi.k_for, Mi.k_bin, Mi.k_bin2, Mi.k_binS, Mi.k_binS2, Mi.k_bb, Mi.k_bb2, Mi.optB_some, Mi.k_un, Mi.k_and_t, Mi.k_and_f, Mi.k_or_t, Mi.k_or_f, Mi.k_not, Mi.k_ife, Mi.k_band, Mi.k_bor, Mi.k_bnot, Mi.k_val, Mi.k_chn, Mi.k_chn2, Mi.k_chn3, Mi.k_cons, Mi.k_cons2, Mi.k_tup, Mi.k_lst, Mi.k_lstR, Mi.lstR_some, Mi.pys_nil, Mi.pys_cons, Mi.k_some_i, Mi.k_some_n, Mi.k_sl, Mi.k_sl2, Mi.k_sl3T, Mi.k_sl3L, Mi.k_blt, Mi.k_isi, Mi.k_isi2, Mi.k_seqI_l, Mi.k_seqI_t, Mi.k_r1, Mi.k_r2, Mi.k_r22, Mi.k_z, Mi.k_z2l, Mi.k_z2t, Mi.k_lr1, Mi.k_lr2, Mi.k_lr22, Mi.k_comp, Mi.k_comp2, Mi.k_body_rt, Mi.k_body_nx, Mi.v_add_t, Mi.v_cat, Mi.v_rep, Mi.v_mul, Mi.v_div, Mi.v_mod, Mi.v_pow, Mi.v_neg, Mi.v_lt, Mi.v_le, Mi.v_gt, Mi.v_ge, Mi.v_bD, Mi.v_ne, Mi.v_eqI, Mi.v_eqB, Mi.v_isN_n, Mi.v_isN_i, Mi.v_isN_t, Mi.v_isnt, Mi.v_ix_l, Mi.v_ix_t, Mi.v_ix_s, Mi.v_len_l, Mi.v_len_t, Mi.v_len_s, Mi.v_max2, Mi.v_min2, Mi.v_tup_l, Mi.v_lst_t, Mi.v_all, Mi.v_sum, Mi.b_nm, Mi.b_tp, Mi.b_cons, Mi.b_nil, Mi.D.int, Mi.D.bool, Mi.D.tup, Mi.D.lst, Mi.D.non, Mi.wipeE, List.map_cons, List.map_nil, List.length_cons, List.length_nil, List.cons_append, List.nil_append, List.getElem?_cons_zero, List.getElem?_cons_succ, List.set_cons_zero, List.set_cons_succ, Option.map_some, Option.bind_some, decide_eq_true_eq, ↓reduceIte, Nat.reduceAdd, Nat.reduceSub, Mi.atI0, Mi.atI1, Mi.atI2, Mi.ixN0, Mi.ixN1, Bool.not_true, Bool.not_false, Bool.false_eq_true, decide_true, decide_false, Mi.q_ext, Mi.k_ext, Mi.extR_l, Mi.k_sl3TL, Mi.q_zX, Mi.k_ztl, Mi.k_zlt]
  | true =>
    obtain ⟨x, y, rfl⟩ := tupN_2 h
    simp only [Mi.wE_ok, Mi.bind_k, Mi.bind_b, Mi.bind_ite, Mi.optR_some, Mi.addF_int, Mi.int2_int, Mi.intB_int, Mi.q_seq, Mi.q_set, Mi.q_nil, Mi.q_drop, Mi.q_ret, Mi.q_if, Mi.q_brk, Mi.q_cnt, Mi.q_bad, Mi.q_asg, Mi.q_par, Mi.q_par3, Mi.q_app, Mi.q_put, Mi.q_putR, Mi.q_for, Mi.q_var, Mi.varR_some, Mi.q_con, Mi.q_bin, Mi.q_binS, Mi.q_bb, Mi.q_un, Mi.q_and, Mi.q_or, Mi.q_not, Mi.q_ife, Mi.q_band, Mi.q_bor, Mi.q_bnot, Mi.q_val, Mi.q_true, Mi.q_chn, Mi.q_anil, Mi.q_acons, Mi.q_tup, Mi.q_lst, Mi.q_lstR, Mi.q_none, Mi.q_some, Mi.q_sl, Mi.q_blt, Mi.q_isi, Mi.q_isi2, Mi.q_iseq, Mi.q_r1, Mi.q_r2, Mi.q_z, Mi.q_lr1, Mi.q_lr2, Mi.q_comp, Mi.q_call, Mi.k_seq_nx, Mi.k_seq_rt, Mi.k_seq_bk, Mi.k_seq_ct, Mi.k_set, Mi.k_drop, Mi.k_ret, Mi.k_if, Mi.k_asg, Mi.asgR_some, Mi.k_par, Mi.k_par3, Mi.k_app, Mi.appR_l, Mi.k_putR, Mi.k_putR2, Mi.putR2_ref, Mi.k_for, Mi.k_bin, Mi.k_bin2, Mi.k_binS, Mi.k_binS2, Mi.k_bb, Mi.k_bb2, Mi.optB_some, Mi.k_un, Mi.k_and_t, Mi.k_and_f, Mi.k_or_t, Mi.k_or_f, Mi.k_not, Mi.k_ife, Mi.k_band, Mi.k_bor, Mi.k_bnot, Mi.k_val, Mi.k_chn, Mi.k_chn2, Mi.k_chn3, Mi.k_cons, Mi.k_cons2, Mi.k_tup, Mi.k_lst, Mi.k_lstR, Mi.lstR_some, Mi.pys_nil, Mi.pys_cons, Mi.k_some_i, Mi.k_some_n, Mi.k_sl, Mi.k_sl2, Mi.k_sl3T, Mi.k_sl3L, Mi.k_blt, Mi.k_isi, Mi.k_isi2, Mi.k_seqI_l, Mi.k_seqI_t, Mi.k_r1, Mi.k_r2, Mi.k_r22, Mi.k_z, Mi.k_z2l, Mi.k_z2t, Mi.k_lr1, Mi.k_lr2, Mi.k_lr22, Mi.k_comp, Mi.k_comp2, Mi.k_body_rt, Mi.k_body_nx, Mi.v_add_t, Mi.v_cat, Mi.v_rep, Mi.v_mul, Mi.v_div, Mi.v_mod, Mi.v_pow, Mi.v_neg, Mi.v_lt, Mi.v_le, Mi.v_gt, Mi.v_ge, Mi.v_bD, Mi.v_ne, Mi.v_eqI, Mi.v_eqB, Mi.v_isN_n, Mi.v_isN_i, Mi.v_isN_t, Mi.v_isnt, Mi.v_ix_l, Mi.v_ix_t, Mi.v_ix_s, Mi.v_len_l, Mi.v_len_t, Mi.v_len_s, Mi.v_max2, Mi.v_min2, Mi.v_tup_l, Mi.v_lst_t, Mi.v_all, Mi.v_sum, Mi.b_nm, Mi.b_tp, Mi.b_cons, Mi.b_nil, Mi.D.int, Mi.D.bool, Mi.D.tup, Mi.D.lst, Mi.D.non, Mi.wipeE, List.map_cons, List.map_nil, List.length_cons, List.length_nil, List.cons_append, List.nil_append, List.getElem?_cons_zero, List.getElem?_cons_succ, List.set_cons_zero, List.set_cons_succ, Option.map_some, Option.bind_some, decide_eq_true_eq, ↓reduceIte, Nat.reduceAdd, Nat.reduceSub, Mi.atI0, Mi.atI1, Mi.atI2, Mi.ixN0, Mi.ixN1, Bool.not_true, Bool.not_false, Bool.false_eq_true, decide_true, decide_false, Mi.q_ext, Mi.k_ext, Mi.extR_l, Mi.k_sl3TL, Mi.q_zX, Mi.k_ztl, Mi.k_zlt, e_is_whole]
    cases hx : isW x with
    | false =>
      rw [goodR_no (fun a n e => by
        simp only [PyData.tuple.injEq, List.cons.injEq] at e
        rw [e.1] at hx
        exact absurd hx (by simp [isW]))]
      simp only [Mi.wE_ok, Mi.bind_k, Mi.bind_b, Mi.bind_ite, Mi.optR_some, Mi.addF_int, Mi.int2_int, Mi.intB_int, Mi.q_seq, Mi.q_set, Mi.q_nil, Mi.q_drop, Mi.q_ret, Mi.q_if, Mi.q_brk, Mi.q_cnt, Mi.q_bad, Mi.q_asg, Mi.q_par, Mi.q_par3, Mi.q_app, Mi.q_put, Mi.q_putR, Mi.q_for, Mi.q_var, Mi.varR_some, Mi.q_con, Mi.q_bin, Mi.q_binS, Mi.q_bb, Mi.q_un, Mi.q_and, Mi.q_or, Mi.q_not, Mi.q_ife, Mi.q_band, Mi.q_bor, Mi.q_bnot, Mi.q_val, Mi.q_true, Mi.q_chn, Mi.q_anil, Mi.q_acons, Mi.q_tup, Mi.q_lst, Mi.q_lstR, Mi.q_none, Mi.q_some, Mi.q_sl, Mi.q_blt, Mi.q_isi, Mi.q_isi2, Mi.q_iseq, Mi.q_r1, Mi.q_r2, Mi.q_z, Mi.q_lr1, Mi.q_lr2, Mi.q_comp, Mi.q_call, Mi.k_seq_nx, Mi.k_seq_rt, Mi.k_seq_bk, Mi.k_seq_ct, Mi.k_set, Mi.k_drop, Mi.k_ret, Mi.k_if, Mi.k_asg, Mi.asgR_some, Mi.k_par, Mi.k_par3, Mi.k_app, Mi.appR_l, Mi.k_putR, Mi.k_putR2, Mi.putR2_ref, Mi.k_for, Mi.k_bin, Mi.k_bin2, Mi.k_binS, Mi.k_binS2, Mi.k_bb, Mi.k_bb2, Mi.optB_some, Mi.k_un, Mi.k_and_t, Mi.k_and_f, Mi.k_or_t, Mi.k_or_f, Mi.k_not, Mi.k_ife, Mi.k_band, Mi.k_bor, Mi.k_bnot, Mi.k_val, Mi.k_chn, Mi.k_chn2, Mi.k_chn3, Mi.k_cons, Mi.k_cons2, Mi.k_tup, Mi.k_lst, Mi.k_lstR, Mi.lstR_some, Mi.pys_nil, Mi.pys_cons, Mi.k_some_i, Mi.k_some_n, Mi.k_sl, Mi.k_sl2, Mi.k_sl3T, Mi.k_sl3L, Mi.k_blt, Mi.k_isi, Mi.k_isi2, Mi.k_seqI_l, Mi.k_seqI_t, Mi.k_r1, Mi.k_r2, Mi.k_r22, Mi.k_z, Mi.k_z2l, Mi.k_z2t, Mi.k_lr1, Mi.k_lr2, Mi.k_lr22, Mi.k_comp, Mi.k_comp2, Mi.k_body_rt, Mi.k_body_nx, Mi.v_add_t, Mi.v_cat, Mi.v_rep, Mi.v_mul, Mi.v_div, Mi.v_mod, Mi.v_pow, Mi.v_neg, Mi.v_lt, Mi.v_le, Mi.v_gt, Mi.v_ge, Mi.v_bD, Mi.v_ne, Mi.v_eqI, Mi.v_eqB, Mi.v_isN_n, Mi.v_isN_i, Mi.v_isN_t, Mi.v_isnt, Mi.v_ix_l, Mi.v_ix_t, Mi.v_ix_s, Mi.v_len_l, Mi.v_len_t, Mi.v_len_s, Mi.v_max2, Mi.v_min2, Mi.v_tup_l, Mi.v_lst_t, Mi.v_all, Mi.v_sum, Mi.b_nm, Mi.b_tp, Mi.b_cons, Mi.b_nil, Mi.D.int, Mi.D.bool, Mi.D.tup, Mi.D.lst, Mi.D.non, Mi.wipeE, List.map_cons, List.map_nil, List.length_cons, List.length_nil, List.cons_append, List.nil_append, List.getElem?_cons_zero, List.getElem?_cons_succ, List.set_cons_zero, List.set_cons_succ, Option.map_some, Option.bind_some, decide_eq_true_eq, ↓reduceIte, Nat.reduceAdd, Nat.reduceSub, Mi.atI0, Mi.atI1, Mi.atI2, Mi.ixN0, Mi.ixN1, Bool.not_true, Bool.not_false, Bool.false_eq_true, decide_true, decide_false, Mi.q_ext, Mi.k_ext, Mi.extR_l, Mi.k_sl3TL, Mi.q_zX, Mi.k_ztl, Mi.k_zlt]
    | true =>
      cases hy : isW y with
      | false =>
        rw [goodR_no (fun a n e => by
          simp only [PyData.tuple.injEq, List.cons.injEq] at e
          rw [e.2.1] at hy
          exact absurd hy (by simp [isW]))]
        simp only [Mi.wE_ok, Mi.bind_k, Mi.bind_b, Mi.bind_ite, Mi.optR_some, Mi.addF_int, Mi.int2_int, Mi.intB_int, Mi.q_seq, Mi.q_set, Mi.q_nil, Mi.q_drop, Mi.q_ret, Mi.q_if, Mi.q_brk, Mi.q_cnt, Mi.q_bad, Mi.q_asg, Mi.q_par, Mi.q_par3, Mi.q_app, Mi.q_put, Mi.q_putR, Mi.q_for, Mi.q_var, Mi.varR_some, Mi.q_con, Mi.q_bin, Mi.q_binS, Mi.q_bb, Mi.q_un, Mi.q_and, Mi.q_or, Mi.q_not, Mi.q_ife, Mi.q_band, Mi.q_bor, Mi.q_bnot, Mi.q_val, Mi.q_true, Mi.q_chn, Mi.q_anil, Mi.q_acons, Mi.q_tup, Mi.q_lst, Mi.q_lstR, Mi.q_none, Mi.q_some, Mi.q_sl, Mi.q_blt, Mi.q_isi, Mi.q_isi2, Mi.q_iseq, Mi.q_r1, Mi.q_r2, Mi.q_z, Mi.q_lr1, Mi.q_lr2, Mi.q_comp, Mi.q_call, Mi.k_seq_nx, Mi.k_seq_rt, Mi.k_seq_bk, Mi.k_seq_ct, Mi.k_set, Mi.k_drop, Mi.k_ret, Mi.k_if, Mi.k_asg, Mi.asgR_some, Mi.k_par, Mi.k_par3, Mi.k_app, Mi.appR_l, Mi.k_putR, Mi.k_putR2, Mi.putR2_ref, Mi.k_for, Mi.k_bin, Mi.k_bin2, Mi.k_binS, Mi.k_binS2, Mi.k_bb, Mi.k_bb2, Mi.optB_some, Mi.k_un, Mi.k_and_t, Mi.k_and_f, Mi.k_or_t, Mi.k_or_f, Mi.k_not, Mi.k_ife, Mi.k_band, Mi.k_bor, Mi.k_bnot, Mi.k_val, Mi.k_chn, Mi.k_chn2, Mi.k_chn3, Mi.k_cons, Mi.k_cons2, Mi.k_tup, Mi.k_lst, Mi.k_lstR, Mi.lstR_some, Mi.pys_nil, Mi.pys_cons, Mi.k_some_i, Mi.k_some_n, Mi.k_sl, Mi.k_sl2, Mi.k_sl3T, Mi.k_sl3L, Mi.k_blt, Mi.k_isi, Mi.k_isi2, Mi.k_seqI_l, Mi.k_seqI_t, Mi.k_r1, Mi.k_r2, Mi.k_r22, Mi.k_z, Mi.k_z2l, Mi.k_z2t, Mi.k_lr1, Mi.k_lr2, Mi.k_lr22, Mi.k_comp, Mi.k_comp2, Mi.k_body_rt, Mi.k_body_nx, Mi.v_add_t, Mi.v_cat, Mi.v_rep, Mi.v_mul, Mi.v_div, Mi.v_mod, Mi.v_pow, Mi.v_neg, Mi.v_lt, Mi.v_le, Mi.v_gt, Mi.v_ge, Mi.v_bD, Mi.v_ne, Mi.v_eqI, Mi.v_eqB, Mi.v_isN_n, Mi.v_isN_i, Mi.v_isN_t, Mi.v_isnt, Mi.v_ix_l, Mi.v_ix_t, Mi.v_ix_s, Mi.v_len_l, Mi.v_len_t, Mi.v_len_s, Mi.v_max2, Mi.v_min2, Mi.v_tup_l, Mi.v_lst_t, Mi.v_all, Mi.v_sum, Mi.b_nm, Mi.b_tp, Mi.b_cons, Mi.b_nil, Mi.D.int, Mi.D.bool, Mi.D.tup, Mi.D.lst, Mi.D.non, Mi.wipeE, List.map_cons, List.map_nil, List.length_cons, List.length_nil, List.cons_append, List.nil_append, List.getElem?_cons_zero, List.getElem?_cons_succ, List.set_cons_zero, List.set_cons_succ, Option.map_some, Option.bind_some, decide_eq_true_eq, ↓reduceIte, Nat.reduceAdd, Nat.reduceSub, Mi.atI0, Mi.atI1, Mi.atI2, Mi.ixN0, Mi.ixN1, Bool.not_true, Bool.not_false, Bool.false_eq_true, decide_true, decide_false, Mi.q_ext, Mi.k_ext, Mi.extR_l, Mi.k_sl3TL, Mi.q_zX, Mi.k_ztl, Mi.k_zlt, e_is_whole, hy]
      | true =>
        obtain ⟨i, rfl⟩ : ∃ i : Int, x = .int i := by cases x <;> simp [isW] at hx; exact ⟨_, rfl⟩
        obtain ⟨n, rfl⟩ : ∃ i : Int, y = .int i := by cases y <;> simp [isW] at hy; exact ⟨_, rfl⟩
        have a0 := R.a0
        have key : goodR l (.tuple [.int i, .int n]) = (decide (a ≤ i) && (decide (1 ≤ n) && (n % p == 0))) := by
          unfold goodR
          by_cases n1 : 1 ≤ n
          · by_cases i0 : 0 ≤ i
            · have := R.iff i0 n1
              by_cases h1 : a ≤ i
              · by_cases h2 : p ∣ n
                · have g := this.mpr ⟨h1, h2⟩
                  have h3 := Int.emod_eq_zero_of_dvd h2
                  simp only [i0, n1, g, h1, h3, and_self, decide_true, beq_self_eq_true, Bool.and_true]
                · have g : ¬ Per (dAt l) i n := fun z => h2 (this.mp z).2
                  have h3 : (n % p == 0) = false := beq_eq_false_iff_ne.mpr fun z => h2 (Int.dvd_of_emod_eq_zero z)
                  simp only [g, h3, and_false, decide_false, Bool.and_false]
              · have g : ¬ Per (dAt l) i n := fun z => h1 (this.mp z).1
                simp only [g, h1, and_false, decide_false, Bool.false_and]
            · have h1 : ¬ a ≤ i := by omega
              simp only [i0, h1, false_and, decide_false, Bool.false_and]
          · simp only [n1, false_and, and_false, decide_false, Bool.false_and, Bool.and_false]
        rw [key]
        simp only [Mi.wE_ok, Mi.bind_k, Mi.bind_b, Mi.bind_ite, Mi.optR_some, Mi.addF_int, Mi.int2_int, Mi.intB_int, Mi.q_seq, Mi.q_set, Mi.q_nil, Mi.q_drop, Mi.q_ret, Mi.q_if, Mi.q_brk, Mi.q_cnt, Mi.q_bad, Mi.q_asg, Mi.q_par, Mi.q_par3, Mi.q_app, Mi.q_put, Mi.q_putR, Mi.q_for, Mi.q_var, Mi.varR_some, Mi.q_con, Mi.q_bin, Mi.q_binS, Mi.q_bb, Mi.q_un, Mi.q_and, Mi.q_or, Mi.q_not, Mi.q_ife, Mi.q_band, Mi.q_bor, Mi.q_bnot, Mi.q_val, Mi.q_true, Mi.q_chn, Mi.q_anil, Mi.q_acons, Mi.q_tup, Mi.q_lst, Mi.q_lstR, Mi.q_none, Mi.q_some, Mi.q_sl, Mi.q_blt, Mi.q_isi, Mi.q_isi2, Mi.q_iseq, Mi.q_r1, Mi.q_r2, Mi.q_z, Mi.q_lr1, Mi.q_lr2, Mi.q_comp, Mi.q_call, Mi.k_seq_nx, Mi.k_seq_rt, Mi.k_seq_bk, Mi.k_seq_ct, Mi.k_set, Mi.k_drop, Mi.k_ret, Mi.k_if, Mi.k_asg, Mi.asgR_some, Mi.k_par, Mi.k_par3, Mi.k_app, Mi.appR_l, Mi.k_putR, Mi.k_putR2, Mi.putR2_ref, Mi.k_for, Mi.k_bin, Mi.k_bin2, Mi.k_binS, Mi.k_binS2, Mi.k_bb, Mi.k_bb2, Mi.optB_some, Mi.k_un, Mi.k_and_t, Mi.k_and_f, Mi.k_or_t, Mi.k_or_f, Mi.k_not, Mi.k_ife, Mi.k_band, Mi.k_bor, Mi.k_bnot, Mi.k_val, Mi.k_chn, Mi.k_chn2, Mi.k_chn3, Mi.k_cons, Mi.k_cons2, Mi.k_tup, Mi.k_lst, Mi.k_lstR, Mi.lstR_some, Mi.pys_nil, Mi.pys_cons, Mi.k_some_i, Mi.k_some_n, Mi.k_sl, Mi.k_sl2, Mi.k_sl3T, Mi.k_sl3L, Mi.k_blt, Mi.k_isi, Mi.k_isi2, Mi.k_seqI_l, Mi.k_seqI_t, Mi.k_r1, Mi.k_r2, Mi.k_r22, Mi.k_z, Mi.k_z2l, Mi.k_z2t, Mi.k_lr1, Mi.k_lr2, Mi.k_lr22, Mi.k_comp, Mi.k_comp2, Mi.k_body_rt, Mi.k_body_nx, Mi.v_add_t, Mi.v_cat, Mi.v_rep, Mi.v_mul, Mi.v_div, Mi.v_mod, Mi.v_pow, Mi.v_neg, Mi.v_lt, Mi.v_le, Mi.v_gt, Mi.v_ge, Mi.v_bD, Mi.v_ne, Mi.v_eqI, Mi.v_eqB, Mi.v_isN_n, Mi.v_isN_i, Mi.v_isN_t, Mi.v_isnt, Mi.v_ix_l, Mi.v_ix_t, Mi.v_ix_s, Mi.v_len_l, Mi.v_len_t, Mi.v_len_s, Mi.v_max2, Mi.v_min2, Mi.v_tup_l, Mi.v_lst_t, Mi.v_all, Mi.v_sum, Mi.b_nm, Mi.b_tp, Mi.b_cons, Mi.b_nil, Mi.D.int, Mi.D.bool, Mi.D.tup, Mi.D.lst, Mi.D.non, Mi.wipeE, List.map_cons, List.map_nil, List.length_cons, List.length_nil, List.cons_append, List.nil_append, List.getElem?_cons_zero, List.getElem?_cons_succ, List.set_cons_zero, List.set_cons_succ, Option.map_some, Option.bind_some, decide_eq_true_eq, ↓reduceIte, Nat.reduceAdd, Nat.reduceSub, Mi.atI0, Mi.atI1, Mi.atI2, Mi.ixN0, Mi.ixN1, Bool.not_true, Bool.not_false, Bool.false_eq_true, decide_true, decide_false, Mi.q_ext, Mi.k_ext, Mi.extR_l, Mi.k_sl3TL, Mi.q_zX, Mi.k_ztl, Mi.k_zlt, e_is_whole, hy, e1]
        by_cases h1 : a ≤ i
        · by_cases h2 : 1 ≤ n
          · simp only [Mi.wE_ok, Mi.bind_k, Mi.bind_b, Mi.bind_ite, Mi.optR_some, Mi.addF_int, Mi.int2_int, Mi.intB_int, Mi.q_seq, Mi.q_set, Mi.q_nil, Mi.q_drop, Mi.q_ret, Mi.q_if, Mi.q_brk, Mi.q_cnt, Mi.q_bad, Mi.q_asg, Mi.q_par, Mi.q_par3, Mi.q_app, Mi.q_put, Mi.q_putR, Mi.q_for, Mi.q_var, Mi.varR_some, Mi.q_con, Mi.q_bin, Mi.q_binS, Mi.q_bb, Mi.q_un, Mi.q_and, Mi.q_or, Mi.q_not, Mi.q_ife, Mi.q_band, Mi.q_bor, Mi.q_bnot, Mi.q_val, Mi.q_true, Mi.q_chn, Mi.q_anil, Mi.q_acons, Mi.q_tup, Mi.q_lst, Mi.q_lstR, Mi.q_none, Mi.q_some, Mi.q_sl, Mi.q_blt, Mi.q_isi, Mi.q_isi2, Mi.q_iseq, Mi.q_r1, Mi.q_r2, Mi.q_z, Mi.q_lr1, Mi.q_lr2, Mi.q_comp, Mi.q_call, Mi.k_seq_nx, Mi.k_seq_rt, Mi.k_seq_bk, Mi.k_seq_ct, Mi.k_set, Mi.k_drop, Mi.k_ret, Mi.k_if, Mi.k_asg, Mi.asgR_some, Mi.k_par, Mi.k_par3, Mi.k_app, Mi.appR_l, Mi.k_putR, Mi.k_putR2, Mi.putR2_ref, Mi.k_for, Mi.k_bin, Mi.k_bin2, Mi.k_binS, Mi.k_binS2, Mi.k_bb, Mi.k_bb2, Mi.optB_some, Mi.k_un, Mi.k_and_t, Mi.k_and_f, Mi.k_or_t, Mi.k_or_f, Mi.k_not, Mi.k_ife, Mi.k_band, Mi.k_bor, Mi.k_bnot, Mi.k_val, Mi.k_chn, Mi.k_chn2, Mi.k_chn3, Mi.k_cons, Mi.k_cons2, Mi.k_tup, Mi.k_lst, Mi.k_lstR, Mi.lstR_some, Mi.pys_nil, Mi.pys_cons, Mi.k_some_i, Mi.k_some_n, Mi.k_sl, Mi.k_sl2, Mi.k_sl3T, Mi.k_sl3L, Mi.k_blt, Mi.k_isi, Mi.k_isi2, Mi.k_seqI_l, Mi.k_seqI_t, Mi.k_r1, Mi.k_r2, Mi.k_r22, Mi.k_z, Mi.k_z2l, Mi.k_z2t, Mi.k_lr1, Mi.k_lr2, Mi.k_lr22, Mi.k_comp, Mi.k_comp2, Mi.k_body_rt, Mi.k_body_nx, Mi.v_add_t, Mi.v_cat, Mi.v_rep, Mi.v_mul, Mi.v_div, Mi.v_mod, Mi.v_pow, Mi.v_neg, Mi.v_lt, Mi.v_le, Mi.v_gt, Mi.v_ge, Mi.v_bD, Mi.v_ne, Mi.v_eqI, Mi.v_eqB, Mi.v_isN_n, Mi.v_isN_i, Mi.v_isN_t, Mi.v_isnt, Mi.v_ix_l, Mi.v_ix_t, Mi.v_ix_s, Mi.v_len_l, Mi.v_len_t, Mi.v_len_s, Mi.v_max2, Mi.v_min2, Mi.v_tup_l, Mi.v_lst_t, Mi.v_all, Mi.v_sum, Mi.b_nm, Mi.b_tp, Mi.b_cons, Mi.b_nil, Mi.D.int, Mi.D.bool, Mi.D.tup, Mi.D.lst, Mi.D.non, Mi.wipeE, List.map_cons, List.map_nil, List.length_cons, List.length_nil, List.cons_append, List.nil_append, List.getElem?_cons_zero, List.getElem?_cons_succ, List.set_cons_zero, List.set_cons_succ, Option.map_some, Option.bind_some, decide_eq_true_eq, ↓reduceIte, Nat.reduceAdd, Nat.reduceSub, Mi.atI0, Mi.atI1, Mi.atI2, Mi.ixN0, Mi.ixN1, Bool.not_true, Bool.not_false, Bool.false_eq_true, decide_true, decide_false, Mi.q_ext, Mi.k_ext, Mi.extR_l, Mi.k_sl3TL, Mi.q_zX, Mi.k_ztl, Mi.k_zlt, h1, h2, pp, Bool.true_and]
          · simp only [Mi.wE_ok, Mi.bind_k, Mi.bind_b, Mi.bind_ite, Mi.optR_some, Mi.addF_int, Mi.int2_int, Mi.intB_int, Mi.q_seq, Mi.q_set, Mi.q_nil, Mi.q_drop, Mi.q_ret, Mi.q_if, Mi.q_brk, Mi.q_cnt, Mi.q_bad, Mi.q_asg, Mi.q_par, Mi.q_par3, Mi.q_app, Mi.q_put, Mi.q_putR, Mi.q_for, Mi.q_var, Mi.varR_some, Mi.q_con, Mi.q_bin, Mi.q_binS, Mi.q_bb, Mi.q_un, Mi.q_and, Mi.q_or, Mi.q_not, Mi.q_ife, Mi.q_band, Mi.q_bor, Mi.q_bnot, Mi.q_val, Mi.q_true, Mi.q_chn, Mi.q_anil, Mi.q_acons, Mi.q_tup, Mi.q_lst, Mi.q_lstR, Mi.q_none, Mi.q_some, Mi.q_sl, Mi.q_blt, Mi.q_isi, Mi.q_isi2, Mi.q_iseq, Mi.q_r1, Mi.q_r2, Mi.q_z, Mi.q_lr1, Mi.q_lr2, Mi.q_comp, Mi.q_call, Mi.k_seq_nx, Mi.k_seq_rt, Mi.k_seq_bk, Mi.k_seq_ct, Mi.k_set, Mi.k_drop, Mi.k_ret, Mi.k_if, Mi.k_asg, Mi.asgR_some, Mi.k_par, Mi.k_par3, Mi.k_app, Mi.appR_l, Mi.k_putR, Mi.k_putR2, Mi.putR2_ref, Mi.k_for, Mi.k_bin, Mi.k_bin2, Mi.k_binS, Mi.k_binS2, Mi.k_bb, Mi.k_bb2, Mi.optB_some, Mi.k_un, Mi.k_and_t, Mi.k_and_f, Mi.k_or_t, Mi.k_or_f, Mi.k_not, Mi.k_ife, Mi.k_band, Mi.k_bor, Mi.k_bnot, Mi.k_val, Mi.k_chn, Mi.k_chn2, Mi.k_chn3, Mi.k_cons, Mi.k_cons2, Mi.k_tup, Mi.k_lst, Mi.k_lstR, Mi.lstR_some, Mi.pys_nil, Mi.pys_cons, Mi.k_some_i, Mi.k_some_n, Mi.k_sl, Mi.k_sl2, Mi.k_sl3T, Mi.k_sl3L, Mi.k_blt, Mi.k_isi, Mi.k_isi2, Mi.k_seqI_l, Mi.k_seqI_t, Mi.k_r1, Mi.k_r2, Mi.k_r22, Mi.k_z, Mi.k_z2l, Mi.k_z2t, Mi.k_lr1, Mi.k_lr2, Mi.k_lr22, Mi.k_comp, Mi.k_comp2, Mi.k_body_rt, Mi.k_body_nx, Mi.v_add_t, Mi.v_cat, Mi.v_rep, Mi.v_mul, Mi.v_div, Mi.v_mod, Mi.v_pow, Mi.v_neg, Mi.v_lt, Mi.v_le, Mi.v_gt, Mi.v_ge, Mi.v_bD, Mi.v_ne, Mi.v_eqI, Mi.v_eqB, Mi.v_isN_n, Mi.v_isN_i, Mi.v_isN_t, Mi.v_isnt, Mi.v_ix_l, Mi.v_ix_t, Mi.v_ix_s, Mi.v_len_l, Mi.v_len_t, Mi.v_len_s, Mi.v_max2, Mi.v_min2, Mi.v_tup_l, Mi.v_lst_t, Mi.v_all, Mi.v_sum, Mi.b_nm, Mi.b_tp, Mi.b_cons, Mi.b_nil, Mi.D.int, Mi.D.bool, Mi.D.tup, Mi.D.lst, Mi.D.non, Mi.wipeE, List.map_cons, List.map_nil, List.length_cons, List.length_nil, List.cons_append, List.nil_append, List.getElem?_cons_zero, List.getElem?_cons_succ, List.set_cons_zero, List.set_cons_succ, Option.map_some, Option.bind_some, decide_eq_true_eq, ↓reduceIte, Nat.reduceAdd, Nat.reduceSub, Mi.atI0, Mi.atI1, Mi.atI2, Mi.ixN0, Mi.ixN1, Bool.not_true, Bool.not_false, Bool.false_eq_true, decide_true, decide_false, Mi.q_ext, Mi.k_ext, Mi.extR_l, Mi.k_sl3TL, Mi.q_zX, Mi.k_ztl, Mi.k_zlt, h1, h2, Bool.true_and, Bool.false_and]
        · simp only [Mi.wE_ok, Mi.bind_k, Mi.bind_b, Mi.bind_ite, Mi.optR_some, Mi.addF_int, Mi.int2_int, Mi.intB_int, Mi.q_seq, Mi.q_set, Mi.q_nil, Mi.q_drop, Mi.q_ret, Mi.q_if, Mi.q_brk, Mi.q_cnt, Mi.q_bad, Mi.q_asg, Mi.q_par, Mi.q_par3, Mi.q_app, Mi.q_put, Mi.q_putR, Mi.q_for, Mi.q_var, Mi.varR_some, Mi.q_con, Mi.q_bin, Mi.q_binS, Mi.q_bb, Mi.q_un, Mi.q_and, Mi.q_or, Mi.q_not, Mi.q_ife, Mi.q_band, Mi.q_bor, Mi.q_bnot, Mi.q_val, Mi.q_true, Mi.q_chn, Mi.q_anil, Mi.q_acons, Mi.q_tup, Mi.q_lst, Mi.q_lstR, Mi.q_none, Mi.q_some, Mi.q_sl, Mi.q_blt, Mi.q_isi, Mi.q_isi2, Mi.q_iseq, Mi.q_r1, Mi.q_r2, Mi.q_z, Mi.q_lr1, Mi.q_lr2, Mi.q_comp, Mi.q_call, Mi.k_seq_nx, Mi.k_seq_rt, Mi.k_seq_bk, Mi.k_seq_ct, Mi.k_set, Mi.k_drop, Mi.k_ret, Mi.k_if, Mi.k_asg, Mi.asgR_some, Mi.k_par, Mi.k_par3, Mi.k_app, Mi.appR_l, Mi.k_putR, Mi.k_putR2, Mi.putR2_ref, Mi.k_for, Mi.k_bin, Mi.k_bin2, Mi.k_binS, Mi.k_binS2, Mi.k_bb, Mi.k_bb2, Mi.optB_some, Mi.k_un, Mi.k_and_t, Mi.k_and_f, Mi.k_or_t, Mi.k_or_f, Mi.k_not, Mi.k_ife, Mi.k_band, Mi.k_bor, Mi.k_bnot, Mi.k_val, Mi.k_chn, Mi.k_chn2, Mi.k_chn3, Mi.k_cons, Mi.k_cons2, Mi.k_tup, Mi.k_lst, Mi.k_lstR, Mi.lstR_some, Mi.pys_nil, Mi.pys_cons, Mi.k_some_i, Mi.k_some_n, Mi.k_sl, Mi.k_sl2, Mi.k_sl3T, Mi.k_sl3L, Mi.k_blt, Mi.k_isi, Mi.k_isi2, Mi.k_seqI_l, Mi.k_seqI_t, Mi.k_r1, Mi.k_r2, Mi.k_r22, Mi.k_z, Mi.k_z2l, Mi.k_z2t, Mi.k_lr1, Mi.k_lr2, Mi.k_lr22, Mi.k_comp, Mi.k_comp2, Mi.k_body_rt, Mi.k_body_nx, Mi.v_add_t, Mi.v_cat, Mi.v_rep, Mi.v_mul, Mi.v_div, Mi.v_mod, Mi.v_pow, Mi.v_neg, Mi.v_lt, Mi.v_le, Mi.v_gt, Mi.v_ge, Mi.v_bD, Mi.v_ne, Mi.v_eqI, Mi.v_eqB, Mi.v_isN_n, Mi.v_isN_i, Mi.v_isN_t, Mi.v_isnt, Mi.v_ix_l, Mi.v_ix_t, Mi.v_ix_s, Mi.v_len_l, Mi.v_len_t, Mi.v_len_s, Mi.v_max2, Mi.v_min2, Mi.v_tup_l, Mi.v_lst_t, Mi.v_all, Mi.v_sum, Mi.b_nm, Mi.b_tp, Mi.b_cons, Mi.b_nil, Mi.D.int, Mi.D.bool, Mi.D.tup, Mi.D.lst, Mi.D.non, Mi.wipeE, List.map_cons, List.map_nil, List.length_cons, List.length_nil, List.cons_append, List.nil_append, List.getElem?_cons_zero, List.getElem?_cons_succ, List.set_cons_zero, List.set_cons_succ, Option.map_some, Option.bind_some, decide_eq_true_eq, ↓reduceIte, Nat.reduceAdd, Nat.reduceSub, Mi.atI0, Mi.atI1, Mi.atI2, Mi.ixN0, Mi.ixN1, Bool.not_true, Bool.not_false, Bool.false_eq_true, decide_true, decide_false, Mi.q_ext, Mi.k_ext, Mi.extR_l, Mi.k_sl3TL, Mi.q_zX, Mi.k_ztl, Mi.k_zlt, h1, Bool.false_and]
theorem turning_w {S : Store} {n : Nat} (G : Good S n) : ∃ l S', c__law_turning [.ref n] S = .ok (.p (encL l)) S' ∧ LayOk l ∧ 1 ≤ l.rows.length ∧ Good S' n := by
  rw [u__law_turning, m__law_turning]
  obtain ⟨r1, S1, e1, a1, b1, G1⟩ := draw_w (k := 3) G (by omega) (by omega)
  have hb : bnd (1 + r1) := bnd_of (by omega) (by omega)
  have hl : (intR 0 (1 + r1).toNat).length ≤ lim := by rw [intR_len, lim_v]; omega
  obtain ⟨_, S2, e2, part, rfl, zp, pp, G2⟩ := wE_ex (compL_draw (p := .nm 2) (elt := eTup (aCons (eCall c__law_take (aCons (eVar 0) (aCons (eCon (.p (.int 3))) aNil))) (aCons (xAdd (eCon (.p (.int 1))) (eCall c__law_take (aCons (eVar 0) (aCons (eCon (.p (.int 3))) aNil)))) aNil))) (ro := [some (.ref n), none, none, none, none]) encR RowOk (fun S => Good S n) (intR 0 (1 + r1).toNat) S1 G1 (fun d _ S G => by
    refine ⟨_, b_nm, ?_⟩
    obtain ⟨x, S1, e1, a1, b1, G1⟩ := draw_w (k := 3) G (by omega) (by omega)
    obtain ⟨y, S2, e2, a2, b2, G2⟩ := draw_w (k := 3) G1 (by omega) (by omega)
    simp only [Mi.wE_ok, Mi.bind_k, Mi.bind_b, Mi.bind_ite, Mi.optR_some, Mi.addF_int, Mi.int2_int, Mi.intB_int, Mi.q_seq, Mi.q_set, Mi.q_nil, Mi.q_drop, Mi.q_ret, Mi.q_if, Mi.q_brk, Mi.q_cnt, Mi.q_bad, Mi.q_asg, Mi.q_par, Mi.q_par3, Mi.q_app, Mi.q_put, Mi.q_putR, Mi.q_for, Mi.q_var, Mi.varR_some, Mi.q_con, Mi.q_bin, Mi.q_binS, Mi.q_bb, Mi.q_un, Mi.q_and, Mi.q_or, Mi.q_not, Mi.q_ife, Mi.q_band, Mi.q_bor, Mi.q_bnot, Mi.q_val, Mi.q_true, Mi.q_chn, Mi.q_anil, Mi.q_acons, Mi.q_tup, Mi.q_lst, Mi.q_lstR, Mi.q_none, Mi.q_some, Mi.q_sl, Mi.q_blt, Mi.q_isi, Mi.q_isi2, Mi.q_iseq, Mi.q_r1, Mi.q_r2, Mi.q_z, Mi.q_lr1, Mi.q_lr2, Mi.q_comp, Mi.q_call, Mi.k_seq_nx, Mi.k_seq_rt, Mi.k_seq_bk, Mi.k_seq_ct, Mi.k_set, Mi.k_drop, Mi.k_ret, Mi.k_if, Mi.k_asg, Mi.asgR_some, Mi.k_par, Mi.k_par3, Mi.k_app, Mi.appR_l, Mi.k_putR, Mi.k_putR2, Mi.putR2_ref, Mi.k_for, Mi.k_bin, Mi.k_bin2, Mi.k_binS, Mi.k_binS2, Mi.k_bb, Mi.k_bb2, Mi.optB_some, Mi.k_un, Mi.k_and_t, Mi.k_and_f, Mi.k_or_t, Mi.k_or_f, Mi.k_not, Mi.k_ife, Mi.k_band, Mi.k_bor, Mi.k_bnot, Mi.k_val, Mi.k_chn, Mi.k_chn2, Mi.k_chn3, Mi.k_cons, Mi.k_cons2, Mi.k_tup, Mi.k_lst, Mi.k_lstR, Mi.lstR_some, Mi.pys_nil, Mi.pys_cons, Mi.k_some_i, Mi.k_some_n, Mi.k_sl, Mi.k_sl2, Mi.k_sl3T, Mi.k_sl3L, Mi.k_blt, Mi.k_isi, Mi.k_isi2, Mi.k_seqI_l, Mi.k_seqI_t, Mi.k_r1, Mi.k_r2, Mi.k_r22, Mi.k_z, Mi.k_z2l, Mi.k_z2t, Mi.k_lr1, Mi.k_lr2, Mi.k_lr22, Mi.k_comp, Mi.k_comp2, Mi.k_body_rt, Mi.k_body_nx, Mi.v_add_t, Mi.v_cat, Mi.v_rep, Mi.v_mul, Mi.v_div, Mi.v_mod, Mi.v_pow, Mi.v_neg, Mi.v_lt, Mi.v_le, Mi.v_gt, Mi.v_ge, Mi.v_bD, Mi.v_ne, Mi.v_eqI, Mi.v_eqB, Mi.v_isN_n, Mi.v_isN_i, Mi.v_isN_t, Mi.v_isnt, Mi.v_ix_l, Mi.v_ix_t, Mi.v_ix_s, Mi.v_len_l, Mi.v_len_t, Mi.v_len_s, Mi.v_max2, Mi.v_min2, Mi.v_tup_l, Mi.v_lst_t, Mi.v_all, Mi.v_sum, Mi.b_nm, Mi.b_tp, Mi.b_cons, Mi.b_nil, Mi.D.int, Mi.D.bool, Mi.D.tup, Mi.D.lst, Mi.D.non, Mi.wipeE, List.map_cons, List.map_nil, List.length_cons, List.length_nil, List.cons_append, List.nil_append, List.getElem?_cons_zero, List.getElem?_cons_succ, List.set_cons_zero, List.set_cons_succ, Option.map_some, Option.bind_some, decide_eq_true_eq, ↓reduceIte, Nat.reduceAdd, Nat.reduceSub, Mi.atI0, Mi.atI1, Mi.atI2, Mi.ixN0, Mi.ixN1, Bool.not_true, Bool.not_false, Bool.false_eq_true, decide_true, decide_false, Mi.q_ext, Mi.k_ext, Mi.extR_l, Mi.k_sl3TL, Mi.q_zX, Mi.k_ztl, Mi.k_zlt, e1, e2]
    exact ⟨(x, 1 + y), rfl, ⟨by simp only; omega, by simp only; omega, by simp only; omega, by simp only; omega⟩, G2⟩))
  rw [intR_len] at zp
  obtain ⟨r3, S3, e3, a3, b3, G3⟩ := draw_w (k := 4) G2 (by omega) (by omega)
  have c1 : -(2 ^ 63) ≤ (8 : Int) ∧ (8 : Int) < 2 ^ 63 ∧ part.length * (8 : Int).toNat ≤ lim := by
    refine ⟨by decide, by decide, ?_⟩
    rw [lim_v, show (8 : Int).toNat = 8 from rfl]
    omega
  have cm : CMul (part.length : Int) (1 + r3) := cmul_s (by omega) (by omega)
  -- the rows
  have eR : (List.replicate (8 : Int).toNat (part.map encR)).flatten = (List.replicate 8 part).flatten.map encR := by
    rw [List.map_flatten, List.map_replicate]
    rfl
  have hk0 : 0 ≤ min 8 ((part.length : Int) * (1 + r3)) := by
    have := Int.mul_nonneg (show 0 ≤ (part.length : Int) by omega) (show 0 ≤ 1 + r3 by omega)
    omega
  have hk1 : 1 ≤ min 8 ((part.length : Int) * (1 + r3)) := by
    have := Int.mul_le_mul (show 1 ≤ (part.length : Int) by omega) (show 1 ≤ 1 + r3 by omega) (by decide) (by omega)
    omega
  have lenR : (List.replicate 8 part).flatten.length = 8 * part.length := by
    rw [List.length_flatten, List.map_replicate, List.sum_replicate_nat]
  obtain ⟨R0, hR0⟩ : ∃ R0, R0 = (List.replicate 8 part).flatten.take (min 8 ((part.length : Int) * (1 + r3))).toNat := ⟨_, rfl⟩
  have lR0 : 1 ≤ R0.length ∧ R0.length ≤ 8 := by
    rw [hR0, List.length_take, lenR]
    omega
  have okR0 : ∀ r ∈ R0, RowOk r := fun r hr => by
    rw [hR0] at hr
    obtain ⟨q, hq, hr⟩ := List.mem_flatten.mp (List.mem_of_mem_take hr)
    rw [List.eq_of_mem_replicate hq] at hr
    exact pp r hr
  have ct := cut_take ((List.replicate 8 part).flatten.map encR) hk0
  rw [← List.map_take, ← hR0] at ct
  obtain ⟨st, S4, e4, a4, b4, G4⟩ := draw_w (k := (R0.length : Int)) G3 (by omega) (by omega)
  obtain ⟨r5, S5, e5, a5, b5, G5⟩ := draw_w (k := 2) G4 (by omega) (by omega)
  -- the end: rows and a back
  have fin : ∀ (R : List Row) (S : Store) (z : Option D), (∀ r ∈ R, RowOk r) → 1 ≤ R.length → R.length ≤ 8 → st < (R.length : Int) → Good S n →
      ∃ l S', (sRet (eTup (aCons (eBlt tupF (aCons (eVar 3) aNil)) (aCons (eBinS idxF (eLst (aCons (eVar 4) (aCons (eVar 4) (aCons (eCon (.p .none)) aNil)))) (eCall c__law_take (aCons (eVar 0) (aCons (eCon (.p (.int 3))) aNil)))) aNil)))) [some (.ref n), some (.p (.list (part.map encR))), z, some (.p (.list (R.map encR))), some (.p (.int st))] S = .ok (.rt (.p (encL l))) S' ∧ LayOk l ∧ 1 ≤ l.rows.length ∧ Good S' n := by
    intro R S z hR l1 l8 hs G
    obtain ⟨r6, S6, e6, a6, b6, G6⟩ := draw_w (k := 3) G (by omega) (by omega)
    obtain ⟨_, q1, o, rfl, ho⟩ := atI_any (fun x => ∃ o : Option Int, x = encO o ∧ ∀ b, o = some b → 0 ≤ b ∧ b < R.length) [.int st, .int st, .none] (i := r6) (by omega) (by simp only [List.length_cons, List.length_nil]; omega) (by
      intro x hx
      simp only [List.mem_cons, List.not_mem_nil, or_false] at hx
      rcases hx with rfl | rfl | rfl
      · exact ⟨some st, rfl, fun b hb => by cases hb; exact ⟨a4, hs⟩⟩
      · exact ⟨some st, rfl, fun b hb => by cases hb; exact ⟨a4, hs⟩⟩
      · exact ⟨none, rfl, fun b hb => by cases hb⟩)
    simp only [Mi.wE_ok, Mi.bind_k, Mi.bind_b, Mi.bind_ite, Mi.optR_some, Mi.addF_int, Mi.int2_int, Mi.intB_int, Mi.q_seq, Mi.q_set, Mi.q_nil, Mi.q_drop, Mi.q_ret, Mi.q_if, Mi.q_brk, Mi.q_cnt, Mi.q_bad, Mi.q_asg, Mi.q_par, Mi.q_par3, Mi.q_app, Mi.q_put, Mi.q_putR, Mi.q_for, Mi.q_var, Mi.varR_some, Mi.q_con, Mi.q_bin, Mi.q_binS, Mi.q_bb, Mi.q_un, Mi.q_and, Mi.q_or, Mi.q_not, Mi.q_ife, Mi.q_band, Mi.q_bor, Mi.q_bnot, Mi.q_val, Mi.q_true, Mi.q_chn, Mi.q_anil, Mi.q_acons, Mi.q_tup, Mi.q_lst, Mi.q_lstR, Mi.q_none, Mi.q_some, Mi.q_sl, Mi.q_blt, Mi.q_isi, Mi.q_isi2, Mi.q_iseq, Mi.q_r1, Mi.q_r2, Mi.q_z, Mi.q_lr1, Mi.q_lr2, Mi.q_comp, Mi.q_call, Mi.k_seq_nx, Mi.k_seq_rt, Mi.k_seq_bk, Mi.k_seq_ct, Mi.k_set, Mi.k_drop, Mi.k_ret, Mi.k_if, Mi.k_asg, Mi.asgR_some, Mi.k_par, Mi.k_par3, Mi.k_app, Mi.appR_l, Mi.k_putR, Mi.k_putR2, Mi.putR2_ref, Mi.k_for, Mi.k_bin, Mi.k_bin2, Mi.k_binS, Mi.k_binS2, Mi.k_bb, Mi.k_bb2, Mi.optB_some, Mi.k_un, Mi.k_and_t, Mi.k_and_f, Mi.k_or_t, Mi.k_or_f, Mi.k_not, Mi.k_ife, Mi.k_band, Mi.k_bor, Mi.k_bnot, Mi.k_val, Mi.k_chn, Mi.k_chn2, Mi.k_chn3, Mi.k_cons, Mi.k_cons2, Mi.k_tup, Mi.k_lst, Mi.k_lstR, Mi.lstR_some, Mi.pys_nil, Mi.pys_cons, Mi.k_some_i, Mi.k_some_n, Mi.k_sl, Mi.k_sl2, Mi.k_sl3T, Mi.k_sl3L, Mi.k_blt, Mi.k_isi, Mi.k_isi2, Mi.k_seqI_l, Mi.k_seqI_t, Mi.k_r1, Mi.k_r2, Mi.k_r22, Mi.k_z, Mi.k_z2l, Mi.k_z2t, Mi.k_lr1, Mi.k_lr2, Mi.k_lr22, Mi.k_comp, Mi.k_comp2, Mi.k_body_rt, Mi.k_body_nx, Mi.v_add_t, Mi.v_cat, Mi.v_rep, Mi.v_mul, Mi.v_div, Mi.v_mod, Mi.v_pow, Mi.v_neg, Mi.v_lt, Mi.v_le, Mi.v_gt, Mi.v_ge, Mi.v_bD, Mi.v_ne, Mi.v_eqI, Mi.v_eqB, Mi.v_isN_n, Mi.v_isN_i, Mi.v_isN_t, Mi.v_isnt, Mi.v_ix_l, Mi.v_ix_t, Mi.v_ix_s, Mi.v_len_l, Mi.v_len_t, Mi.v_len_s, Mi.v_max2, Mi.v_min2, Mi.v_tup_l, Mi.v_lst_t, Mi.v_all, Mi.v_sum, Mi.b_nm, Mi.b_tp, Mi.b_cons, Mi.b_nil, Mi.D.int, Mi.D.bool, Mi.D.tup, Mi.D.lst, Mi.D.non, Mi.wipeE, List.map_cons, List.map_nil, List.length_cons, List.length_nil, List.cons_append, List.nil_append, List.getElem?_cons_zero, List.getElem?_cons_succ, List.set_cons_zero, List.set_cons_succ, Option.map_some, Option.bind_some, decide_eq_true_eq, ↓reduceIte, Nat.reduceAdd, Nat.reduceSub, Mi.atI0, Mi.atI1, Mi.atI2, Mi.ixN0, Mi.ixN1, Bool.not_true, Bool.not_false, Bool.false_eq_true, decide_true, decide_false, Mi.q_ext, Mi.k_ext, Mi.extR_l, Mi.k_sl3TL, Mi.q_zX, Mi.k_ztl, Mi.k_zlt, e6, q1]
    exact ⟨⟨R, o⟩, S6, rfl, ⟨l8, hR, ho⟩, l1, G6⟩
  by_cases h5 : r5 = 0
  · have z5 : (r5 == 0) = true := beq_iff_eq.mpr h5
    obtain ⟨x, S6, e6, a6, b6, G6⟩ := draw_w (k := 2) G5 (by omega) (by omega)
    obtain ⟨y, S7, e7, a7, b7, G7⟩ := draw_w (k := 4) G6 (by omega) (by omega)
    have ct7 := cut_take (R0.map encR) (b := 7) (by decide)
    rw [← List.map_take, show (7 : Int).toNat = 7 from rfl] at ct7
    have c2 : 0 + 1 + (R0.take 7).length ≤ lim := by rw [List.length_take, lim_v]; omega
    obtain ⟨l, S8, e8, ok, l1, G8⟩ := fin ((x, 1 + y) :: R0.take 7) S7 none (fun r hr => by
      rcases List.mem_cons.mp hr with hr | hr
      · rw [hr]; exact ⟨by simp only; omega, by simp only; omega, by simp only; omega, by simp only; omega⟩
      · exact okR0 r (List.mem_of_mem_take hr)) (by simp only [List.length_cons]; omega) (by rw [List.length_cons, List.length_take]; omega) (by rw [List.length_cons, List.length_take]; omega) G7
    simp only [List.map_cons, encR] at e8
    have e8' := e8
    simp only [Mi.wE_ok, Mi.bind_k, Mi.bind_b, Mi.bind_ite, Mi.optR_some, Mi.addF_int, Mi.int2_int, Mi.intB_int, Mi.q_seq, Mi.q_set, Mi.q_nil, Mi.q_drop, Mi.q_ret, Mi.q_if, Mi.q_brk, Mi.q_cnt, Mi.q_bad, Mi.q_asg, Mi.q_par, Mi.q_par3, Mi.q_app, Mi.q_put, Mi.q_putR, Mi.q_for, Mi.q_var, Mi.varR_some, Mi.q_con, Mi.q_bin, Mi.q_binS, Mi.q_bb, Mi.q_un, Mi.q_and, Mi.q_or, Mi.q_not, Mi.q_ife, Mi.q_band, Mi.q_bor, Mi.q_bnot, Mi.q_val, Mi.q_true, Mi.q_chn, Mi.q_anil, Mi.q_acons, Mi.q_tup, Mi.q_lst, Mi.q_lstR, Mi.q_none, Mi.q_some, Mi.q_sl, Mi.q_blt, Mi.q_isi, Mi.q_isi2, Mi.q_iseq, Mi.q_r1, Mi.q_r2, Mi.q_z, Mi.q_lr1, Mi.q_lr2, Mi.q_comp, Mi.q_call, Mi.k_seq_nx, Mi.k_seq_rt, Mi.k_seq_bk, Mi.k_seq_ct, Mi.k_set, Mi.k_drop, Mi.k_ret, Mi.k_if, Mi.k_asg, Mi.asgR_some, Mi.k_par, Mi.k_par3, Mi.k_app, Mi.appR_l, Mi.k_putR, Mi.k_putR2, Mi.putR2_ref, Mi.k_for, Mi.k_bin, Mi.k_bin2, Mi.k_binS, Mi.k_binS2, Mi.k_bb, Mi.k_bb2, Mi.optB_some, Mi.k_un, Mi.k_and_t, Mi.k_and_f, Mi.k_or_t, Mi.k_or_f, Mi.k_not, Mi.k_ife, Mi.k_band, Mi.k_bor, Mi.k_bnot, Mi.k_val, Mi.k_chn, Mi.k_chn2, Mi.k_chn3, Mi.k_cons, Mi.k_cons2, Mi.k_tup, Mi.k_lst, Mi.k_lstR, Mi.lstR_some, Mi.pys_nil, Mi.pys_cons, Mi.k_some_i, Mi.k_some_n, Mi.k_sl, Mi.k_sl2, Mi.k_sl3T, Mi.k_sl3L, Mi.k_blt, Mi.k_isi, Mi.k_isi2, Mi.k_seqI_l, Mi.k_seqI_t, Mi.k_r1, Mi.k_r2, Mi.k_r22, Mi.k_z, Mi.k_z2l, Mi.k_z2t, Mi.k_lr1, Mi.k_lr2, Mi.k_lr22, Mi.k_comp, Mi.k_comp2, Mi.k_body_rt, Mi.k_body_nx, Mi.v_add_t, Mi.v_cat, Mi.v_rep, Mi.v_mul, Mi.v_div, Mi.v_mod, Mi.v_pow, Mi.v_neg, Mi.v_lt, Mi.v_le, Mi.v_gt, Mi.v_ge, Mi.v_bD, Mi.v_ne, Mi.v_eqI, Mi.v_eqB, Mi.v_isN_n, Mi.v_isN_i, Mi.v_isN_t, Mi.v_isnt, Mi.v_ix_l, Mi.v_ix_t, Mi.v_ix_s, Mi.v_len_l, Mi.v_len_t, Mi.v_len_s, Mi.v_max2, Mi.v_min2, Mi.v_tup_l, Mi.v_lst_t, Mi.v_all, Mi.v_sum, Mi.b_nm, Mi.b_tp, Mi.b_cons, Mi.b_nil, Mi.D.int, Mi.D.bool, Mi.D.tup, Mi.D.lst, Mi.D.non, Mi.wipeE, List.map_cons, List.map_nil, List.length_cons, List.length_nil, List.cons_append, List.nil_append, List.getElem?_cons_zero, List.getElem?_cons_succ, List.set_cons_zero, List.set_cons_succ, Option.map_some, Option.bind_some, decide_eq_true_eq, ↓reduceIte, Nat.reduceAdd, Nat.reduceSub, Mi.atI0, Mi.atI1, Mi.atI2, Mi.ixN0, Mi.ixN1, Bool.not_true, Bool.not_false, Bool.false_eq_true, decide_true, decide_false, Mi.q_ext, Mi.k_ext, Mi.extR_l, Mi.k_sl3TL, Mi.q_zX, Mi.k_ztl, Mi.k_zlt, List.length_map, e1, hb, hl, e2, c1, and_self, cm, e3, eR, ct, e4, e5, z5, e6, e7, ct7, c2]
    simp only [Mi.wE_ok, Mi.bind_k, Mi.bind_b, Mi.bind_ite, Mi.optR_some, Mi.addF_int, Mi.int2_int, Mi.intB_int, Mi.q_seq, Mi.q_set, Mi.q_nil, Mi.q_drop, Mi.q_ret, Mi.q_if, Mi.q_brk, Mi.q_cnt, Mi.q_bad, Mi.q_asg, Mi.q_par, Mi.q_par3, Mi.q_app, Mi.q_put, Mi.q_putR, Mi.q_for, Mi.q_var, Mi.varR_some, Mi.q_con, Mi.q_bin, Mi.q_binS, Mi.q_bb, Mi.q_un, Mi.q_and, Mi.q_or, Mi.q_not, Mi.q_ife, Mi.q_band, Mi.q_bor, Mi.q_bnot, Mi.q_val, Mi.q_true, Mi.q_chn, Mi.q_anil, Mi.q_acons, Mi.q_tup, Mi.q_lst, Mi.q_lstR, Mi.q_none, Mi.q_some, Mi.q_sl, Mi.q_blt, Mi.q_isi, Mi.q_isi2, Mi.q_iseq, Mi.q_r1, Mi.q_r2, Mi.q_z, Mi.q_lr1, Mi.q_lr2, Mi.q_comp, Mi.q_call, Mi.k_seq_nx, Mi.k_seq_rt, Mi.k_seq_bk, Mi.k_seq_ct, Mi.k_set, Mi.k_drop, Mi.k_ret, Mi.k_if, Mi.k_asg, Mi.asgR_some, Mi.k_par, Mi.k_par3, Mi.k_app, Mi.appR_l, Mi.k_putR, Mi.k_putR2, Mi.putR2_ref, Mi.k_for, Mi.k_bin, Mi.k_bin2, Mi.k_binS, Mi.k_binS2, Mi.k_bb, Mi.k_bb2, Mi.optB_some, Mi.k_un, Mi.k_and_t, Mi.k_and_f, Mi.k_or_t, Mi.k_or_f, Mi.k_not, Mi.k_ife, Mi.k_band, Mi.k_bor, Mi.k_bnot, Mi.k_val, Mi.k_chn, Mi.k_chn2, Mi.k_chn3, Mi.k_cons, Mi.k_cons2, Mi.k_tup, Mi.k_lst, Mi.k_lstR, Mi.lstR_some, Mi.pys_nil, Mi.pys_cons, Mi.k_some_i, Mi.k_some_n, Mi.k_sl, Mi.k_sl2, Mi.k_sl3T, Mi.k_sl3L, Mi.k_blt, Mi.k_isi, Mi.k_isi2, Mi.k_seqI_l, Mi.k_seqI_t, Mi.k_r1, Mi.k_r2, Mi.k_r22, Mi.k_z, Mi.k_z2l, Mi.k_z2t, Mi.k_lr1, Mi.k_lr2, Mi.k_lr22, Mi.k_comp, Mi.k_comp2, Mi.k_body_rt, Mi.k_body_nx, Mi.v_add_t, Mi.v_cat, Mi.v_rep, Mi.v_mul, Mi.v_div, Mi.v_mod, Mi.v_pow, Mi.v_neg, Mi.v_lt, Mi.v_le, Mi.v_gt, Mi.v_ge, Mi.v_bD, Mi.v_ne, Mi.v_eqI, Mi.v_eqB, Mi.v_isN_n, Mi.v_isN_i, Mi.v_isN_t, Mi.v_isnt, Mi.v_ix_l, Mi.v_ix_t, Mi.v_ix_s, Mi.v_len_l, Mi.v_len_t, Mi.v_len_s, Mi.v_max2, Mi.v_min2, Mi.v_tup_l, Mi.v_lst_t, Mi.v_all, Mi.v_sum, Mi.b_nm, Mi.b_tp, Mi.b_cons, Mi.b_nil, Mi.D.int, Mi.D.bool, Mi.D.tup, Mi.D.lst, Mi.D.non, Mi.wipeE, List.map_cons, List.map_nil, List.length_cons, List.length_nil, List.cons_append, List.nil_append, List.getElem?_cons_zero, List.getElem?_cons_succ, List.set_cons_zero, List.set_cons_succ, Option.map_some, Option.bind_some, decide_eq_true_eq, ↓reduceIte, Nat.reduceAdd, Nat.reduceSub, Mi.atI0, Mi.atI1, Mi.atI2, Mi.ixN0, Mi.ixN1, Bool.not_true, Bool.not_false, Bool.false_eq_true, decide_true, decide_false, Mi.q_ext, Mi.k_ext, Mi.extR_l, Mi.k_sl3TL, Mi.q_zX, Mi.k_ztl, Mi.k_zlt] at e8
    rw [e8]
    exact ⟨l, S8, rfl, ok, l1, G8⟩
  · have z5 : (r5 == 0) = false := beq_eq_false_iff_ne.mpr h5
    obtain ⟨l, S8, e8, ok, l1, G8⟩ := fin R0 S5 none okR0 lR0.1 lR0.2 b4 G5
    simp only [Mi.wE_ok, Mi.bind_k, Mi.bind_b, Mi.bind_ite, Mi.optR_some, Mi.addF_int, Mi.int2_int, Mi.intB_int, Mi.q_seq, Mi.q_set, Mi.q_nil, Mi.q_drop, Mi.q_ret, Mi.q_if, Mi.q_brk, Mi.q_cnt, Mi.q_bad, Mi.q_asg, Mi.q_par, Mi.q_par3, Mi.q_app, Mi.q_put, Mi.q_putR, Mi.q_for, Mi.q_var, Mi.varR_some, Mi.q_con, Mi.q_bin, Mi.q_binS, Mi.q_bb, Mi.q_un, Mi.q_and, Mi.q_or, Mi.q_not, Mi.q_ife, Mi.q_band, Mi.q_bor, Mi.q_bnot, Mi.q_val, Mi.q_true, Mi.q_chn, Mi.q_anil, Mi.q_acons, Mi.q_tup, Mi.q_lst, Mi.q_lstR, Mi.q_none, Mi.q_some, Mi.q_sl, Mi.q_blt, Mi.q_isi, Mi.q_isi2, Mi.q_iseq, Mi.q_r1, Mi.q_r2, Mi.q_z, Mi.q_lr1, Mi.q_lr2, Mi.q_comp, Mi.q_call, Mi.k_seq_nx, Mi.k_seq_rt, Mi.k_seq_bk, Mi.k_seq_ct, Mi.k_set, Mi.k_drop, Mi.k_ret, Mi.k_if, Mi.k_asg, Mi.asgR_some, Mi.k_par, Mi.k_par3, Mi.k_app, Mi.appR_l, Mi.k_putR, Mi.k_putR2, Mi.putR2_ref, Mi.k_for, Mi.k_bin, Mi.k_bin2, Mi.k_binS, Mi.k_binS2, Mi.k_bb, Mi.k_bb2, Mi.optB_some, Mi.k_un, Mi.k_and_t, Mi.k_and_f, Mi.k_or_t, Mi.k_or_f, Mi.k_not, Mi.k_ife, Mi.k_band, Mi.k_bor, Mi.k_bnot, Mi.k_val, Mi.k_chn, Mi.k_chn2, Mi.k_chn3, Mi.k_cons, Mi.k_cons2, Mi.k_tup, Mi.k_lst, Mi.k_lstR, Mi.lstR_some, Mi.pys_nil, Mi.pys_cons, Mi.k_some_i, Mi.k_some_n, Mi.k_sl, Mi.k_sl2, Mi.k_sl3T, Mi.k_sl3L, Mi.k_blt, Mi.k_isi, Mi.k_isi2, Mi.k_seqI_l, Mi.k_seqI_t, Mi.k_r1, Mi.k_r2, Mi.k_r22, Mi.k_z, Mi.k_z2l, Mi.k_z2t, Mi.k_lr1, Mi.k_lr2, Mi.k_lr22, Mi.k_comp, Mi.k_comp2, Mi.k_body_rt, Mi.k_body_nx, Mi.v_add_t, Mi.v_cat, Mi.v_rep, Mi.v_mul, Mi.v_div, Mi.v_mod, Mi.v_pow, Mi.v_neg, Mi.v_lt, Mi.v_le, Mi.v_gt, Mi.v_ge, Mi.v_bD, Mi.v_ne, Mi.v_eqI, Mi.v_eqB, Mi.v_isN_n, Mi.v_isN_i, Mi.v_isN_t, Mi.v_isnt, Mi.v_ix_l, Mi.v_ix_t, Mi.v_ix_s, Mi.v_len_l, Mi.v_len_t, Mi.v_len_s, Mi.v_max2, Mi.v_min2, Mi.v_tup_l, Mi.v_lst_t, Mi.v_all, Mi.v_sum, Mi.b_nm, Mi.b_tp, Mi.b_cons, Mi.b_nil, Mi.D.int, Mi.D.bool, Mi.D.tup, Mi.D.lst, Mi.D.non, Mi.wipeE, List.map_cons, List.map_nil, List.length_cons, List.length_nil, List.cons_append, List.nil_append, List.getElem?_cons_zero, List.getElem?_cons_succ, List.set_cons_zero, List.set_cons_succ, Option.map_some, Option.bind_some, decide_eq_true_eq, ↓reduceIte, Nat.reduceAdd, Nat.reduceSub, Mi.atI0, Mi.atI1, Mi.atI2, Mi.ixN0, Mi.ixN1, Bool.not_true, Bool.not_false, Bool.false_eq_true, decide_true, decide_false, Mi.q_ext, Mi.k_ext, Mi.extR_l, Mi.k_sl3TL, Mi.q_zX, Mi.k_ztl, Mi.k_zlt, List.length_map, e1, hb, hl, e2, c1, and_self, cm, e3, eR, ct, e4, e5, z5]
    simp only [Mi.wE_ok, Mi.bind_k, Mi.bind_b, Mi.bind_ite, Mi.optR_some, Mi.addF_int, Mi.int2_int, Mi.intB_int, Mi.q_seq, Mi.q_set, Mi.q_nil, Mi.q_drop, Mi.q_ret, Mi.q_if, Mi.q_brk, Mi.q_cnt, Mi.q_bad, Mi.q_asg, Mi.q_par, Mi.q_par3, Mi.q_app, Mi.q_put, Mi.q_putR, Mi.q_for, Mi.q_var, Mi.varR_some, Mi.q_con, Mi.q_bin, Mi.q_binS, Mi.q_bb, Mi.q_un, Mi.q_and, Mi.q_or, Mi.q_not, Mi.q_ife, Mi.q_band, Mi.q_bor, Mi.q_bnot, Mi.q_val, Mi.q_true, Mi.q_chn, Mi.q_anil, Mi.q_acons, Mi.q_tup, Mi.q_lst, Mi.q_lstR, Mi.q_none, Mi.q_some, Mi.q_sl, Mi.q_blt, Mi.q_isi, Mi.q_isi2, Mi.q_iseq, Mi.q_r1, Mi.q_r2, Mi.q_z, Mi.q_lr1, Mi.q_lr2, Mi.q_comp, Mi.q_call, Mi.k_seq_nx, Mi.k_seq_rt, Mi.k_seq_bk, Mi.k_seq_ct, Mi.k_set, Mi.k_drop, Mi.k_ret, Mi.k_if, Mi.k_asg, Mi.asgR_some, Mi.k_par, Mi.k_par3, Mi.k_app, Mi.appR_l, Mi.k_putR, Mi.k_putR2, Mi.putR2_ref, Mi.k_for, Mi.k_bin, Mi.k_bin2, Mi.k_binS, Mi.k_binS2, Mi.k_bb, Mi.k_bb2, Mi.optB_some, Mi.k_un, Mi.k_and_t, Mi.k_and_f, Mi.k_or_t, Mi.k_or_f, Mi.k_not, Mi.k_ife, Mi.k_band, Mi.k_bor, Mi.k_bnot, Mi.k_val, Mi.k_chn, Mi.k_chn2, Mi.k_chn3, Mi.k_cons, Mi.k_cons2, Mi.k_tup, Mi.k_lst, Mi.k_lstR, Mi.lstR_some, Mi.pys_nil, Mi.pys_cons, Mi.k_some_i, Mi.k_some_n, Mi.k_sl, Mi.k_sl2, Mi.k_sl3T, Mi.k_sl3L, Mi.k_blt, Mi.k_isi, Mi.k_isi2, Mi.k_seqI_l, Mi.k_seqI_t, Mi.k_r1, Mi.k_r2, Mi.k_r22, Mi.k_z, Mi.k_z2l, Mi.k_z2t, Mi.k_lr1, Mi.k_lr2, Mi.k_lr22, Mi.k_comp, Mi.k_comp2, Mi.k_body_rt, Mi.k_body_nx, Mi.v_add_t, Mi.v_cat, Mi.v_rep, Mi.v_mul, Mi.v_div, Mi.v_mod, Mi.v_pow, Mi.v_neg, Mi.v_lt, Mi.v_le, Mi.v_gt, Mi.v_ge, Mi.v_bD, Mi.v_ne, Mi.v_eqI, Mi.v_eqB, Mi.v_isN_n, Mi.v_isN_i, Mi.v_isN_t, Mi.v_isnt, Mi.v_ix_l, Mi.v_ix_t, Mi.v_ix_s, Mi.v_len_l, Mi.v_len_t, Mi.v_len_s, Mi.v_max2, Mi.v_min2, Mi.v_tup_l, Mi.v_lst_t, Mi.v_all, Mi.v_sum, Mi.b_nm, Mi.b_tp, Mi.b_cons, Mi.b_nil, Mi.D.int, Mi.D.bool, Mi.D.tup, Mi.D.lst, Mi.D.non, Mi.wipeE, List.map_cons, List.map_nil, List.length_cons, List.length_nil, List.cons_append, List.nil_append, List.getElem?_cons_zero, List.getElem?_cons_succ, List.set_cons_zero, List.set_cons_succ, Option.map_some, Option.bind_some, decide_eq_true_eq, ↓reduceIte, Nat.reduceAdd, Nat.reduceSub, Mi.atI0, Mi.atI1, Mi.atI2, Mi.ixN0, Mi.ixN1, Bool.not_true, Bool.not_false, Bool.false_eq_true, decide_true, decide_false, Mi.q_ext, Mi.k_ext, Mi.extR_l, Mi.k_sl3TL, Mi.q_zX, Mi.k_ztl, Mi.k_zlt] at e8
    rw [e8]
    exact ⟨l, S8, rfl, ok, l1, G8⟩
theorem e_round {l : Lay} (ok : LayOk l) (S : Store) : c_round_in [.p (encL l)] S = .ok (.p (.tuple [.int (rndL l).1, .int (rndL l).2])) S := by
  obtain ⟨a, p, e, R, _, _, _⟩ := e_round_in ok S
  rw [e, rnd_is ok R]
theorem e_least_round {l : Lay} (ok : LayOk l) (S : Store) : c_least_round [.p (encL l)] S = .ok (.p (.tuple [.int (rndL l).1, .int (rndL l).2])) S := by
  rw [u_least_round, m_least_round]
  simp only [Mi.wE_ok, Mi.bind_k, Mi.bind_b, Mi.bind_ite, Mi.optR_some, Mi.addF_int, Mi.int2_int, Mi.intB_int, Mi.q_seq, Mi.q_set, Mi.q_nil, Mi.q_drop, Mi.q_ret, Mi.q_if, Mi.q_brk, Mi.q_cnt, Mi.q_bad, Mi.q_asg, Mi.q_par, Mi.q_par3, Mi.q_app, Mi.q_put, Mi.q_putR, Mi.q_for, Mi.q_var, Mi.varR_some, Mi.q_con, Mi.q_bin, Mi.q_binS, Mi.q_bb, Mi.q_un, Mi.q_and, Mi.q_or, Mi.q_not, Mi.q_ife, Mi.q_band, Mi.q_bor, Mi.q_bnot, Mi.q_val, Mi.q_true, Mi.q_chn, Mi.q_anil, Mi.q_acons, Mi.q_tup, Mi.q_lst, Mi.q_lstR, Mi.q_none, Mi.q_some, Mi.q_sl, Mi.q_blt, Mi.q_isi, Mi.q_isi2, Mi.q_iseq, Mi.q_r1, Mi.q_r2, Mi.q_z, Mi.q_lr1, Mi.q_lr2, Mi.q_comp, Mi.q_call, Mi.k_seq_nx, Mi.k_seq_rt, Mi.k_seq_bk, Mi.k_seq_ct, Mi.k_set, Mi.k_drop, Mi.k_ret, Mi.k_if, Mi.k_asg, Mi.asgR_some, Mi.k_par, Mi.k_par3, Mi.k_app, Mi.appR_l, Mi.k_putR, Mi.k_putR2, Mi.putR2_ref, Mi.k_for, Mi.k_bin, Mi.k_bin2, Mi.k_binS, Mi.k_binS2, Mi.k_bb, Mi.k_bb2, Mi.optB_some, Mi.k_un, Mi.k_and_t, Mi.k_and_f, Mi.k_or_t, Mi.k_or_f, Mi.k_not, Mi.k_ife, Mi.k_band, Mi.k_bor, Mi.k_bnot, Mi.k_val, Mi.k_chn, Mi.k_chn2, Mi.k_chn3, Mi.k_cons, Mi.k_cons2, Mi.k_tup, Mi.k_lst, Mi.k_lstR, Mi.lstR_some, Mi.pys_nil, Mi.pys_cons, Mi.k_some_i, Mi.k_some_n, Mi.k_sl, Mi.k_sl2, Mi.k_sl3T, Mi.k_sl3L, Mi.k_blt, Mi.k_isi, Mi.k_isi2, Mi.k_seqI_l, Mi.k_seqI_t, Mi.k_r1, Mi.k_r2, Mi.k_r22, Mi.k_z, Mi.k_z2l, Mi.k_z2t, Mi.k_lr1, Mi.k_lr2, Mi.k_lr22, Mi.k_comp, Mi.k_comp2, Mi.k_body_rt, Mi.k_body_nx, Mi.v_add_t, Mi.v_cat, Mi.v_rep, Mi.v_mul, Mi.v_div, Mi.v_mod, Mi.v_pow, Mi.v_neg, Mi.v_lt, Mi.v_le, Mi.v_gt, Mi.v_ge, Mi.v_bD, Mi.v_ne, Mi.v_eqI, Mi.v_eqB, Mi.v_isN_n, Mi.v_isN_i, Mi.v_isN_t, Mi.v_isnt, Mi.v_ix_l, Mi.v_ix_t, Mi.v_ix_s, Mi.v_len_l, Mi.v_len_t, Mi.v_len_s, Mi.v_max2, Mi.v_min2, Mi.v_tup_l, Mi.v_lst_t, Mi.v_all, Mi.v_sum, Mi.b_nm, Mi.b_tp, Mi.b_cons, Mi.b_nil, Mi.D.int, Mi.D.bool, Mi.D.tup, Mi.D.lst, Mi.D.non, Mi.wipeE, List.map_cons, List.map_nil, List.length_cons, List.length_nil, List.cons_append, List.nil_append, List.getElem?_cons_zero, List.getElem?_cons_succ, List.set_cons_zero, List.set_cons_succ, Option.map_some, Option.bind_some, decide_eq_true_eq, ↓reduceIte, Nat.reduceAdd, Nat.reduceSub, Mi.atI0, Mi.atI1, Mi.atI2, Mi.ixN0, Mi.ixN1, Bool.not_true, Bool.not_false, Bool.false_eq_true, decide_true, decide_false, Mi.q_ext, Mi.k_ext, Mi.extR_l, Mi.k_sl3TL, Mi.q_zX, Mi.k_ztl, Mi.k_zlt, e_look_at_layer ok, e_round ok]
theorem e_law_round {l : Lay} (ok : LayOk l) (S : Store) : c__law_round [.p (encL l)] S = .ok (.p (.tuple [.int (rndL l).1, .int (rndL l).2])) S := by
  rw [u__law_round, m__law_round]
  have sp := size_pos ok
  have sl := size_le ok
  have hh := holds_192 ok
  have hn := holds_nn ok.rows
  have hp := dAt_per ok
  have al := ahd_le ok
  have hl8 := ok.len
  obtain ⟨R, rb1, rb2⟩ := rnd_ok ok
  have rb := rnd_bd ok
  have comp1 := fun (rs : List Row) x0 x1 x2 x3 x4 x6 x7 x8 x9 x10 => compL_enc (p := .nm 5) (elt := eBinS idxF (eVar 5) (eCon (.p (.int 1)))) (ro := [x0, x1, x2, x3, x4, none, x6, x7, x8, x9, x10]) (S := S) encR (fun r => .int r.2) rs (fun r _ => ⟨_, b_nm, by simp only [encR, Mi.wE_ok, Mi.bind_k, Mi.bind_b, Mi.bind_ite, Mi.optR_some, Mi.addF_int, Mi.int2_int, Mi.intB_int, Mi.q_seq, Mi.q_set, Mi.q_nil, Mi.q_drop, Mi.q_ret, Mi.q_if, Mi.q_brk, Mi.q_cnt, Mi.q_bad, Mi.q_asg, Mi.q_par, Mi.q_par3, Mi.q_app, Mi.q_put, Mi.q_putR, Mi.q_for, Mi.q_var, Mi.varR_some, Mi.q_con, Mi.q_bin, Mi.q_binS, Mi.q_bb, Mi.q_un, Mi.q_and, Mi.q_or, Mi.q_not, Mi.q_ife, Mi.q_band, Mi.q_bor, Mi.q_bnot, Mi.q_val, Mi.q_true, Mi.q_chn, Mi.q_anil, Mi.q_acons, Mi.q_tup, Mi.q_lst, Mi.q_lstR, Mi.q_none, Mi.q_some, Mi.q_sl, Mi.q_blt, Mi.q_isi, Mi.q_isi2, Mi.q_iseq, Mi.q_r1, Mi.q_r2, Mi.q_z, Mi.q_lr1, Mi.q_lr2, Mi.q_comp, Mi.q_call, Mi.k_seq_nx, Mi.k_seq_rt, Mi.k_seq_bk, Mi.k_seq_ct, Mi.k_set, Mi.k_drop, Mi.k_ret, Mi.k_if, Mi.k_asg, Mi.asgR_some, Mi.k_par, Mi.k_par3, Mi.k_app, Mi.appR_l, Mi.k_putR, Mi.k_putR2, Mi.putR2_ref, Mi.k_for, Mi.k_bin, Mi.k_bin2, Mi.k_binS, Mi.k_binS2, Mi.k_bb, Mi.k_bb2, Mi.optB_some, Mi.k_un, Mi.k_and_t, Mi.k_and_f, Mi.k_or_t, Mi.k_or_f, Mi.k_not, Mi.k_ife, Mi.k_band, Mi.k_bor, Mi.k_bnot, Mi.k_val, Mi.k_chn, Mi.k_chn2, Mi.k_chn3, Mi.k_cons, Mi.k_cons2, Mi.k_tup, Mi.k_lst, Mi.k_lstR, Mi.lstR_some, Mi.pys_nil, Mi.pys_cons, Mi.k_some_i, Mi.k_some_n, Mi.k_sl, Mi.k_sl2, Mi.k_sl3T, Mi.k_sl3L, Mi.k_blt, Mi.k_isi, Mi.k_isi2, Mi.k_seqI_l, Mi.k_seqI_t, Mi.k_r1, Mi.k_r2, Mi.k_r22, Mi.k_z, Mi.k_z2l, Mi.k_z2t, Mi.k_lr1, Mi.k_lr2, Mi.k_lr22, Mi.k_comp, Mi.k_comp2, Mi.k_body_rt, Mi.k_body_nx, Mi.v_add_t, Mi.v_cat, Mi.v_rep, Mi.v_mul, Mi.v_div, Mi.v_mod, Mi.v_pow, Mi.v_neg, Mi.v_lt, Mi.v_le, Mi.v_gt, Mi.v_ge, Mi.v_bD, Mi.v_ne, Mi.v_eqI, Mi.v_eqB, Mi.v_isN_n, Mi.v_isN_i, Mi.v_isN_t, Mi.v_isnt, Mi.v_ix_l, Mi.v_ix_t, Mi.v_ix_s, Mi.v_len_l, Mi.v_len_t, Mi.v_len_s, Mi.v_max2, Mi.v_min2, Mi.v_tup_l, Mi.v_lst_t, Mi.v_all, Mi.v_sum, Mi.b_nm, Mi.b_tp, Mi.b_cons, Mi.b_nil, Mi.D.int, Mi.D.bool, Mi.D.tup, Mi.D.lst, Mi.D.non, Mi.wipeE, List.map_cons, List.map_nil, List.length_cons, List.length_nil, List.cons_append, List.nil_append, List.getElem?_cons_zero, List.getElem?_cons_succ, List.set_cons_zero, List.set_cons_succ, Option.map_some, Option.bind_some, decide_eq_true_eq, ↓reduceIte, Nat.reduceAdd, Nat.reduceSub, Mi.atI0, Mi.atI1, Mi.atI2, Mi.ixN0, Mi.ixN1, Bool.not_true, Bool.not_false, Bool.false_eq_true, decide_true, decide_false, Mi.q_ext, Mi.k_ext, Mi.extR_l, Mi.k_sl3TL, Mi.q_zX, Mi.k_ztl, Mi.k_zlt]⟩)
  have eh : ∀ rs : List Row, (rs.map fun r => r.2).sum = holds rs := fun _ => rfl
  have lim8 : l.rows.length ≤ lim := by rw [lim_v]; omega
  have el := e_layL ok (holds l.rows + 2 * sizeL l + 1) (by omega) (by omega) S
  have cm : CMul 2 (sizeL l) := cmul_s (by omega) (by omega)
  -- the pictures of a round
  obtain ⟨xs, hxs⟩ : ∃ xs : List Int, xs = (List.range (sizeL l).toNat).map fun i : Nat => dAt l (holds l.rows + (i : Int)) := ⟨_, rfl⟩
  have lx : xs.length = (sizeL l).toNat := by rw [hxs, List.length_map, List.length_range]
  have cut : cutG ((layL l (holds l.rows + 2 * sizeL l + 1).toNat).map PyData.int) (some (holds l.rows)) (some (holds l.rows + sizeL l)) = xs.map PyData.int := by
    have e1 : holds l.rows = (((holds l.rows).toNat : Nat) : Int) := by omega
    have e2 : holds l.rows + sizeL l = (((holds l.rows + sizeL l).toNat : Nat) : Int) := by omega
    rw [e2]
    conv => lhs; arg 2; rw [e1]
    unfold cutG
    rw [HT.sIx_nat, HT.sIx_nat, List.length_map, layL_len, Nat.min_eq_left (by omega), Nat.min_eq_left (by omega), ← List.map_drop, ← List.map_take]
    congr 1
    refine List.ext_getElem? fun i => ?_
    rw [List.getElem?_take]
    by_cases hi : i < (sizeL l).toNat
    · rw [if_pos (by omega), List.getElem?_drop, layL_get (by omega), hxs, List.getElem?_map, List.getElem?_range hi]
      simp only [Option.map_some, Option.some.injEq]
      congr 1
      omega
    · rw [if_neg (by omega), List.getElem?_eq_none (by rw [lx]; omega)]
  have hpW : Per (dAt l) (holds l.rows) (sizeL l) := hp.up al
  have rot := fun (p : Int) (p1 : 1 ≤ p) (pM : p ≤ sizeL l) => rot_iff (p := p) hpW sp p1 pM
  -- the many
  have perW : ∀ q : Int, 1 ≤ q → (Per (dAt l) (holds l.rows) q ↔ (rndL l).2 ∣ q) := fun q q1 => by
    rw [R.iff hn q1]
    exact ⟨fun h => h.2, fun h => ⟨by omega, h⟩⟩
  have whole : ∀ (q2 q3 q4 q10 : Option D), ∃ f, sWhile (bOr (bBin neF (xMod (eVar 6) (eVar 8)) (eCon (.p (.int 0)))) (bBin neF (eVar 9) (xCat (eSl slL (eVar 9) (oSome (eVar 8)) oNone) (eSl slL (eVar 9) oNone (oSome (eVar 8)))))) lb__law_round_0 [some (.p (encL l)), some (.p (.tuple (l.rows.map encR))), q2, q3, q4, none, some (.p (.int (sizeL l))), some (.p (.list ((layL l (holds l.rows + 2 * sizeL l + 1).toNat).map PyData.int))), some (.p (.int 1)), some (.p (.list (xs.map PyData.int))), q10] S = .ok f S ∧
      f = .nx [some (.p (encL l)), some (.p (.tuple (l.rows.map encR))), q2, q3, q4, none, some (.p (.int (sizeL l))), some (.p (.list ((layL l (holds l.rows + 2 * sizeL l + 1).toNat).map PyData.int))), some (.p (.int (rndL l).2)), some (.p (.list (xs.map PyData.int))), q10] := by
    intro q2 q3 q4 q10
    obtain ⟨f, S', e, rfl, hf⟩ := wE_ex (while_go (c := bOr (bBin neF (xMod (eVar 6) (eVar 8)) (eCon (.p (.int 0)))) (bBin neF (eVar 9) (xCat (eSl slL (eVar 9) (oSome (eVar 8)) oNone) (eSl slL (eVar 9) oNone (oSome (eVar 8)))))) (m := lb__law_round_0)
      (fun n ro S2 => S2 = S ∧ ∃ q : Int, ro = [some (.p (encL l)), some (.p (.tuple (l.rows.map encR))), q2, q3, q4, none, some (.p (.int (sizeL l))), some (.p (.list ((layL l (holds l.rows + 2 * sizeL l + 1).toNat).map PyData.int))), some (.p (.int q)), some (.p (.list (xs.map PyData.int))), q10] ∧ n = ((rndL l).2 - q).toNat ∧ 1 ≤ q ∧ q ≤ (rndL l).2)
      (fun f S2 => S2 = S ∧ f = .nx [some (.p (encL l)), some (.p (.tuple (l.rows.map encR))), q2, q3, q4, none, some (.p (.int (sizeL l))), some (.p (.list ((layL l (holds l.rows + 2 * sizeL l + 1).toNat).map PyData.int))), some (.p (.int (rndL l).2)), some (.p (.list (xs.map PyData.int))), q10])
      (fun n ro S2 hI => by
        obtain ⟨rfl, q, rfl, rfl, q1, q2'⟩ := hI
        have q0 : 0 < q := by omega
        have q00 : 0 ≤ q := by omega
        have qM : q ≤ sizeL l := by have := Int.le_of_dvd sp rb2; omega
        have lc : ((xs.map PyData.int).drop q.toNat).length + ((xs.map PyData.int).take q.toNat).length ≤ lim := by
          rw [List.length_drop, List.length_take, List.length_map, lx, lim_v]
          omega
        have r := rot q q1 qM
        simp only at r
        rw [← hxs] at r
        have hc : neF (.p (.list (xs.map PyData.int))) (.p (.list ((xs.map PyData.int).drop q.toNat ++ (xs.map PyData.int).take q.toNat))) = some (!decide (xs = xs.drop q.toNat ++ xs.take q.toNat)) := by
          rw [← List.map_drop, ← List.map_take, ← List.map_append, Mi.v_ne, eq_ints]
          rfl
        by_cases hq : q = (rndL l).2
        · have hm : (sizeL l % q == 0) = true := by rw [hq, Int.emod_eq_zero_of_dvd rb2]; rfl
          have hx : decide (xs = xs.drop q.toNat ++ xs.take q.toNat) = true := decide_eq_true (r.mpr ((perW q q1).mpr (by rw [hq]; exact Int.dvd_refl _)))
          rw [hx] at hc
          have e8 : q = (rndL l).2 := hq
          refine ⟨false, by simp only [Mi.wE_ok, Mi.bind_k, Mi.bind_b, Mi.bind_ite, Mi.optR_some, Mi.addF_int, Mi.int2_int, Mi.intB_int, Mi.q_seq, Mi.q_set, Mi.q_nil, Mi.q_drop, Mi.q_ret, Mi.q_if, Mi.q_brk, Mi.q_cnt, Mi.q_bad, Mi.q_asg, Mi.q_par, Mi.q_par3, Mi.q_app, Mi.q_put, Mi.q_putR, Mi.q_for, Mi.q_var, Mi.varR_some, Mi.q_con, Mi.q_bin, Mi.q_binS, Mi.q_bb, Mi.q_un, Mi.q_and, Mi.q_or, Mi.q_not, Mi.q_ife, Mi.q_band, Mi.q_bor, Mi.q_bnot, Mi.q_val, Mi.q_true, Mi.q_chn, Mi.q_anil, Mi.q_acons, Mi.q_tup, Mi.q_lst, Mi.q_lstR, Mi.q_none, Mi.q_some, Mi.q_sl, Mi.q_blt, Mi.q_isi, Mi.q_isi2, Mi.q_iseq, Mi.q_r1, Mi.q_r2, Mi.q_z, Mi.q_lr1, Mi.q_lr2, Mi.q_comp, Mi.q_call, Mi.k_seq_nx, Mi.k_seq_rt, Mi.k_seq_bk, Mi.k_seq_ct, Mi.k_set, Mi.k_drop, Mi.k_ret, Mi.k_if, Mi.k_asg, Mi.asgR_some, Mi.k_par, Mi.k_par3, Mi.k_app, Mi.appR_l, Mi.k_putR, Mi.k_putR2, Mi.putR2_ref, Mi.k_for, Mi.k_bin, Mi.k_bin2, Mi.k_binS, Mi.k_binS2, Mi.k_bb, Mi.k_bb2, Mi.optB_some, Mi.k_un, Mi.k_and_t, Mi.k_and_f, Mi.k_or_t, Mi.k_or_f, Mi.k_not, Mi.k_ife, Mi.k_band, Mi.k_bor, Mi.k_bnot, Mi.k_val, Mi.k_chn, Mi.k_chn2, Mi.k_chn3, Mi.k_cons, Mi.k_cons2, Mi.k_tup, Mi.k_lst, Mi.k_lstR, Mi.lstR_some, Mi.pys_nil, Mi.pys_cons, Mi.k_some_i, Mi.k_some_n, Mi.k_sl, Mi.k_sl2, Mi.k_sl3T, Mi.k_sl3L, Mi.k_blt, Mi.k_isi, Mi.k_isi2, Mi.k_seqI_l, Mi.k_seqI_t, Mi.k_r1, Mi.k_r2, Mi.k_r22, Mi.k_z, Mi.k_z2l, Mi.k_z2t, Mi.k_lr1, Mi.k_lr2, Mi.k_lr22, Mi.k_comp, Mi.k_comp2, Mi.k_body_rt, Mi.k_body_nx, Mi.v_add_t, Mi.v_cat, Mi.v_rep, Mi.v_mul, Mi.v_div, Mi.v_mod, Mi.v_pow, Mi.v_neg, Mi.v_lt, Mi.v_le, Mi.v_gt, Mi.v_ge, Mi.v_bD, Mi.v_ne, Mi.v_eqI, Mi.v_eqB, Mi.v_isN_n, Mi.v_isN_i, Mi.v_isN_t, Mi.v_isnt, Mi.v_ix_l, Mi.v_ix_t, Mi.v_ix_s, Mi.v_len_l, Mi.v_len_t, Mi.v_len_s, Mi.v_max2, Mi.v_min2, Mi.v_tup_l, Mi.v_lst_t, Mi.v_all, Mi.v_sum, Mi.b_nm, Mi.b_tp, Mi.b_cons, Mi.b_nil, Mi.D.int, Mi.D.bool, Mi.D.tup, Mi.D.lst, Mi.D.non, Mi.wipeE, List.map_cons, List.map_nil, List.length_cons, List.length_nil, List.cons_append, List.nil_append, List.getElem?_cons_zero, List.getElem?_cons_succ, List.set_cons_zero, List.set_cons_succ, Option.map_some, Option.bind_some, decide_eq_true_eq, ↓reduceIte, Nat.reduceAdd, Nat.reduceSub, Mi.atI0, Mi.atI1, Mi.atI2, Mi.ixN0, Mi.ixN1, Bool.not_true, Bool.not_false, Bool.false_eq_true, decide_true, decide_false, Mi.q_ext, Mi.k_ext, Mi.extR_l, Mi.k_sl3TL, Mi.q_zX, Mi.k_ztl, Mi.k_zlt, q0, hm, cut_fromI _ q00, cut_take _ q00, lc, -Mi.v_ne, v_neI, hc], fun _ => ⟨rfl, by rw [e8]⟩, fun h => (by cases h)⟩
        · have cond : (bOr (bBin neF (xMod (eVar 6) (eVar 8)) (eCon (.p (.int 0)))) (bBin neF (eVar 9) (xCat (eSl slL (eVar 9) (oSome (eVar 8)) oNone) (eSl slL (eVar 9) oNone (oSome (eVar 8))))) : TM) [some (.p (encL l)), some (.p (.tuple (l.rows.map encR))), q2, q3, q4, none, some (.p (.int (sizeL l))), some (.p (.list ((layL l (holds l.rows + 2 * sizeL l + 1).toNat).map PyData.int))), some (.p (.int q)), some (.p (.list (xs.map PyData.int))), q10] S2 = .ok true S2 := by
            cases hm : (sizeL l % q == 0) with
            | false => simp only [Mi.wE_ok, Mi.bind_k, Mi.bind_b, Mi.bind_ite, Mi.optR_some, Mi.addF_int, Mi.int2_int, Mi.intB_int, Mi.q_seq, Mi.q_set, Mi.q_nil, Mi.q_drop, Mi.q_ret, Mi.q_if, Mi.q_brk, Mi.q_cnt, Mi.q_bad, Mi.q_asg, Mi.q_par, Mi.q_par3, Mi.q_app, Mi.q_put, Mi.q_putR, Mi.q_for, Mi.q_var, Mi.varR_some, Mi.q_con, Mi.q_bin, Mi.q_binS, Mi.q_bb, Mi.q_un, Mi.q_and, Mi.q_or, Mi.q_not, Mi.q_ife, Mi.q_band, Mi.q_bor, Mi.q_bnot, Mi.q_val, Mi.q_true, Mi.q_chn, Mi.q_anil, Mi.q_acons, Mi.q_tup, Mi.q_lst, Mi.q_lstR, Mi.q_none, Mi.q_some, Mi.q_sl, Mi.q_blt, Mi.q_isi, Mi.q_isi2, Mi.q_iseq, Mi.q_r1, Mi.q_r2, Mi.q_z, Mi.q_lr1, Mi.q_lr2, Mi.q_comp, Mi.q_call, Mi.k_seq_nx, Mi.k_seq_rt, Mi.k_seq_bk, Mi.k_seq_ct, Mi.k_set, Mi.k_drop, Mi.k_ret, Mi.k_if, Mi.k_asg, Mi.asgR_some, Mi.k_par, Mi.k_par3, Mi.k_app, Mi.appR_l, Mi.k_putR, Mi.k_putR2, Mi.putR2_ref, Mi.k_for, Mi.k_bin, Mi.k_bin2, Mi.k_binS, Mi.k_binS2, Mi.k_bb, Mi.k_bb2, Mi.optB_some, Mi.k_un, Mi.k_and_t, Mi.k_and_f, Mi.k_or_t, Mi.k_or_f, Mi.k_not, Mi.k_ife, Mi.k_band, Mi.k_bor, Mi.k_bnot, Mi.k_val, Mi.k_chn, Mi.k_chn2, Mi.k_chn3, Mi.k_cons, Mi.k_cons2, Mi.k_tup, Mi.k_lst, Mi.k_lstR, Mi.lstR_some, Mi.pys_nil, Mi.pys_cons, Mi.k_some_i, Mi.k_some_n, Mi.k_sl, Mi.k_sl2, Mi.k_sl3T, Mi.k_sl3L, Mi.k_blt, Mi.k_isi, Mi.k_isi2, Mi.k_seqI_l, Mi.k_seqI_t, Mi.k_r1, Mi.k_r2, Mi.k_r22, Mi.k_z, Mi.k_z2l, Mi.k_z2t, Mi.k_lr1, Mi.k_lr2, Mi.k_lr22, Mi.k_comp, Mi.k_comp2, Mi.k_body_rt, Mi.k_body_nx, Mi.v_add_t, Mi.v_cat, Mi.v_rep, Mi.v_mul, Mi.v_div, Mi.v_mod, Mi.v_pow, Mi.v_neg, Mi.v_lt, Mi.v_le, Mi.v_gt, Mi.v_ge, Mi.v_bD, Mi.v_ne, Mi.v_eqI, Mi.v_eqB, Mi.v_isN_n, Mi.v_isN_i, Mi.v_isN_t, Mi.v_isnt, Mi.v_ix_l, Mi.v_ix_t, Mi.v_ix_s, Mi.v_len_l, Mi.v_len_t, Mi.v_len_s, Mi.v_max2, Mi.v_min2, Mi.v_tup_l, Mi.v_lst_t, Mi.v_all, Mi.v_sum, Mi.b_nm, Mi.b_tp, Mi.b_cons, Mi.b_nil, Mi.D.int, Mi.D.bool, Mi.D.tup, Mi.D.lst, Mi.D.non, Mi.wipeE, List.map_cons, List.map_nil, List.length_cons, List.length_nil, List.cons_append, List.nil_append, List.getElem?_cons_zero, List.getElem?_cons_succ, List.set_cons_zero, List.set_cons_succ, Option.map_some, Option.bind_some, decide_eq_true_eq, ↓reduceIte, Nat.reduceAdd, Nat.reduceSub, Mi.atI0, Mi.atI1, Mi.atI2, Mi.ixN0, Mi.ixN1, Bool.not_true, Bool.not_false, Bool.false_eq_true, decide_true, decide_false, Mi.q_ext, Mi.k_ext, Mi.extR_l, Mi.k_sl3TL, Mi.q_zX, Mi.k_ztl, Mi.k_zlt, q0, -Mi.v_ne, v_neI, hm]
            | true =>
              have hx : decide (xs = xs.drop q.toNat ++ xs.take q.toNat) = false := decide_eq_false fun z => by
                have d := (perW q q1).mp (r.mp z)
                have := Int.le_of_dvd q0 d
                omega
              rw [hx] at hc
              simp only [Mi.wE_ok, Mi.bind_k, Mi.bind_b, Mi.bind_ite, Mi.optR_some, Mi.addF_int, Mi.int2_int, Mi.intB_int, Mi.q_seq, Mi.q_set, Mi.q_nil, Mi.q_drop, Mi.q_ret, Mi.q_if, Mi.q_brk, Mi.q_cnt, Mi.q_bad, Mi.q_asg, Mi.q_par, Mi.q_par3, Mi.q_app, Mi.q_put, Mi.q_putR, Mi.q_for, Mi.q_var, Mi.varR_some, Mi.q_con, Mi.q_bin, Mi.q_binS, Mi.q_bb, Mi.q_un, Mi.q_and, Mi.q_or, Mi.q_not, Mi.q_ife, Mi.q_band, Mi.q_bor, Mi.q_bnot, Mi.q_val, Mi.q_true, Mi.q_chn, Mi.q_anil, Mi.q_acons, Mi.q_tup, Mi.q_lst, Mi.q_lstR, Mi.q_none, Mi.q_some, Mi.q_sl, Mi.q_blt, Mi.q_isi, Mi.q_isi2, Mi.q_iseq, Mi.q_r1, Mi.q_r2, Mi.q_z, Mi.q_lr1, Mi.q_lr2, Mi.q_comp, Mi.q_call, Mi.k_seq_nx, Mi.k_seq_rt, Mi.k_seq_bk, Mi.k_seq_ct, Mi.k_set, Mi.k_drop, Mi.k_ret, Mi.k_if, Mi.k_asg, Mi.asgR_some, Mi.k_par, Mi.k_par3, Mi.k_app, Mi.appR_l, Mi.k_putR, Mi.k_putR2, Mi.putR2_ref, Mi.k_for, Mi.k_bin, Mi.k_bin2, Mi.k_binS, Mi.k_binS2, Mi.k_bb, Mi.k_bb2, Mi.optB_some, Mi.k_un, Mi.k_and_t, Mi.k_and_f, Mi.k_or_t, Mi.k_or_f, Mi.k_not, Mi.k_ife, Mi.k_band, Mi.k_bor, Mi.k_bnot, Mi.k_val, Mi.k_chn, Mi.k_chn2, Mi.k_chn3, Mi.k_cons, Mi.k_cons2, Mi.k_tup, Mi.k_lst, Mi.k_lstR, Mi.lstR_some, Mi.pys_nil, Mi.pys_cons, Mi.k_some_i, Mi.k_some_n, Mi.k_sl, Mi.k_sl2, Mi.k_sl3T, Mi.k_sl3L, Mi.k_blt, Mi.k_isi, Mi.k_isi2, Mi.k_seqI_l, Mi.k_seqI_t, Mi.k_r1, Mi.k_r2, Mi.k_r22, Mi.k_z, Mi.k_z2l, Mi.k_z2t, Mi.k_lr1, Mi.k_lr2, Mi.k_lr22, Mi.k_comp, Mi.k_comp2, Mi.k_body_rt, Mi.k_body_nx, Mi.v_add_t, Mi.v_cat, Mi.v_rep, Mi.v_mul, Mi.v_div, Mi.v_mod, Mi.v_pow, Mi.v_neg, Mi.v_lt, Mi.v_le, Mi.v_gt, Mi.v_ge, Mi.v_bD, Mi.v_ne, Mi.v_eqI, Mi.v_eqB, Mi.v_isN_n, Mi.v_isN_i, Mi.v_isN_t, Mi.v_isnt, Mi.v_ix_l, Mi.v_ix_t, Mi.v_ix_s, Mi.v_len_l, Mi.v_len_t, Mi.v_len_s, Mi.v_max2, Mi.v_min2, Mi.v_tup_l, Mi.v_lst_t, Mi.v_all, Mi.v_sum, Mi.b_nm, Mi.b_tp, Mi.b_cons, Mi.b_nil, Mi.D.int, Mi.D.bool, Mi.D.tup, Mi.D.lst, Mi.D.non, Mi.wipeE, List.map_cons, List.map_nil, List.length_cons, List.length_nil, List.cons_append, List.nil_append, List.getElem?_cons_zero, List.getElem?_cons_succ, List.set_cons_zero, List.set_cons_succ, Option.map_some, Option.bind_some, decide_eq_true_eq, ↓reduceIte, Nat.reduceAdd, Nat.reduceSub, Mi.atI0, Mi.atI1, Mi.atI2, Mi.ixN0, Mi.ixN1, Bool.not_true, Bool.not_false, Bool.false_eq_true, decide_true, decide_false, Mi.q_ext, Mi.k_ext, Mi.extR_l, Mi.k_sl3TL, Mi.q_zX, Mi.k_ztl, Mi.k_zlt, q0, hm, cut_fromI _ q00, cut_take _ q00, lc, -Mi.v_ne, v_neI, hc]
          refine ⟨true, cond, fun h => (by cases h), fun _ => ?_⟩
          rw [lb__law_round_0]
          simp only [Mi.wE_ok, Mi.bind_k, Mi.bind_b, Mi.bind_ite, Mi.optR_some, Mi.addF_int, Mi.int2_int, Mi.intB_int, Mi.q_seq, Mi.q_set, Mi.q_nil, Mi.q_drop, Mi.q_ret, Mi.q_if, Mi.q_brk, Mi.q_cnt, Mi.q_bad, Mi.q_asg, Mi.q_par, Mi.q_par3, Mi.q_app, Mi.q_put, Mi.q_putR, Mi.q_for, Mi.q_var, Mi.varR_some, Mi.q_con, Mi.q_bin, Mi.q_binS, Mi.q_bb, Mi.q_un, Mi.q_and, Mi.q_or, Mi.q_not, Mi.q_ife, Mi.q_band, Mi.q_bor, Mi.q_bnot, Mi.q_val, Mi.q_true, Mi.q_chn, Mi.q_anil, Mi.q_acons, Mi.q_tup, Mi.q_lst, Mi.q_lstR, Mi.q_none, Mi.q_some, Mi.q_sl, Mi.q_blt, Mi.q_isi, Mi.q_isi2, Mi.q_iseq, Mi.q_r1, Mi.q_r2, Mi.q_z, Mi.q_lr1, Mi.q_lr2, Mi.q_comp, Mi.q_call, Mi.k_seq_nx, Mi.k_seq_rt, Mi.k_seq_bk, Mi.k_seq_ct, Mi.k_set, Mi.k_drop, Mi.k_ret, Mi.k_if, Mi.k_asg, Mi.asgR_some, Mi.k_par, Mi.k_par3, Mi.k_app, Mi.appR_l, Mi.k_putR, Mi.k_putR2, Mi.putR2_ref, Mi.k_for, Mi.k_bin, Mi.k_bin2, Mi.k_binS, Mi.k_binS2, Mi.k_bb, Mi.k_bb2, Mi.optB_some, Mi.k_un, Mi.k_and_t, Mi.k_and_f, Mi.k_or_t, Mi.k_or_f, Mi.k_not, Mi.k_ife, Mi.k_band, Mi.k_bor, Mi.k_bnot, Mi.k_val, Mi.k_chn, Mi.k_chn2, Mi.k_chn3, Mi.k_cons, Mi.k_cons2, Mi.k_tup, Mi.k_lst, Mi.k_lstR, Mi.lstR_some, Mi.pys_nil, Mi.pys_cons, Mi.k_some_i, Mi.k_some_n, Mi.k_sl, Mi.k_sl2, Mi.k_sl3T, Mi.k_sl3L, Mi.k_blt, Mi.k_isi, Mi.k_isi2, Mi.k_seqI_l, Mi.k_seqI_t, Mi.k_r1, Mi.k_r2, Mi.k_r22, Mi.k_z, Mi.k_z2l, Mi.k_z2t, Mi.k_lr1, Mi.k_lr2, Mi.k_lr22, Mi.k_comp, Mi.k_comp2, Mi.k_body_rt, Mi.k_body_nx, Mi.v_add_t, Mi.v_cat, Mi.v_rep, Mi.v_mul, Mi.v_div, Mi.v_mod, Mi.v_pow, Mi.v_neg, Mi.v_lt, Mi.v_le, Mi.v_gt, Mi.v_ge, Mi.v_bD, Mi.v_ne, Mi.v_eqI, Mi.v_eqB, Mi.v_isN_n, Mi.v_isN_i, Mi.v_isN_t, Mi.v_isnt, Mi.v_ix_l, Mi.v_ix_t, Mi.v_ix_s, Mi.v_len_l, Mi.v_len_t, Mi.v_len_s, Mi.v_max2, Mi.v_min2, Mi.v_tup_l, Mi.v_lst_t, Mi.v_all, Mi.v_sum, Mi.b_nm, Mi.b_tp, Mi.b_cons, Mi.b_nil, Mi.D.int, Mi.D.bool, Mi.D.tup, Mi.D.lst, Mi.D.non, Mi.wipeE, List.map_cons, List.map_nil, List.length_cons, List.length_nil, List.cons_append, List.nil_append, List.getElem?_cons_zero, List.getElem?_cons_succ, List.set_cons_zero, List.set_cons_succ, Option.map_some, Option.bind_some, decide_eq_true_eq, ↓reduceIte, Nat.reduceAdd, Nat.reduceSub, Mi.atI0, Mi.atI1, Mi.atI2, Mi.ixN0, Mi.ixN1, Bool.not_true, Bool.not_false, Bool.false_eq_true, decide_true, decide_false, Mi.q_ext, Mi.k_ext, Mi.extR_l, Mi.k_sl3TL, Mi.q_zX, Mi.k_ztl, Mi.k_zlt]
          exact ⟨((rndL l).2 - (q + 1)).toNat, by omega, trivial, q + 1, rfl, rfl, by omega, by omega⟩) ((rndL l).2 - 1).toNat _ S ⟨rfl, 1, rfl, rfl, by omega, rb.2.2.1⟩)
    exact ⟨f, e, hf⟩
  -- the ahead
  have front : ∀ (q2 q3 q4 : Option D), ∃ f, sWhile (bAnd (bBin gtI (eVar 10) (eCon (.p (.int 0)))) (bBin eqF (eBinS idxF (eVar 7) (xSub (eVar 10) (eCon (.p (.int 1))))) (eBinS idxF (eVar 7) (xAdd (xSub (eVar 10) (eCon (.p (.int 1)))) (eVar 8))))) lb__law_round_1 [some (.p (encL l)), some (.p (.tuple (l.rows.map encR))), q2, q3, q4, none, some (.p (.int (sizeL l))), some (.p (.list ((layL l (holds l.rows + 2 * sizeL l + 1).toNat).map PyData.int))), some (.p (.int (rndL l).2)), some (.p (.list (xs.map PyData.int))), some (.p (.int (holds l.rows)))] S = .ok f S ∧
      f = .nx [some (.p (encL l)), some (.p (.tuple (l.rows.map encR))), q2, q3, q4, none, some (.p (.int (sizeL l))), some (.p (.list ((layL l (holds l.rows + 2 * sizeL l + 1).toNat).map PyData.int))), some (.p (.int (rndL l).2)), some (.p (.list (xs.map PyData.int))), some (.p (.int (rndL l).1))] := by
    intro q2 q3 q4
    obtain ⟨f, S', e, rfl, hf⟩ := wE_ex (while_go (c := bAnd (bBin gtI (eVar 10) (eCon (.p (.int 0)))) (bBin eqF (eBinS idxF (eVar 7) (xSub (eVar 10) (eCon (.p (.int 1))))) (eBinS idxF (eVar 7) (xAdd (xSub (eVar 10) (eCon (.p (.int 1)))) (eVar 8))))) (m := lb__law_round_1)
      (fun n ro S2 => S2 = S ∧ ∃ a : Int, ro = [some (.p (encL l)), some (.p (.tuple (l.rows.map encR))), q2, q3, q4, none, some (.p (.int (sizeL l))), some (.p (.list ((layL l (holds l.rows + 2 * sizeL l + 1).toNat).map PyData.int))), some (.p (.int (rndL l).2)), some (.p (.list (xs.map PyData.int))), some (.p (.int a))] ∧ n = a.toNat ∧ (rndL l).1 ≤ a ∧ a ≤ holds l.rows)
      (fun f S2 => S2 = S ∧ f = .nx [some (.p (encL l)), some (.p (.tuple (l.rows.map encR))), q2, q3, q4, none, some (.p (.int (sizeL l))), some (.p (.list ((layL l (holds l.rows + 2 * sizeL l + 1).toNat).map PyData.int))), some (.p (.int (rndL l).2)), some (.p (.list (xs.map PyData.int))), some (.p (.int (rndL l).1))])
      (fun n ro S2 hI => by
        obtain ⟨rfl, a, rfl, rfl, a0, a1⟩ := hI
        have qM := Int.le_of_dvd sp rb2
        by_cases hz : 0 < a
        · have at1 := atI_lay (l := l) (n := (holds l.rows + 2 * sizeL l + 1).toNat) (m := a - 1) (by omega) (by omega)
          have at2 := atI_lay (l := l) (n := (holds l.rows + 2 * sizeL l + 1).toNat) (m := a - 1 + (rndL l).2) (by omega) (by omega)
          by_cases ha : a = (rndL l).1
          · have hd : (dAt l (a - 1) == dAt l (a - 1 + (rndL l).2)) = false := beq_eq_false_iff_ne.mpr fun z => by
              have hp2 : Per (dAt l) (a - 1) (rndL l).2 := fun t ht => by
                by_cases et : t = a - 1
                · rw [et, ← z]
                · exact R.per t (by omega)
              have := (R.all (a - 1) _ (by omega) R.p1 hp2).1
              omega
            refine ⟨false, by simp only [Mi.wE_ok, Mi.bind_k, Mi.bind_b, Mi.bind_ite, Mi.optR_some, Mi.addF_int, Mi.int2_int, Mi.intB_int, Mi.q_seq, Mi.q_set, Mi.q_nil, Mi.q_drop, Mi.q_ret, Mi.q_if, Mi.q_brk, Mi.q_cnt, Mi.q_bad, Mi.q_asg, Mi.q_par, Mi.q_par3, Mi.q_app, Mi.q_put, Mi.q_putR, Mi.q_for, Mi.q_var, Mi.varR_some, Mi.q_con, Mi.q_bin, Mi.q_binS, Mi.q_bb, Mi.q_un, Mi.q_and, Mi.q_or, Mi.q_not, Mi.q_ife, Mi.q_band, Mi.q_bor, Mi.q_bnot, Mi.q_val, Mi.q_true, Mi.q_chn, Mi.q_anil, Mi.q_acons, Mi.q_tup, Mi.q_lst, Mi.q_lstR, Mi.q_none, Mi.q_some, Mi.q_sl, Mi.q_blt, Mi.q_isi, Mi.q_isi2, Mi.q_iseq, Mi.q_r1, Mi.q_r2, Mi.q_z, Mi.q_lr1, Mi.q_lr2, Mi.q_comp, Mi.q_call, Mi.k_seq_nx, Mi.k_seq_rt, Mi.k_seq_bk, Mi.k_seq_ct, Mi.k_set, Mi.k_drop, Mi.k_ret, Mi.k_if, Mi.k_asg, Mi.asgR_some, Mi.k_par, Mi.k_par3, Mi.k_app, Mi.appR_l, Mi.k_putR, Mi.k_putR2, Mi.putR2_ref, Mi.k_for, Mi.k_bin, Mi.k_bin2, Mi.k_binS, Mi.k_binS2, Mi.k_bb, Mi.k_bb2, Mi.optB_some, Mi.k_un, Mi.k_and_t, Mi.k_and_f, Mi.k_or_t, Mi.k_or_f, Mi.k_not, Mi.k_ife, Mi.k_band, Mi.k_bor, Mi.k_bnot, Mi.k_val, Mi.k_chn, Mi.k_chn2, Mi.k_chn3, Mi.k_cons, Mi.k_cons2, Mi.k_tup, Mi.k_lst, Mi.k_lstR, Mi.lstR_some, Mi.pys_nil, Mi.pys_cons, Mi.k_some_i, Mi.k_some_n, Mi.k_sl, Mi.k_sl2, Mi.k_sl3T, Mi.k_sl3L, Mi.k_blt, Mi.k_isi, Mi.k_isi2, Mi.k_seqI_l, Mi.k_seqI_t, Mi.k_r1, Mi.k_r2, Mi.k_r22, Mi.k_z, Mi.k_z2l, Mi.k_z2t, Mi.k_lr1, Mi.k_lr2, Mi.k_lr22, Mi.k_comp, Mi.k_comp2, Mi.k_body_rt, Mi.k_body_nx, Mi.v_add_t, Mi.v_cat, Mi.v_rep, Mi.v_mul, Mi.v_div, Mi.v_mod, Mi.v_pow, Mi.v_neg, Mi.v_lt, Mi.v_le, Mi.v_gt, Mi.v_ge, Mi.v_bD, Mi.v_ne, Mi.v_eqI, Mi.v_eqB, Mi.v_isN_n, Mi.v_isN_i, Mi.v_isN_t, Mi.v_isnt, Mi.v_ix_l, Mi.v_ix_t, Mi.v_ix_s, Mi.v_len_l, Mi.v_len_t, Mi.v_len_s, Mi.v_max2, Mi.v_min2, Mi.v_tup_l, Mi.v_lst_t, Mi.v_all, Mi.v_sum, Mi.b_nm, Mi.b_tp, Mi.b_cons, Mi.b_nil, Mi.D.int, Mi.D.bool, Mi.D.tup, Mi.D.lst, Mi.D.non, Mi.wipeE, List.map_cons, List.map_nil, List.length_cons, List.length_nil, List.cons_append, List.nil_append, List.getElem?_cons_zero, List.getElem?_cons_succ, List.set_cons_zero, List.set_cons_succ, Option.map_some, Option.bind_some, decide_eq_true_eq, ↓reduceIte, Nat.reduceAdd, Nat.reduceSub, Mi.atI0, Mi.atI1, Mi.atI2, Mi.ixN0, Mi.ixN1, Bool.not_true, Bool.not_false, Bool.false_eq_true, decide_true, decide_false, Mi.q_ext, Mi.k_ext, Mi.extR_l, Mi.k_sl3TL, Mi.q_zX, Mi.k_ztl, Mi.k_zlt, hz, at1, at2, hd], fun _ => ⟨rfl, by rw [ha]⟩, fun h => (by cases h)⟩
          · have hd : (dAt l (a - 1) == dAt l (a - 1 + (rndL l).2)) = true := beq_iff_eq.mpr (R.per (a - 1) (by omega)).symm
            refine ⟨true, by simp only [Mi.wE_ok, Mi.bind_k, Mi.bind_b, Mi.bind_ite, Mi.optR_some, Mi.addF_int, Mi.int2_int, Mi.intB_int, Mi.q_seq, Mi.q_set, Mi.q_nil, Mi.q_drop, Mi.q_ret, Mi.q_if, Mi.q_brk, Mi.q_cnt, Mi.q_bad, Mi.q_asg, Mi.q_par, Mi.q_par3, Mi.q_app, Mi.q_put, Mi.q_putR, Mi.q_for, Mi.q_var, Mi.varR_some, Mi.q_con, Mi.q_bin, Mi.q_binS, Mi.q_bb, Mi.q_un, Mi.q_and, Mi.q_or, Mi.q_not, Mi.q_ife, Mi.q_band, Mi.q_bor, Mi.q_bnot, Mi.q_val, Mi.q_true, Mi.q_chn, Mi.q_anil, Mi.q_acons, Mi.q_tup, Mi.q_lst, Mi.q_lstR, Mi.q_none, Mi.q_some, Mi.q_sl, Mi.q_blt, Mi.q_isi, Mi.q_isi2, Mi.q_iseq, Mi.q_r1, Mi.q_r2, Mi.q_z, Mi.q_lr1, Mi.q_lr2, Mi.q_comp, Mi.q_call, Mi.k_seq_nx, Mi.k_seq_rt, Mi.k_seq_bk, Mi.k_seq_ct, Mi.k_set, Mi.k_drop, Mi.k_ret, Mi.k_if, Mi.k_asg, Mi.asgR_some, Mi.k_par, Mi.k_par3, Mi.k_app, Mi.appR_l, Mi.k_putR, Mi.k_putR2, Mi.putR2_ref, Mi.k_for, Mi.k_bin, Mi.k_bin2, Mi.k_binS, Mi.k_binS2, Mi.k_bb, Mi.k_bb2, Mi.optB_some, Mi.k_un, Mi.k_and_t, Mi.k_and_f, Mi.k_or_t, Mi.k_or_f, Mi.k_not, Mi.k_ife, Mi.k_band, Mi.k_bor, Mi.k_bnot, Mi.k_val, Mi.k_chn, Mi.k_chn2, Mi.k_chn3, Mi.k_cons, Mi.k_cons2, Mi.k_tup, Mi.k_lst, Mi.k_lstR, Mi.lstR_some, Mi.pys_nil, Mi.pys_cons, Mi.k_some_i, Mi.k_some_n, Mi.k_sl, Mi.k_sl2, Mi.k_sl3T, Mi.k_sl3L, Mi.k_blt, Mi.k_isi, Mi.k_isi2, Mi.k_seqI_l, Mi.k_seqI_t, Mi.k_r1, Mi.k_r2, Mi.k_r22, Mi.k_z, Mi.k_z2l, Mi.k_z2t, Mi.k_lr1, Mi.k_lr2, Mi.k_lr22, Mi.k_comp, Mi.k_comp2, Mi.k_body_rt, Mi.k_body_nx, Mi.v_add_t, Mi.v_cat, Mi.v_rep, Mi.v_mul, Mi.v_div, Mi.v_mod, Mi.v_pow, Mi.v_neg, Mi.v_lt, Mi.v_le, Mi.v_gt, Mi.v_ge, Mi.v_bD, Mi.v_ne, Mi.v_eqI, Mi.v_eqB, Mi.v_isN_n, Mi.v_isN_i, Mi.v_isN_t, Mi.v_isnt, Mi.v_ix_l, Mi.v_ix_t, Mi.v_ix_s, Mi.v_len_l, Mi.v_len_t, Mi.v_len_s, Mi.v_max2, Mi.v_min2, Mi.v_tup_l, Mi.v_lst_t, Mi.v_all, Mi.v_sum, Mi.b_nm, Mi.b_tp, Mi.b_cons, Mi.b_nil, Mi.D.int, Mi.D.bool, Mi.D.tup, Mi.D.lst, Mi.D.non, Mi.wipeE, List.map_cons, List.map_nil, List.length_cons, List.length_nil, List.cons_append, List.nil_append, List.getElem?_cons_zero, List.getElem?_cons_succ, List.set_cons_zero, List.set_cons_succ, Option.map_some, Option.bind_some, decide_eq_true_eq, ↓reduceIte, Nat.reduceAdd, Nat.reduceSub, Mi.atI0, Mi.atI1, Mi.atI2, Mi.ixN0, Mi.ixN1, Bool.not_true, Bool.not_false, Bool.false_eq_true, decide_true, decide_false, Mi.q_ext, Mi.k_ext, Mi.extR_l, Mi.k_sl3TL, Mi.q_zX, Mi.k_ztl, Mi.k_zlt, hz, at1, at2, hd], fun h => (by cases h), fun _ => ?_⟩
            rw [lb__law_round_1]
            simp only [Mi.wE_ok, Mi.bind_k, Mi.bind_b, Mi.bind_ite, Mi.optR_some, Mi.addF_int, Mi.int2_int, Mi.intB_int, Mi.q_seq, Mi.q_set, Mi.q_nil, Mi.q_drop, Mi.q_ret, Mi.q_if, Mi.q_brk, Mi.q_cnt, Mi.q_bad, Mi.q_asg, Mi.q_par, Mi.q_par3, Mi.q_app, Mi.q_put, Mi.q_putR, Mi.q_for, Mi.q_var, Mi.varR_some, Mi.q_con, Mi.q_bin, Mi.q_binS, Mi.q_bb, Mi.q_un, Mi.q_and, Mi.q_or, Mi.q_not, Mi.q_ife, Mi.q_band, Mi.q_bor, Mi.q_bnot, Mi.q_val, Mi.q_true, Mi.q_chn, Mi.q_anil, Mi.q_acons, Mi.q_tup, Mi.q_lst, Mi.q_lstR, Mi.q_none, Mi.q_some, Mi.q_sl, Mi.q_blt, Mi.q_isi, Mi.q_isi2, Mi.q_iseq, Mi.q_r1, Mi.q_r2, Mi.q_z, Mi.q_lr1, Mi.q_lr2, Mi.q_comp, Mi.q_call, Mi.k_seq_nx, Mi.k_seq_rt, Mi.k_seq_bk, Mi.k_seq_ct, Mi.k_set, Mi.k_drop, Mi.k_ret, Mi.k_if, Mi.k_asg, Mi.asgR_some, Mi.k_par, Mi.k_par3, Mi.k_app, Mi.appR_l, Mi.k_putR, Mi.k_putR2, Mi.putR2_ref, Mi.k_for, Mi.k_bin, Mi.k_bin2, Mi.k_binS, Mi.k_binS2, Mi.k_bb, Mi.k_bb2, Mi.optB_some, Mi.k_un, Mi.k_and_t, Mi.k_and_f, Mi.k_or_t, Mi.k_or_f, Mi.k_not, Mi.k_ife, Mi.k_band, Mi.k_bor, Mi.k_bnot, Mi.k_val, Mi.k_chn, Mi.k_chn2, Mi.k_chn3, Mi.k_cons, Mi.k_cons2, Mi.k_tup, Mi.k_lst, Mi.k_lstR, Mi.lstR_some, Mi.pys_nil, Mi.pys_cons, Mi.k_some_i, Mi.k_some_n, Mi.k_sl, Mi.k_sl2, Mi.k_sl3T, Mi.k_sl3L, Mi.k_blt, Mi.k_isi, Mi.k_isi2, Mi.k_seqI_l, Mi.k_seqI_t, Mi.k_r1, Mi.k_r2, Mi.k_r22, Mi.k_z, Mi.k_z2l, Mi.k_z2t, Mi.k_lr1, Mi.k_lr2, Mi.k_lr22, Mi.k_comp, Mi.k_comp2, Mi.k_body_rt, Mi.k_body_nx, Mi.v_add_t, Mi.v_cat, Mi.v_rep, Mi.v_mul, Mi.v_div, Mi.v_mod, Mi.v_pow, Mi.v_neg, Mi.v_lt, Mi.v_le, Mi.v_gt, Mi.v_ge, Mi.v_bD, Mi.v_ne, Mi.v_eqI, Mi.v_eqB, Mi.v_isN_n, Mi.v_isN_i, Mi.v_isN_t, Mi.v_isnt, Mi.v_ix_l, Mi.v_ix_t, Mi.v_ix_s, Mi.v_len_l, Mi.v_len_t, Mi.v_len_s, Mi.v_max2, Mi.v_min2, Mi.v_tup_l, Mi.v_lst_t, Mi.v_all, Mi.v_sum, Mi.b_nm, Mi.b_tp, Mi.b_cons, Mi.b_nil, Mi.D.int, Mi.D.bool, Mi.D.tup, Mi.D.lst, Mi.D.non, Mi.wipeE, List.map_cons, List.map_nil, List.length_cons, List.length_nil, List.cons_append, List.nil_append, List.getElem?_cons_zero, List.getElem?_cons_succ, List.set_cons_zero, List.set_cons_succ, Option.map_some, Option.bind_some, decide_eq_true_eq, ↓reduceIte, Nat.reduceAdd, Nat.reduceSub, Mi.atI0, Mi.atI1, Mi.atI2, Mi.ixN0, Mi.ixN1, Bool.not_true, Bool.not_false, Bool.false_eq_true, decide_true, decide_false, Mi.q_ext, Mi.k_ext, Mi.extR_l, Mi.k_sl3TL, Mi.q_zX, Mi.k_ztl, Mi.k_zlt]
            exact ⟨(a - 1).toNat, by omega, trivial, a - 1, rfl, rfl, by omega, by omega⟩
        · have r0 := R.a0
          refine ⟨false, by simp only [Mi.wE_ok, Mi.bind_k, Mi.bind_b, Mi.bind_ite, Mi.optR_some, Mi.addF_int, Mi.int2_int, Mi.intB_int, Mi.q_seq, Mi.q_set, Mi.q_nil, Mi.q_drop, Mi.q_ret, Mi.q_if, Mi.q_brk, Mi.q_cnt, Mi.q_bad, Mi.q_asg, Mi.q_par, Mi.q_par3, Mi.q_app, Mi.q_put, Mi.q_putR, Mi.q_for, Mi.q_var, Mi.varR_some, Mi.q_con, Mi.q_bin, Mi.q_binS, Mi.q_bb, Mi.q_un, Mi.q_and, Mi.q_or, Mi.q_not, Mi.q_ife, Mi.q_band, Mi.q_bor, Mi.q_bnot, Mi.q_val, Mi.q_true, Mi.q_chn, Mi.q_anil, Mi.q_acons, Mi.q_tup, Mi.q_lst, Mi.q_lstR, Mi.q_none, Mi.q_some, Mi.q_sl, Mi.q_blt, Mi.q_isi, Mi.q_isi2, Mi.q_iseq, Mi.q_r1, Mi.q_r2, Mi.q_z, Mi.q_lr1, Mi.q_lr2, Mi.q_comp, Mi.q_call, Mi.k_seq_nx, Mi.k_seq_rt, Mi.k_seq_bk, Mi.k_seq_ct, Mi.k_set, Mi.k_drop, Mi.k_ret, Mi.k_if, Mi.k_asg, Mi.asgR_some, Mi.k_par, Mi.k_par3, Mi.k_app, Mi.appR_l, Mi.k_putR, Mi.k_putR2, Mi.putR2_ref, Mi.k_for, Mi.k_bin, Mi.k_bin2, Mi.k_binS, Mi.k_binS2, Mi.k_bb, Mi.k_bb2, Mi.optB_some, Mi.k_un, Mi.k_and_t, Mi.k_and_f, Mi.k_or_t, Mi.k_or_f, Mi.k_not, Mi.k_ife, Mi.k_band, Mi.k_bor, Mi.k_bnot, Mi.k_val, Mi.k_chn, Mi.k_chn2, Mi.k_chn3, Mi.k_cons, Mi.k_cons2, Mi.k_tup, Mi.k_lst, Mi.k_lstR, Mi.lstR_some, Mi.pys_nil, Mi.pys_cons, Mi.k_some_i, Mi.k_some_n, Mi.k_sl, Mi.k_sl2, Mi.k_sl3T, Mi.k_sl3L, Mi.k_blt, Mi.k_isi, Mi.k_isi2, Mi.k_seqI_l, Mi.k_seqI_t, Mi.k_r1, Mi.k_r2, Mi.k_r22, Mi.k_z, Mi.k_z2l, Mi.k_z2t, Mi.k_lr1, Mi.k_lr2, Mi.k_lr22, Mi.k_comp, Mi.k_comp2, Mi.k_body_rt, Mi.k_body_nx, Mi.v_add_t, Mi.v_cat, Mi.v_rep, Mi.v_mul, Mi.v_div, Mi.v_mod, Mi.v_pow, Mi.v_neg, Mi.v_lt, Mi.v_le, Mi.v_gt, Mi.v_ge, Mi.v_bD, Mi.v_ne, Mi.v_eqI, Mi.v_eqB, Mi.v_isN_n, Mi.v_isN_i, Mi.v_isN_t, Mi.v_isnt, Mi.v_ix_l, Mi.v_ix_t, Mi.v_ix_s, Mi.v_len_l, Mi.v_len_t, Mi.v_len_s, Mi.v_max2, Mi.v_min2, Mi.v_tup_l, Mi.v_lst_t, Mi.v_all, Mi.v_sum, Mi.b_nm, Mi.b_tp, Mi.b_cons, Mi.b_nil, Mi.D.int, Mi.D.bool, Mi.D.tup, Mi.D.lst, Mi.D.non, Mi.wipeE, List.map_cons, List.map_nil, List.length_cons, List.length_nil, List.cons_append, List.nil_append, List.getElem?_cons_zero, List.getElem?_cons_succ, List.set_cons_zero, List.set_cons_succ, Option.map_some, Option.bind_some, decide_eq_true_eq, ↓reduceIte, Nat.reduceAdd, Nat.reduceSub, Mi.atI0, Mi.atI1, Mi.atI2, Mi.ixN0, Mi.ixN1, Bool.not_true, Bool.not_false, Bool.false_eq_true, decide_true, decide_false, Mi.q_ext, Mi.k_ext, Mi.extR_l, Mi.k_sl3TL, Mi.q_zX, Mi.k_ztl, Mi.k_zlt, hz], fun _ => ⟨rfl, by rw [show a = (rndL l).1 by omega]⟩, fun h => (by cases h)⟩) (holds l.rows).toNat _ S ⟨rfl, holds l.rows, rfl, rfl, by omega, Int.le_refl _⟩)
    exact ⟨f, e, hf⟩
  cases hb : l.back with
  | none =>
    have es : sizeL l = 1 := by unfold sizeL; rw [hb]
    obtain ⟨_, w1, rfl⟩ := whole (some (.p .none)) (some (.p (.int (holds l.rows)))) (some (.p (.int (holds l.rows)))) none
    obtain ⟨_, w2, rfl⟩ := front (some (.p .none)) (some (.p (.int (holds l.rows)))) (some (.p (.int (holds l.rows))))
    have hLay : encL l = .tuple [.tuple (l.rows.map encR), .none] := by unfold encL; rw [hb]; rfl
    rw [hLay] at w1 w2 el ⊢
    rw [es] at w1 w2 el cm cut
    simp only [Mi.wE_ok, Mi.bind_k, Mi.bind_b, Mi.bind_ite, Mi.optR_some, Mi.addF_int, Mi.int2_int, Mi.intB_int, Mi.q_seq, Mi.q_set, Mi.q_nil, Mi.q_drop, Mi.q_ret, Mi.q_if, Mi.q_brk, Mi.q_cnt, Mi.q_bad, Mi.q_asg, Mi.q_par, Mi.q_par3, Mi.q_app, Mi.q_put, Mi.q_putR, Mi.q_for, Mi.q_var, Mi.varR_some, Mi.q_con, Mi.q_bin, Mi.q_binS, Mi.q_bb, Mi.q_un, Mi.q_and, Mi.q_or, Mi.q_not, Mi.q_ife, Mi.q_band, Mi.q_bor, Mi.q_bnot, Mi.q_val, Mi.q_true, Mi.q_chn, Mi.q_anil, Mi.q_acons, Mi.q_tup, Mi.q_lst, Mi.q_lstR, Mi.q_none, Mi.q_some, Mi.q_sl, Mi.q_blt, Mi.q_isi, Mi.q_isi2, Mi.q_iseq, Mi.q_r1, Mi.q_r2, Mi.q_z, Mi.q_lr1, Mi.q_lr2, Mi.q_comp, Mi.q_call, Mi.k_seq_nx, Mi.k_seq_rt, Mi.k_seq_bk, Mi.k_seq_ct, Mi.k_set, Mi.k_drop, Mi.k_ret, Mi.k_if, Mi.k_asg, Mi.asgR_some, Mi.k_par, Mi.k_par3, Mi.k_app, Mi.appR_l, Mi.k_putR, Mi.k_putR2, Mi.putR2_ref, Mi.k_for, Mi.k_bin, Mi.k_bin2, Mi.k_binS, Mi.k_binS2, Mi.k_bb, Mi.k_bb2, Mi.optB_some, Mi.k_un, Mi.k_and_t, Mi.k_and_f, Mi.k_or_t, Mi.k_or_f, Mi.k_not, Mi.k_ife, Mi.k_band, Mi.k_bor, Mi.k_bnot, Mi.k_val, Mi.k_chn, Mi.k_chn2, Mi.k_chn3, Mi.k_cons, Mi.k_cons2, Mi.k_tup, Mi.k_lst, Mi.k_lstR, Mi.lstR_some, Mi.pys_nil, Mi.pys_cons, Mi.k_some_i, Mi.k_some_n, Mi.k_sl, Mi.k_sl2, Mi.k_sl3T, Mi.k_sl3L, Mi.k_blt, Mi.k_isi, Mi.k_isi2, Mi.k_seqI_l, Mi.k_seqI_t, Mi.k_r1, Mi.k_r2, Mi.k_r22, Mi.k_z, Mi.k_z2l, Mi.k_z2t, Mi.k_lr1, Mi.k_lr2, Mi.k_lr22, Mi.k_comp, Mi.k_comp2, Mi.k_body_rt, Mi.k_body_nx, Mi.v_add_t, Mi.v_cat, Mi.v_rep, Mi.v_mul, Mi.v_div, Mi.v_mod, Mi.v_pow, Mi.v_neg, Mi.v_lt, Mi.v_le, Mi.v_gt, Mi.v_ge, Mi.v_bD, Mi.v_ne, Mi.v_eqI, Mi.v_eqB, Mi.v_isN_n, Mi.v_isN_i, Mi.v_isN_t, Mi.v_isnt, Mi.v_ix_l, Mi.v_ix_t, Mi.v_ix_s, Mi.v_len_l, Mi.v_len_t, Mi.v_len_s, Mi.v_max2, Mi.v_min2, Mi.v_tup_l, Mi.v_lst_t, Mi.v_all, Mi.v_sum, Mi.b_nm, Mi.b_tp, Mi.b_cons, Mi.b_nil, Mi.D.int, Mi.D.bool, Mi.D.tup, Mi.D.lst, Mi.D.non, Mi.wipeE, List.map_cons, List.map_nil, List.length_cons, List.length_nil, List.cons_append, List.nil_append, List.getElem?_cons_zero, List.getElem?_cons_succ, List.set_cons_zero, List.set_cons_succ, Option.map_some, Option.bind_some, decide_eq_true_eq, ↓reduceIte, Nat.reduceAdd, Nat.reduceSub, Mi.atI0, Mi.atI1, Mi.atI2, Mi.ixN0, Mi.ixN1, Bool.not_true, Bool.not_false, Bool.false_eq_true, decide_true, decide_false, Mi.q_ext, Mi.k_ext, Mi.extR_l, Mi.k_sl3TL, Mi.q_zX, Mi.k_ztl, Mi.k_zlt, List.length_map, lim8, comp1, asInts_mapG, eh, cut_all, cm, el, cut, w1, w2]
  | some b =>
    have b0 := (ok.back b hb).1
    have es : holds l.rows - holds (l.rows.take b.toNat) = sizeL l := by unfold sizeL; rw [hb]; rfl
    have lim9 : (l.rows.take b.toNat).length ≤ lim := by rw [List.length_take, lim_v]; omega
    obtain ⟨_, w1, rfl⟩ := whole (some (.p (.int b))) (some (.p (.int (holds l.rows)))) (some (.p (.int (holds (l.rows.take b.toNat))))) none
    obtain ⟨_, w2, rfl⟩ := front (some (.p (.int b))) (some (.p (.int (holds l.rows)))) (some (.p (.int (holds (l.rows.take b.toNat)))))
    have hLay : encL l = .tuple [.tuple (l.rows.map encR), .int b] := by unfold encL; rw [hb]; rfl
    rw [hLay] at w1 w2 el ⊢
    simp only [Mi.wE_ok, Mi.bind_k, Mi.bind_b, Mi.bind_ite, Mi.optR_some, Mi.addF_int, Mi.int2_int, Mi.intB_int, Mi.q_seq, Mi.q_set, Mi.q_nil, Mi.q_drop, Mi.q_ret, Mi.q_if, Mi.q_brk, Mi.q_cnt, Mi.q_bad, Mi.q_asg, Mi.q_par, Mi.q_par3, Mi.q_app, Mi.q_put, Mi.q_putR, Mi.q_for, Mi.q_var, Mi.varR_some, Mi.q_con, Mi.q_bin, Mi.q_binS, Mi.q_bb, Mi.q_un, Mi.q_and, Mi.q_or, Mi.q_not, Mi.q_ife, Mi.q_band, Mi.q_bor, Mi.q_bnot, Mi.q_val, Mi.q_true, Mi.q_chn, Mi.q_anil, Mi.q_acons, Mi.q_tup, Mi.q_lst, Mi.q_lstR, Mi.q_none, Mi.q_some, Mi.q_sl, Mi.q_blt, Mi.q_isi, Mi.q_isi2, Mi.q_iseq, Mi.q_r1, Mi.q_r2, Mi.q_z, Mi.q_lr1, Mi.q_lr2, Mi.q_comp, Mi.q_call, Mi.k_seq_nx, Mi.k_seq_rt, Mi.k_seq_bk, Mi.k_seq_ct, Mi.k_set, Mi.k_drop, Mi.k_ret, Mi.k_if, Mi.k_asg, Mi.asgR_some, Mi.k_par, Mi.k_par3, Mi.k_app, Mi.appR_l, Mi.k_putR, Mi.k_putR2, Mi.putR2_ref, Mi.k_for, Mi.k_bin, Mi.k_bin2, Mi.k_binS, Mi.k_binS2, Mi.k_bb, Mi.k_bb2, Mi.optB_some, Mi.k_un, Mi.k_and_t, Mi.k_and_f, Mi.k_or_t, Mi.k_or_f, Mi.k_not, Mi.k_ife, Mi.k_band, Mi.k_bor, Mi.k_bnot, Mi.k_val, Mi.k_chn, Mi.k_chn2, Mi.k_chn3, Mi.k_cons, Mi.k_cons2, Mi.k_tup, Mi.k_lst, Mi.k_lstR, Mi.lstR_some, Mi.pys_nil, Mi.pys_cons, Mi.k_some_i, Mi.k_some_n, Mi.k_sl, Mi.k_sl2, Mi.k_sl3T, Mi.k_sl3L, Mi.k_blt, Mi.k_isi, Mi.k_isi2, Mi.k_seqI_l, Mi.k_seqI_t, Mi.k_r1, Mi.k_r2, Mi.k_r22, Mi.k_z, Mi.k_z2l, Mi.k_z2t, Mi.k_lr1, Mi.k_lr2, Mi.k_lr22, Mi.k_comp, Mi.k_comp2, Mi.k_body_rt, Mi.k_body_nx, Mi.v_add_t, Mi.v_cat, Mi.v_rep, Mi.v_mul, Mi.v_div, Mi.v_mod, Mi.v_pow, Mi.v_neg, Mi.v_lt, Mi.v_le, Mi.v_gt, Mi.v_ge, Mi.v_bD, Mi.v_ne, Mi.v_eqI, Mi.v_eqB, Mi.v_isN_n, Mi.v_isN_i, Mi.v_isN_t, Mi.v_isnt, Mi.v_ix_l, Mi.v_ix_t, Mi.v_ix_s, Mi.v_len_l, Mi.v_len_t, Mi.v_len_s, Mi.v_max2, Mi.v_min2, Mi.v_tup_l, Mi.v_lst_t, Mi.v_all, Mi.v_sum, Mi.b_nm, Mi.b_tp, Mi.b_cons, Mi.b_nil, Mi.D.int, Mi.D.bool, Mi.D.tup, Mi.D.lst, Mi.D.non, Mi.wipeE, List.map_cons, List.map_nil, List.length_cons, List.length_nil, List.cons_append, List.nil_append, List.getElem?_cons_zero, List.getElem?_cons_succ, List.set_cons_zero, List.set_cons_succ, Option.map_some, Option.bind_some, decide_eq_true_eq, ↓reduceIte, Nat.reduceAdd, Nat.reduceSub, Mi.atI0, Mi.atI1, Mi.atI2, Mi.ixN0, Mi.ixN1, Bool.not_true, Bool.not_false, Bool.false_eq_true, decide_true, decide_false, Mi.q_ext, Mi.k_ext, Mi.extR_l, Mi.k_sl3TL, Mi.q_zX, Mi.k_ztl, Mi.k_zlt, List.length_map, lim8, comp1, asInts_mapG, eh, cut_take _ b0, ← List.map_take, lim9, es, cm, el, cut, w1, w2]
/-! ### the law -/
theorem good_t {l : Lay} {a n : Int} (h0 : 0 ≤ a) (h1 : 1 ≤ n) (h : Per (dAt l) a n) : goodR l (.tuple [.int a, .int n]) = true := by
  unfold goodR
  exact @decide_eq_true _ (_) ⟨h0, h1, h⟩
theorem good_f {l : Lay} {a n : Int} (h : 0 ≤ a → 1 ≤ n → ¬ Per (dAt l) a n) : goodR l (.tuple [.int a, .int n]) = false := by
  unfold goodR
  exact @decide_eq_false _ (_) fun z => h z.1 z.2.1 z.2.2
theorem isnt_tt : isntBF (.p (.bool true)) (.p (.bool true)) = some false := rfl
theorem isnt_ff : isntBF (.p (.bool false)) (.p (.bool false)) = some false := rfl
theorem turn_1 {l : Lay} (ok : LayOk l) (q0 q1 q2 z4 z5 z6 z7 z8 : Option D) (S : Store) : ∃ z4' z5' z6' z7' z8' : Option D, lb_law_1 [q0, q1, q2, some (.p (encL l)), z4, z5, z6, z7, z8] S = .ok (.nx [q0, q1, q2, some (.p (encL l)), z4', z5', z6', z7', z8']) S := by
  have R := (rnd_ok ok).1
  obtain ⟨A0, A9, M1, M9⟩ := rnd_bd ok
  have er := e_law_round ok S
  have el := e_least_round ok S
  have rp := fun S => (tm_lay ok).shw.repr (by omega) (by omega) S
  have sn := (tm_lay ok).shw.ne
  have g1 : goodR l (.tuple [.int (rndL l).1, .int (rndL l).2]) = true := good_t A0 M1 R.per
  have g2 : goodR l (.tuple [.int ((rndL l).1 + 3), .int (2 * (rndL l).2)]) = true := good_t (by omega) (by omega) ((R.iff (by omega) (by omega)).mpr ⟨by omega, Int.dvd_mul_left ..⟩)
  have g3 : goodR l (.tuple [.int ((rndL l).1 - 1), .int (rndL l).2]) = false := good_f fun h0 h1 h => by
    have := ((R.iff h0 h1).mp h).1
    omega
  have g4 : ∀ x, 0 < x → x < (rndL l).2 → goodR l (.tuple [.int ((rndL l).1 + x), .int x]) = false := fun x x0 x9 => good_f fun h0 h1 h => by
    have := Int.le_of_dvd x0 ((R.iff h0 h1).mp h).2
    omega
  have tt : Tm 100 1 (.tuple [.int (rndL l).1, .int (rndL l).2]) := (Tm.tup2 (Tm.int (by omega)) (Tm.int (by omega))).mono (by omega) (by omega)
  have sm := same_tm tt (by omega) (by omega) S
  have ei := fun d => e_is_round ok d S
  generalize hA : (rndL l).1 = A at *
  generalize hM : (rndL l).2 = M at *
  generalize hsh : (encL l).shown = sh at *
  generalize encL l = eL at *
  have hs := fun S => v_srt (ds := [.int 1, .int 2, .int 3, .int (M / 2), .int (M / 3), .int (M - 1)]) (S := S) (ks := [1, 2, 3, M / 2, M / 3, M - 1]) rfl (by simp only [List.length_cons, List.length_nil]; omega)
  have cm : CMul 2 M := cmul_s (by omega) (by omega)
  have d2 : CDiv M 2 := ⟨by decide, by decide⟩
  have d3 : CDiv M 3 := ⟨by decide, by decide⟩
  obtain ⟨ro', S', f, rfl, z8', rfl⟩ := forL_go (p := .nm 8) (m := lb_law_0) (fun j ro S2 => S2 = S ∧ ∃ z8 : Option D, ro = [q0, q1, q2, some (.p eL), some (.p (.tuple [.int A, .int M])), some (.p (.str sh)), some (.p (.int A)), some (.p (.int M)), z8]) (((srtD [1, 2, 3, M / 2, M / 3, M - 1]).map PyData.int).map D.p) (fun j d ro S2 hd hj hI => by
    obtain ⟨rfl, z8, rfl⟩ := hI
    have hd := List.mem_of_getElem? hd
    obtain ⟨x', hx, rfl⟩ := List.mem_map.mp hd
    obtain ⟨x, _, rfl⟩ := List.mem_map.mp hx
    refine ⟨_, b_nm, ?_⟩
    rw [lb_law_0]
    by_cases x0 : 0 < x
    · have c0 : cLt 0 x = true := decide_eq_true x0
      by_cases x9 : x < M
      · have c1 : cLt x M = true := decide_eq_true x9
        simp only [Mi.wE_ok, Mi.bind_k, Mi.bind_b, Mi.bind_ite, Mi.optR_some, Mi.addF_int, Mi.int2_int, Mi.intB_int, Mi.q_seq, Mi.q_set, Mi.q_nil, Mi.q_drop, Mi.q_ret, Mi.q_if, Mi.q_brk, Mi.q_cnt, Mi.q_bad, Mi.q_asg, Mi.q_par, Mi.q_par3, Mi.q_app, Mi.q_put, Mi.q_putR, Mi.q_for, Mi.q_var, Mi.varR_some, Mi.q_con, Mi.q_bin, Mi.q_binS, Mi.q_bb, Mi.q_un, Mi.q_and, Mi.q_or, Mi.q_not, Mi.q_ife, Mi.q_band, Mi.q_bor, Mi.q_bnot, Mi.q_val, Mi.q_true, Mi.q_chn, Mi.q_anil, Mi.q_acons, Mi.q_tup, Mi.q_lst, Mi.q_lstR, Mi.q_none, Mi.q_some, Mi.q_sl, Mi.q_blt, Mi.q_isi, Mi.q_isi2, Mi.q_iseq, Mi.q_r1, Mi.q_r2, Mi.q_z, Mi.q_lr1, Mi.q_lr2, Mi.q_comp, Mi.q_call, Mi.k_seq_nx, Mi.k_seq_rt, Mi.k_seq_bk, Mi.k_seq_ct, Mi.k_set, Mi.k_drop, Mi.k_ret, Mi.k_if, Mi.k_asg, Mi.asgR_some, Mi.k_par, Mi.k_par3, Mi.k_app, Mi.appR_l, Mi.k_putR, Mi.k_putR2, Mi.putR2_ref, Mi.k_for, Mi.k_bin, Mi.k_bin2, Mi.k_binS, Mi.k_binS2, Mi.k_bb, Mi.k_bb2, Mi.optB_some, Mi.k_un, Mi.k_and_t, Mi.k_and_f, Mi.k_or_t, Mi.k_or_f, Mi.k_not, Mi.k_ife, Mi.k_band, Mi.k_bor, Mi.k_bnot, Mi.k_val, Mi.k_chn, Mi.k_chn2, Mi.k_chn3, Mi.k_cons, Mi.k_cons2, Mi.k_tup, Mi.k_lst, Mi.k_lstR, Mi.lstR_some, Mi.pys_nil, Mi.pys_cons, Mi.k_some_i, Mi.k_some_n, Mi.k_sl, Mi.k_sl2, Mi.k_sl3T, Mi.k_sl3L, Mi.k_blt, Mi.k_isi, Mi.k_isi2, Mi.k_seqI_l, Mi.k_seqI_t, Mi.k_r1, Mi.k_r2, Mi.k_r22, Mi.k_z, Mi.k_z2l, Mi.k_z2t, Mi.k_lr1, Mi.k_lr2, Mi.k_lr22, Mi.k_comp, Mi.k_comp2, Mi.k_body_rt, Mi.k_body_nx, Mi.v_add_t, Mi.v_cat, Mi.v_rep, Mi.v_mul, Mi.v_div, Mi.v_mod, Mi.v_pow, Mi.v_neg, Mi.v_lt, Mi.v_le, Mi.v_gt, Mi.v_ge, Mi.v_bD, Mi.v_ne, Mi.v_eqI, Mi.v_eqB, Mi.v_isN_n, Mi.v_isN_i, Mi.v_isN_t, Mi.v_isnt, Mi.v_ix_l, Mi.v_ix_t, Mi.v_ix_s, Mi.v_len_l, Mi.v_len_t, Mi.v_len_s, Mi.v_max2, Mi.v_min2, Mi.v_tup_l, Mi.v_lst_t, Mi.v_all, Mi.v_sum, Mi.b_nm, Mi.b_tp, Mi.b_cons, Mi.b_nil, Mi.D.int, Mi.D.bool, Mi.D.tup, Mi.D.lst, Mi.D.non, Mi.wipeE, List.map_cons, List.map_nil, List.length_cons, List.length_nil, List.cons_append, List.nil_append, List.getElem?_cons_zero, List.getElem?_cons_succ, List.set_cons_zero, List.set_cons_succ, Option.map_some, Option.bind_some, decide_eq_true_eq, ↓reduceIte, Nat.reduceAdd, Nat.reduceSub, Mi.atI0, Mi.atI1, Mi.atI2, Mi.ixN0, Mi.ixN1, Bool.not_true, Bool.not_false, Bool.false_eq_true, decide_true, decide_false, Mi.q_ext, Mi.k_ext, Mi.extR_l, Mi.k_sl3TL, Mi.q_zX, Mi.k_ztl, Mi.k_zlt, c0, c1, ei, g4 x x0 x9, isnt_ff]
        exact ⟨_, _, rfl, rfl, _, rfl⟩
      · have c1 : cLt x M = false := decide_eq_false x9
        simp only [Mi.wE_ok, Mi.bind_k, Mi.bind_b, Mi.bind_ite, Mi.optR_some, Mi.addF_int, Mi.int2_int, Mi.intB_int, Mi.q_seq, Mi.q_set, Mi.q_nil, Mi.q_drop, Mi.q_ret, Mi.q_if, Mi.q_brk, Mi.q_cnt, Mi.q_bad, Mi.q_asg, Mi.q_par, Mi.q_par3, Mi.q_app, Mi.q_put, Mi.q_putR, Mi.q_for, Mi.q_var, Mi.varR_some, Mi.q_con, Mi.q_bin, Mi.q_binS, Mi.q_bb, Mi.q_un, Mi.q_and, Mi.q_or, Mi.q_not, Mi.q_ife, Mi.q_band, Mi.q_bor, Mi.q_bnot, Mi.q_val, Mi.q_true, Mi.q_chn, Mi.q_anil, Mi.q_acons, Mi.q_tup, Mi.q_lst, Mi.q_lstR, Mi.q_none, Mi.q_some, Mi.q_sl, Mi.q_blt, Mi.q_isi, Mi.q_isi2, Mi.q_iseq, Mi.q_r1, Mi.q_r2, Mi.q_z, Mi.q_lr1, Mi.q_lr2, Mi.q_comp, Mi.q_call, Mi.k_seq_nx, Mi.k_seq_rt, Mi.k_seq_bk, Mi.k_seq_ct, Mi.k_set, Mi.k_drop, Mi.k_ret, Mi.k_if, Mi.k_asg, Mi.asgR_some, Mi.k_par, Mi.k_par3, Mi.k_app, Mi.appR_l, Mi.k_putR, Mi.k_putR2, Mi.putR2_ref, Mi.k_for, Mi.k_bin, Mi.k_bin2, Mi.k_binS, Mi.k_binS2, Mi.k_bb, Mi.k_bb2, Mi.optB_some, Mi.k_un, Mi.k_and_t, Mi.k_and_f, Mi.k_or_t, Mi.k_or_f, Mi.k_not, Mi.k_ife, Mi.k_band, Mi.k_bor, Mi.k_bnot, Mi.k_val, Mi.k_chn, Mi.k_chn2, Mi.k_chn3, Mi.k_cons, Mi.k_cons2, Mi.k_tup, Mi.k_lst, Mi.k_lstR, Mi.lstR_some, Mi.pys_nil, Mi.pys_cons, Mi.k_some_i, Mi.k_some_n, Mi.k_sl, Mi.k_sl2, Mi.k_sl3T, Mi.k_sl3L, Mi.k_blt, Mi.k_isi, Mi.k_isi2, Mi.k_seqI_l, Mi.k_seqI_t, Mi.k_r1, Mi.k_r2, Mi.k_r22, Mi.k_z, Mi.k_z2l, Mi.k_z2t, Mi.k_lr1, Mi.k_lr2, Mi.k_lr22, Mi.k_comp, Mi.k_comp2, Mi.k_body_rt, Mi.k_body_nx, Mi.v_add_t, Mi.v_cat, Mi.v_rep, Mi.v_mul, Mi.v_div, Mi.v_mod, Mi.v_pow, Mi.v_neg, Mi.v_lt, Mi.v_le, Mi.v_gt, Mi.v_ge, Mi.v_bD, Mi.v_ne, Mi.v_eqI, Mi.v_eqB, Mi.v_isN_n, Mi.v_isN_i, Mi.v_isN_t, Mi.v_isnt, Mi.v_ix_l, Mi.v_ix_t, Mi.v_ix_s, Mi.v_len_l, Mi.v_len_t, Mi.v_len_s, Mi.v_max2, Mi.v_min2, Mi.v_tup_l, Mi.v_lst_t, Mi.v_all, Mi.v_sum, Mi.b_nm, Mi.b_tp, Mi.b_cons, Mi.b_nil, Mi.D.int, Mi.D.bool, Mi.D.tup, Mi.D.lst, Mi.D.non, Mi.wipeE, List.map_cons, List.map_nil, List.length_cons, List.length_nil, List.cons_append, List.nil_append, List.getElem?_cons_zero, List.getElem?_cons_succ, List.set_cons_zero, List.set_cons_succ, Option.map_some, Option.bind_some, decide_eq_true_eq, ↓reduceIte, Nat.reduceAdd, Nat.reduceSub, Mi.atI0, Mi.atI1, Mi.atI2, Mi.ixN0, Mi.ixN1, Bool.not_true, Bool.not_false, Bool.false_eq_true, decide_true, decide_false, Mi.q_ext, Mi.k_ext, Mi.extR_l, Mi.k_sl3TL, Mi.q_zX, Mi.k_ztl, Mi.k_zlt, c0, c1]
        exact ⟨_, _, rfl, rfl, _, rfl⟩
    · have c0 : cLt 0 x = false := decide_eq_false x0
      simp only [Mi.wE_ok, Mi.bind_k, Mi.bind_b, Mi.bind_ite, Mi.optR_some, Mi.addF_int, Mi.int2_int, Mi.intB_int, Mi.q_seq, Mi.q_set, Mi.q_nil, Mi.q_drop, Mi.q_ret, Mi.q_if, Mi.q_brk, Mi.q_cnt, Mi.q_bad, Mi.q_asg, Mi.q_par, Mi.q_par3, Mi.q_app, Mi.q_put, Mi.q_putR, Mi.q_for, Mi.q_var, Mi.varR_some, Mi.q_con, Mi.q_bin, Mi.q_binS, Mi.q_bb, Mi.q_un, Mi.q_and, Mi.q_or, Mi.q_not, Mi.q_ife, Mi.q_band, Mi.q_bor, Mi.q_bnot, Mi.q_val, Mi.q_true, Mi.q_chn, Mi.q_anil, Mi.q_acons, Mi.q_tup, Mi.q_lst, Mi.q_lstR, Mi.q_none, Mi.q_some, Mi.q_sl, Mi.q_blt, Mi.q_isi, Mi.q_isi2, Mi.q_iseq, Mi.q_r1, Mi.q_r2, Mi.q_z, Mi.q_lr1, Mi.q_lr2, Mi.q_comp, Mi.q_call, Mi.k_seq_nx, Mi.k_seq_rt, Mi.k_seq_bk, Mi.k_seq_ct, Mi.k_set, Mi.k_drop, Mi.k_ret, Mi.k_if, Mi.k_asg, Mi.asgR_some, Mi.k_par, Mi.k_par3, Mi.k_app, Mi.appR_l, Mi.k_putR, Mi.k_putR2, Mi.putR2_ref, Mi.k_for, Mi.k_bin, Mi.k_bin2, Mi.k_binS, Mi.k_binS2, Mi.k_bb, Mi.k_bb2, Mi.optB_some, Mi.k_un, Mi.k_and_t, Mi.k_and_f, Mi.k_or_t, Mi.k_or_f, Mi.k_not, Mi.k_ife, Mi.k_band, Mi.k_bor, Mi.k_bnot, Mi.k_val, Mi.k_chn, Mi.k_chn2, Mi.k_chn3, Mi.k_cons, Mi.k_cons2, Mi.k_tup, Mi.k_lst, Mi.k_lstR, Mi.lstR_some, Mi.pys_nil, Mi.pys_cons, Mi.k_some_i, Mi.k_some_n, Mi.k_sl, Mi.k_sl2, Mi.k_sl3T, Mi.k_sl3L, Mi.k_blt, Mi.k_isi, Mi.k_isi2, Mi.k_seqI_l, Mi.k_seqI_t, Mi.k_r1, Mi.k_r2, Mi.k_r22, Mi.k_z, Mi.k_z2l, Mi.k_z2t, Mi.k_lr1, Mi.k_lr2, Mi.k_lr22, Mi.k_comp, Mi.k_comp2, Mi.k_body_rt, Mi.k_body_nx, Mi.v_add_t, Mi.v_cat, Mi.v_rep, Mi.v_mul, Mi.v_div, Mi.v_mod, Mi.v_pow, Mi.v_neg, Mi.v_lt, Mi.v_le, Mi.v_gt, Mi.v_ge, Mi.v_bD, Mi.v_ne, Mi.v_eqI, Mi.v_eqB, Mi.v_isN_n, Mi.v_isN_i, Mi.v_isN_t, Mi.v_isnt, Mi.v_ix_l, Mi.v_ix_t, Mi.v_ix_s, Mi.v_len_l, Mi.v_len_t, Mi.v_len_s, Mi.v_max2, Mi.v_min2, Mi.v_tup_l, Mi.v_lst_t, Mi.v_all, Mi.v_sum, Mi.b_nm, Mi.b_tp, Mi.b_cons, Mi.b_nil, Mi.D.int, Mi.D.bool, Mi.D.tup, Mi.D.lst, Mi.D.non, Mi.wipeE, List.map_cons, List.map_nil, List.length_cons, List.length_nil, List.cons_append, List.nil_append, List.getElem?_cons_zero, List.getElem?_cons_succ, List.set_cons_zero, List.set_cons_succ, Option.map_some, Option.bind_some, decide_eq_true_eq, ↓reduceIte, Nat.reduceAdd, Nat.reduceSub, Mi.atI0, Mi.atI1, Mi.atI2, Mi.ixN0, Mi.ixN1, Bool.not_true, Bool.not_false, Bool.false_eq_true, decide_true, decide_false, Mi.q_ext, Mi.k_ext, Mi.extR_l, Mi.k_sl3TL, Mi.q_zX, Mi.k_ztl, Mi.k_zlt, c0]
      exact ⟨_, _, rfl, rfl, _, rfl⟩) (ro := [q0, q1, q2, some (.p eL), some (.p (.tuple [.int A, .int M])), some (.p (.str sh)), some (.p (.int A)), some (.p (.int M)), z8]) (S := S) ⟨rfl, z8, rfl⟩
  rw [lb_law_1]
  by_cases hA0 : 0 < A
  · simp only [Mi.wE_ok, Mi.bind_k, Mi.bind_b, Mi.bind_ite, Mi.optR_some, Mi.addF_int, Mi.int2_int, Mi.intB_int, Mi.q_seq, Mi.q_set, Mi.q_nil, Mi.q_drop, Mi.q_ret, Mi.q_if, Mi.q_brk, Mi.q_cnt, Mi.q_bad, Mi.q_asg, Mi.q_par, Mi.q_par3, Mi.q_app, Mi.q_put, Mi.q_putR, Mi.q_for, Mi.q_var, Mi.varR_some, Mi.q_con, Mi.q_bin, Mi.q_binS, Mi.q_bb, Mi.q_un, Mi.q_and, Mi.q_or, Mi.q_not, Mi.q_ife, Mi.q_band, Mi.q_bor, Mi.q_bnot, Mi.q_val, Mi.q_true, Mi.q_chn, Mi.q_anil, Mi.q_acons, Mi.q_tup, Mi.q_lst, Mi.q_lstR, Mi.q_none, Mi.q_some, Mi.q_sl, Mi.q_blt, Mi.q_isi, Mi.q_isi2, Mi.q_iseq, Mi.q_r1, Mi.q_r2, Mi.q_z, Mi.q_lr1, Mi.q_lr2, Mi.q_comp, Mi.q_call, Mi.k_seq_nx, Mi.k_seq_rt, Mi.k_seq_bk, Mi.k_seq_ct, Mi.k_set, Mi.k_drop, Mi.k_ret, Mi.k_if, Mi.k_asg, Mi.asgR_some, Mi.k_par, Mi.k_par3, Mi.k_app, Mi.appR_l, Mi.k_putR, Mi.k_putR2, Mi.putR2_ref, Mi.k_for, Mi.k_bin, Mi.k_bin2, Mi.k_binS, Mi.k_binS2, Mi.k_bb, Mi.k_bb2, Mi.optB_some, Mi.k_un, Mi.k_and_t, Mi.k_and_f, Mi.k_or_t, Mi.k_or_f, Mi.k_not, Mi.k_ife, Mi.k_band, Mi.k_bor, Mi.k_bnot, Mi.k_val, Mi.k_chn, Mi.k_chn2, Mi.k_chn3, Mi.k_cons, Mi.k_cons2, Mi.k_tup, Mi.k_lst, Mi.k_lstR, Mi.lstR_some, Mi.pys_nil, Mi.pys_cons, Mi.k_some_i, Mi.k_some_n, Mi.k_sl, Mi.k_sl2, Mi.k_sl3T, Mi.k_sl3L, Mi.k_blt, Mi.k_isi, Mi.k_isi2, Mi.k_seqI_l, Mi.k_seqI_t, Mi.k_r1, Mi.k_r2, Mi.k_r22, Mi.k_z, Mi.k_z2l, Mi.k_z2t, Mi.k_lr1, Mi.k_lr2, Mi.k_lr22, Mi.k_comp, Mi.k_comp2, Mi.k_body_rt, Mi.k_body_nx, Mi.v_add_t, Mi.v_cat, Mi.v_rep, Mi.v_mul, Mi.v_div, Mi.v_mod, Mi.v_pow, Mi.v_neg, Mi.v_lt, Mi.v_le, Mi.v_gt, Mi.v_ge, Mi.v_bD, Mi.v_ne, Mi.v_eqI, Mi.v_eqB, Mi.v_isN_n, Mi.v_isN_i, Mi.v_isN_t, Mi.v_isnt, Mi.v_ix_l, Mi.v_ix_t, Mi.v_ix_s, Mi.v_len_l, Mi.v_len_t, Mi.v_len_s, Mi.v_max2, Mi.v_min2, Mi.v_tup_l, Mi.v_lst_t, Mi.v_all, Mi.v_sum, Mi.b_nm, Mi.b_tp, Mi.b_cons, Mi.b_nil, Mi.D.int, Mi.D.bool, Mi.D.tup, Mi.D.lst, Mi.D.non, Mi.wipeE, List.map_cons, List.map_nil, List.length_cons, List.length_nil, List.cons_append, List.nil_append, List.getElem?_cons_zero, List.getElem?_cons_succ, List.set_cons_zero, List.set_cons_succ, Option.map_some, Option.bind_some, decide_eq_true_eq, ↓reduceIte, Nat.reduceAdd, Nat.reduceSub, Mi.atI0, Mi.atI1, Mi.atI2, Mi.ixN0, Mi.ixN1, Bool.not_true, Bool.not_false, Bool.false_eq_true, decide_true, decide_false, Mi.q_ext, Mi.k_ext, Mi.extR_l, Mi.k_sl3TL, Mi.q_zX, Mi.k_ztl, Mi.k_zlt, er, rp, el, sm, sn, -Mi.v_ne, ei, g1, g2, g3, isnt_tt, isnt_ff, cm, hA0, d2, d3, hs, f]
    exact ⟨_, _, _, _, _, rfl⟩
  · simp only [Mi.wE_ok, Mi.bind_k, Mi.bind_b, Mi.bind_ite, Mi.optR_some, Mi.addF_int, Mi.int2_int, Mi.intB_int, Mi.q_seq, Mi.q_set, Mi.q_nil, Mi.q_drop, Mi.q_ret, Mi.q_if, Mi.q_brk, Mi.q_cnt, Mi.q_bad, Mi.q_asg, Mi.q_par, Mi.q_par3, Mi.q_app, Mi.q_put, Mi.q_putR, Mi.q_for, Mi.q_var, Mi.varR_some, Mi.q_con, Mi.q_bin, Mi.q_binS, Mi.q_bb, Mi.q_un, Mi.q_and, Mi.q_or, Mi.q_not, Mi.q_ife, Mi.q_band, Mi.q_bor, Mi.q_bnot, Mi.q_val, Mi.q_true, Mi.q_chn, Mi.q_anil, Mi.q_acons, Mi.q_tup, Mi.q_lst, Mi.q_lstR, Mi.q_none, Mi.q_some, Mi.q_sl, Mi.q_blt, Mi.q_isi, Mi.q_isi2, Mi.q_iseq, Mi.q_r1, Mi.q_r2, Mi.q_z, Mi.q_lr1, Mi.q_lr2, Mi.q_comp, Mi.q_call, Mi.k_seq_nx, Mi.k_seq_rt, Mi.k_seq_bk, Mi.k_seq_ct, Mi.k_set, Mi.k_drop, Mi.k_ret, Mi.k_if, Mi.k_asg, Mi.asgR_some, Mi.k_par, Mi.k_par3, Mi.k_app, Mi.appR_l, Mi.k_putR, Mi.k_putR2, Mi.putR2_ref, Mi.k_for, Mi.k_bin, Mi.k_bin2, Mi.k_binS, Mi.k_binS2, Mi.k_bb, Mi.k_bb2, Mi.optB_some, Mi.k_un, Mi.k_and_t, Mi.k_and_f, Mi.k_or_t, Mi.k_or_f, Mi.k_not, Mi.k_ife, Mi.k_band, Mi.k_bor, Mi.k_bnot, Mi.k_val, Mi.k_chn, Mi.k_chn2, Mi.k_chn3, Mi.k_cons, Mi.k_cons2, Mi.k_tup, Mi.k_lst, Mi.k_lstR, Mi.lstR_some, Mi.pys_nil, Mi.pys_cons, Mi.k_some_i, Mi.k_some_n, Mi.k_sl, Mi.k_sl2, Mi.k_sl3T, Mi.k_sl3L, Mi.k_blt, Mi.k_isi, Mi.k_isi2, Mi.k_seqI_l, Mi.k_seqI_t, Mi.k_r1, Mi.k_r2, Mi.k_r22, Mi.k_z, Mi.k_z2l, Mi.k_z2t, Mi.k_lr1, Mi.k_lr2, Mi.k_lr22, Mi.k_comp, Mi.k_comp2, Mi.k_body_rt, Mi.k_body_nx, Mi.v_add_t, Mi.v_cat, Mi.v_rep, Mi.v_mul, Mi.v_div, Mi.v_mod, Mi.v_pow, Mi.v_neg, Mi.v_lt, Mi.v_le, Mi.v_gt, Mi.v_ge, Mi.v_bD, Mi.v_ne, Mi.v_eqI, Mi.v_eqB, Mi.v_isN_n, Mi.v_isN_i, Mi.v_isN_t, Mi.v_isnt, Mi.v_ix_l, Mi.v_ix_t, Mi.v_ix_s, Mi.v_len_l, Mi.v_len_t, Mi.v_len_s, Mi.v_max2, Mi.v_min2, Mi.v_tup_l, Mi.v_lst_t, Mi.v_all, Mi.v_sum, Mi.b_nm, Mi.b_tp, Mi.b_cons, Mi.b_nil, Mi.D.int, Mi.D.bool, Mi.D.tup, Mi.D.lst, Mi.D.non, Mi.wipeE, List.map_cons, List.map_nil, List.length_cons, List.length_nil, List.cons_append, List.nil_append, List.getElem?_cons_zero, List.getElem?_cons_succ, List.set_cons_zero, List.set_cons_succ, Option.map_some, Option.bind_some, decide_eq_true_eq, ↓reduceIte, Nat.reduceAdd, Nat.reduceSub, Mi.atI0, Mi.atI1, Mi.atI2, Mi.ixN0, Mi.ixN1, Bool.not_true, Bool.not_false, Bool.false_eq_true, decide_true, decide_false, Mi.q_ext, Mi.k_ext, Mi.extR_l, Mi.k_sl3TL, Mi.q_zX, Mi.k_ztl, Mi.k_zlt, er, rp, el, sm, sn, -Mi.v_ne, ei, g1, g2, isnt_tt, isnt_ff, cm, hA0, d2, d3, hs, f]
    exact ⟨_, _, _, _, _, rfl⟩
theorem law_ok (ns : List Int) (hn : ns.length ≤ 63) : ∃ S', c_law [.scr ns] [] = .ok (.bool true) S' := by
  rw [u_law, m_law]
  let I : Nat → Mi.Env → Store → Prop := fun _ ro S => FlatS S ∧ ∃ z1 z2 z3 z4 z5 z6 z7 z8 : Option D, ro = [some (.scr ns), z1, z2, z3, z4, z5, z6, z7, z8]
  have hb : bnd (max 1 (min (ns.length : Int) 6)) := bnd_of (by omega) (by omega)
  obtain ⟨ro', S', e, hF', z1, z2, z3, z4, z5, z6, z7, z8, rfl⟩ := forL_go (p := .nm 1) (m := lb_law_2) I (intR 0 (max 1 (min (ns.length : Int) 6)).toNat) (fun k d ro S hd hk hI => by
    obtain ⟨hF, z1, z2, z3, z4, z5, z6, z7, z8, rfl⟩ := hI
    obtain ⟨rfl, hk⟩ := fin_rng hd
    refine ⟨_, b_nm, ?_⟩
    obtain ⟨n, S1, e1, G1⟩ := state_w ns (0 + (k : Nat)) (by omega) S hF
    obtain ⟨lt, S2, e2, okt, _, G2⟩ := turning_w G1
    obtain ⟨ll, S3, e3, okl, G3⟩ := layer_w G2
    have ok0 : LayOk ⟨[], none⟩ := ⟨by decide, (fun r hr => by cases hr), (fun b hb => by cases hb)⟩
    have en : encL ⟨[], none⟩ = .tuple [.tuple [], .none] := rfl
    obtain ⟨ro4, S4, f, rfl, y3, y4, y5, y6, y7, y8, rfl⟩ := forL_go (p := .nm 3) (m := lb_law_1) (fun j ro S2 => S2 = S3 ∧ ∃ z3 z4 z5 z6 z7 z8 : Option D, ro = [some (.scr ns), some (.p (.int (0 + (k : Nat)))), some (.ref n), z3, z4, z5, z6, z7, z8]) [D.p (encL lt), D.p (encL ll), D.p (.tuple [.tuple [], .none])] (fun j d ro S2 hd hj hI => by
      obtain ⟨rfl, z3, z4, z5, z6, z7, z8, rfl⟩ := hI
      have hd := List.mem_of_getElem? hd
      obtain ⟨l, rfl, ok⟩ : ∃ l, d = D.p (encL l) ∧ LayOk l := by
        simp only [List.mem_cons, List.not_mem_nil, or_false] at hd
        rcases hd with rfl | rfl | rfl
        · exact ⟨lt, rfl, okt⟩
        · exact ⟨ll, rfl, okl⟩
        · exact ⟨⟨[], none⟩, rfl, ok0⟩
      refine ⟨_, b_nm, ?_⟩
      obtain ⟨z4', z5', z6', z7', z8', h⟩ := turn_1 ok (some (.scr ns)) (some (.p (.int (0 + (k : Nat))))) (some (.ref n)) z4 z5 z6 z7 z8 S2
      exact ⟨_, _, h, rfl, _, _, _, _, _, _, rfl⟩) (ro := [some (.scr ns), some (.p (.int (0 + (k : Nat)))), some (.ref n), z3, z4, z5, z6, z7, z8]) (S := S3) ⟨rfl, _, _, _, _, _, _, rfl⟩
    rw [lb_law_2]
    simp only [Mi.wE_ok, Mi.bind_k, Mi.bind_b, Mi.bind_ite, Mi.optR_some, Mi.addF_int, Mi.int2_int, Mi.intB_int, Mi.q_seq, Mi.q_set, Mi.q_nil, Mi.q_drop, Mi.q_ret, Mi.q_if, Mi.q_brk, Mi.q_cnt, Mi.q_bad, Mi.q_asg, Mi.q_par, Mi.q_par3, Mi.q_app, Mi.q_put, Mi.q_putR, Mi.q_for, Mi.q_var, Mi.varR_some, Mi.q_con, Mi.q_bin, Mi.q_binS, Mi.q_bb, Mi.q_un, Mi.q_and, Mi.q_or, Mi.q_not, Mi.q_ife, Mi.q_band, Mi.q_bor, Mi.q_bnot, Mi.q_val, Mi.q_true, Mi.q_chn, Mi.q_anil, Mi.q_acons, Mi.q_tup, Mi.q_lst, Mi.q_lstR, Mi.q_none, Mi.q_some, Mi.q_sl, Mi.q_blt, Mi.q_isi, Mi.q_isi2, Mi.q_iseq, Mi.q_r1, Mi.q_r2, Mi.q_z, Mi.q_lr1, Mi.q_lr2, Mi.q_comp, Mi.q_call, Mi.k_seq_nx, Mi.k_seq_rt, Mi.k_seq_bk, Mi.k_seq_ct, Mi.k_set, Mi.k_drop, Mi.k_ret, Mi.k_if, Mi.k_asg, Mi.asgR_some, Mi.k_par, Mi.k_par3, Mi.k_app, Mi.appR_l, Mi.k_putR, Mi.k_putR2, Mi.putR2_ref, Mi.k_for, Mi.k_bin, Mi.k_bin2, Mi.k_binS, Mi.k_binS2, Mi.k_bb, Mi.k_bb2, Mi.optB_some, Mi.k_un, Mi.k_and_t, Mi.k_and_f, Mi.k_or_t, Mi.k_or_f, Mi.k_not, Mi.k_ife, Mi.k_band, Mi.k_bor, Mi.k_bnot, Mi.k_val, Mi.k_chn, Mi.k_chn2, Mi.k_chn3, Mi.k_cons, Mi.k_cons2, Mi.k_tup, Mi.k_lst, Mi.k_lstR, Mi.lstR_some, Mi.pys_nil, Mi.pys_cons, Mi.k_some_i, Mi.k_some_n, Mi.k_sl, Mi.k_sl2, Mi.k_sl3T, Mi.k_sl3L, Mi.k_blt, Mi.k_isi, Mi.k_isi2, Mi.k_seqI_l, Mi.k_seqI_t, Mi.k_r1, Mi.k_r2, Mi.k_r22, Mi.k_z, Mi.k_z2l, Mi.k_z2t, Mi.k_lr1, Mi.k_lr2, Mi.k_lr22, Mi.k_comp, Mi.k_comp2, Mi.k_body_rt, Mi.k_body_nx, Mi.v_add_t, Mi.v_cat, Mi.v_rep, Mi.v_mul, Mi.v_div, Mi.v_mod, Mi.v_pow, Mi.v_neg, Mi.v_lt, Mi.v_le, Mi.v_gt, Mi.v_ge, Mi.v_bD, Mi.v_ne, Mi.v_eqI, Mi.v_eqB, Mi.v_isN_n, Mi.v_isN_i, Mi.v_isN_t, Mi.v_isnt, Mi.v_ix_l, Mi.v_ix_t, Mi.v_ix_s, Mi.v_len_l, Mi.v_len_t, Mi.v_len_s, Mi.v_max2, Mi.v_min2, Mi.v_tup_l, Mi.v_lst_t, Mi.v_all, Mi.v_sum, Mi.b_nm, Mi.b_tp, Mi.b_cons, Mi.b_nil, Mi.D.int, Mi.D.bool, Mi.D.tup, Mi.D.lst, Mi.D.non, Mi.wipeE, List.map_cons, List.map_nil, List.length_cons, List.length_nil, List.cons_append, List.nil_append, List.getElem?_cons_zero, List.getElem?_cons_succ, List.set_cons_zero, List.set_cons_succ, Option.map_some, Option.bind_some, decide_eq_true_eq, ↓reduceIte, Nat.reduceAdd, Nat.reduceSub, Mi.atI0, Mi.atI1, Mi.atI2, Mi.ixN0, Mi.ixN1, Bool.not_true, Bool.not_false, Bool.false_eq_true, decide_true, decide_false, Mi.q_ext, Mi.k_ext, Mi.extR_l, Mi.k_sl3TL, Mi.q_zX, Mi.k_ztl, Mi.k_zlt, e1, e2, e3, f]
    exact ⟨_, _, rfl, G3.1, _, _, _, _, _, _, _, _, rfl⟩) (ro := [some (.scr ns), none, none, none, none, none, none, none, none]) (S := []) ⟨(fun o ho => by cases ho), _, _, _, _, _, _, _, _, rfl⟩
  simp only [Mi.wE_ok, Mi.bind_k, Mi.bind_b, Mi.bind_ite, Mi.optR_some, Mi.addF_int, Mi.int2_int, Mi.intB_int, Mi.q_seq, Mi.q_set, Mi.q_nil, Mi.q_drop, Mi.q_ret, Mi.q_if, Mi.q_brk, Mi.q_cnt, Mi.q_bad, Mi.q_asg, Mi.q_par, Mi.q_par3, Mi.q_app, Mi.q_put, Mi.q_putR, Mi.q_for, Mi.q_var, Mi.varR_some, Mi.q_con, Mi.q_bin, Mi.q_binS, Mi.q_bb, Mi.q_un, Mi.q_and, Mi.q_or, Mi.q_not, Mi.q_ife, Mi.q_band, Mi.q_bor, Mi.q_bnot, Mi.q_val, Mi.q_true, Mi.q_chn, Mi.q_anil, Mi.q_acons, Mi.q_tup, Mi.q_lst, Mi.q_lstR, Mi.q_none, Mi.q_some, Mi.q_sl, Mi.q_blt, Mi.q_isi, Mi.q_isi2, Mi.q_iseq, Mi.q_r1, Mi.q_r2, Mi.q_z, Mi.q_lr1, Mi.q_lr2, Mi.q_comp, Mi.q_call, Mi.k_seq_nx, Mi.k_seq_rt, Mi.k_seq_bk, Mi.k_seq_ct, Mi.k_set, Mi.k_drop, Mi.k_ret, Mi.k_if, Mi.k_asg, Mi.asgR_some, Mi.k_par, Mi.k_par3, Mi.k_app, Mi.appR_l, Mi.k_putR, Mi.k_putR2, Mi.putR2_ref, Mi.k_for, Mi.k_bin, Mi.k_bin2, Mi.k_binS, Mi.k_binS2, Mi.k_bb, Mi.k_bb2, Mi.optB_some, Mi.k_un, Mi.k_and_t, Mi.k_and_f, Mi.k_or_t, Mi.k_or_f, Mi.k_not, Mi.k_ife, Mi.k_band, Mi.k_bor, Mi.k_bnot, Mi.k_val, Mi.k_chn, Mi.k_chn2, Mi.k_chn3, Mi.k_cons, Mi.k_cons2, Mi.k_tup, Mi.k_lst, Mi.k_lstR, Mi.lstR_some, Mi.pys_nil, Mi.pys_cons, Mi.k_some_i, Mi.k_some_n, Mi.k_sl, Mi.k_sl2, Mi.k_sl3T, Mi.k_sl3L, Mi.k_blt, Mi.k_isi, Mi.k_isi2, Mi.k_seqI_l, Mi.k_seqI_t, Mi.k_r1, Mi.k_r2, Mi.k_r22, Mi.k_z, Mi.k_z2l, Mi.k_z2t, Mi.k_lr1, Mi.k_lr2, Mi.k_lr22, Mi.k_comp, Mi.k_comp2, Mi.k_body_rt, Mi.k_body_nx, Mi.v_add_t, Mi.v_cat, Mi.v_rep, Mi.v_mul, Mi.v_div, Mi.v_mod, Mi.v_pow, Mi.v_neg, Mi.v_lt, Mi.v_le, Mi.v_gt, Mi.v_ge, Mi.v_bD, Mi.v_ne, Mi.v_eqI, Mi.v_eqB, Mi.v_isN_n, Mi.v_isN_i, Mi.v_isN_t, Mi.v_isnt, Mi.v_ix_l, Mi.v_ix_t, Mi.v_ix_s, Mi.v_len_l, Mi.v_len_t, Mi.v_len_s, Mi.v_max2, Mi.v_min2, Mi.v_tup_l, Mi.v_lst_t, Mi.v_all, Mi.v_sum, Mi.b_nm, Mi.b_tp, Mi.b_cons, Mi.b_nil, Mi.D.int, Mi.D.bool, Mi.D.tup, Mi.D.lst, Mi.D.non, Mi.wipeE, List.map_cons, List.map_nil, List.length_cons, List.length_nil, List.cons_append, List.nil_append, List.getElem?_cons_zero, List.getElem?_cons_succ, List.set_cons_zero, List.set_cons_succ, Option.map_some, Option.bind_some, decide_eq_true_eq, ↓reduceIte, Nat.reduceAdd, Nat.reduceSub, Mi.atI0, Mi.atI1, Mi.atI2, Mi.ixN0, Mi.ixN1, Bool.not_true, Bool.not_false, Bool.false_eq_true, decide_true, decide_false, Mi.q_ext, Mi.k_ext, Mi.extR_l, Mi.k_sl3TL, Mi.q_zX, Mi.k_ztl, Mi.k_zlt, hb, e]
  exact ⟨_, rfl⟩

end Lw

open PySem PySem.W PyProof.Rows
set_option maxHeartbeats 0 in
theorem PySem.Challenge.cw_lanternrows_k10_least_rounds_holds : PySem.Challenge.rw_lanternrows_k10_least_rounds.Holds := by
  w_on; o_law; k_head; (case hw => w_witness2)
  k_fill
  refine Mi.walk_go (l := PySem.Challenge.rw_lanternrows_k10_least_rounds) (n := 63) (lv := 7) (kd := .e) (x := "_law_script") (c := Lw.c_law) rfl (by decide) rfl ⟨rfl, by decide, by decide⟩ (fun w h Y => PySem.W.kIn_of Y) ?F Lw.law_ok
  case F =>
    intro w mg fa h KX G hmg
    refine' Lw.fin KX G hmg ?d_is_whole ?d_is_tuple_of ?d_is_between ?d_is_row ?d_is_layer ?d_look_at_layer ?d_holds_of ?d_drawing_in ?d_told_round ?d_round_in ?d_is_round ?d_least_round ?d__law_cell_at ?d__law_state ?d__law_same ?d__law_take ?d__law_row ?d__law_layer ?d__law_turning ?d__law_laying ?d__law_round ?d_law ?z_isinstance ?z_int ?z_bool ?z_tuple ?z_len ?z_all ?z_sum ?z_range ?z_max ?z_list ?z_zip ?z_min ?z_repr ?z_sorted ?z_set ?g_DRAWINGS ?g_HOLD ?g_ROWS
    case d_is_whole =>
      refine' Mi.def_mk KX G ?a ?l ?c ?k (fun _ _ _ _ _ _ us hl => match us, hl with | [_], _ => rfl)
      (case a => k_is); (case l => k_is); (case c => k_is); (case k => k_is)
    case d_is_tuple_of =>
      refine' Mi.def_mk KX G ?a ?l ?c ?k (fun _ _ _ _ _ _ us hl => match us, hl with | [_, _, _], _ => rfl)
      (case a => k_is); (case l => k_is); (case c => k_is); (case k => k_is)
    case d_is_between =>
      refine' Mi.def_mk KX G ?a ?l ?c ?k (fun _ _ _ _ _ _ us hl => match us, hl with | [_, _, _], _ => rfl)
      (case a => k_is); (case l => k_is); (case c => k_is); (case k => k_is)
    case d_is_row =>
      refine' Mi.def_mk KX G ?a ?l ?c ?k (fun _ _ _ _ _ _ us hl => match us, hl with | [_], _ => rfl)
      (case a => k_is); (case l => k_is); (case c => k_is); (case k => k_is)
    case d_is_layer =>
      refine' Mi.def_mk KX G ?a ?l ?c ?k (fun _ _ _ _ _ _ us hl => match us, hl with | [_], _ => rfl)
      (case a => k_is); (case l => k_is); (case c => k_is); (case k => k_is)
    case d_look_at_layer =>
      refine' Mi.def_mk KX G ?a ?l ?c ?k (fun _ _ _ _ _ _ us hl => match us, hl with | [_], _ => rfl)
      (case a => k_is); (case l => k_is); (case c => k_is); (case k => k_is)
    case d_holds_of =>
      refine' Mi.def_mk KX G ?a ?l ?c ?k (fun _ _ _ _ _ _ us hl => match us, hl with | [_], _ => rfl)
      (case a => k_is); (case l => k_is); (case c => k_is); (case k => k_is)
    case d_drawing_in =>
      refine' Mi.def_mk KX G ?a ?l ?c ?k (fun _ _ _ _ _ _ us hl => match us, hl with | [_, _], _ => rfl)
      (case a => k_is); (case l => k_is); (case c => k_is); (case k => k_is)
    case d_told_round =>
      refine' Mi.def_mk KX G ?a ?l ?c ?k (fun _ _ _ _ _ _ us hl => match us, hl with | [_], _ => rfl)
      (case a => k_is); (case l => k_is); (case c => k_is); (case k => k_is)
    case d_round_in =>
      refine' Mi.def_mk KX G ?a ?l ?c ?k (fun _ _ _ _ _ _ us hl => match us, hl with | [_], _ => rfl)
      (case a => k_is); (case l => k_is); (case c => k_is); (case k => k_is)
    case d_is_round =>
      refine' Mi.def_mk KX G ?a ?l ?c ?k (fun _ _ _ _ _ _ us hl => match us, hl with | [_, _], _ => rfl)
      (case a => k_is); (case l => k_is); (case c => k_is); (case k => k_is)
    case d_least_round =>
      refine' Mi.def_mk KX G ?a ?l ?c ?k (fun _ _ _ _ _ _ us hl => match us, hl with | [_], _ => rfl)
      (case a => k_is); (case l => k_is); (case c => k_is); (case k => k_is)
    case d__law_cell_at =>
      refine' Mi.def_mk KX G ?a ?l ?c ?k (fun _ _ _ _ _ _ us hl => match us, hl with | [_, _], _ => rfl)
      (case a => k_is); (case l => k_is); (case c => k_is); (case k => k_is)
    case d__law_state =>
      refine' Mi.def_mk KX G ?a ?l ?c ?k (fun _ _ _ _ _ _ us hl => match us, hl with | [_, _], _ => rfl)
      (case a => k_is); (case l => k_is); (case c => k_is); (case k => k_is)
    case d__law_same =>
      refine' Mi.def_mk KX G ?a ?l ?c ?k (fun _ _ _ _ _ _ us hl => match us, hl with | [_, _], _ => rfl)
      (case a => k_is); (case l => k_is); (case c => k_is); (case k => k_is)
    case d__law_take =>
      refine' Mi.def_mk KX G ?a ?l ?c ?k (fun _ _ _ _ _ _ us hl => match us, hl with | [_, _], _ => rfl)
      (case a => k_is); (case l => k_is); (case c => k_is); (case k => k_is)
    case d__law_row =>
      refine' Mi.def_mk KX G ?a ?l ?c ?k (fun _ _ _ _ _ _ us hl => match us, hl with | [_, _], _ => rfl)
      (case a => k_is); (case l => k_is); (case c => k_is); (case k => k_is)
    case d__law_layer =>
      refine' Mi.def_mk KX G ?a ?l ?c ?k (fun _ _ _ _ _ _ us hl => match us, hl with | [_], _ => rfl)
      (case a => k_is); (case l => k_is); (case c => k_is); (case k => k_is)
    case d__law_turning =>
      refine' Mi.def_mk KX G ?a ?l ?c ?k (fun _ _ _ _ _ _ us hl => match us, hl with | [_], _ => rfl)
      (case a => k_is); (case l => k_is); (case c => k_is); (case k => k_is)
    case d__law_laying =>
      refine' Mi.def_mk KX G ?a ?l ?c ?k (fun _ _ _ _ _ _ us hl => match us, hl with | [_, _], _ => rfl)
      (case a => k_is); (case l => k_is); (case c => k_is); (case k => k_is)
    case d__law_round =>
      refine' Mi.def_mk KX G ?a ?l ?c ?k (fun _ _ _ _ _ _ us hl => match us, hl with | [_], _ => rfl)
      (case a => k_is); (case l => k_is); (case c => k_is); (case k => k_is)
    case d_law =>
      refine' Mi.def_mk KX G ?a ?l ?c ?k (fun _ _ _ _ _ _ us hl => match us, hl with | [_], _ => rfl)
      (case a => k_is); (case l => k_is); (case c => k_is); (case k => k_is)
    case z_isinstance => exact PySem.W.mg_none_of KX G (by k_is)
    case z_int => exact PySem.W.mg_none_of KX G (by k_is)
    case z_bool => exact PySem.W.mg_none_of KX G (by k_is)
    case z_tuple => exact PySem.W.mg_none_of KX G (by k_is)
    case z_len => exact PySem.W.mg_none_of KX G (by k_is)
    case z_all => exact PySem.W.mg_none_of KX G (by k_is)
    case z_sum => exact PySem.W.mg_none_of KX G (by k_is)
    case z_range => exact PySem.W.mg_none_of KX G (by k_is)
    case z_max => exact PySem.W.mg_none_of KX G (by k_is)
    case z_list => exact PySem.W.mg_none_of KX G (by k_is)
    case z_zip => exact PySem.W.mg_none_of KX G (by k_is)
    case z_min => exact PySem.W.mg_none_of KX G (by k_is)
    case z_repr => exact PySem.W.mg_none_of KX G (by k_is)
    case z_sorted => exact PySem.W.mg_none_of KX G (by k_is)
    case z_set => exact PySem.W.mg_none_of KX G (by k_is)
    case g_DRAWINGS =>
      refine' Mi.gint_mk KX G ?e
      (case e => k_is)
    case g_HOLD =>
      refine' Mi.gint_mk KX G ?e
      (case e => k_is)
    case g_ROWS =>
      refine' Mi.gint_mk KX G ?e
      (case e => k_is)
