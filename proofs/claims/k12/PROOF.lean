import PyProof.Rows.All
import HandS.ForExc
import HandS.ForMost
import HandS.Wide
import HandS.IsInst
import HandS.Gcd
import HandS.TupAny
import HandS.CallSlots
import HandS.EndBits
import HandS.Deep
import HandS.Replace
import HandS.WideBits
import HandS.StrMore
import HandS.Conv
import HandS.Steps
import HandS.SortRule
import KE.GoesMore
import PyProof.EnumMake
import HandS.List
import PyProof.P3In
import HandS.TupMul
import HandS.Style
import HandS.Text
import HandS.Codes
import KE.KTryMore
import HandS.TryOnly
import HandS.ExcOwn
import HandS.ExcField
import HandS.ExcIs
import HandS.Small
import KE.KIsAll
import HandS.ExcInit
import HandS.Nested
import KE.KExcSuper
import PyProof.Rows.ListStrD
import PySem.Challenge.RW_counterheld_k12_whole_texts_that_are_no
set_option maxHeartbeats 200000
set_option Elab.async false
set_option linter.all false
set_option maxRecDepth 100000
/-! MD: data with cells over the abstract heap: worlds, what stands for what, promises over data. -/
namespace MD
open PySem PySem.Spec PyProof.Rows L2

/-- data; lst: a list that nobody writes any more; scr: the script; ref: a cell; con: a class or a def as it is -/
inductive Lit where
  | non | bl (b : Bool) | int (i : Int) | str (x : Str)
def Lit.v : Lit → V
  | .non => .non
  | .bl b => .bl b
  | .int i => .int i
  | .str x => .str x
/-- exc: an exception that an except suite holds: its address, class, dict, fields -/
inductive D where
  | non | bl (b : Bool) | int (i : Int) | str (x : Str)
  | tup (ds : List D) | lst (ds : List D) | scr (ns : List Int) | ref (i : Nat) | con (v : V) | exc (a : Addr) (cls : Value) (d : Option Addr) (fs : List (Str × Lit)) | dct
inductive Cell where
  | lst (ds : List D) | dic (kvs : List (Key × D)) | dit (kvs : List (List Key × D)) | ins (C : Addr) (fs : List (Str × D)) | dead
abbrev MH := List Cell
/-- cells' addresses, cells, addresses held back, the heap -/
structure Wd where
  m : List Addr
  M : MH
  r : List Addr
  H : Hp
def Live (w : Wd) (a : Addr) : Prop := ∃ (i : Nat) (c : Cell), w.m[i]? = some a ∧ w.M[i]? = some c ∧ c ≠ Cell.dead

mutual
def Rep (K : PySem.W.Frag) (w : Wd) : D → V → Prop
  | .non, v => v = .non
  | .bl b, v => v = .bl b
  | .int i, v => v = .int i
  | .str x, v => v = .str x
  | .con u, v => v = u
  | .dct, v => ∃ a es, v = .ref a ∧ w.H a = some (.dK es) ∧ ¬ Live w a ∧ a ∉ w.r
  | .exc a cls d fs, v => v = .ref a ∧ ((d = none ∧ fs = []) ∨ ∃ dd, d = some dd ∧ w.H dd = some (.xd (fs.map fun p => (p.1, p.2.v))))
  | .tup ds, v => ∃ a xs, v = .ref a ∧ SqT K w.H a xs ∧ RepL K w ds xs
  | .lst ds, v => ∃ a xs, v = .ref a ∧ w.H a = some (.lst xs) ∧ ¬ Live w a ∧ a ∉ w.r ∧ RepL K w ds xs
  | .scr ns, v => ∃ a, v = .ref a ∧ ((∃ o, w.H a = some (.frz o (.lst (ns.map V.int)))) ∨ (∀ H, SqL K H a (ns.map V.int)))
  | .ref i, v => ∃ a, v = .ref a ∧ w.m[i]? = some a
def RepL (K : PySem.W.Frag) (w : Wd) : List D → List V → Prop
  | [], xs => xs = []
  | d :: ds, xs => ∃ x r, xs = x :: r ∧ Rep K w d x ∧ RepL K w ds r
end

def RepF (K : PySem.W.Frag) (w : Wd) (fs : List (Str × D)) (gs : List (Str × V)) : Prop := gs.map (·.1) = fs.map (·.1) ∧ RepL K w (fs.map (·.2)) (gs.map (·.2))
def RepK {κ : Type} (K : PySem.W.Frag) (w : Wd) (kvs : List (κ × D)) (es : List (κ × V)) : Prop := es.map (·.1) = kvs.map (·.1) ∧ RepL K w (kvs.map (·.2)) (es.map (·.2))
def CellOk (K : PySem.W.Frag) (w : Wd) (a : Addr) : Cell → Prop
  | .lst ds => ∃ xs, w.H a = some (.lst xs) ∧ RepL K w ds xs
  | .dic kvs => ∃ es, w.H a = some (.dK es) ∧ RepK K w kvs es
  | .dit kvs => ∃ es, w.H a = some (.dT es) ∧ RepK K w kvs es
  | .ins C fs => ∃ dx gs, w.H a = some (.ins C dx gs) ∧ RepF K w fs gs
  | .dead => ∃ u, w.H a = some u
structure RH (K : PySem.W.Frag) (w : Wd) : Prop where
  len : w.m.length = w.M.length
  nd : w.m.Nodup
  dr : ∀ a ∈ w.m, a ∉ w.r
  ok : ∀ (i : Nat) (a : Addr) (c : Cell), w.m[i]? = some a → w.M[i]? = some c → CellOk K w a c
  rk : ∀ a ∈ w.r, ∃ xs, w.H a = some (.lst xs)
structure Le (w w1 : Wd) : Prop where
  pre : ∃ t, w1.m = w.m ++ t ∧ ∀ a ∈ t, w.H a = none
  dead : ∀ i : Nat, w.M[i]? = some Cell.dead → w1.M[i]? = some Cell.dead
  keep : ∀ a u, w.H a = some u → ¬ Live w a → w1.H a = some u
  rr : ∃ s, w1.r = s ++ w.r ∧ ∀ a ∈ s, w.H a = none

theorem Le.refl (w : Wd) : Le w w := ⟨⟨[], by simp, by simp⟩, fun _ h => h, fun _ _ h _ => h, ⟨[], rfl, by simp⟩⟩
variable {K : PySem.W.Frag} {w w1 w2 : Wd}
theorem CellOk.there {a : Addr} : ∀ {c : Cell}, CellOk K w a c → ∃ u, w.H a = some u
  | .lst _, ⟨_, h, _⟩ => ⟨_, h⟩
  | .dic _, ⟨_, h, _⟩ => ⟨_, h⟩
  | .dit _, ⟨_, h, _⟩ => ⟨_, h⟩
  | .ins _ _, ⟨_, _, h, _⟩ => ⟨_, h⟩
  | .dead, h => h
theorem RH.at_ (r : RH K w) {i : Nat} {a : Addr} (h : w.m[i]? = some a) : ∃ c, w.M[i]? = some c ∧ CellOk K w a c := by
  have hi : i < w.m.length := (List.getElem?_eq_some_iff.mp h).1
  have hM : i < w.M.length := by rw [← r.len]; exact hi
  exact ⟨w.M[i], List.getElem?_eq_getElem hM, r.ok i a _ h (List.getElem?_eq_getElem hM)⟩
theorem RH.there (r : RH K w) {a : Addr} (h : a ∈ w.m) : ∃ u, w.H a = some u := by
  obtain ⟨i, hi, e⟩ := List.getElem_of_mem h
  have h2 : w.m[i]? = some a := by rw [List.getElem?_eq_getElem hi, e]
  obtain ⟨c, _, ok⟩ := r.at_ h2
  exact ok.there
theorem Le.live (r : RH K w) (l : Le w w1) {a : Addr} {u : HO} (h : w.H a = some u) (n : ¬ Live w a) : ¬ Live w1 a := by
  rintro ⟨i, c, e, ec, nd⟩
  obtain ⟨t, et, ft⟩ := l.pre
  rw [et] at e
  by_cases hi : i < w.m.length
  · rw [List.getElem?_append_left hi] at e
    obtain ⟨c2, e2, _⟩ := r.at_ e
    by_cases hd : c2 = Cell.dead
    · rw [hd] at e2
      have := l.dead i e2
      rw [this] at ec; cases ec; exact nd rfl
    · exact n ⟨i, _, e, e2, hd⟩
  · rw [List.getElem?_append_right (by omega)] at e
    have := ft a (List.mem_of_getElem? e)
    rw [h] at this; cases this
theorem Le.back (r : RH K w) (r1 : RH K w1) (a : Le w w1) {x : Addr} (h : w1.H x = none) : w.H x = none := by
  obtain ⟨t, et, ft⟩ := a.pre
  cases q : w.H x with
  | none => rfl
  | some u =>
    by_cases n : Live w x
    · obtain ⟨i, c, e, ec, nd⟩ := n
      have hm : x ∈ w1.m := by rw [et]; exact List.mem_append_left _ (List.mem_of_getElem? e)
      obtain ⟨u1, h1⟩ := r1.there hm
      rw [h] at h1; cases h1
    · have := a.keep x u q n
      rw [h] at this; cases this
theorem Le.trans (r : RH K w) (r1 : RH K w1) (a : Le w w1) (b : Le w1 w2) : Le w w2 := by
  obtain ⟨t, et, ft⟩ := a.pre
  obtain ⟨t2, et2, ft2⟩ := b.pre
  obtain ⟨s, es, fs⟩ := a.rr
  obtain ⟨s2, es2, fs2⟩ := b.rr
  refine ⟨⟨t ++ t2, by rw [et2, et, List.append_assoc], fun x hx => ?_⟩, fun i h => b.dead i (a.dead i h), fun x u h n => b.keep x u (a.keep x u h n) (a.live r h n), ⟨s2 ++ s, by rw [es2, es, List.append_assoc], fun x hx => ?_⟩⟩
  · rcases List.mem_append.mp hx with h | h
    · exact ft x h
    · exact a.back r r1 (ft2 x h)
  · rcases List.mem_append.mp hx with h | h
    · exact a.back r r1 (fs2 x h)
    · exact fs x h
def cellKind : HO → Bool
  | .lst _ | .dK _ | .dT _ | .ins _ _ _ => true
  | _ => false
theorem RH.kind_dead (r : RH K w) {a : Addr} {u : HO} (h : w.H a = some u) (hu : cellKind u = false) : ¬ Live w a := by
  rintro ⟨i, c, e, ec, nd⟩
  have ok := r.ok i a c e ec
  cases c with
  | lst ds => obtain ⟨xs, h1, _⟩ := ok; rw [h] at h1; cases h1; cases hu
  | dic ds => obtain ⟨xs, h1, _⟩ := ok; rw [h] at h1; cases h1; cases hu
  | dit ds => obtain ⟨xs, h1, _⟩ := ok; rw [h] at h1; cases h1; cases hu
  | ins C fs => obtain ⟨_, xs, h1, _⟩ := ok; rw [h] at h1; cases h1; cases hu
  | dead => exact nd rfl

/-- a tuple is no live cell -/
theorem RH.tup_dead (r : RH K w) {a : Addr} {u : HO} (h : w.H a = some u) (hu : (∃ xs, u = .tup xs) ∨ (∃ o v, u = .frz o v)) : ¬ Live w a := by
  rintro ⟨i, c, e, ec, nd⟩
  have ok := r.ok i a c e ec
  cases c with
  | lst ds => obtain ⟨xs, h1, _⟩ := ok; rw [h] at h1; cases h1; rcases hu with ⟨_, z⟩ | ⟨_, _, z⟩ <;> cases z
  | dic ds => obtain ⟨xs, h1, _⟩ := ok; rw [h] at h1; cases h1; rcases hu with ⟨_, z⟩ | ⟨_, _, z⟩ <;> cases z
  | dit ds => obtain ⟨xs, h1, _⟩ := ok; rw [h] at h1; cases h1; rcases hu with ⟨_, z⟩ | ⟨_, _, z⟩ <;> cases z
  | ins C fs => obtain ⟨_, xs, h1, _⟩ := ok; rw [h] at h1; cases h1; rcases hu with ⟨_, z⟩ | ⟨_, _, z⟩ <;> cases z
  | dead => exact nd rfl
theorem Le.nr (l : Le w w1) {a : Addr} {u : HO} (h : w.H a = some u) (n : a ∉ w.r) : a ∉ w1.r := by
  obtain ⟨s, es, fs⟩ := l.rr
  rw [es]
  intro z
  rcases List.mem_append.mp z with z | z
  · rw [fs a z] at h; cases h
  · exact n z
theorem Le.sqT (r : RH K w) (l : Le w w1) {a : Addr} {xs : List V} (h : SqT K w.H a xs) : SqT K w1.H a xs := by
  rcases h with (h | ⟨o, h⟩) | h
  · exact .inl (.inl (l.keep a _ h (r.tup_dead h (.inl ⟨_, rfl⟩))))
  · exact .inl (.inr ⟨o, l.keep a _ h (r.tup_dead h (.inr ⟨_, _, rfl⟩))⟩)
  · exact .inr h
mutual
theorem Rep.le (r : RH K w) (l : Le w w1) : ∀ (d : D) {v : V}, Rep K w d v → Rep K w1 d v
  | .non, _, h => by simpa [Rep] using h
  | .bl b, _, h => by simpa [Rep] using h
  | .int i, _, h => by simpa [Rep] using h
  | .str x, _, h => by simpa [Rep] using h
  | .con u, _, h => by simpa [Rep] using h
  | .dct, _, h => by
    simp only [Rep] at h ⊢
    obtain ⟨a, xs, e, hs, nl, nr⟩ := h
    exact ⟨a, xs, e, l.keep a _ hs nl, l.live r hs nl, l.nr hs nr⟩
  | .exc a cls d fs, _, h => by
    simp only [Rep] at h ⊢
    obtain ⟨e, h | ⟨dd, e1, h1⟩⟩ := h
    · exact ⟨e, .inl h⟩
    · exact ⟨e, .inr ⟨dd, e1, l.keep dd _ h1 (r.kind_dead h1 rfl)⟩⟩
  | .tup ds, _, h => by
    simp only [Rep] at h ⊢
    obtain ⟨a, xs, e, hs, hr⟩ := h
    exact ⟨a, xs, e, l.sqT r hs, RepL.le r l ds hr⟩
  | .lst ds, _, h => by
    simp only [Rep] at h ⊢
    obtain ⟨a, xs, e, hs, nl, nr, hr⟩ := h
    exact ⟨a, xs, e, l.keep a _ hs nl, l.live r hs nl, l.nr hs nr, RepL.le r l ds hr⟩
  | .scr ns, _, h => by
    simp only [Rep] at h ⊢
    obtain ⟨a, e, h | h⟩ := h
    · obtain ⟨o, h⟩ := h
      exact ⟨a, e, .inl ⟨o, l.keep a _ h (r.tup_dead h (.inr ⟨_, _, rfl⟩))⟩⟩
    · exact ⟨a, e, .inr h⟩
  | .ref i, _, h => by
    simp only [Rep] at h ⊢
    obtain ⟨a, e, h⟩ := h
    obtain ⟨t, et, _⟩ := l.pre
    exact ⟨a, e, by rw [et, List.getElem?_append_left (List.getElem?_eq_some_iff.mp h).1]; exact h⟩
theorem RepL.le (r : RH K w) (l : Le w w1) : ∀ (ds : List D) {xs : List V}, RepL K w ds xs → RepL K w1 ds xs
  | [], _, h => by simpa [RepL] using h
  | d :: ds, _, h => by
    simp only [RepL] at h ⊢
    obtain ⟨x, r', e, h1, h2⟩ := h
    exact ⟨x, r', e, Rep.le r l d h1, RepL.le r l ds h2⟩
end
theorem RepL.length : ∀ {ds : List D} {xs : List V}, RepL K w ds xs → xs.length = ds.length
  | [], _, h => by simp only [RepL] at h; subst h; rfl
  | d :: ds, _, h => by
    simp only [RepL] at h
    obtain ⟨x, r, rfl, _, h⟩ := h
    simp [RepL.length h]
theorem RepL.get : ∀ {ds : List D} {xs : List V} {i : Nat} {d : D}, RepL K w ds xs → ds[i]? = some d → ∃ x, xs[i]? = some x ∧ Rep K w d x
  | [], _, _, _, _, e => by simp at e
  | d :: ds, _, 0, _, h, e => by
    simp only [RepL] at h
    obtain ⟨x, r, rfl, h1, h⟩ := h
    simp at e; subst e
    exact ⟨x, rfl, h1⟩
  | d :: ds, _, i + 1, _, h, e => by
    simp only [RepL] at h
    obtain ⟨x, r, rfl, h1, h⟩ := h
    exact RepL.get (i := i) h (by simpa using e)
theorem RepL.back : ∀ {ds : List D} {xs : List V} {i : Nat} {x : V}, RepL K w ds xs → xs[i]? = some x → ∃ d, ds[i]? = some d ∧ Rep K w d x
  | [], _, _, _, h, e => by simp only [RepL] at h; subst h; simp at e
  | d :: ds, _, 0, _, h, e => by
    simp only [RepL] at h
    obtain ⟨x, r, rfl, h1, h⟩ := h
    simp at e; subst e
    exact ⟨d, rfl, h1⟩
  | d :: ds, _, i + 1, _, h, e => by
    simp only [RepL] at h
    obtain ⟨x, r, rfl, h1, h⟩ := h
    exact RepL.back (i := i) h (by simpa using e)
theorem RepL.append : ∀ {ds es : List D} {xs ys : List V}, RepL K w ds xs → RepL K w es ys → RepL K w (ds ++ es) (xs ++ ys)
  | [], _, _, _, h, q => by simp only [RepL] at h; subst h; exact q
  | d :: ds, _, _, _, h, q => by
    simp only [RepL] at h
    obtain ⟨x, r, rfl, h1, h⟩ := h
    exact ⟨x, r ++ _, rfl, h1, RepL.append h q⟩
theorem RepL.cons {d : D} {ds : List D} {x : V} {xs : List V} (h : Rep K w d x) (q : RepL K w ds xs) : RepL K w (d :: ds) (x :: xs) := ⟨x, xs, rfl, h, q⟩
theorem RepL.nil : RepL K w [] [] := rfl
theorem RepL.take : ∀ (n : Nat) {ds : List D} {xs : List V}, RepL K w ds xs → RepL K w (ds.take n) (xs.take n)
  | 0, _, _, _ => by simp [RepL]
  | n + 1, [], _, h => by simp only [RepL] at h; subst h; simp [RepL]
  | n + 1, d :: ds, _, h => by
    simp only [RepL] at h
    obtain ⟨x, r, rfl, h1, h⟩ := h
    exact ⟨x, r.take n, rfl, h1, RepL.take n h⟩
theorem RepL.drop : ∀ (n : Nat) {ds : List D} {xs : List V}, RepL K w ds xs → RepL K w (ds.drop n) (xs.drop n)
  | 0, _, _, h => by simpa using h
  | n + 1, [], _, h => by simp only [RepL] at h; subst h; simp [RepL]
  | n + 1, d :: ds, _, h => by
    simp only [RepL] at h
    obtain ⟨x, r, rfl, h1, h⟩ := h
    exact RepL.drop n h
theorem RepL.set {d : D} {x : V} (hd : Rep K w d x) : ∀ (i : Nat) {ds : List D} {xs : List V}, RepL K w ds xs → RepL K w (ds.set i d) (xs.set i x)
  | _, [], _, h => by simp only [RepL] at h; subst h; simp [RepL]
  | 0, e :: ds, _, h => by
    simp only [RepL] at h
    obtain ⟨y, r, rfl, h1, h⟩ := h
    exact ⟨x, r, rfl, hd, h⟩
  | i + 1, e :: ds, _, h => by
    simp only [RepL] at h
    obtain ⟨y, r, rfl, h1, h⟩ := h
    exact ⟨y, r.set i x, rfl, h1, RepL.set hd i h⟩
theorem RepL.eraseIdx : ∀ (i : Nat) {ds : List D} {xs : List V}, RepL K w ds xs → RepL K w (ds.eraseIdx i) (xs.eraseIdx i)
  | _, [], _, h => by simp only [RepL] at h; subst h; simp [RepL]
  | 0, e :: ds, _, h => by
    simp only [RepL] at h
    obtain ⟨y, r, rfl, h1, h⟩ := h
    simpa using h
  | i + 1, e :: ds, _, h => by
    simp only [RepL] at h
    obtain ⟨y, r, rfl, h1, h⟩ := h
    exact ⟨y, r.eraseIdx i, rfl, h1, RepL.eraseIdx i h⟩
theorem RepL.ints : ∀ (ns : List Int), RepL K w (ns.map D.int) (ns.map V.int)
  | [] => rfl
  | n :: ns => ⟨.int n, ns.map V.int, rfl, rfl, RepL.ints ns⟩
theorem CellOk.le (r : RH K w) (l : Le w w1) {a : Addr} {c : Cell} (e : w1.H a = w.H a) (h : CellOk K w a c) : CellOk K w1 a c := by
  cases c with
  | lst ds => obtain ⟨xs, h1, h2⟩ := h; exact ⟨xs, e.trans h1, RepL.le r l _ h2⟩
  | dic kvs => obtain ⟨xs, h1, h2⟩ := h; exact ⟨xs, e.trans h1, h2.1, RepL.le r l _ h2.2⟩
  | dit kvs => obtain ⟨xs, h1, h2⟩ := h; exact ⟨xs, e.trans h1, h2.1, RepL.le r l _ h2.2⟩
  | ins C fs => obtain ⟨dx, gs, h1, h2⟩ := h; exact ⟨dx, gs, e.trans h1, h2.1, RepL.le r l _ h2.2⟩
  | dead => obtain ⟨u, h⟩ := h; exact ⟨u, e.trans h⟩
/-! ### steps of worlds -/
/-- a new object that is no cell -/
def Wd.new (w : Wd) (p : Addr) (o : HO) : Wd := { w with H := upd w.H p o }
theorem Le.new {p : Addr} {o : HO} (h : w.H p = none) : Le w (w.new p o) :=
  ⟨⟨[], by simp [Wd.new], by simp⟩, fun _ h => h, fun a u e _ => by
    show upd w.H p o a = some u
    rw [upd_ne (ne_of_none e h)]; exact e, ⟨[], rfl, by simp⟩⟩
theorem RH.new {p : Addr} {o : HO} (r : RH K w) (h : w.H p = none) : RH K (w.new p o) := by
  refine ⟨r.len, r.nd, r.dr, fun i a c e ec => (r.ok i a c e ec).le r (Le.new h) ?_, fun a ha => ?_⟩
  · obtain ⟨u, hu⟩ := (r.ok i a c e ec).there
    show upd w.H p o a = w.H a
    rw [upd_ne (ne_of_none hu h)]
  · obtain ⟨xs, hx⟩ := r.rk a ha
    exact ⟨xs, by show upd w.H p o a = _; rw [upd_ne (ne_of_none hx h)]; exact hx⟩
theorem RH.not_live_new {p : Addr} (r : RH K w) (h : w.H p = none) : ¬ Live w p := by
  rintro ⟨i, c, e, ec, _⟩
  obtain ⟨u, hu⟩ := (r.ok i p c e ec).there
  rw [h] at hu; cases hu
theorem RH.not_r_new {p : Addr} (r : RH K w) (h : w.H p = none) : p ∉ w.r := fun hp => by
  obtain ⟨xs, hx⟩ := r.rk p hp
  rw [h] at hx; cases hx
theorem rep_new_tup {p : Addr} {ds : List D} {xs : List V} (r : RH K w) (h : w.H p = none) (hr : RepL K w ds xs) : Rep K (w.new p (.tup xs)) (.tup ds) (.ref p) := by
  simp only [Rep]
  exact ⟨p, xs, rfl, .inl (.inl upd_same), RepL.le r (Le.new h) _ hr⟩
theorem rep_new_lst {p : Addr} {ds : List D} {xs : List V} (r : RH K w) (h : w.H p = none) (hr : RepL K w ds xs) : Rep K (w.new p (.lst xs)) (.lst ds) (.ref p) := by
  simp only [Rep]
  refine ⟨p, xs, rfl, upd_same, ?_, r.not_r_new h, RepL.le r (Le.new h) _ hr⟩
  exact fun z => r.not_live_new h z
/-- a new cell -/
def Wd.cell (w : Wd) (p : Addr) (o : HO) (c : Cell) : Wd := { w with m := w.m ++ [p], M := w.M ++ [c], H := upd w.H p o }
theorem Le.cell {p : Addr} {o : HO} {c : Cell} (r : RH K w) (h : w.H p = none) : Le w (w.cell p o c) :=
  ⟨⟨[p], rfl, fun a ha => by rw [List.mem_singleton.mp ha]; exact h⟩, fun i e => by
    show (w.M ++ [c])[i]? = _
    rw [List.getElem?_append_left (List.getElem?_eq_some_iff.mp e).1]; exact e, fun a u e _ => by
    show upd w.H p o a = some u
    rw [upd_ne (ne_of_none e h)]; exact e, ⟨[], rfl, by simp⟩⟩
theorem RH.cell {p : Addr} {o : HO} {c : Cell} (r : RH K w) (h : w.H p = none) (hc : CellOk K (w.cell p o c) p c) : RH K (w.cell p o c) := by
  have hne : ∀ {a : Addr}, a ∈ w.m → a ≠ p := fun {a} ha z => by
    obtain ⟨u, hu⟩ := r.there ha
    rw [z, h] at hu; cases hu
  refine ⟨by simp [Wd.cell, r.len], ?_, fun a ha => ?_, fun i a c' e ec => ?_, fun a ha => ?_⟩
  · show (w.m ++ [p]).Nodup
    rw [List.nodup_append]
    refine ⟨r.nd, by simp, fun a ha b hb => ?_⟩
    rw [List.mem_singleton.mp hb]; exact hne ha
  · rcases List.mem_append.mp ha with ha | ha
    · exact r.dr a ha
    · rw [List.mem_singleton.mp ha]; exact r.not_r_new h
  · by_cases hi : i < w.m.length
    · have e' : w.m[i]? = some a := by
        have : (w.m ++ [p])[i]? = some a := e
        rwa [List.getElem?_append_left hi] at this
      have ec' : w.M[i]? = some c' := by
        have : (w.M ++ [c])[i]? = some c' := ec
        rwa [List.getElem?_append_left (by rw [← r.len]; exact hi)] at this
      refine (r.ok i a c' e' ec').le r (Le.cell r h) ?_
      show upd w.H p o a = w.H a
      rw [upd_ne (hne (List.mem_of_getElem? e'))]
    · have e' : (w.m ++ [p])[i]? = some a := e
      have ec' : (w.M ++ [c])[i]? = some c' := ec
      rw [List.getElem?_append_right (by omega)] at e'
      rw [List.getElem?_append_right (by rw [← r.len]; omega)] at ec'
      have h0 : i - w.m.length = 0 := by
        have := (List.getElem?_eq_some_iff.mp e').1
        simp at this; omega
      rw [h0] at e'
      rw [← r.len, h0] at ec'
      simp at e' ec'
      subst e' ec'
      exact hc
  · obtain ⟨xs, hx⟩ := r.rk a ha
    exact ⟨xs, by show upd w.H p o a = _; rw [upd_ne (ne_of_none hx h)]; exact hx⟩
theorem RH.cell_ix (r : RH K w) {p : Addr} {o : HO} {c : Cell} : Rep K (w.cell p o c) (.ref w.M.length) (.ref p) := by
  simp only [Rep]
  refine ⟨p, rfl, ?_⟩
  show (w.m ++ [p])[w.M.length]? = some p
  rw [← r.len]; simp
/-- a cell is written -/
def Wd.put (w : Wd) (i : Nat) (a : Addr) (o : HO) (c : Cell) : Wd := { w with M := w.M.set i c, H := upd w.H a o }
theorem Le.put {i : Nat} {a : Addr} {o : HO} {c c0 : Cell} (r : RH K w) (e : w.m[i]? = some a) (e0 : w.M[i]? = some c0) (h0 : c0 ≠ Cell.dead) : Le w (w.put i a o c) :=
  ⟨⟨[], by simp [Wd.put], by simp⟩, fun j h => by
    show (w.M.set i c)[j]? = _
    have hne : i ≠ j := fun z => by subst z; rw [e0] at h; cases h; exact h0 rfl
    rw [List.getElem?_set_ne hne]; exact h, fun b u hb n => by
    show upd w.H a o b = some u
    rw [upd_ne fun z => n (by subst z; exact ⟨i, c0, e, e0, h0⟩)]; exact hb, ⟨[], rfl, by simp⟩⟩
theorem nd_ix' {α : Type} {l : List α} (hN : l.Nodup) {i j : Nat} {x : α} (a : l[i]? = some x) (b : l[j]? = some x) : i = j := nd_ix hN a b
theorem RH.put {i : Nat} {a : Addr} {o : HO} {c c0 : Cell} (r : RH K w) (e : w.m[i]? = some a) (e0 : w.M[i]? = some c0) (h0 : c0 ≠ Cell.dead) (hc : CellOk K (w.put i a o c) a c) : RH K (w.put i a o c) := by
  refine ⟨by simp [Wd.put, r.len], r.nd, r.dr, fun j b c' ej ec => ?_, fun b hb => ?_⟩
  · by_cases hji : j = i
    · subst hji
      have : b = a := Option.some.inj ((show w.m[j]? = some b from ej).symm.trans e)
      subst this
      have ec' : (w.M.set j c)[j]? = some c' := ec
      rw [List.getElem?_set_self (List.getElem?_eq_some_iff.mp e0).1] at ec'
      cases ec'; exact hc
    · have ec' : (w.M.set i c)[j]? = some c' := ec
      rw [List.getElem?_set_ne (Ne.symm hji)] at ec'
      refine (r.ok j b c' ej ec').le r (Le.put r e e0 h0) ?_
      show upd w.H a o b = w.H b
      rw [upd_ne]
      rintro rfl
      exact hji (nd_ix r.nd ej e)
  · obtain ⟨xs, hx⟩ := r.rk b hb
    refine ⟨xs, ?_⟩
    show upd w.H a o b = _
    rw [upd_ne]; exact hx
    rintro rfl
    exact r.dr b (List.mem_of_getElem? e) hb
/-- a cell is never written again -/
def Wd.kill (w : Wd) (i : Nat) : Wd := { w with M := w.M.set i Cell.dead }
theorem Le.kill {i : Nat} : Le w (w.kill i) :=
  ⟨⟨[], by simp [Wd.kill], by simp⟩, fun j h => by
    show (w.M.set i Cell.dead)[j]? = _
    by_cases hj : i = j
    · subst hj; exact List.getElem?_set_self (List.getElem?_eq_some_iff.mp h).1
    · rw [List.getElem?_set_ne hj]; exact h, fun _ _ h _ => h, ⟨[], rfl, by simp⟩⟩
theorem RH.kill {i : Nat} (r : RH K w) : RH K (w.kill i) := by
  refine ⟨by simp [Wd.kill, r.len], r.nd, r.dr, fun j b c' ej ec => ?_, r.rk⟩
  have ec' : (w.M.set i Cell.dead)[j]? = some c' := ec
  by_cases hj : i = j
  · subst hj
    have hl : i < w.M.length := by
      have := (List.getElem?_eq_some_iff.mp ec').1
      simpa using this
    rw [List.getElem?_set_self hl] at ec'
    cases ec'
    obtain ⟨c, _, ok⟩ := r.at_ ej
    exact ok.there
  · rw [List.getElem?_set_ne hj] at ec'
    exact (r.ok j b c' ej ec').le r Le.kill rfl
theorem rep_kill {i : Nat} {a : Addr} {ds : List D} (r : RH K w) (e : w.m[i]? = some a) (ec : w.M[i]? = some (Cell.lst ds)) : Rep K (w.kill i) (.lst ds) (.ref a) := by
  obtain ⟨xs, h1, h2⟩ := r.ok i a _ e ec
  simp only [Rep]
  refine ⟨a, xs, rfl, h1, ?_, r.dr a (List.mem_of_getElem? e), RepL.le r Le.kill _ h2⟩
  rintro ⟨j, c, ej, ecj, nd⟩
  have hj : j = i := nd_ix r.nd ej e
  subst hj
  have ecj' : (w.M.set j Cell.dead)[j]? = some c := ecj
  rw [List.getElem?_set_self (List.getElem?_eq_some_iff.mp ec).1] at ecj'
  cases ecj'; exact nd rfl
/-! ### a list held back -/
def Wd.hold (w : Wd) (p : Addr) : Wd := { w with H := upd w.H p (.lst []), r := p :: w.r }
theorem Le.hold {p : Addr} (h : w.H p = none) : Le w (w.hold p) :=
  ⟨⟨[], by simp [Wd.hold], by simp⟩, fun _ h => h, fun a u e _ => by
    show upd w.H p _ a = some u
    rw [upd_ne (ne_of_none e h)]; exact e, ⟨[p], rfl, fun a ha => by rw [List.mem_singleton.mp ha]; exact h⟩⟩
theorem RH.hold {p : Addr} (r : RH K w) (h : w.H p = none) : RH K (w.hold p) := by
  refine ⟨r.len, r.nd, fun a ha z => ?_, fun i a c e ec => (r.ok i a c e ec).le r (Le.hold h) ?_, fun a ha => ?_⟩
  · rcases List.mem_cons.mp z with z | z
    · obtain ⟨u, hu⟩ := r.there ha
      rw [z, h] at hu; cases hu
    · exact r.dr a ha z
  · obtain ⟨u, hu⟩ := (r.ok i a c e ec).there
    show upd w.H p _ a = w.H a
    rw [upd_ne (ne_of_none hu h)]
  · rcases List.mem_cons.mp ha with z | z
    · subst z; exact ⟨[], upd_same⟩
    · obtain ⟨xs, hx⟩ := r.rk a z
      exact ⟨xs, by show upd w.H p _ a = _; rw [upd_ne (ne_of_none hx h)]; exact hx⟩
theorem RH.r_dead (r : RH K w) {p : Addr} (h : p ∈ w.r) : ¬ Live w p := by
  rintro ⟨i, c, e, _, _⟩
  exact r.dr p (List.mem_of_getElem? e) h
/-- the held list changes -/
def Wd.turn (w : Wd) (p : Addr) (ys : List V) : Wd := { w with H := upd w.H p (.lst ys) }
mutual
theorem Rep.turn {p : Addr} {xs ys : List V} (hp : p ∈ w.r) (hl : w.H p = some (.lst xs)) : ∀ (d : D) {v : V}, Rep K w d v → Rep K (w.turn p ys) d v
  | .non, _, h => by simpa [Rep] using h
  | .bl b, _, h => by simpa [Rep] using h
  | .int i, _, h => by simpa [Rep] using h
  | .str x, _, h => by simpa [Rep] using h
  | .con u, _, h => by simpa [Rep] using h
  | .exc a cls d fs, _, h => by
    simp only [Rep] at h ⊢
    obtain ⟨e, h | ⟨dd, e1, h1⟩⟩ := h
    · exact ⟨e, .inl h⟩
    · exact ⟨e, .inr ⟨dd, e1, by show upd w.H p _ dd = _; rw [upd_ne (ne_of h1 hl (by intro z; cases z))]; exact h1⟩⟩
  | .dct, _, h => by
    simp only [Rep] at h ⊢
    obtain ⟨a, zs, e, hs, nl, nr⟩ := h
    exact ⟨a, zs, e, by show upd w.H p _ a = _; rw [upd_ne (fun z => nr (by rw [z]; exact hp))]; exact hs, nl, nr⟩
  | .tup ds, _, h => by
    simp only [Rep] at h ⊢
    obtain ⟨a, zs, e, hs, hr⟩ := h
    refine ⟨a, zs, e, ?_, RepL.turn hp hl ds hr⟩
    rcases hs with (hs | ⟨o, hs⟩) | hs
    · exact .inl (.inl (by show upd w.H p _ a = _; rw [upd_ne (ne_of hs hl (by intro z; cases z))]; exact hs))
    · exact .inl (.inr ⟨o, by show upd w.H p _ a = _; rw [upd_ne (ne_of hs hl (by intro z; cases z))]; exact hs⟩)
    · exact .inr hs
  | .lst ds, _, h => by
    simp only [Rep] at h ⊢
    obtain ⟨a, zs, e, hs, nl, nr, hr⟩ := h
    refine ⟨a, zs, e, by show upd w.H p _ a = _; rw [upd_ne (fun z => nr (by rw [z]; exact hp))]; exact hs, nl, nr, RepL.turn hp hl ds hr⟩
  | .scr ns, _, h => by
    simp only [Rep] at h ⊢
    obtain ⟨a, e, h | h⟩ := h
    · obtain ⟨o, h⟩ := h
      exact ⟨a, e, .inl ⟨o, by show upd w.H p _ a = _; rw [upd_ne (ne_of h hl (by intro z; cases z))]; exact h⟩⟩
    · exact ⟨a, e, .inr h⟩
  | .ref i, _, h => by simp only [Rep] at h ⊢; exact h
theorem RepL.turn {p : Addr} {xs ys : List V} (hp : p ∈ w.r) (hl : w.H p = some (.lst xs)) : ∀ (ds : List D) {vs : List V}, RepL K w ds vs → RepL K (w.turn p ys) ds vs
  | [], _, h => by simpa [RepL] using h
  | d :: ds, _, h => by
    simp only [RepL] at h ⊢
    obtain ⟨x, r', e, h1, h2⟩ := h
    exact ⟨x, r', e, Rep.turn hp hl d h1, RepL.turn hp hl ds h2⟩
end
theorem RH.turn {p : Addr} {xs ys : List V} (r : RH K w) (hp : p ∈ w.r) (hl : w.H p = some (.lst xs)) : RH K (w.turn p ys) := by
  have hne : ∀ {a : Addr}, a ∈ w.m → upd w.H p (.lst ys) a = w.H a := fun {a} ha => upd_ne fun z => r.dr a ha (by rw [z]; exact hp)
  refine ⟨r.len, r.nd, r.dr, fun i a c e ec => ?_, fun a ha => ?_⟩
  · have h := r.ok i a c e ec
    have e2 : (w.turn p ys).H a = w.H a := hne (List.mem_of_getElem? e)
    cases c with
    | lst ds => obtain ⟨xs, h1, h2⟩ := h; exact ⟨xs, e2.trans h1, RepL.turn hp hl _ h2⟩
    | dic kvs => obtain ⟨xs, h1, h2⟩ := h; exact ⟨xs, e2.trans h1, h2.1, RepL.turn hp hl _ h2.2⟩
    | dit kvs => obtain ⟨xs, h1, h2⟩ := h; exact ⟨xs, e2.trans h1, h2.1, RepL.turn hp hl _ h2.2⟩
    | ins C fs => obtain ⟨dx, gs, h1, h2⟩ := h; exact ⟨dx, gs, e2.trans h1, h2.1, RepL.turn hp hl _ h2.2⟩
    | dead => obtain ⟨u, h⟩ := h; exact ⟨u, e2.trans h⟩
  · by_cases z : a = p
    · subst z; exact ⟨ys, upd_same⟩
    · obtain ⟨xs, hx⟩ := r.rk a ha
      exact ⟨xs, by show upd w.H p _ a = _; rw [upd_ne z]; exact hx⟩
/-! what is held back is let go -/
mutual
theorem Rep.drop {s : List Addr} (hs : ∀ a ∈ s, a ∈ w.r) : ∀ (d : D) {v : V}, Rep K w d v → Rep K { w with r := s } d v
  | .non, _, h => by simpa [Rep] using h
  | .bl b, _, h => by simpa [Rep] using h
  | .int i, _, h => by simpa [Rep] using h
  | .str x, _, h => by simpa [Rep] using h
  | .con u, _, h => by simpa [Rep] using h
  | .exc a cls d fs, _, h => by simp only [Rep] at h ⊢; exact h
  | .dct, _, h => by
    simp only [Rep] at h ⊢
    obtain ⟨a, zs, e, h1, nl, nr⟩ := h
    exact ⟨a, zs, e, h1, nl, fun z => nr (hs a z)⟩
  | .tup ds, _, h => by
    simp only [Rep] at h ⊢
    obtain ⟨a, zs, e, h1, hr⟩ := h
    exact ⟨a, zs, e, h1, RepL.dropr hs ds hr⟩
  | .lst ds, _, h => by
    simp only [Rep] at h ⊢
    obtain ⟨a, zs, e, h1, nl, nr, hr⟩ := h
    exact ⟨a, zs, e, h1, nl, fun z => nr (hs a z), RepL.dropr hs ds hr⟩
  | .scr ns, _, h => by simp only [Rep] at h ⊢; exact h
  | .ref i, _, h => by simp only [Rep] at h ⊢; exact h
theorem RepL.dropr {s : List Addr} (hs : ∀ a ∈ s, a ∈ w.r) : ∀ (ds : List D) {vs : List V}, RepL K w ds vs → RepL K { w with r := s } ds vs
  | [], _, h => by simpa [RepL] using h
  | d :: ds, _, h => by
    simp only [RepL] at h ⊢
    obtain ⟨x, r', e, h1, h2⟩ := h
    exact ⟨x, r', e, Rep.drop hs d h1, RepL.dropr hs ds h2⟩
end
theorem RH.drop {s : List Addr} (r : RH K w) (hs : ∀ a ∈ s, a ∈ w.r) : RH K { w with r := s } := by
  refine ⟨r.len, r.nd, fun a ha z => r.dr a ha (hs a z), fun i a c e ec => ?_, fun a ha => r.rk a (hs a ha)⟩
  have h := r.ok i a c e ec
  cases c with
  | lst ds => obtain ⟨xs, h1, h2⟩ := h; exact ⟨xs, h1, RepL.dropr hs _ h2⟩
  | dic kvs => obtain ⟨xs, h1, h2⟩ := h; exact ⟨xs, h1, h2.1, RepL.dropr hs _ h2.2⟩
  | dit kvs => obtain ⟨xs, h1, h2⟩ := h; exact ⟨xs, h1, h2.1, RepL.dropr hs _ h2.2⟩
  | ins C fs => obtain ⟨dx, gs, h1, h2⟩ := h; exact ⟨dx, gs, h1, h2.1, RepL.dropr hs _ h2.2⟩
  | dead => exact h
end MD
/-! MD: judgements over data, their lifting to the layer's readings. -/
namespace MD
open PySem PySem.Spec PyProof.Rows L2

variable {K : PySem.W.Frag} {w w1 w2 : Wd}
/-- the class that a name of the module, or of the built-ins, stands for -/
def ClsOf (K : PySem.W.Frag) (n : Str) (c : Value) : Prop := PySem.W.nsIn K mainGlobals n = some (some c) ∨ (PySem.W.nsIn K mainGlobals n = some none ∧ bootBuiltins n = some c)
theorem ClsOf.one {K : PySem.W.Frag} {n : Str} {c c' : Value} (h : ClsOf K n c) (k : ClsOf K n c') : c = c' := by
  rcases h with h | ⟨h, h2⟩ <;> rcases k with k | ⟨k, k2⟩
  · rw [h] at k; exact Option.some.inj (Option.some.inj k)
  · rw [h] at k; cases k
  · rw [h] at k; cases k
  · rw [h2] at k2; exact Option.some.inj k2
/-- an exception: its class by name, its fields -/
structure Xc where
  cls : Str
  fs : List (Str × Lit)
def fsV (fs : List (Str × Lit)) : List (Str × V) := fs.map fun p => (p.1, p.2.v)
def RepX (K : PySem.W.Frag) (w : Wd) (x : Xc) (cls : Value) (dx : Option Addr) : Prop :=
  ClsOf K x.cls cls ∧ ((dx = none ∧ x.fs = []) ∨ ∃ a, dx = some a ∧ w.H a = some (.xd (fsV x.fs)))
theorem RepX.le (r : RH K w) (l : Le w w1) {x : Xc} {cls : Value} {dx : Option Addr} (h : RepX K w x cls dx) : RepX K w1 x cls dx := by
  obtain ⟨e, h | ⟨a, e1, h1⟩⟩ := h
  · exact ⟨e, .inl h⟩
  · exact ⟨e, .inr ⟨a, e1, l.keep a _ h1 (r.kind_dead h1 rfl)⟩⟩

abbrev EnvD := List (Option D)
abbrev QE := D → MH → Prop
abbrev QX := Xc → MH → Prop
abbrev TE' := EnvD → MH → QE → QX → Prop
abbrev TT' := EnvD → MH → (Bool → MH → Prop) → QX → Prop
abbrev TA' := EnvD → MH → (List D → MH → Prop) → QX → Prop
structure Ends' where
  nx : EnvD → MH → Prop
  rt : QE
  bk : EnvD → MH → Prop := fun _ _ => False
  ct : EnvD → MH → Prop := fun _ _ => False
  ex : Xc → EnvD → MH → Prop := fun _ _ _ => False
abbrev TS' := Ends' → EnvD → MH → Prop
abbrev TG' := D → EnvD → MH → (EnvD → MH → Prop) → Prop

def MonoE (t : TE') : Prop := ∀ δ M (Q Q' : QE) (E E' : QX), (∀ d M, Q d M → Q' d M) → (∀ x M, E x M → E' x M) → t δ M Q E → t δ M Q' E'
def MonoT (t : TT') : Prop := ∀ δ M (Q Q' : Bool → MH → Prop) (E E' : QX), (∀ d M, Q d M → Q' d M) → (∀ x M, E x M → E' x M) → t δ M Q E → t δ M Q' E'
def MonoA (t : TA') : Prop := ∀ δ M (Q Q' : List D → MH → Prop) (E E' : QX), (∀ d M, Q d M → Q' d M) → (∀ x M, E x M → E' x M) → t δ M Q E → t δ M Q' E'
structure Ends'.le (D D' : Ends') : Prop where
  nx : ∀ δ M, D.nx δ M → D'.nx δ M
  rt : ∀ d M, D.rt d M → D'.rt d M
  bk : ∀ δ M, D.bk δ M → D'.bk δ M
  ct : ∀ δ M, D.ct δ M → D'.ct δ M
  ex : ∀ x δ M, D.ex x δ M → D'.ex x δ M
theorem Ends'.le.refl (D : Ends') : D.le D := ⟨fun _ _ h => h, fun _ _ h => h, fun _ _ h => h, fun _ _ h => h, fun _ _ _ h => h⟩
def MonoS (t : TS') : Prop := ∀ δ M (D D' : Ends'), D.le D' → t D δ M → t D' δ M
def MonoG (g : TG') : Prop := ∀ d δ M (Q Q' : EnvD → MH → Prop), (∀ δ M, Q δ M → Q' δ M) → g d δ M Q → g d δ M Q'

/-! ### slots -/
def RepS (K : PySem.W.Frag) (w : Wd) (δ : EnvD) (σ : L2.St) : Prop := δ.length = σ.length ∧ ∀ (i : Nat) (d : D), δ[i]? = some (some d) → ∃ v, σ[i]? = some (some v) ∧ Rep K w d v
theorem RepS.le {δ : EnvD} {σ : L2.St} (r : RH K w) (l : Le w w1) (h : RepS K w δ σ) : RepS K w1 δ σ :=
  ⟨h.1, fun i d e => let ⟨v, e1, h1⟩ := h.2 i d e; ⟨v, e1, Rep.le r l d h1⟩⟩
theorem RepS.set {δ : EnvD} {σ : L2.St} (h : RepS K w δ σ) (i : Nat) {d : D} {v : V} (hd : Rep K w d v) : RepS K w (δ.set i (some d)) (σ.set i (some v)) := by
  refine ⟨by simp [h.1], fun j e q => ?_⟩
  by_cases hj : i = j
  · subst hj
    have hi : i < δ.length := by
      have := (List.getElem?_eq_some_iff.mp q).1
      simpa using this
    rw [List.getElem?_set_self hi] at q
    cases q
    exact ⟨v, List.getElem?_set_self (by rw [← h.1]; exact hi), hd⟩
  · rw [List.getElem?_set_ne hj] at q
    obtain ⟨u, e1, h1⟩ := h.2 j e q
    exact ⟨u, by rw [List.getElem?_set_ne hj]; exact e1, h1⟩
theorem RepS.wipe1 {δ : EnvD} {σ : L2.St} (h : RepS K w δ σ) (i : Nat) (x : Option V) : RepS K w (δ.set i none) (σ.set i x) := by
  refine ⟨by simp [h.1], fun j e q => ?_⟩
  by_cases hj : i = j
  · subst hj
    have hi : i < δ.length := by
      have := (List.getElem?_eq_some_iff.mp q).1
      simpa using this
    rw [List.getElem?_set_self hi] at q
    cases q
  · rw [List.getElem?_set_ne hj] at q
    obtain ⟨u, e1, h1⟩ := h.2 j e q
    exact ⟨u, by rw [List.getElem?_set_ne hj]; exact e1, h1⟩

/-! ### lifted wishes -/
def PV (K : PySem.W.Frag) (w : Wd) (Q : VK) : QE := fun d M1 => ∀ v w1, w1.M = M1 → Le w w1 → RH K w1 → Rep K w1 d v → Q v w1.H
def PB (K : PySem.W.Frag) (w : Wd) (Q : Bool → Hp → Prop) : Bool → MH → Prop := fun b M1 => ∀ w1, w1.M = M1 → Le w w1 → RH K w1 → Q b w1.H
def PL (K : PySem.W.Frag) (w : Wd) (Q : List V → Hp → Prop) : List D → MH → Prop := fun ds M1 => ∀ vs w1, w1.M = M1 → Le w w1 → RH K w1 → RepL K w1 ds vs → Q vs w1.H
def PX (K : PySem.W.Frag) (w : Wd) (W : Value → Option Addr → Hp → Prop) : QX := fun x M1 => ∀ cls dx w1, w1.M = M1 → Le w w1 → RH K w1 → RepX K w1 x cls dx → W cls dx w1.H
def PN (K : PySem.W.Frag) (w : Wd) (Q : L2.St → Hp → Prop) : EnvD → MH → Prop := fun δ M1 => ∀ σ w1, w1.M = M1 → Le w w1 → RH K w1 → RepS K w1 δ σ → Q σ w1.H
theorem PV.le {Q : VK} {d : D} {M : MH} (r : RH K w) (r1 : RH K w1) (l : Le w w1) (h : PV K w Q d M) : PV K w1 Q d M := fun v w2 e l2 r2 q => h v w2 e (l.trans r r1 l2) r2 q
theorem PB.le {Q : Bool → Hp → Prop} {d : Bool} {M : MH} (r : RH K w) (r1 : RH K w1) (l : Le w w1) (h : PB K w Q d M) : PB K w1 Q d M := fun w2 e l2 r2 => h w2 e (l.trans r r1 l2) r2
theorem PL.le {Q : List V → Hp → Prop} {d : List D} {M : MH} (r : RH K w) (r1 : RH K w1) (l : Le w w1) (h : PL K w Q d M) : PL K w1 Q d M := fun v w2 e l2 r2 q => h v w2 e (l.trans r r1 l2) r2 q
theorem PX.le {W : Value → Option Addr → Hp → Prop} {d : Xc} {M : MH} (r : RH K w) (r1 : RH K w1) (l : Le w w1) (h : PX K w W d M) : PX K w1 W d M := fun c v w2 e l2 r2 q => h c v w2 e (l.trans r r1 l2) r2 q
theorem PN.le {Q : L2.St → Hp → Prop} {δ : EnvD} {M : MH} (r : RH K w) (r1 : RH K w1) (l : Le w w1) (h : PN K w Q δ M) : PN K w1 Q δ M := fun v w2 e l2 r2 q => h v w2 e (l.trans r r1 l2) r2 q

def up (K : PySem.W.Frag) (W : WX) (t : TE') : TE := fun σ H Q => ∃ (w : Wd) (δ : EnvD), w.H = H ∧ RH K w ∧ RepS K w δ σ ∧ t δ w.M (PV K w Q) (PX K w fun c d H => W c d σ H)
def upT (K : PySem.W.Frag) (W : WX) (t : TT') : TT := fun σ H Q => ∃ (w : Wd) (δ : EnvD), w.H = H ∧ RH K w ∧ RepS K w δ σ ∧ t δ w.M (PB K w Q) (PX K w fun c d H => W c d σ H)
def upA (K : PySem.W.Frag) (W : WX) (t : TA') : TA := fun σ H Q => ∃ (w : Wd) (δ : EnvD), w.H = H ∧ RH K w ∧ RepS K w δ σ ∧ t δ w.M (PL K w Q) (PX K w fun c d H => W c d σ H)
def PXS (K : PySem.W.Frag) (w : Wd) (W : WX) : Xc → EnvD → MH → Prop := fun x δ M1 => ∀ cls dx σ w1, w1.M = M1 → Le w w1 → RH K w1 → RepS K w1 δ σ → RepX K w1 x cls dx → W cls dx σ w1.H
theorem PXS.le {W : WX} {d : Xc} {δ : EnvD} {M : MH} (r : RH K w) (r1 : RH K w1) (l : Le w w1) (h : PXS K w W d δ M) : PXS K w1 W d δ M := fun c v σ w2 e l2 r2 s q => h c v σ w2 e (l.trans r r1 l2) r2 s q
def endsD (K : PySem.W.Frag) (w : Wd) (W : WX) (D : Ends) : Ends' := { nx := PN K w D.nx, rt := PV K w D.rt, bk := PN K w D.bk, ct := PN K w D.ct, ex := PXS K w W }
theorem endsD.le {W : WX} {D : Ends} (r : RH K w) (r1 : RH K w1) (l : Le w w1) : (endsD K w W D).le (endsD K w1 W D) :=
  ⟨fun _ _ h => h.le r r1 l, fun _ _ h => h.le r r1 l, fun _ _ h => h.le r r1 l, fun _ _ h => h.le r r1 l, fun _ _ _ h => h.le r r1 l⟩
def upS (K : PySem.W.Frag) (W : WX) (t : TS') : TS := fun D σ H => ∃ (w : Wd) (δ : EnvD), w.H = H ∧ RH K w ∧ RepS K w δ σ ∧ t (endsD K w W D) δ w.M
def upG (K : PySem.W.Frag) (g : TG') : TG := fun v σ H Q => ∃ (w : Wd) (δ : EnvD) (d : D), w.H = H ∧ RH K w ∧ RepS K w δ σ ∧ Rep K w d v ∧ g d δ w.M (PN K w Q)

structure ME (X : Cx) (W : WX) (e : Expr) (t : TE') : Prop where
  pe : PE X e (up X.K W t)
  mono : MonoE t
structure MT (X : Cx) (W : WX) (e : Expr) (t : TT') : Prop where
  pt : PT X e (upT X.K W t)
  mono : MonoT t
structure MW (X : Cx) (W : WX) (e : Expr) (t : TT') : Prop where
  pw : PW X e (upT X.K W t)
  mono : MonoT t
structure MA (X : Cx) (W : WX) (e : List Expr) (t : TA') : Prop where
  pa : PA X e (upA X.K W t)
  mono : MonoA t
structure MS (X : Cx) (W : WX) (st : Stmt) (t : TS') : Prop where
  ps : PS X st (upS X.K W t)
  mono : MonoS t
structure MSs (X : Cx) (W : WX) (st : List Stmt) (t : TS') : Prop where
  ps : PSs X st (upS X.K W t)
  mono : MonoS t
structure MG (X : Cx) (e : Expr) (g : TG') : Prop where
  pg : PG X e (upG X.K g)
  mono : MonoG g

/-! ### weaker readings -/
variable {X : Cx} {W : WX} {e a b c : Expr} {pos : Pos}
theorem PE.imp {t t' : TE} (h : PE X e t) (i : ∀ σ H Q, t' σ H Q → t σ H Q) : PE X e t' := ⟨fun pins s σ H Q I q => h.run pins s σ H Q I (i _ _ _ q)⟩
theorem PT.imp {t t' : TT} (h : PT X e t) (i : ∀ σ H Q, t' σ H Q → t σ H Q) : PT X e t' := ⟨fun pins s σ H Q I q => h.run pins s σ H Q I (i _ _ _ q)⟩
theorem PW.imp {t t' : TT} (h : PW X e t) (i : ∀ σ H Q, t' σ H Q → t σ H Q) : PW X e t' := ⟨fun wh pins s σ H Q I q => h.run wh pins s σ H Q I (i _ _ _ q)⟩
theorem PA.imp {es : List Expr} {t t' : TA} (h : PA X es t) (i : ∀ σ H Q, t' σ H Q → t σ H Q) : PA X es t' := ⟨fun p pins s σ H Q I q => h.run p pins s σ H Q I (i _ _ _ q)⟩
theorem PS.imp {st : Stmt} {t t' : TS} (h : PS X st t) (i : ∀ D σ H, t' D σ H → t D σ H) : PS X st t' := ⟨fun pins s σ H Q I q => h.run pins s σ H Q I (i _ _ _ q)⟩
theorem PSs.imp {st : List Stmt} {t t' : TS} (h : PSs X st t) (i : ∀ D σ H, t' D σ H → t D σ H) : PSs X st t' := ⟨fun pins s σ H Q I q => h.run pins s σ H Q I (i _ _ _ q)⟩

/-! ### values -/
def tVar' (i : Nat) : TE' := fun δ M Q _ => ∃ d, δ[i]? = some (some d) ∧ Q d M
def tC' (d : D) : TE' := fun _ M Q _ => Q d M
theorem mono_var {i : Nat} : MonoE (tVar' i) := fun _ _ _ _ _ _ q _ ⟨d, e, h⟩ => ⟨d, e, q _ _ h⟩
theorem mono_c {d : D} : MonoE (tC' d) := fun _ _ _ _ _ _ q _ h => q _ _ h
theorem mv (i : Nat) {x : Str} {pos : Pos} (hN : X.N[i]? = some x := by rfl) (hv : Vis X.env.scope x := by first | exact Or.inl rfl | exact Or.inr (Or.inl rfl) | exact Or.inr (Or.inr rfl)) (hd : (x == ("__debug__" : Str)) = false := by decide)
    (hcd : (x == ("__classdict__" : Str)) = false := by decide) : ME X W (.Name x pos) (tVar' i) :=
  ⟨PE.imp (pe_var hN hv hd hcd) fun σ H Q ⟨w, δ, e, r, s, d, ed, q⟩ => by
    obtain ⟨v, ev, hr⟩ := s.2 i d ed
    subst e
    exact ⟨v, ev, q v w rfl (Le.refl w) r hr⟩, mono_var⟩
theorem me_c {v : V} {d : D} (h : PE X e (tC v)) (hr : ∀ w, Rep X.K w d v) : ME X W e (tC' d) :=
  ⟨PE.imp h fun σ H Q ⟨w, δ, e, r, s, q⟩ => by
    subst e
    exact q v w rfl (Le.refl w) r (hr w), mono_c⟩
theorem me_int {i : Int} {j : Nat} : ME X W (.Constant (.int i) j pos) (tC' (.int i)) := me_c pe_int fun _ => by simp [Rep]
theorem me_bl {i : Bool} {j : Nat} : ME X W (.Constant (.bool i) j pos) (tC' (.bl i)) := me_c pe_bl fun _ => by simp [Rep]
theorem me_non {j : Nat} : ME X W (.Constant .none j pos) (tC' .non) := me_c pe_non fun _ => by simp [Rep]
theorem me_str {x : Str} {j : Nat} : ME X W (.Constant (.str x) j pos) (tC' (.str x)) := me_c pe_str fun _ => by simp [Rep]
/-- a constant of the module -/
theorem me_glob {x : Str} {d : D} {v : V} {u : Value} (hg : Gl X x) (hm : X.mg x = some u) (r : RelV v u) (hr : ∀ w, Rep X.K w d v) (hd : (x == ("__debug__" : Str)) = false := by decide) : ME X W (.Name x pos) (tC' d) := me_c (pe_glob hg hm r hd) hr

/-! ### operators by values -/
abbrev R2' := D → D → MH → QE → Prop
abbrev R1' := D → MH → QE → Prop
abbrev RA' := List D → MH → QE → Prop
def Lift2 (K : PySem.W.Frag) (r : R2) (r' : R2') : Prop := ∀ (w : Wd) (x y : V) (dx dy : D) (Q : VK), RH K w → Rep K w dx x → Rep K w dy y → r' dx dy w.M (PV K w Q) → r x y w.H Q
def Lift1 (K : PySem.W.Frag) (r : V → Hp → VK → Prop) (r' : R1') : Prop := ∀ (w : Wd) (x : V) (dx : D) (Q : VK), RH K w → Rep K w dx x → r' dx w.M (PV K w Q) → r x w.H Q
def LiftA (K : PySem.W.Frag) (r : List V → Hp → VK → Prop) (r' : RA') : Prop := ∀ (w : Wd) (xs : List V) (ds : List D) (Q : VK), RH K w → RepL K w ds xs → r' ds w.M (PV K w Q) → r xs w.H Q
def Mono2 (r : R2') : Prop := ∀ x y M (Q Q' : QE), (∀ d M, Q d M → Q' d M) → r x y M Q → r x y M Q'
def Mono1 (r : R1') : Prop := ∀ x M (Q Q' : QE), (∀ d M, Q d M → Q' d M) → r x M Q → r x M Q'
def MonoR (r : RA') : Prop := ∀ x M (Q Q' : QE), (∀ d M, Q d M → Q' d M) → r x M Q → r x M Q'
def tOp' (r : R2') (ta tb : TE') : TE' := fun δ M Q E => ta δ M (fun x M1 => tb δ M1 (fun y M2 => r x y M2 Q) E) E
def tUn' (r : R1') (ta : TE') : TE' := fun δ M Q E => ta δ M (fun x M1 => r x M1 Q) E
theorem mono_op {r : R2'} {ta tb : TE'} (hr : Mono2 r) (ha : MonoE ta) (hb : MonoE tb) : MonoE (tOp' r ta tb) := fun δ M Q Q' E E' q x h =>
  ha δ M _ _ E E' (fun d M1 h1 => hb δ M1 _ _ E E' (fun d2 M2 h2 => hr _ _ _ _ _ q h2) x h1) x h
theorem mono_un {r : R1'} {ta : TE'} (hr : Mono1 r) (ha : MonoE ta) : MonoE (tUn' r ta) := fun δ M Q Q' E E' q x h =>
  ha δ M _ _ E E' (fun d M1 h1 => hr _ _ _ _ q h1) x h
/-- the step: what holds of an expression's data, at its end -/
theorem up_go {ta : TE'} (ma : MonoE ta) {σ : L2.St} {δ : EnvD} {G : VK} {Q0 : QE} {E0 : QX} {w : Wd} (r : RH K w) (s : RepS K w δ σ) (h : ta δ w.M Q0 E0)
    (hE : ∀ x M, E0 x M → PX K w (fun c d H => W c d σ H) x M)
    (hG : ∀ d v w1, Le w w1 → RH K w1 → RepS K w1 δ σ → Rep K w1 d v → Q0 d w1.M → G v w1.H) : up K W ta σ w.H G :=
  ⟨w, δ, rfl, r, s, ma _ _ _ _ _ _ (fun d M q v w1 e l r1 rv => by subst e; exact hG d v w1 l r1 (s.le r l) rv q) hE h⟩
theorem op2_lift {r : R2} {r' : R2'} {ta tb : TE'} (L : Lift2 K r r') (mr : Mono2 r') (ma : MonoE ta) (mb : MonoE tb) (σ : L2.St) (H : Hp) (Q : VK) (h : up K W (tOp' r' ta tb) σ H Q) : tOp r (up K W ta) (up K W tb) σ H Q := by
  obtain ⟨w, δ, rfl, rh, rs, h⟩ := h
  refine up_go ma rh rs h (fun _ _ x => x) fun dx vx w1 l1 rh1 rs1 rx h1 => ?_
  refine up_go mb rh1 rs1 h1 (fun _ _ x => x.le rh rh1 l1) fun dy vy w2 l2 rh2 rs2 ry h2 => ?_
  refine L w2 vx vy dx dy Q rh2 (rx.le rh1 l2) ry (mr _ _ _ _ _ (fun d M q => (q.le rh rh1 l1).le rh1 rh2 l2) h2)
theorem me_op {op : Operator} {r : R2} {r' : R2'} {ta tb : TE'} (ho : OpR X (binaryOp op) r) (L : Lift2 X.K r r') (mr : Mono2 r') (ha : ME X W a ta) (hb : ME X W b tb) : ME X W (.BinOp a op b pos) (tOp' r' ta tb) :=
  ⟨PE.imp (pe_op ho ha.pe hb.pe) (op2_lift L mr ha.mono hb.mono), mono_op mr ha.mono hb.mono⟩
theorem me_cmp {op : CmpOp} {r : R2} {r' : R2'} {ta tb : TE'} (ho : OpR X (compareOp op) r) (L : Lift2 X.K r r') (mr : Mono2 r') (ha : ME X W a ta) (hb : ME X W b tb) (hm : behindInMarks op b = false) : ME X W (.Compare a [op] [b] pos) (tOp' r' ta tb) :=
  ⟨PE.imp (pe_cmpR ho ha.pe hb.pe hm) (op2_lift L mr ha.mono hb.mono), mono_op mr ha.mono hb.mono⟩
theorem me_ix {r : R2} {r' : R2'} {ta tb : TE'} (ho : IxR X r) (L : Lift2 X.K r r') (mr : Mono2 r') (ha : ME X W a ta) (hb : ME X W b tb) (hs : PlainIx b) : ME X W (.Subscript a b pos) (tOp' r' ta tb) :=
  ⟨PE.imp (pe_ix ho ha.pe hb.pe hs) (op2_lift L mr ha.mono hb.mono), mono_op mr ha.mono hb.mono⟩
theorem me_un {op : UnaryOp} {r : V → Hp → VK → Prop} {r' : R1'} {ta : TE'} (ho : UnR X (unaryOp op) r) (L : Lift1 X.K r r') (mr : Mono1 r') (ha : ME X W a ta) : ME X W (.UnaryOp op a pos) (tUn' r' ta) :=
  ⟨PE.imp (pe_un ho ha.pe) fun σ H Q ⟨w, δ, e, rh, rs, h⟩ => by
    subst e
    refine up_go ha.mono rh rs h (fun _ _ x => x) fun dx vx w1 l1 rh1 rs1 rx h1 => ?_
    exact L w1 vx dx Q rh1 rx (mr _ _ _ _ (fun d M q => q.le rh rh1 l1) h1), mono_un mr ha.mono⟩

/-! ### tests -/
def tB' (t : TE') : TT' := fun δ M Q E => t δ M (fun d M1 => ∃ c, d = .bl c ∧ Q c M1) E
theorem mono_B {t : TE'} (h : MonoE t) : MonoT (tB' t) := fun δ M Q Q' E E' q x hh => h δ M _ _ E E' (fun d M1 ⟨c, e, h1⟩ => ⟨c, e, q _ _ h1⟩) x hh
theorem rep_bl {v : V} {b : Bool} (h : Rep K w (.bl b) v) : v = .bl b := by simpa [Rep] using h
theorem rep_int {v : V} {i : Int} (h : Rep K w (.int i) v) : v = .int i := by simpa [Rep] using h
theorem rep_str {v : V} {i : Str} (h : Rep K w (.str i) v) : v = .str i := by simpa [Rep] using h
theorem rep_non {v : V} (h : Rep K w .non v) : v = .non := by simpa [Rep] using h
theorem mt_cmp {op : CmpOp} {r : R2} {r' : R2'} {ta tb : TE'} (ho : OpR X (compareOp op) r) (L : Lift2 X.K r r') (mr : Mono2 r') (ha : ME X W a ta) (hb : ME X W b tb) (hm : behindInMarks op b = false) : MT X W (.Compare a [op] [b] pos) (tB' (tOp' r' ta tb)) :=
  ⟨PT.imp (pt_cmpR ho ha.pe hb.pe hm) fun σ H Q ⟨w, δ, e, rh, rs, h⟩ => by
    refine op2_lift L mr ha.mono hb.mono σ H (fun x H' => ∃ k, x = .bl k ∧ Q k H') ⟨w, δ, e, rh, rs, ?_⟩
    refine mono_op mr ha.mono hb.mono _ _ _ _ _ _ (fun d M ⟨c, e, h1⟩ v w1 e1 l r1 rv => ?_) (fun _ _ x => x) h
    subst e
    exact ⟨c, rep_bl rv, h1 w1 e1 l r1⟩, mono_B (mono_op mr ha.mono hb.mono)⟩
theorem mt_val {t : TE'} (h : ME X W e t) (he : ∀ whole, isTrue e X.env whole = (do let v ← whole; standAt e.pos; holding [v] (truthy v)) := by intro _; rfl) : MT X W e (tB' t) :=
  ⟨PT.imp (pt_val h.pe he) fun σ H Q ⟨w, δ, e, rh, rs, h1⟩ => ⟨w, δ, e, rh, rs, h.mono _ _ _ _ _ _ (fun d M ⟨c, e2, h2⟩ v w1 e1 l r1 rv => by
    subst e2; exact ⟨c, rep_bl rv, h2 w1 e1 l r1⟩) (fun _ _ x => x) h1⟩, mono_B h.mono⟩
def tAnd' (t u : TT') : TT' := fun δ M Q E => t δ M (fun c M1 => if c = true then u δ M1 Q E else Q false M1) E
def tOr' (t u : TT') : TT' := fun δ M Q E => t δ M (fun c M1 => if c = true then Q true M1 else u δ M1 Q E) E
def tNot' (t : TT') : TT' := fun δ M Q E => t δ M (fun c M1 => Q (!c) M1) E
theorem mono_and {t u : TT'} (h : MonoT t) (k : MonoT u) : MonoT (tAnd' t u) := fun δ M Q Q' E E' q x hh => h δ M _ _ E E' (fun c M1 h1 => by
  cases c with
  | true => exact k _ _ _ _ _ _ q x h1
  | false => exact q _ _ h1) x hh
theorem mono_or {t u : TT'} (h : MonoT t) (k : MonoT u) : MonoT (tOr' t u) := fun δ M Q Q' E E' q x hh => h δ M _ _ E E' (fun c M1 h1 => by
  cases c with
  | false => exact k _ _ _ _ _ _ q x h1
  | true => exact q _ _ h1) x hh
theorem mono_not {t : TT'} (h : MonoT t) : MonoT (tNot' t) := fun δ M Q Q' E E' q x hh => h δ M _ _ E E' (fun c M1 h1 => q _ _ h1) x hh
theorem upT_go {t : TT'} (ma : MonoT t) {σ : L2.St} {δ : EnvD} {G : Bool → Hp → Prop} {Q0 : Bool → MH → Prop} {E0 : QX} {w : Wd} (r : RH K w) (s : RepS K w δ σ) (h : t δ w.M Q0 E0)
    (hE : ∀ x M, E0 x M → PX K w (fun c d H => W c d σ H) x M)
    (hG : ∀ b w1, Le w w1 → RH K w1 → RepS K w1 δ σ → Q0 b w1.M → G b w1.H) : upT K W t σ w.H G :=
  ⟨w, δ, rfl, r, s, ma _ _ _ _ _ _ (fun d M q w1 e l r1 => by subst e; exact hG d w1 l r1 (s.le r l) q) hE h⟩
theorem and_lift {t u : TT'} (mt : MonoT t) (mu : MonoT u) (σ : L2.St) (H : Hp) (Q : Bool → Hp → Prop) (h : upT K W (tAnd' t u) σ H Q) : tAnd (upT K W t) (upT K W u) σ H Q := by
  obtain ⟨w, δ, rfl, rh, rs, h⟩ := h
  refine upT_go mt rh rs h (fun _ _ x => x) fun c w1 l1 rh1 rs1 h1 => ?_
  cases c with
  | true => exact upT_go mu rh1 rs1 h1 (fun _ _ x => x.le rh rh1 l1) fun c w2 l2 rh2 rs2 h2 => h2 w2 rfl (l1.trans rh rh1 l2) rh2
  | false => exact h1 w1 rfl l1 rh1
theorem or_lift {t u : TT'} (mt : MonoT t) (mu : MonoT u) (σ : L2.St) (H : Hp) (Q : Bool → Hp → Prop) (h : upT K W (tOr' t u) σ H Q) : tOr (upT K W t) (upT K W u) σ H Q := by
  obtain ⟨w, δ, rfl, rh, rs, h⟩ := h
  refine upT_go mt rh rs h (fun _ _ x => x) fun c w1 l1 rh1 rs1 h1 => ?_
  cases c with
  | false => exact upT_go mu rh1 rs1 h1 (fun _ _ x => x.le rh rh1 l1) fun c w2 l2 rh2 rs2 h2 => h2 w2 rfl (l1.trans rh rh1 l2) rh2
  | true => exact h1 w1 rfl l1 rh1
theorem mw_and1 {t : TT'} (h : MT X W a t) : MW X W (.BoolOp .And [a] pos) t := ⟨pw_and1 h.pt, h.mono⟩
theorem mw_or1 {t : TT'} (h : MT X W a t) : MW X W (.BoolOp .Or [a] pos) t := ⟨pw_or1 h.pt, h.mono⟩
theorem mw_and {rest : List Expr} {t u : TT'} (h : MT X W a t) (k : MW X W (.BoolOp .And (b :: rest) pos) u) : MW X W (.BoolOp .And (a :: b :: rest) pos) (tAnd' t u) := ⟨PW.imp (pw_and h.pt k.pw) (and_lift h.mono k.mono), mono_and h.mono k.mono⟩
theorem mw_or {rest : List Expr} {t u : TT'} (h : MT X W a t) (k : MW X W (.BoolOp .Or (b :: rest) pos) u) : MW X W (.BoolOp .Or (a :: b :: rest) pos) (tOr' t u) := ⟨PW.imp (pw_or h.pt k.pw) (or_lift h.mono k.mono), mono_or h.mono k.mono⟩
theorem MW.mt {t : TT'} (h : MW X W e t) : MT X W e t := ⟨h.pw.pt, h.mono⟩
theorem mt_not {t : TT'} (h : MT X W a t) : MT X W (.UnaryOp .Not a pos) (tNot' t) :=
  ⟨PT.imp (pt_not h.pt) fun σ H Q ⟨w, δ, e, rh, rs, h1⟩ => ⟨w, δ, e, rh, rs, h.mono _ _ _ _ _ _ (fun c M q w1 e1 l r1 => q w1 e1 l r1) (fun _ _ x => x) h1⟩, mono_not h.mono⟩
/-- and, or, not as values -/
def tAndV' (ta tb : TE') : TE' := fun δ M Q E => ta δ M (fun x M1 => ∃ c, x = .bl c ∧ if c = true then tb δ M1 Q E else Q (.bl false) M1) E
def tOrV' (ta tb : TE') : TE' := fun δ M Q E => ta δ M (fun x M1 => ∃ c, x = .bl c ∧ if c = true then Q (.bl true) M1 else tb δ M1 Q E) E
def tNotV' (ta : TE') : TE' := fun δ M Q E => ta δ M (fun x M1 => ∃ c, x = .bl c ∧ Q (.bl (!c)) M1) E
theorem me_one {op : BoolOp} {t : TE'} (h : ME X W a t) : ME X W (.BoolOp op [a] pos) t := ⟨pe_one h.pe, h.mono⟩
theorem mono_andV {ta tb : TE'} (h : MonoE ta) (k : MonoE tb) : MonoE (tAndV' ta tb) := fun δ M Q Q' E E' q x hh => h δ M _ _ E E' (fun d M1 ⟨c, e, h1⟩ => ⟨c, e, by
  cases c with
  | true => exact k _ _ _ _ _ _ q x h1
  | false => exact q _ _ h1⟩) x hh
theorem mono_orV {ta tb : TE'} (h : MonoE ta) (k : MonoE tb) : MonoE (tOrV' ta tb) := fun δ M Q Q' E E' q x hh => h δ M _ _ E E' (fun d M1 ⟨c, e, h1⟩ => ⟨c, e, by
  cases c with
  | false => exact k _ _ _ _ _ _ q x h1
  | true => exact q _ _ h1⟩) x hh
theorem me_and {rest : List Expr} {ta tb : TE'} (ha : ME X W a ta) (hb : ME X W (.BoolOp .And (b :: rest) pos) tb) : ME X W (.BoolOp .And (a :: b :: rest) pos) (tAndV' ta tb) :=
  ⟨PE.imp (pe_and ha.pe hb.pe) fun σ H Q ⟨w, δ, e, rh, rs, h⟩ => by
    subst e
    refine up_go ha.mono rh rs h (fun _ _ x => x) fun d v w1 l1 rh1 rs1 rv ⟨c, e, h1⟩ => ?_
    subst e
    refine ⟨c, rep_bl rv, ?_⟩
    cases c with
    | true => exact up_go hb.mono rh1 rs1 h1 (fun _ _ x => x.le rh rh1 l1) fun d2 v2 w2 l2 rh2 rs2 rv2 h2 => h2 v2 w2 rfl (l1.trans rh rh1 l2) rh2 rv2
    | false => exact h1 _ w1 rfl l1 rh1 (by simp [Rep]), mono_andV ha.mono hb.mono⟩
theorem me_or {rest : List Expr} {ta tb : TE'} (ha : ME X W a ta) (hb : ME X W (.BoolOp .Or (b :: rest) pos) tb) : ME X W (.BoolOp .Or (a :: b :: rest) pos) (tOrV' ta tb) :=
  ⟨PE.imp (pe_or ha.pe hb.pe) fun σ H Q ⟨w, δ, e, rh, rs, h⟩ => by
    subst e
    refine up_go ha.mono rh rs h (fun _ _ x => x) fun d v w1 l1 rh1 rs1 rv ⟨c, e, h1⟩ => ?_
    subst e
    refine ⟨c, rep_bl rv, ?_⟩
    cases c with
    | false => exact up_go hb.mono rh1 rs1 h1 (fun _ _ x => x.le rh rh1 l1) fun d2 v2 w2 l2 rh2 rs2 rv2 h2 => h2 v2 w2 rfl (l1.trans rh rh1 l2) rh2 rv2
    | true => exact h1 _ w1 rfl l1 rh1 (by simp [Rep]), mono_orV ha.mono hb.mono⟩
theorem me_not {ta : TE'} (ha : ME X W a ta) : ME X W (.UnaryOp .Not a pos) (tNotV' ta) :=
  ⟨PE.imp (pe_not ha.pe) fun σ H Q ⟨w, δ, e, rh, rs, h⟩ => by
    subst e
    refine up_go ha.mono rh rs h (fun _ _ x => x) fun d v w1 l1 rh1 rs1 rv ⟨c, e, h1⟩ => ?_
    subst e
    exact ⟨c, rep_bl rv, h1 _ w1 rfl l1 rh1 (by simp [Rep])⟩, fun δ M Q Q' E E' q x hh => ha.mono δ M _ _ E E' (fun d M1 ⟨c, e, h1⟩ => ⟨c, e, q _ _ h1⟩) x hh⟩
def tIf' (t : TT') (ta tb : TE') : TE' := fun δ M Q E => t δ M (fun c M1 => if c = true then ta δ M1 Q E else tb δ M1 Q E) E
theorem me_if {t : TT'} {ta tb : TE'} (hc : MT X W c t) (ha : ME X W a ta) (hb : ME X W b tb) : ME X W (.IfExp c a b pos) (tIf' t ta tb) :=
  ⟨PE.imp (pe_ifExp hc.pt ha.pe hb.pe) fun σ H Q ⟨w, δ, e, rh, rs, h⟩ => by
    subst e
    refine upT_go hc.mono rh rs h (fun _ _ x => x) fun c w1 l1 rh1 rs1 h1 => ?_
    cases c with
    | true => exact up_go ha.mono rh1 rs1 h1 (fun _ _ x => x.le rh rh1 l1) fun d2 v2 w2 l2 rh2 rs2 rv2 h2 => h2 v2 w2 rfl (l1.trans rh rh1 l2) rh2 rv2
    | false => exact up_go hb.mono rh1 rs1 h1 (fun _ _ x => x.le rh rh1 l1) fun d2 v2 w2 l2 rh2 rs2 rv2 h2 => h2 v2 w2 rfl (l1.trans rh rh1 l2) rh2 rv2,
   fun δ M Q Q' E E' q x hh => hc.mono δ M _ _ E E' (fun c M1 h1 => by
    cases c with
    | true => exact ha.mono _ _ _ _ _ _ q x h1
    | false => exact hb.mono _ _ _ _ _ _ q x h1) x hh⟩

/-! ### arguments, displays -/
def tNil' : TA' := fun _ M Q _ => Q [] M
def tCons' (t : TE') (u : TA') : TA' := fun δ M Q E => t δ M (fun d M1 => u δ M1 (fun ds M2 => Q (d :: ds) M2) E) E
theorem mono_cons {t : TE'} {u : TA'} (h : MonoE t) (k : MonoA u) : MonoA (tCons' t u) := fun δ M Q Q' E E' q x hh => h _ _ _ _ _ _ (fun d M1 h1 => k _ _ _ _ _ _ (fun ds M2 h2 => q _ _ h2) x h1) x hh
theorem upA_go {ta : TA'} (ma : MonoA ta) {σ : L2.St} {δ : EnvD} {G : List V → Hp → Prop} {Q0 : List D → MH → Prop} {E0 : QX} {w : Wd} (r : RH K w) (s : RepS K w δ σ) (h : ta δ w.M Q0 E0)
    (hE : ∀ x M, E0 x M → PX K w (fun c d H => W c d σ H) x M)
    (hG : ∀ d v w1, Le w w1 → RH K w1 → RepS K w1 δ σ → RepL K w1 d v → Q0 d w1.M → G v w1.H) : upA K W ta σ w.H G :=
  ⟨w, δ, rfl, r, s, ma _ _ _ _ _ _ (fun d M q v w1 e l r1 rv => by subst e; exact hG d v w1 l r1 (s.le r l) rv q) hE h⟩
theorem ma_nil : MA X W [] tNil' := ⟨PA.imp pa_nil fun σ H Q ⟨w, δ, e, rh, rs, h⟩ => by subst e; exact h [] w rfl (Le.refl w) rh rfl, fun _ _ _ _ _ _ q _ h => q _ _ h⟩
theorem ma_cons {es : List Expr} {t : TE'} {u : TA'} (h : ME X W e t) (k : MA X W es u) (hs : starEach (e :: es) X.env = (false, eval e X.env) :: starEach es X.env := by rfl) : MA X W (e :: es) (tCons' t u) :=
  ⟨PA.imp (pa_cons h.pe k.pa hs) fun σ H Q ⟨w, δ, e, rh, rs, h1⟩ => by
    subst e
    refine up_go h.mono rh rs h1 (fun _ _ x => x) fun d v w1 l1 rh1 rs1 rv h1 => ?_
    refine upA_go k.mono rh1 rs1 h1 (fun _ _ x => x.le rh rh1 l1) fun d2 v2 w2 l2 rh2 rs2 rv2 h2 => ?_
    exact h2 _ w2 rfl (l1.trans rh rh1 l2) rh2 (RepL.cons (rv.le rh1 l2) rv2), mono_cons h.mono k.mono⟩
/-- a new list: a cell, or one that stays as it is -/
def newL (cell : Bool) (ds : List D) (M : MH) (Q : QE) : Prop := if cell = true then Q (.ref M.length) (M ++ [.lst ds]) else Q (.lst ds) M
theorem newL.mono {cell : Bool} {ds : List D} {M : MH} {Q Q' : QE} (q : ∀ d M, Q d M → Q' d M) (h : newL cell ds M Q) : newL cell ds M Q' := by
  cases cell with
  | true => exact q _ _ h
  | false => exact q _ _ h
theorem newL.lift {cell : Bool} {ds : List D} {xs : List V} {Q : VK} (rh : RH K w) (hr : RepL K w ds xs) (h : newL cell ds w.M (PV K w Q)) : ∀ p, w.H p = none → Q (.ref p) (upd w.H p (.lst xs)) := by
  intro p hp
  cases cell with
  | true =>
    have h : PV K w Q (.ref w.M.length) (w.M ++ [.lst ds]) := h
    have l : Le w (w.cell p (.lst xs) (.lst ds)) := Le.cell rh hp
    exact h (.ref p) (w.cell p (.lst xs) (.lst ds)) rfl l (rh.cell hp ⟨xs, upd_same, RepL.le rh l _ hr⟩) rh.cell_ix
  | false =>
    have h : PV K w Q (.lst ds) w.M := h
    exact h (.ref p) (w.new p (.lst xs)) rfl (Le.new hp) (rh.new hp) (rep_new_lst rh hp hr)
def newT (ds : List D) (M : MH) (Q : QE) : Prop := Q (.tup ds) M
theorem newT.lift {ds : List D} {xs : List V} {Q : VK} (rh : RH K w) (hr : RepL K w ds xs) (h : PV K w Q (.tup ds) w.M) : ∀ p, w.H p = none → Q (.ref p) (upd w.H p (.tup xs)) := fun p hp =>
  h (.ref p) (w.new p (.tup xs)) rfl (Le.new hp) (rh.new hp) (rep_new_tup rh hp hr)
def tTup' (t : TA') : TE' := fun δ M Q E => t δ M (fun ds M1 => ds.length ≤ sizeLine ∧ Q (.tup ds) M1) E
def tLst' (cell : Bool) (t : TA') : TE' := fun δ M Q E => t δ M (fun ds M1 => ds.length ≤ sizeLine ∧ newL cell ds M1 Q) E
theorem me_tup {es : List Expr} {x1} {t : TA'} (h : MA X W es t) : ME X W (.Tuple es x1 pos) (tTup' t) :=
  ⟨PE.imp (pe_tup h.pa) fun σ H Q ⟨w, δ, e, rh, rs, h1⟩ => by
    subst e
    refine upA_go h.mono rh rs h1 (fun _ _ x => x) fun d v w1 l1 rh1 rs1 rv ⟨hz, h2⟩ => ⟨by rw [rv.length]; exact hz, ?_⟩
    exact newT.lift rh1 rv (h2.le rh rh1 l1), fun δ M Q Q' E E' q x hh => h.mono _ _ _ _ _ _ (fun d M1 ⟨z, h1⟩ => ⟨z, q _ _ h1⟩) x hh⟩
theorem me_lst (cell : Bool) {es : List Expr} {t : TA'} (h : MA X W es t) : ME X W (.List es pos) (tLst' cell t) :=
  ⟨PE.imp (pe_lst h.pa) fun σ H Q ⟨w, δ, e, rh, rs, h1⟩ => by
    subst e
    refine upA_go h.mono rh rs h1 (fun _ _ x => x) fun d v w1 l1 rh1 rs1 rv ⟨hz, h2⟩ => ⟨by rw [rv.length]; exact hz, ?_⟩
    exact newL.lift rh1 rv (newL.mono (fun d M q => q.le rh rh1 l1) h2), fun δ M Q Q' E E' q x hh => h.mono _ _ _ _ _ _ (fun d M1 ⟨z, h1⟩ => ⟨z, h1.mono q⟩) x hh⟩
/-- a list that no one writes from here on -/
def tFrz (t : TE') : TE' := fun δ M Q E => t δ M (fun d M1 => ∃ i ds, d = .ref i ∧ M1[i]? = some (.lst ds) ∧ Q (.lst ds) (M1.set i .dead)) E
theorem me_frz {t : TE'} (h : ME X W e t) : ME X W e (tFrz t) :=
  ⟨PE.imp h.pe fun σ H Q ⟨w, δ, e, rh, rs, h1⟩ => by
    subst e
    refine up_go h.mono rh rs h1 (fun _ _ x => x) fun d v w1 l1 rh1 rs1 rv ⟨i, ds, e, ei, h2⟩ => ?_
    subst e
    simp only [Rep] at rv
    obtain ⟨a, e, em⟩ := rv
    subst e
    exact h2 (.ref a) (w1.kill i) rfl (l1.trans rh rh1 Le.kill) rh1.kill (rep_kill rh1 em ei), fun δ M Q Q' E E' q x hh => h.mono _ _ _ _ _ _ (fun d M1 ⟨i, ds, e, z, h1⟩ => ⟨i, ds, e, z, q _ _ h1⟩) x hh⟩

/-! ### calls of built-ins by values -/
def tCB' (r : RA') (t : TA') : TE' := fun δ M Q E => t δ M (fun ds M1 => r ds M1 Q) E
theorem mono_CB {r : RA'} {t : TA'} (hr : MonoR r) (h : MonoA t) : MonoE (tCB' r t) := fun δ M Q Q' E E' q x hh => h _ _ _ _ _ _ (fun d M1 h1 => hr _ _ _ _ q h1) x hh
theorem cb_lift {r : List V → Hp → VK → Prop} {r' : RA'} {t : TA'} (L : LiftA K r r') (mr : MonoR r') (m : MonoA t) (σ : L2.St) (H : Hp) (Q : VK) (h : up K W (tCB' r' t) σ H Q) : tCB r (upA K W t) σ H Q := by
  obtain ⟨w, δ, rfl, rh, rs, h1⟩ := h
  refine upA_go m rh rs h1 (fun _ _ x => x) fun d v w1 l1 rh1 rs1 rv h2 => ?_
  exact L w1 v d Q rh1 rv (mr _ _ _ _ (fun d M q => q.le rh rh1 l1) h2)
theorem me_callB {x : Str} {p : Pos} {es : List Expr} {id : String} {r : List V → Hp → VK → Prop} {r' : RA'} {t : TA'} (hc : CallR X (.builtin id) r) (L : LiftA X.K r r') (mr : MonoR r') (hg : Gl X x) (hm : X.mg x = none) (hv : bootBuiltins x = some (.builtin id)) (ha : MA X W (e :: es) t)
    (hn : x ≠ "__name__" := by decide) (hdb : (x == ("__debug__" : Str)) = false := by decide)
    (he : starEach (e :: es) X.env = (false, eval e X.env) :: starEach es X.env := by rfl) (hpl : (backTo pos (starEach es X.env)).any (·.1) = false := by rfl) : ME X W (.Call (.Name x p) (e :: es) [] pos) (tCB' r' t) :=
  ⟨PE.imp (pe_callB hc hg hm hv ha.pa hn hdb he hpl) (cb_lift L mr ha.mono), mono_CB mr ha.mono⟩
theorem me_callBfun {x : Str} {p : Pos} {es : List Expr} {id : String} {r : List V → Hp → VK → Prop} {r' : RA'} {t : TA'} (hc : CallR X (.builtin id) r) (L : LiftA X.K r r') (mr : MonoR r') (hg : Gl X x) (hm : X.mg x = some (.builtin id)) (ha : MA X W (e :: es) t)
    (hdb : (x == ("__debug__" : Str)) = false := by decide)
    (he : starEach (e :: es) X.env = (false, eval e X.env) :: starEach es X.env := by rfl) (hpl : (backTo pos (starEach es X.env)).any (·.1) = false := by rfl) : ME X W (.Call (.Name x p) (e :: es) [] pos) (tCB' r' t) :=
  ⟨PE.imp (pe_callBfun hc hg hm ha.pa hdb he hpl) (cb_lift L mr ha.mono), mono_CB mr ha.mono⟩
theorem me_callTy {x : Str} {p : Pos} {es : List Expr} {T : String} {r : List V → Hp → VK → Prop} {r' : RA'} {t : TA'} (hc : CallR X (.type T) r) (L : LiftA X.K r r') (mr : MonoR r') (hg : Gl X x) (hm : X.mg x = none) (hv : bootBuiltins x = some (.type T)) (ha : MA X W (e :: es) t)
    (hn : x ≠ "__name__" := by decide) (hdb : (x == ("__debug__" : Str)) = false := by decide)
    (he : starEach (e :: es) X.env = (false, eval e X.env) :: starEach es X.env := by rfl) (hpl : (backTo pos (starEach es X.env)).any (·.1) = false := by rfl) : ME X W (.Call (.Name x p) (e :: es) [] pos) (tCB' r' t) :=
  ⟨PE.imp (pe_callTy hc hg hm hv ha.pa hn hdb he hpl) (cb_lift L mr ha.mono), mono_CB mr ha.mono⟩

/-! ### defs -/
abbrev SpD := List D → MH → QE → QX → Prop
def MonoP (sp : SpD) : Prop := ∀ ds M (Q Q' : QE) (E E' : QX), (∀ d M, Q d M → Q' d M) → (∀ x M, E x M → E' x M) → sp ds M Q E → sp ds M Q' E'
def upP (K : PySem.W.Frag) (sp : SpD) : Sp := fun vs H Q E => ∃ (w : Wd) (ds : List D), w.H = H ∧ RH K w ∧ RepL K w ds vs ∧ sp ds w.M (PV K w Q) (PX K w E)
def tCall' (sp : SpD) (t : TA') : TE' := fun δ M Q E => t δ M (fun ds M1 => sp ds M1 Q E) E
theorem me_call {x : Str} {p : Pos} {es : List Expr} {k : Nat} {f : Addr} {fd : FuncData} {ps : List Str} {sp : SpD} {t : TA'} (F : FnOk X.prog X.w X.K X.mg X.base (L2.CX X.prog X.w) k f fd ps (upP X.K sp)) (ms : MonoP sp) (hr : Room k X.A) (tk : Takes X W)
    (hg : Gl X x) (hm : X.mg x = some (.ref f)) (hk : PySem.W.keepIn X.K (.ref f) = true) (hb : Binds X.K fd ps []) (ha : MA X W (e :: es) t)
    (hdb : (x == ("__debug__" : Str)) = false := by decide) (he : starEach (e :: es) X.env = (false, eval e X.env) :: starEach es X.env := by rfl) (hpl : (backTo pos (starEach es X.env)).any (·.1) = false := by rfl) :
    ME X W (.Call (.Name x p) (e :: es) [] pos) (tCall' sp t) :=
  ⟨PE.imp (pe_callSD (E := fun σ c d H => W c d σ H) F hr hg hm hk hb .nil (fun σ pins H s e s' I c => tk e s' (XE.of_call I (fun _ _ _ h => h) c)) ha.pa hdb he hpl) fun σ H Q ⟨w, δ, e, rh, rs, h1⟩ => by
    subst e
    refine upA_go ha.mono rh rs h1 (fun _ _ x => x) fun d v w1 l1 rh1 rs1 rv h2 => ?_
    exact ⟨w1, d, rfl, rh1, by rw [List.append_nil]; exact rv, ms _ _ _ _ _ _ (fun d M q => q.le rh rh1 l1) (fun x M q => q.le rh rh1 l1) h2⟩,
   fun δ M Q Q' E E' q x hh => ha.mono _ _ _ _ _ _ (fun d M1 h1 => ms _ _ _ _ _ _ q x h1) x hh⟩
end MD
/-! MD: targets, statements, loops, comprehensions, defs. -/
namespace MD
open PySem PySem.Spec PyProof.Rows L2
variable {K : PySem.W.Frag} {w w1 w2 : Wd} {X : Cx} {W : WX} {e a b c : Expr} {pos : Pos}

/-! ### targets -/
def gName' (i : Nat) : TG' := fun d δ M Q => Q (δ.set i (some d)) M
theorem mg_name {i : Nat} {x : Str} (hN : X.N.Nodup) (hi : X.N[i]? = some x) (hx : Loc X.env.scope x) (hf : X.fn x = true ∨ X.env.scope.names.lookup x = some .local := by first | exact .inl rfl | exact .inr rfl | assumption) : MG X (.Name x pos) (gName' i) :=
  ⟨⟨fun pins s σ H v u Q I r ⟨w, δ, d, e, rh, rs, rd, q⟩ => by
    subst e
    exact (pg_name hN hi hx hf).run pins s σ w.H v u Q I r (q _ w rfl (Le.refl w) rh (rs.set i rd))⟩, fun d δ M Q Q' q h => q _ _ h⟩
def gAll' : List TG' → List D → EnvD → MH → (EnvD → MH → Prop) → Prop
  | [], ds, δ, M, Q => ds = [] ∧ Q δ M
  | g :: gs, ds, δ, M, Q => ∃ d r, ds = d :: r ∧ g d δ M fun δ1 M1 => gAll' gs r δ1 M1 Q
def upGs (K : PySem.W.Frag) (gs : List TG') : TGs := fun vs σ H Q => ∃ (w : Wd) (δ : EnvD) (ds : List D), w.H = H ∧ RH K w ∧ RepS K w δ σ ∧ RepL K w ds vs ∧ gAll' gs ds δ w.M (PN K w Q)
structure MGs (X : Cx) (es : List Expr) (gs : List TG') : Prop where
  pg : PGs X es (upGs X.K gs)
  mono : ∀ ds δ M (Q Q' : EnvD → MH → Prop), (∀ δ M, Q δ M → Q' δ M) → gAll' gs ds δ M Q → gAll' gs ds δ M Q'
theorem mgs_nil : MGs X [] [] := ⟨⟨fun pins s σ H vs us Q I r ⟨w, δ, ds, e, rh, rs, rd, e2, q⟩ => by
    subst e e2
    have : vs = [] := rd
    subst this
    exact pgs_nil.run pins s σ w.H [] us Q I r ⟨rfl, q σ w rfl (Le.refl w) rh rs⟩⟩, fun ds δ M Q Q' q ⟨e, h⟩ => ⟨e, q _ _ h⟩⟩
theorem mgs_cons {es : List Expr} {g : TG'} {gs : List TG'} (h1 : MG X e g) (h2 : MGs X es gs)
    (hs : (assignEach (e :: es) X.env).map (·.2) = assign e X.env :: (assignEach es X.env).map (·.2) := by rfl) : MGs X (e :: es) (g :: gs) :=
  ⟨⟨fun pins s σ H vs us Q I r ⟨w, δ, ds, eH, rh, rs, rd, d, r', eD, q⟩ => by
    subst eH eD
    obtain ⟨v, vr, rfl, rv, rvr⟩ := rd
    refine (pgs_cons h1.pg h2.pg hs).run pins s σ w.H _ us Q I r ⟨v, vr, rfl, w, δ, d, rfl, rh, rs, rv, h1.mono _ _ _ _ _ (fun δ1 M1 q1 σ1 w1 e1 l r1 s1 => ?_) q⟩
    subst e1
    exact ⟨w1, δ1, r', rfl, r1, s1, RepL.le rh l _ rvr, h2.mono _ _ _ _ _ (fun δ2 M2 q2 => q2.le rh r1 l) q1⟩⟩,
   fun ds δ M Q Q' q ⟨d, r, e, h⟩ => ⟨d, r, e, h1.mono _ _ _ _ _ (fun δ1 M1 h3 => h2.mono _ _ _ _ _ q h3) h⟩⟩
/-- x, y = a tuple, a list -/
def gTup' (n : Nat) (gs : List TG') : TG' := fun d δ M Q => ∃ ds, (d = .tup ds ∨ d = .lst ds) ∧ ds.length = n ∧ gAll' gs ds δ M Q
theorem mg_tup {es : List Expr} {k : Nat} {gs : List TG'} {n : Nat} (hc : X.calm = true) (h : MGs X es gs)
    (hn : (assignEach es X.env).length = n := by rfl) (hst : (assignEach es X.env).findIdx? (·.1) = none := by rfl) : MG X (.Tuple es k pos) (gTup' n gs) :=
  ⟨⟨fun pins s σ H v u Q I r ⟨w, δ, d, e, rh, rs, rd, ds, ed, hl, q⟩ => by
    subst e
    rcases ed with ed | ed
    · subst ed
      obtain ⟨a, xs, e, hq, hr⟩ := rd
      exact (pg_tup hc h.pg hn hst).run pins s σ w.H v u Q I r ⟨a, xs, e, hq, by rw [hr.length]; exact hl, w, δ, ds, rfl, rh, rs, hr, q⟩
    · subst ed
      obtain ⟨a, xs, e, hq, _, _, hr⟩ := rd
      exact (pg_lst hc h.pg hn hst).run pins s σ w.H v u Q I r ⟨a, xs, e, SqL.of hq, by rw [hr.length]; exact hl, w, δ, ds, rfl, rh, rs, hr, q⟩⟩,
   fun d δ M Q Q' q ⟨ds, e, hl, h1⟩ => ⟨ds, e, hl, h.mono _ _ _ _ _ q h1⟩⟩
/-- o[i] = v -/
abbrev TSet' := D → D → D → MH → (MH → Prop) → Prop
def LiftS (K : PySem.W.Frag) (t : TSet) (t' : TSet') : Prop := ∀ (w : Wd) (o i v : V) (do_ di dv : D) (Q : Hp → Prop), RH K w → Rep K w do_ o → Rep K w di i → Rep K w dv v →
  t' do_ di dv w.M (fun M1 => ∀ w1, w1.M = M1 → Le w w1 → RH K w1 → Q w1.H) → t o i v w.H Q
def gSub' (to ti : TE') (t : TSet') : TG' := fun v δ M Q => to δ M (fun o M1 => ti δ M1 (fun i M2 => t o i v M2 fun M3 => Q δ M3) fun _ _ => False) fun _ _ => False
theorem mg_sub {o i : Expr} {to ti : TE'} {t : TSet} {t' : TSet'} (ho : ME X (fun _ _ _ _ => False) o to) (hi : ME X (fun _ _ _ _ => False) i ti) (hs : PSet X t) (L : LiftS X.K t t')
    (ms : ∀ o i v M (Q Q' : MH → Prop), (∀ M, Q M → Q' M) → t' o i v M Q → t' o i v M Q')
    (ha : ∀ v, assign (.Subscript o i pos) X.env v = (do
      let ov ← holding [v] (eval o X.env)
      let iv ← holding [v, ov] (eval i X.env)
      standAt pos
      holding [v, ov, iv] (setItem ov iv v)
      release [v, ov, iv] []) := by intro _; rfl) : MG X (.Subscript o i pos) (gSub' to ti t') :=
  ⟨⟨fun pins s σ H v u Q I r ⟨w, δ, d, e, rh, rs, rd, q⟩ => by
    subst e
    refine (pg_sub ho.pe hi.pe hs ha).run pins s σ w.H v u Q I r ?_
    refine up_go ho.mono rh rs q (fun _ _ z => z.elim) fun do_ vo w1 l1 rh1 rs1 ro h1 => ?_
    refine up_go hi.mono rh1 rs1 h1 (fun _ _ z => z.elim) fun di vi w2 l2 rh2 rs2 ri h2 => ?_
    refine L w2 vo vi v do_ di d _ rh2 (ro.le rh1 l2) ri ((rd.le rh l1).le rh1 l2) (ms _ _ _ _ _ _ (fun M3 q3 w3 e3 l3 rh3 => ?_) h2)
    subst e3
    exact q3 σ w3 rfl ((l1.trans rh rh1 l2).trans rh rh2 l3) rh3 (rs2.le rh2 l3)⟩,
   fun d δ M Q Q' q h => ho.mono _ _ _ _ _ _ (fun o M1 h1 => hi.mono _ _ _ _ _ _ (fun i M2 h2 => ms _ _ _ _ _ _ (fun M3 h3 => q _ _ h3) h2) (fun _ _ z => z) h1) (fun _ _ z => z) h⟩

/-! ### statements -/
def tNext' : TS' := fun D δ M => D.nx δ M
def tSeq' (t u : TS') : TS' := fun D δ M => t { D with nx := u D } δ M
theorem upS_go {t : TS'} (ma : MonoS t) {σ : L2.St} {δ : EnvD} {D : Ends} {D0 : Ends'} {w : Wd} (r : RH K w) (s : RepS K w δ σ) (h : t D0 δ w.M) (hD : D0.le (endsD K w W D)) : upS K W t D σ w.H :=
  ⟨w, δ, rfl, r, s, ma _ _ _ _ hD h⟩
theorem mss_nil : MSs X W [] tNext' := ⟨PSs.imp pss_nil fun D σ H ⟨w, δ, e, rh, rs, h⟩ => by subst e; exact h σ w rfl (Le.refl w) rh rs, fun _ _ _ _ l h => l.nx _ _ h⟩
theorem mono_seq {t u : TS'} (h : MonoS t) (k : MonoS u) : MonoS (tSeq' t u) := fun δ M D D' l q =>
  h δ M { D with nx := u D } { D' with nx := u D' } ⟨fun δ M q => k δ M D D' l q, l.rt, l.bk, l.ct, l.ex⟩ q
theorem mss_cons {st : Stmt} {rest : List Stmt} {t u : TS'} (h : MS X W st t) (k : MSs X W rest u) : MSs X W (st :: rest) (tSeq' t u) :=
  ⟨PSs.imp (pss_cons h.ps k.ps) fun D σ H ⟨w, δ, e, rh, rs, q⟩ => by
    subst e
    refine upS_go h.mono rh rs q ⟨fun δ1 M1 q1 σ1 w1 e1 l r1 s1 => ?_, fun _ _ h => h, fun _ _ h => h, fun _ _ h => h, fun _ _ _ h => h⟩
    subst e1
    exact ⟨w1, δ1, rfl, r1, s1, k.mono _ _ _ _ (endsD.le rh r1 l) q1⟩, mono_seq h.mono k.mono⟩
theorem mss_one {st : Stmt} {t : TS'} (h : MS X W st t) : MSs X W [st] t := ⟨pss_one h.ps, h.mono⟩
def tBreak' : TS' := fun D δ M => D.bk δ M
def tCont' : TS' := fun D δ M => D.ct δ M
theorem ms_pass : MS X W (.Pass pos) tNext' := ⟨PS.imp ps_pass fun D σ H ⟨w, δ, e, rh, rs, h⟩ => by subst e; exact h σ w rfl (Le.refl w) rh rs, fun _ _ _ _ l h => l.nx _ _ h⟩
theorem ms_break : MS X W (.Break pos) tBreak' := ⟨PS.imp ps_break fun D σ H ⟨w, δ, e, rh, rs, h⟩ => by subst e; exact h σ w rfl (Le.refl w) rh rs, fun _ _ _ _ l h => l.bk _ _ h⟩
theorem ms_continue : MS X W (.Continue pos) tCont' := ⟨PS.imp ps_continue fun D σ H ⟨w, δ, e, rh, rs, h⟩ => by subst e; exact h σ w rfl (Le.refl w) rh rs, fun _ _ _ _ l h => l.ct _ _ h⟩
def tNever' : TS' := fun _ _ _ => False
theorem ms_never {st : Stmt} : MS X W st tNever' := ⟨PS.imp (t := fun _ _ _ => False) ⟨fun _ _ _ _ _ _ h => h.elim⟩ fun D σ H ⟨w, δ, e, rh, rs, h⟩ => h, fun _ _ _ _ _ h => h⟩
theorem mss_never {sts : List Stmt} : MSs X W sts tNever' := ⟨PSs.imp (t := fun _ _ _ => False) ⟨fun _ _ _ _ _ _ h => h.elim⟩ fun D σ H ⟨w, δ, e, rh, rs, h⟩ => h, fun _ _ _ _ _ h => h⟩
def tDrop' (te : TE') : TS' := fun D δ M => te δ M (fun _ M1 => D.nx δ M1) (fun x M1 => D.ex x δ M1)
/-- exceptions of an expression, as a statement's -/
theorem ex_of {D0 : Ends'} {D : Ends} {σ : L2.St} {δ : EnvD} (rs : RepS K w δ σ) (rh : RH K w) (l : D0.le (endsD K w W D)) : ∀ x M, D0.ex x δ M → PX K w (fun c d H => W c d σ H) x M :=
  fun x M h cls dx w1 e1 l1 r1 q => l.ex x δ M h cls dx σ w1 e1 l1 r1 (rs.le rh l1) q
theorem ms_expr {te : TE'} (he : ME X W e te) (hs : swapsWith e none pos.line X.env = pure false := by rfl) : MS X W (.Expr e pos) (tDrop' te) :=
  ⟨PS.imp (ps_expr he.pe hs) fun D σ H ⟨w, δ, e, rh, rs, h⟩ => by
    subst e
    exact up_go he.mono rh rs h (ex_of rs rh (Ends'.le.refl _)) fun d v w1 l1 rh1 rs1 rv h1 => h1 σ w1 rfl l1 rh1 rs1,
   fun δ M D D' l h => he.mono _ _ _ _ _ _ (fun d M1 h1 => l.nx _ _ h1) (fun x M1 h1 => l.ex _ _ _ h1) h⟩
def tRet' (te : TE') : TS' := fun D δ M => te δ M D.rt (fun x M1 => D.ex x δ M1)
theorem ms_ret {te : TE'} (he : ME X W e te) : MS X W (.Return (some e) pos) (tRet' te) :=
  ⟨PS.imp (ps_ret he.pe) fun D σ H ⟨w, δ, e, rh, rs, h⟩ => by
    subst e
    exact up_go he.mono rh rs h (ex_of rs rh (Ends'.le.refl _)) fun d v w1 l1 rh1 rs1 rv h1 => h1 v w1 rfl l1 rh1 rv,
   fun δ M D D' l h => he.mono _ _ _ _ _ _ (fun d M1 h1 => l.rt _ _ h1) (fun x M1 h1 => l.ex _ _ _ h1) h⟩
def tRetN' : TS' := fun D _ M => D.rt .non M
theorem ms_retN : MS X W (.Return none pos) tRetN' := ⟨PS.imp ps_retN fun D σ H ⟨w, δ, e, rh, rs, h⟩ => by subst e; exact h .non w rfl (Le.refl w) rh (by simp [Rep]), fun _ _ _ _ l h => l.rt _ _ h⟩
def tIfS' (c : TT') (t u : TS') : TS' := fun D δ M => c δ M (fun b M1 => if b = true then t D δ M1 else u D δ M1) (fun x M1 => D.ex x δ M1)
theorem mono_ifS {c : TT'} {t u : TS'} (hc : MonoT c) (ht : MonoS t) (hu : MonoS u) : MonoS (tIfS' c t u) := fun δ M D D' l h => hc _ _ _ _ _ _ (fun b M1 h1 => by
  cases b with
  | true => exact ht _ _ _ _ l h1
  | false => exact hu _ _ _ _ l h1) (fun x M1 h1 => l.ex _ _ _ h1) h
theorem ms_if {p q : List Stmt} {tc : TT'} {t u : TS'} (hc : MT X W c tc) (ha : MSs X W p t) (hb : MSs X W q u) : MS X W (.If c p q pos) (tIfS' tc t u) :=
  ⟨PS.imp (ps_if hc.pt ha.ps hb.ps) fun D σ H ⟨w, δ, e, rh, rs, h⟩ => by
    subst e
    refine upT_go hc.mono rh rs h (ex_of rs rh (Ends'.le.refl _)) fun b w1 l1 rh1 rs1 h1 => ?_
    cases b with
    | true => exact upS_go ha.mono rh1 rs1 h1 (endsD.le rh rh1 l1)
    | false => exact upS_go hb.mono rh1 rs1 h1 (endsD.le rh rh1 l1), mono_ifS hc.mono ha.mono hb.mono⟩
def tAsg' (te : TE') (g : TG') : TS' := fun D δ M => te δ M (fun d M1 => g d δ M1 D.nx) (fun x M1 => D.ex x δ M1)
theorem mono_asg {te : TE'} {g : TG'} (he : MonoE te) (hg : MonoG g) : MonoS (tAsg' te g) := fun δ M D D' l h => he _ _ _ _ _ _ (fun d M1 h1 => hg _ _ _ _ _ l.nx h1) (fun x M1 h1 => l.ex _ _ _ h1) h
theorem asg_lift {te : TE'} {g : TG'} (he : MonoE te) (hg : MonoG g) (D : Ends) (σ : L2.St) (H : Hp) (h : upS K W (tAsg' te g) D σ H) : tAsg (up K W te) (upG K g) D σ H := by
  obtain ⟨w, δ, rfl, rh, rs, h⟩ := h
  refine up_go he rh rs h (ex_of rs rh (Ends'.le.refl _)) fun d v w1 l1 rh1 rs1 rv h1 => ?_
  exact ⟨w1, δ, d, rfl, rh1, rs1, rv, hg _ _ _ _ _ (fun δ2 M2 q => q.le rh rh1 l1) h1⟩
theorem ms_asg {tg : Expr} {te : TE'} {g : TG'} (he : ME X W e te) (hg : MG X tg g) (hs : swapsWithSole [tg] e pos.line X.env = pure false := by rfl) (hw : swappedStores [tg] e X.env = pure none := by rfl)
    (h1 : (assignEach [tg] X.env).map (·.2) = [assign tg X.env] := by rfl) : MS X W (.Assign [tg] e pos) (tAsg' te g) :=
  ⟨PS.imp (ps_asg he.pe hg.pg hs hw h1) (asg_lift he.mono hg.mono), mono_asg he.mono hg.mono⟩
theorem ms_set {i : Nat} {x : Str} {te : TE'} {pos' : Pos} (hN : X.N.Nodup) (hi : X.N[i]? = some x) (hx : Loc X.env.scope x) (he : ME X W e te) (hs : swapsWith e (some (.Name x pos')) pos.line X.env = pure false := by rfl)
    (hf : X.fn x = true ∨ X.env.scope.names.lookup x = some .local := by first | exact .inl rfl | exact .inr rfl | assumption) : MS X W (.Assign [.Name x pos'] e pos) (tAsg' te (gName' i)) :=
  ⟨PS.imp (ps_set hN hi hx he.pe hs hf) fun D σ H ⟨w, δ, eH, rh, rs, h⟩ => by
    subst eH
    refine up_go he.mono rh rs h (ex_of rs rh (Ends'.le.refl _)) fun d v w1 l1 rh1 rs1 rv h1 => ?_
    exact h1 _ w1 rfl l1 rh1 (rs1.set i rv), mono_asg he.mono fun d δ M Q Q' q h => q _ _ h⟩
/-- a, b = x, y -/
def tPar' (i j : Nat) (ta : TA') : TS' := fun D δ M => ta δ M (fun ds M1 => ∃ d d', ds = [d, d'] ∧ D.nx ((δ.set i (some d)).set j (some d')) M1) (fun x M1 => D.ex x δ M1)
theorem ms_par {i j : Nat} {x y : Str} {ta : TA'} {px py pt : Pos} {kt k2 pt2} (hc : X.calm = true) (hN : X.N.Nodup) (hi : X.N[i]? = some x) (hj : X.N[j]? = some y) (hij : i ≠ j)
    (hx : X.env.scope.names.lookup x = some .local) (hy : X.env.scope.names.lookup y = some .local) (ha : MA X W [a, b] ta)
    (hw : swappedStores [.Tuple [.Name x px, .Name y py] kt pt] (.Tuple [a, b] k2 pt2) X.env = pure (some [x, y]))
    (hs : swapsWithSole [.Tuple [.Name x px, .Name y py] kt pt] (.Tuple [a, b] k2 pt2) pos.line X.env = pure false := by rfl) :
    MS X W (.Assign [.Tuple [.Name x px, .Name y py] kt pt] (.Tuple [a, b] k2 pt2) pos) (tPar' i j ta) :=
  ⟨PS.imp (ps_par hc hN hi hj hij hx hy ha.pa hw hs) fun D σ H ⟨w, δ, eH, rh, rs, h⟩ => by
    subst eH
    refine upA_go ha.mono rh rs h (ex_of rs rh (Ends'.le.refl _)) fun d v w1 l1 rh1 rs1 rv ⟨d1, d2, e, h1⟩ => ?_
    subst e
    obtain ⟨v1, r1, e, rv1, v2, r2, e2, rv2, e3⟩ := rv
    have e3 : r2 = [] := e3
    subst e e2 e3
    exact ⟨v1, v2, rfl, h1 _ w1 rfl l1 rh1 ((rs1.set i rv1).set j rv2)⟩,
   fun δ M D D' l h => ha.mono _ _ _ _ _ _ (fun ds M1 ⟨d, d', e, h1⟩ => ⟨d, d', e, l.nx _ _ h1⟩) (fun x M1 h1 => l.ex _ _ _ h1) h⟩

/-! ### while -/
def whileN (c : TT') (tb : TS') (D : Ends') : Nat → EnvD → MH → Prop
  | 0, _, _ => False
  | n + 1, δ, M => c δ M (fun b M1 => if b = true then tb { D with nx := whileN c tb D n, ct := whileN c tb D n, bk := D.nx } δ M1 else D.nx δ M1) (fun x M1 => D.ex x δ M1)
def tWhile' (c : TT') (tb : TS') : TS' := fun D δ M => ∃ n, whileN c tb D n δ M
theorem mono_whileN {c : TT'} {tb : TS'} (hc : MonoT c) (hb : MonoS tb) {D D' : Ends'} (l : D.le D') : ∀ n δ M, whileN c tb D n δ M → whileN c tb D' n δ M
  | 0, _, _, h => h
  | n + 1, δ, M, h => hc _ _ _ _ _ _ (fun b M1 h1 => by
    cases b with
    | true => exact hb _ _ { D with nx := whileN c tb D n, ct := whileN c tb D n, bk := D.nx } { D' with nx := whileN c tb D' n, ct := whileN c tb D' n, bk := D'.nx } ⟨mono_whileN hc hb l n, l.rt, l.nx, mono_whileN hc hb l n, l.ex⟩ h1
    | false => exact l.nx _ _ h1) (fun x M1 h1 => l.ex _ _ _ h1) h
theorem ms_while {body : List Stmt} {tc : TT'} {tb : TS'} (hp : PassesOwn (model X.prog X.w) X.A X.env X.xe) (hc : MT X W c tc) (hb : MSs X W body tb) : MS X W (.While c body [] pos) (tWhile' tc tb) :=
  ⟨PS.imp (ps_while hp hc.pt hb.ps) fun D σ H ⟨w, δ, eH, rh, rs, n, h⟩ => by
    subst eH
    refine ⟨fun m σ H => ∃ (w1 : Wd) (δ1 : EnvD), w1.H = H ∧ Le w w1 ∧ RH X.K w1 ∧ RepS X.K w1 δ1 σ ∧ whileN tc tb (endsD X.K w W D) m δ1 w1.M, ⟨n, w, δ, rfl, Le.refl w, rh, rs, h⟩, ?_⟩
    rintro m σ1 H1 ⟨w1, δ1, rfl, l1, rh1, rs1, h1⟩
    cases m with
    | zero => exact h1.elim
    | succ m =>
      refine upT_go hc.mono rh1 rs1 h1 (fun x M q cls dx w2 e2 l2 r2 q2 => q cls dx σ1 w2 e2 (l1.trans rh rh1 l2) r2 (rs1.le rh1 l2) q2) fun b w2 l2 rh2 rs2 h2 => ?_
      have l02 := l1.trans rh rh1 l2
      cases b with
      | false => exact h2 σ1 w2 rfl l02 rh2 rs2
      | true =>
        rw [if_pos rfl]
        refine ⟨fun σ' H' => ∃ (w3 : Wd) (δ3 : EnvD), w3.H = H' ∧ Le w w3 ∧ RH X.K w3 ∧ RepS X.K w3 δ3 σ' ∧ whileN tc tb (endsD X.K w W D) m δ3 w3.M, fun σ' H' ⟨w3, δ3, e3, l3, r3, s3, q3⟩ => ⟨m, Nat.lt_succ_self m, w3, δ3, e3, l3, r3, s3, q3⟩, ?_⟩
        refine upS_go hb.mono rh2 rs2 h2 ⟨fun δ3 M3 q3 σ3 w3 e3 l3 r3 s3 => ?_, fun _ _ h => PV.le rh rh2 l02 h, fun _ _ h => PN.le rh rh2 l02 h, fun δ3 M3 q3 σ3 w3 e3 l3 r3 s3 => ?_, fun _ _ _ h => PXS.le rh rh2 l02 h⟩
        · subst e3; exact ⟨w3, δ3, rfl, l02.trans rh rh2 l3, r3, s3, q3⟩
        · subst e3; exact ⟨w3, δ3, rfl, l02.trans rh rh2 l3, r3, s3, q3⟩,
   fun δ M D D' l ⟨n, h⟩ => ⟨n, mono_whileN hc.mono hb.mono l n _ _ h⟩⟩

/-! ### what a loop walks -/
structure ItD where
  items : List D
  src : Option Nat
def ItD.still (it : ItD) (M : MH) : Prop := match it.src with
  | none => True
  | some c => M[c]? = some (.lst it.items)
def ItOk (K : PySem.W.Frag) (it : ItD) (J : It) (w0 : Wd) : Prop := ∀ w2, Le w0 w2 → RH K w2 → it.still w2.M →
  J.stop it.items.length w2.H ∧ ∀ i d, it.items[i]? = some d → J.go i w2.H ∧ ∀ x H', J.yld i w2.H x H' → ∃ w3, w3.H = H' ∧ w3.M = w2.M ∧ Le w2 w3 ∧ RH K w3 ∧ Rep K w3 d x
abbrev TI' := EnvD → MH → (ItD → MH → Prop) → QX → Prop
def MonoI (t : TI') : Prop := ∀ δ M (Q Q' : ItD → MH → Prop) (E E' : QX), (∀ d M, Q d M → Q' d M) → (∀ x M, E x M → E' x M) → t δ M Q E → t δ M Q' E'
def upI (K : PySem.W.Frag) (W : WX) (t : TI') : TI := fun σ H R => ∃ (w : Wd) (δ : EnvD), w.H = H ∧ RH K w ∧ RepS K w δ σ ∧
  t δ w.M (fun it M1 => ∀ J w1, w1.M = M1 → Le w w1 → RH K w1 → ItOk K it J w1 → it.still w1.M → R J w1.H) (PX K w fun c d H => W c d σ H)
structure MI (X : Cx) (W : WX) (tg iter : Expr) (t : TI') : Prop where
  pi : PI X tg iter (upI X.K W t)
  mono : MonoI t
theorem PI.imp {tg iter : Expr} {t t' : TI} (h : PI X tg iter t) (i : ∀ σ H Q, t' σ H Q → t σ H Q) : PI X tg iter t' := ⟨fun pins s σ H Q I q => h.run pins s σ H Q I (i _ _ _ q)⟩

/-- a list, a tuple, a text: what walks it -/
inductive SeqJ (K : PySem.W.Frag) (H : Hp) : V → It → Prop where
  | lst {a : Addr} {xs : List V} (h : SqL K H a xs) : SeqJ K H (.ref a) (Itl K a)
  | tup {a : Addr} {xs : List V} (h : SqT K H a xs) : SeqJ K H (.ref a) (Itt K a)
  | str (x : Str) : SeqJ K H (.str x) (Its x)
def iSeq (K : PySem.W.Frag) (tl : TE) : TI := fun σ H R => tl σ H fun x H1 => ∃ J, SeqJ K H1 x J ∧ R J H1
theorem pi_seq {tg l : Expr} {tl : TE} (hl : PE X l tl) : PI X tg l (iSeq X.K tl) := by
  refine ⟨fun pins s σ H R I h => ?_⟩
  refine thn (hl.run pins s σ H _ I h) fun v s1 ⟨x, H1, I1, r1, q1⟩ => ?_
  obtain ⟨J, hj, q⟩ := q1
  have v0 : PE { X with } l (fun σ' H' Q' => σ' = σ ∧ H' = H1 ∧ Q' x H1) → True := fun _ => trivial
  cases hj with
  | @lst a xs hq =>
    cases r1
    obtain ⟨its, rv, p, hz⟩ := I1.list hq
    refine wpAny_pyIter_list p.isList ?_
    refine ⟨s1.heap.objs.size, [s1.heap.objs.size], _, _, H1, rfl, I1.kept (t' := s1.toks) fun b o e => Heap.get?_push_of_some _ e, turn_list a _, ⟨_, Heap.get?_push_size _ rfl, rfl, rfl⟩, fun b hb => ?_, q⟩
    have e : b = s1.heap.objs.size := by simpa using hb
    subst e
    exact I1.fpOk (Nat.le_refl _) (I1.hok.fresh (Nat.le_refl _))
  | @tup a xs hq =>
    cases r1
    obtain ⟨its, rv, p, hz⟩ := I1.tuple hq
    refine wpAny_pyIter_tuple (show s1.heap.IsTuple a its.toArray from p) ?_
    refine ⟨s1.heap.objs.size, [s1.heap.objs.size], _, _, H1, rfl, I1.kept (t' := s1.toks) fun b o e => Heap.get?_push_of_some _ e, turn_tuple a _, ⟨_, Heap.get?_push_size _ rfl, rfl, rfl⟩, fun b hb => ?_, q⟩
    have e : b = s1.heap.objs.size := by simpa using hb
    subst e
    exact I1.fpOk (Nat.le_refl _) (I1.hok.fresh (Nat.le_refl _))
  | str x =>
    obtain ⟨t, rfl⟩ := r1
    cases ha : x.cps.all (· < 128)
    · exact wpAny_pyIter_wide ha (pi_one (tk := s1.toks) I1 _ (turn_str _ x t "str_iterator" (.inr rfl)) ⟨_, Heap.get?_push_size _ rfl, rfl, rfl⟩ q)
    · exact wpAny_pyIter_ascii ha (pi_one (tk := s1.toks) I1 _ (turn_str _ x t "str_ascii_iterator" (.inl rfl)) ⟨_, Heap.get?_push_size _ rfl, rfl, rfl⟩ q)
/-- what a datum is walked as -/
def seqD (d : D) (M : MH) (R : ItD → MH → Prop) : Prop := match d with
  | .tup ds => R ⟨ds, none⟩ M
  | .lst ds => R ⟨ds, none⟩ M
  | .scr ns => R ⟨ns.map D.int, none⟩ M
  | .str x => R ⟨x.cps.toList.map fun c => D.str ⟨#[c]⟩, none⟩ M
  | .ref i => ∃ ds, M[i]? = some (.lst ds) ∧ R ⟨ds, some i⟩ M
  | _ => False
def tIt' (te : TE') : TI' := fun δ M R E => te δ M (fun d M1 => seqD d M1 R) E
theorem mono_seqD {d : D} {M : MH} {R R' : ItD → MH → Prop} (q : ∀ d M, R d M → R' d M) (h : seqD d M R) : seqD d M R' := by
  cases d with
  | ref i => obtain ⟨ds, e, h⟩ := h; exact ⟨ds, e, q _ _ h⟩
  | tup ds => exact q _ _ h
  | lst ds => exact q _ _ h
  | scr ds => exact q _ _ h
  | str ds => exact q _ _ h
  | _ => exact h.elim
theorem itOk_list {a : Addr} {ds : List D} {src : Option Nat} {w0 : Wd} (h : ∀ w2, Le w0 w2 → RH K w2 → (ItD.still ⟨ds, src⟩ w2.M) → ∃ xs, SqL K w2.H a xs ∧ RepL K w2 ds xs) : ItOk K ⟨ds, src⟩ (Itl K a) w0 := by
  intro w2 l r st
  obtain ⟨xs, hx, hr⟩ := h w2 l r st
  refine ⟨⟨xs, hx, by rw [hr.length]; exact Nat.le_refl _⟩, fun i d hd => ?_⟩
  obtain ⟨x, ex, rx⟩ := hr.get hd
  refine ⟨⟨xs, x, hx, ex⟩, fun y H' ⟨e, hy⟩ => ⟨w2, e.symm, rfl, Le.refl _, r, ?_⟩⟩
  rw [show y = x from Option.some.inj ((hy xs hx).symm.trans ex)]; exact rx
theorem itOk_tup {a : Addr} {ds : List D} {src : Option Nat} {w0 : Wd} (h : ∀ w2, Le w0 w2 → RH K w2 → (ItD.still ⟨ds, src⟩ w2.M) → ∃ xs, SqT K w2.H a xs ∧ RepL K w2 ds xs) : ItOk K ⟨ds, src⟩ (Itt K a) w0 := by
  intro w2 l r st
  obtain ⟨xs, hx, hr⟩ := h w2 l r st
  refine ⟨⟨xs, hx, by rw [hr.length]; exact Nat.le_refl _⟩, fun i d hd => ?_⟩
  obtain ⟨x, ex, rx⟩ := hr.get hd
  refine ⟨⟨xs, x, hx, ex⟩, fun y H' ⟨e, hy⟩ => ⟨w2, e.symm, rfl, Le.refl _, r, ?_⟩⟩
  rw [show y = x from Option.some.inj ((hy xs hx).symm.trans ex)]; exact rx
theorem itOk_str {x : Str} {src : Option Nat} {w0 : Wd} : ItOk K ⟨x.cps.toList.map fun c => D.str ⟨#[c]⟩, src⟩ (Its x) w0 := by
  intro w2 l r st
  refine ⟨by show x.cps.size ≤ _; simp, fun i d hd => ?_⟩
  rw [List.getElem?_map] at hd
  cases hc : x.cps.toList[i]? with
  | none => rw [hc] at hd; cases hd
  | some c =>
    rw [hc] at hd
    cases hd
    have hc' : x.cps[i]? = some c := by simpa using hc
    refine ⟨(Array.getElem?_eq_some_iff.mp hc').1, fun y H' ⟨e, c', ec, ey⟩ => ⟨w2, e.symm, rfl, Le.refl _, r, ?_⟩⟩
    rw [hc'] at ec; cases ec; subst ey; simp [Rep]
theorem seqD_lift {d : D} {v : V} {R : ItD → MH → Prop} (rh : RH K w) (rv : Rep K w d v) (h : seqD d w.M R) : ∃ J it, SeqJ K w.H v J ∧ ItOk K it J w ∧ it.still w.M ∧ R it w.M := by
  cases d with
  | tup ds =>
    obtain ⟨a, xs, e, hs, hr⟩ := rv
    subst e
    exact ⟨_, ⟨ds, none⟩, .tup hs, itOk_tup fun w2 l r st => ⟨xs, l.sqT rh hs, RepL.le rh l _ hr⟩, trivial, h⟩
  | lst ds =>
    obtain ⟨a, xs, e, hs, nl, nr, hr⟩ := rv
    subst e
    exact ⟨_, ⟨ds, none⟩, .lst (SqL.of hs), itOk_list fun w2 l r st => ⟨xs, SqL.of (l.keep a _ hs nl), RepL.le rh l _ hr⟩, trivial, h⟩
  | scr ns =>
    obtain ⟨a, e, hs⟩ := rv
    subst e
    rcases hs with ⟨o, hs⟩ | hs
    · exact ⟨_, ⟨ns.map D.int, none⟩, .lst (xs := ns.map V.int) (.inl (.inr ⟨o, hs⟩)), itOk_list fun w2 l r st => ⟨ns.map V.int, .inl (.inr ⟨o, l.keep a _ hs (rh.kind_dead hs rfl)⟩), RepL.ints ns⟩, trivial, h⟩
    · exact ⟨_, ⟨ns.map D.int, none⟩, .lst (hs w.H), itOk_list fun w2 l r st => ⟨ns.map V.int, hs _, RepL.ints ns⟩, trivial, h⟩
  | str x =>
    have : v = .str x := by simpa [Rep] using rv
    subst this
    exact ⟨_, ⟨x.cps.toList.map fun c => D.str ⟨#[c]⟩, none⟩, .str x, itOk_str, trivial, h⟩
  | ref i =>
    obtain ⟨a, e, em⟩ := rv
    subst e
    obtain ⟨ds, ec, h⟩ := h
    obtain ⟨xs, hx, hr⟩ := rh.ok i a _ em ec
    refine ⟨_, ⟨ds, some i⟩, .lst (SqL.of hx), itOk_list fun w2 l r st => ?_, ec, h⟩
    obtain ⟨t, et, _⟩ := l.pre
    have em2 : w2.m[i]? = some a := by rw [et, List.getElem?_append_left (List.getElem?_eq_some_iff.mp em).1]; exact em
    obtain ⟨xs2, hx2, hr2⟩ := r.ok i a _ em2 st
    exact ⟨xs2, SqL.of hx2, hr2⟩
  | _ => exact h.elim
theorem mi_seq {tg l : Expr} {te : TE'} (h : ME X W l te) : MI X W tg l (tIt' te) :=
  ⟨PI.imp (pi_seq h.pe) fun σ H R ⟨w, δ, eH, rh, rs, q⟩ => by
    subst eH
    refine up_go h.mono rh rs q (fun _ _ x => x) fun d v w1 l1 rh1 rs1 rv h1 => ?_
    obtain ⟨J, it, hj, ok, st, q2⟩ := seqD_lift rh1 rv h1
    exact ⟨J, hj, q2 J w1 rfl l1 rh1 ok st⟩, fun δ M Q Q' E E' q x hh => h.mono _ _ _ _ _ _ (fun d M1 h1 => mono_seqD q h1) x hh⟩
/-- ranges -/
def rangeD (lo : Int) (n : Nat) : List D := (List.range n).map fun (i : Nat) => D.int (lo + (i : Int))
theorem rangeD_length {lo : Int} {n : Nat} : (rangeD lo n).length = n := by simp [rangeD]
theorem itOk_range {lo : Int} {n : Nat} {w0 : Wd} : ItOk K ⟨rangeD lo n, none⟩ (Itr lo n) w0 := by
  intro w2 l r st
  refine ⟨by show n ≤ (rangeD lo n).length; rw [rangeD_length]; exact Nat.le_refl _, fun i d hd => ?_⟩
  have hd' : (rangeD lo n)[i]? = some d := hd
  unfold rangeD at hd'
  rw [List.getElem?_map] at hd'
  have hi : i < n := by
    by_cases hi : i < n
    · exact hi
    · rw [List.getElem?_eq_none (by simp; omega)] at hd'; cases hd'
  rw [List.getElem?_range hi] at hd'
  cases hd'
  refine ⟨hi, fun y H' ⟨e, ey⟩ => ⟨w2, e.symm, rfl, Le.refl _, r, ?_⟩⟩
  subst ey; simp [Rep]
def tRng1' (ta : TA') : TI' := fun δ M R E => ta δ M (fun ds M1 => ∃ j : Int, ds = [.int j] ∧ -(2 ^ 62) ≤ j ∧ j < 2 ^ 62 ∧ R ⟨rangeD 0 j.toNat, none⟩ M1) E
def tRng2' (ta : TA') : TI' := fun δ M R E => ta δ M (fun ds M1 => ∃ i j : Int, ds = [.int i, .int j] ∧ (-(2 ^ 62) ≤ i ∧ i < 2 ^ 62 ∧ -(2 ^ 62) ≤ j ∧ j < 2 ^ 62) ∧ R ⟨rangeD i (j - i).toNat, none⟩ M1) E
theorem mi_range1 {tg : Expr} {ta : TA'} {p pos : Pos} (hg : Gl X "range") (hm : X.mg "range" = none) (ha : MA X W [a] ta) (hs : starEach [a] X.env = [(false, eval a X.env)] := by rfl) : MI X W tg (.Call (.Name "range" p) [a] [] pos) (tRng1' ta) :=
  ⟨PI.imp (pi_range1 hg hm ha.pa hs) fun σ H R ⟨w, δ, eH, rh, rs, q⟩ => by
    subst eH
    refine upA_go ha.mono rh rs q (fun _ _ x => x) fun d v w1 l1 rh1 rs1 rv ⟨j, e, h1, h2, h3⟩ => ?_
    subst e
    obtain ⟨v1, r1, e, rv1, e3⟩ := rv
    have e3 : r1 = [] := e3
    subst e e3
    exact ⟨j, by rw [rep_int rv1], h1, h2, h3 _ w1 rfl l1 rh1 itOk_range trivial⟩,
   fun δ M Q Q' E E' q x hh => ha.mono _ _ _ _ _ _ (fun d M1 ⟨j, e, h1, h2, h3⟩ => ⟨j, e, h1, h2, q _ _ h3⟩) x hh⟩
theorem mi_range2 {tg : Expr} {ta : TA'} {p pos : Pos} (hg : Gl X "range") (hm : X.mg "range" = none) (ha : MA X W [a, b] ta) (hs : starEach [a, b] X.env = [(false, eval a X.env), (false, eval b X.env)] := by rfl)
    (hs2 : starEach [b] X.env = [(false, eval b X.env)] := by rfl) : MI X W tg (.Call (.Name "range" p) [a, b] [] pos) (tRng2' ta) :=
  ⟨PI.imp (pi_range2 hg hm ha.pa hs hs2) fun σ H R ⟨w, δ, eH, rh, rs, q⟩ => by
    subst eH
    refine upA_go ha.mono rh rs q (fun _ _ x => x) fun d v w1 l1 rh1 rs1 rv ⟨i, j, e, h1, h3⟩ => ?_
    subst e
    obtain ⟨v1, r1, e, rv1, v2, r2, e2, rv2, e3⟩ := rv
    have e3 : r2 = [] := e3
    subst e e2 e3
    exact ⟨i, j, by rw [rep_int rv1, rep_int rv2], h1, h3 _ w1 rfl l1 rh1 itOk_range trivial⟩,
   fun δ M Q Q' E E' q x hh => ha.mono _ _ _ _ _ _ (fun d M1 ⟨i, j, e, h1, h3⟩ => ⟨i, j, e, h1, q _ _ h3⟩) x hh⟩

/-! ### for -/
def forL (it : ItD) (g : TG') (tb : TS') (D : Ends') : List MD.D → EnvD → MH → Prop
  | [], δ, M => it.still M ∧ D.nx δ M
  | d :: r, δ, M => it.still M ∧ g d δ M fun δ1 M1 => tb { D with nx := forL it g tb D r, ct := forL it g tb D r, bk := D.nx } δ1 M1
def tFor' (ti : TI') (g : TG') (tb : TS') : TS' := fun D δ M => ti δ M (fun it M1 => forL it g tb D it.items δ M1) (fun x M1 => D.ex x δ M1)
theorem mono_forL {it : ItD} {g : TG'} {tb : TS'} (hg : MonoG g) (hb : MonoS tb) {D D' : Ends'} (l : D.le D') : ∀ ds δ M, forL it g tb D ds δ M → forL it g tb D' ds δ M
  | [], _, _, h => ⟨h.1, l.nx _ _ h.2⟩
  | d :: r, δ, M, h => ⟨h.1, hg _ _ _ _ _ (fun δ1 M1 h1 => hb _ _ { D with nx := forL it g tb D r, ct := forL it g tb D r, bk := D.nx } { D' with nx := forL it g tb D' r, ct := forL it g tb D' r, bk := D'.nx } ⟨mono_forL hg hb l r, l.rt, l.nx, mono_forL hg hb l r, l.ex⟩ h1) h.2⟩
theorem ms_for {tg iter : Expr} {body : List Stmt} {ti : TI'} {g : TG'} {tb : TS'} (hp : PassesOwn (model X.prog X.w) X.A X.env X.xe) (hc : X.calm = true) (hi : MI X W tg iter ti) (hg : MG X tg g) (hb : MSs X W body tb)
    (hs : ∀ x, foldedSetIterable iter X.env x = pure x := by intro _; rfl) : MS X W (.For tg iter body [] pos) (tFor' ti g tb) :=
  ⟨PS.imp (ps_for hp hc hi.pi hg.pg hb.ps hs) fun D σ H ⟨w, δ, eH, rh, rs, h⟩ => by
    subst eH
    refine ⟨w, δ, rfl, rh, rs, hi.mono _ _ _ _ _ _ (fun it M1 h1 J w1 e1 l1 rh1 ok st => ?_) (ex_of rs rh (Ends'.le.refl _)) h⟩
    subst e1
    refine ⟨fun i m σ H => ∃ (w2 : Wd) (δ2 : EnvD) (r : List MD.D), w2.H = H ∧ Le w w2 ∧ Le w1 w2 ∧ RH X.K w2 ∧ RepS X.K w2 δ2 σ ∧ r = it.items.drop i ∧ i ≤ it.items.length ∧ m = r.length ∧ forL it g tb (endsD X.K w W D) r δ2 w2.M,
      ⟨it.items.length, w1, δ, it.items, rfl, l1, Le.refl _, rh1, rs.le rh l1, by simp, Nat.zero_le _, rfl, h1⟩, ?_⟩
    rintro i m σ2 H2 ⟨w2, δ2, r, rfl, l2, l12, rh2, rs2, er, hi, rfl, h2⟩
    cases r with
    | nil =>
      have hl : it.items.length ≤ i := by
        have := congrArg List.length er
        simp at this; omega
      have : i = it.items.length := by omega
      subst this
      exact .inl ⟨(ok w2 l12 rh2 h2.1).1, h2.2 σ2 w2 rfl l2 rh2 rs2⟩
    | cons d r =>
      have hd : it.items[i]? = some d := by
        have : (it.items.drop i)[0]? = some d := by rw [← er]; rfl
        simpa using this
      have hr : r = it.items.drop (i + 1) := by
        have : (it.items.drop i).drop 1 = r := by rw [← er]; rfl
        rw [← this, List.drop_drop]
      have hlt : i < it.items.length := (List.getElem?_eq_some_iff.mp hd).1
      obtain ⟨go, yl⟩ := (ok w2 l12 rh2 h2.1).2 i d hd
      refine .inr ⟨go, fun σ' H' => ∃ (w3 : Wd) (δ3 : EnvD), w3.H = H' ∧ Le w w3 ∧ Le w1 w3 ∧ RH X.K w3 ∧ RepS X.K w3 δ3 σ' ∧ forL it g tb (endsD X.K w W D) r δ3 w3.M,
        fun σ' H' ⟨w3, δ3, e3, l3, l13, r3, s3, q3⟩ => ⟨r.length, Nat.lt_succ_self _, w3, δ3, r, e3, l3, l13, r3, s3, hr, hlt, rfl, q3⟩, fun x H' hy => ?_⟩
      obtain ⟨w3, e3, eM, l3, rh3, rx⟩ := yl x H' hy
      subst e3
      have l03 := l2.trans rh rh2 l3
      have l13 := l12.trans rh1 rh2 l3
      have h2' := h2.2
      rw [← eM] at h2'
      refine ⟨w3, δ2, d, rfl, rh3, rs2.le rh2 l3, rx, hg.mono _ _ _ _ _ (fun δ4 M4 h4 σ4 w4 e4 l4 rh4 rs4 => ?_) h2'⟩
      subst e4
      have l04 := l03.trans rh rh3 l4
      have l14 := l13.trans rh1 rh3 l4
      refine upS_go hb.mono rh4 rs4 h4 ⟨fun δ5 M5 q5 σ5 w5 e5 l5 r5 s5 => ?_, fun _ _ h => PV.le rh rh4 l04 h, fun _ _ h => PN.le rh rh4 l04 h, fun δ5 M5 q5 σ5 w5 e5 l5 r5 s5 => ?_, fun _ _ _ h => PXS.le rh rh4 l04 h⟩
      · subst e5; exact ⟨w5, δ5, rfl, l04.trans rh rh4 l5, l14.trans rh1 rh4 l5, r5, s5, q5⟩
      · subst e5; exact ⟨w5, δ5, rfl, l04.trans rh rh4 l5, l14.trans rh1 rh4 l5, r5, s5, q5⟩,
   fun δ M D D' l h => hi.mono _ _ _ _ _ _ (fun it M1 h1 => mono_forL hg.mono hb.mono l _ _ _ h1) (fun x M1 h1 => l.ex _ _ _ h1) h⟩
end MD
/-! MD: comprehensions, defs, methods of built-ins, fields. -/
namespace MD
open PySem PySem.Spec PyProof.Rows L2
variable {K : PySem.W.Frag} {w w1 w2 : Wd} {X : Cx} {W : WX} {e a b c : Expr} {pos : Pos}

/-! ### comprehensions -/
abbrev WF : WX := fun _ _ _ _ => False
def wipeD (δ : EnvD) : List Nat → EnvD
  | [] => δ
  | v :: vs => (wipeD δ vs).set v none
theorem RepS.wipe {δ : EnvD} {σ : L2.St} (h : RepS K w δ σ) : ∀ vs, RepS K w (wipeD δ vs) (wipe σ vs)
  | [] => h
  | v :: vs => (RepS.wipe h vs).wipe1 v none
theorem wipe_get (σ : L2.St) (j : Nat) : ∀ vs : List Nat, (wipe σ vs)[j]? = if j ∈ vs then (σ[j]?).map (fun _ => none) else σ[j]?
  | [] => by simp [wipe]
  | v :: vs => by
    unfold wipe
    by_cases hv : v = j
    · subst hv
      rw [if_pos List.mem_cons_self]
      by_cases hl : v < σ.length
      · rw [List.getElem?_set_self (by rw [wipe_length]; exact hl), List.getElem?_eq_getElem hl]; rfl
      · rw [List.getElem?_eq_none (by rw [List.length_set, wipe_length]; omega), List.getElem?_eq_none (by omega)]; rfl
    · rw [List.getElem?_set_ne hv, wipe_get σ j vs]
      have : (j ∈ v :: vs) ↔ j ∈ vs := by
        rw [List.mem_cons]
        exact ⟨fun h => h.resolve_left (fun z => hv z.symm), .inr⟩
      by_cases hm : j ∈ vs
      · rw [if_pos hm, if_pos (this.mpr hm)]
      · rw [if_neg hm, if_neg (fun z => hm (this.mp z))]
theorem wipe_set {σ : L2.St} {vs : List Nat} {i : Nat} {x : Option V} (h : i ∈ vs) : wipe (σ.set i x) vs = wipe σ vs := by
  apply List.ext_getElem?
  intro j
  rw [wipe_get, wipe_get]
  by_cases hj : j ∈ vs
  · rw [if_pos hj, if_pos hj]
    by_cases e : i = j
    · subst e
      by_cases hl : i < σ.length
      · rw [List.getElem?_set_self hl, List.getElem?_eq_getElem hl]; rfl
      · rw [List.getElem?_eq_none (by simp; omega), List.getElem?_eq_none (by omega)]
    · rw [List.getElem?_set_ne e]
  · rw [if_neg hj, if_neg hj, List.getElem?_set_ne (fun z => hj (by rw [← z]; exact h))]
theorem wipe_wipe {σ : L2.St} {vs : List Nat} : wipe (wipe σ vs) vs = wipe σ vs := by
  apply List.ext_getElem?
  intro j
  rw [wipe_get, wipe_get]
  by_cases hj : j ∈ vs
  · rw [if_pos hj, if_pos hj, Option.map_map]; rfl
  · rw [if_neg hj, if_neg hj]
structure CompG (K : PySem.W.Frag) (vs : List Nat) (gH : TG) (g' : TG') : Prop where
  run : ∀ (w : Wd) (σ : L2.St) (δ : EnvD) (d : D) (v : V) (Q' : EnvD → MH → Prop), RH K w → RepS K w δ σ → Rep K w d v → g' d δ w.M Q' →
    gH v σ w.H fun σ2 H2 => wipe σ2 vs = wipe σ vs ∧ H2 = w.H ∧ ∃ δ2, RepS K w δ2 σ2 ∧ Q' δ2 w.M
  mono : MonoG g'
  hm : ∀ v σ H (P P' : L2.St → Hp → Prop), (∀ σ2 H2, P σ2 H2 → P' σ2 H2) → gH v σ H P → gH v σ H P'
theorem cg_name {vs : List Nat} {i : Nat} (h : i ∈ vs := by simp) : CompG K vs (gName i) (gName' i) :=
  ⟨fun w σ δ d v Q' rh rs rd q => ⟨wipe_set h, rfl, _, rs.set i rd, q⟩, fun d δ M Q Q' q h => q _ _ h, fun v σ H P P' q h => q _ _ h⟩
structure CompGs (K : PySem.W.Frag) (vs : List Nat) (gH : TGs) (gs : List TG') : Prop where
  run : ∀ (w : Wd) (σ : L2.St) (δ : EnvD) (ds : List D) (us : List V) (Q' : EnvD → MH → Prop), RH K w → RepS K w δ σ → RepL K w ds us → gAll' gs ds δ w.M Q' →
    gH us σ w.H fun σ2 H2 => wipe σ2 vs = wipe σ vs ∧ H2 = w.H ∧ ∃ δ2, RepS K w δ2 σ2 ∧ Q' δ2 w.M
  mono : ∀ ds δ M (Q Q' : EnvD → MH → Prop), (∀ δ M, Q δ M → Q' δ M) → gAll' gs ds δ M Q → gAll' gs ds δ M Q'
  hm : ∀ v σ H (P P' : L2.St → Hp → Prop), (∀ σ2 H2, P σ2 H2 → P' σ2 H2) → gH v σ H P → gH v σ H P'
theorem cgs_nil {vs : List Nat} : CompGs K vs gNil [] :=
  ⟨fun w σ δ ds us Q' rh rs rd ⟨e, q⟩ => by subst e; exact ⟨rd, rfl, rfl, δ, rs, q⟩, fun ds δ M Q Q' q ⟨e, h⟩ => ⟨e, q _ _ h⟩, fun v σ H P P' q ⟨e, h⟩ => ⟨e, q _ _ h⟩⟩
theorem cgs_cons {vs : List Nat} {i : Nat} {gH : TGs} {gs : List TG'} (k : CompGs K vs gH gs) (h : i ∈ vs := by simp) : CompGs K vs (gCons (gName i) gH) (gName' i :: gs) :=
  ⟨fun w σ δ ds us Q' rh rs rd ⟨d, r, e, q⟩ => by
    subst e
    obtain ⟨x, xr, rfl, rx, rr⟩ := rd
    refine ⟨x, xr, rfl, ?_⟩
    have := k.run w (σ.set i (some x)) (δ.set i (some d)) r xr Q' rh (rs.set i rx) rr q
    rw [wipe_set h] at this
    exact this, fun ds δ M Q Q' q ⟨d, r, e, h⟩ => ⟨d, r, e, k.mono _ _ _ _ _ q h⟩, fun v σ H P P' q ⟨x, r, e, h⟩ => ⟨x, r, e, k.hm _ _ _ _ _ q h⟩⟩
/-- the tuples that a loop makes or holds -/
theorem cg_tup {vs : List Nat} {n : Nat} {gH : TGs} {gs : List TG'} (k : CompGs K vs gH gs) : CompG K vs (fun v σ H Q => gTup K n gH v σ H Q ∨ gLst K n gH v σ H Q) (gTup' n gs) :=
  ⟨fun w σ δ d v Q' rh rs rd ⟨ds, ed, hl, q⟩ => by
    rcases ed with ed | ed
    · subst ed
      obtain ⟨a, xs, e, hq, hr⟩ := rd
      exact .inl ⟨a, xs, e, hq, by rw [hr.length]; exact hl, k.run w σ δ ds xs Q' rh rs hr q⟩
    · subst ed
      obtain ⟨a, xs, e, hq, _, _, hr⟩ := rd
      exact .inr ⟨a, xs, e, SqL.of hq, by rw [hr.length]; exact hl, k.run w σ δ ds xs Q' rh rs hr q⟩,
   fun d δ M Q Q' q ⟨ds, e, hl, h1⟩ => ⟨ds, e, hl, k.mono _ _ _ _ _ q h1⟩,
   fun v σ H P P' q h => by
    rcases h with ⟨a, xs, e, hs, hl, h⟩ | ⟨a, xs, e, hs, hl, h⟩
    · exact .inl ⟨a, xs, e, hs, hl, k.hm _ _ _ _ _ q h⟩
    · exact .inr ⟨a, xs, e, hs, hl, k.hm _ _ _ _ _ q h⟩⟩
theorem RepL.le' {w w1 : Wd} {ds : List D} {xs : List V} (h : RepL K w ds xs) (r : RH K w) (l : Le w w1) : RepL K w1 ds xs := RepL.le r l _ h
theorem Rep.le' {w w1 : Wd} {ds : D} {xs : V} (h : Rep K w ds xs) (r : RH K w) (l : Le w w1) : Rep K w1 ds xs := Rep.le r l _ h
theorem PG.or {t t' : TG} (h : PG X e t) (h' : PG X e t') : PG X e (fun v σ H Q => t v σ H Q ∨ t' v σ H Q) :=
  ⟨fun pins s σ H v u Q I r q => by
    rcases q with q | q
    · exact h.run pins s σ H v u Q I r q
    · exact h'.run pins s σ H v u Q I r q⟩
structure MTs (X : Cx) (W : WX) (ifs : List Expr) (t : TT') : Prop where
  pts : PTs X ifs (upT X.K W t)
  mono : MonoT t
def tYes' : TT' := fun _ M Q _ => Q true M
theorem mts_nil : MTs X W [] tYes' :=
  ⟨⟨fun pins s σ H Q I ⟨w, δ, e, rh, rs, h⟩ => by subst e; exact pts_nil.run pins s σ w.H Q I (h w rfl (Le.refl w) rh)⟩, fun _ _ _ _ _ _ q _ h => q _ _ h⟩
theorem mts_one {t : TT'} (h : MT X W c t) : MTs X W [c] t := ⟨pts_one h.pt, h.mono⟩
def lcL (it : ItD) (g : TG') (tt : TT') (te : TE') (vs : List Nat) (δ : EnvD) (Q : List D → MH → Prop) : List MD.D → List MD.D → MH → Prop
  | [], acc, M => it.still M ∧ Q acc M
  | d :: r, acc, M => it.still M ∧ g d (wipeD δ vs) M fun δ2 M2 => tt δ2 M2 (fun b M3 =>
      if b = true then te δ2 M3 (fun y M4 => acc.length < sizeLine ∧ lcL it g tt te vs δ Q r (acc ++ [y]) M4) (fun _ _ => False) else lcL it g tt te vs δ Q r acc M3) (fun _ _ => False)
theorem mono_lcL {it : ItD} {g : TG'} {tt : TT'} {te : TE'} {vs : List Nat} {δ : EnvD} (hg : MonoG g) (ht : MonoT tt) (he : MonoE te) {Q Q' : List D → MH → Prop} (q : ∀ a M, Q a M → Q' a M) : ∀ ds acc M, lcL it g tt te vs δ Q ds acc M → lcL it g tt te vs δ Q' ds acc M
  | [], _, _, h => ⟨h.1, q _ _ h.2⟩
  | d :: r, acc, M, h => ⟨h.1, hg _ _ _ _ _ (fun δ2 M2 h2 => ht _ _ _ _ _ _ (fun b M3 h3 => by
    cases b with
    | true => exact he _ _ _ _ _ _ (fun y M4 h4 => ⟨h4.1, mono_lcL hg ht he q r _ _ h4.2⟩) (fun _ _ z => z) h3
    | false => exact mono_lcL hg ht he q r _ _ h3) (fun _ _ z => z) h2) h.2⟩
def tLc' (cell : Bool) (ti : TI') (g : TG') (tt : TT') (te : TE') (vs : List Nat) : TE' := fun δ M Q E => ti δ M (fun it M1 => lcL it g tt te vs δ (fun acc M2 => newL cell acc M2 Q) it.items [] M1) E
structure Keeps (K : PySem.W.Frag) (w w' : Wd) : Prop where
  t : ∀ a xs, SqT K w.H a xs → SqT K w'.H a xs
  l : ∀ a xs, w.H a = some (.lst xs) → ¬ Live w a → a ∉ w.r → w'.H a = some (.lst xs) ∧ ¬ Live w' a ∧ a ∉ w'.r
  f : ∀ a o u, w.H a = some (.frz o u) → w'.H a = some (.frz o u)
  m : ∀ (i : Nat) a, w.m[i]? = some a → w'.m[i]? = some a
  x : ∀ a gs, w.H a = some (.xd gs) → w'.H a = some (.xd gs)
  d : ∀ a xs, w.H a = some (.dK xs) → ¬ Live w a → a ∉ w.r → w'.H a = some (.dK xs) ∧ ¬ Live w' a ∧ a ∉ w'.r
mutual
theorem Rep.keeps {w' : Wd} (k : Keeps K w w') : ∀ (d : D) {v : V}, Rep K w d v → Rep K w' d v
  | .non, _, h => by simpa [Rep] using h
  | .bl b, _, h => by simpa [Rep] using h
  | .int i, _, h => by simpa [Rep] using h
  | .str x, _, h => by simpa [Rep] using h
  | .con u, _, h => by simpa [Rep] using h
  | .exc a cls d fs, _, h => by
    simp only [Rep] at h ⊢
    obtain ⟨e, h | ⟨dd, e1, h1⟩⟩ := h
    · exact ⟨e, .inl h⟩
    · exact ⟨e, .inr ⟨dd, e1, k.x _ _ h1⟩⟩
  | .dct, _, h => by
    simp only [Rep] at h ⊢
    obtain ⟨a, zs, e, h1, nl, nr⟩ := h
    obtain ⟨h2, h3, h4⟩ := k.d _ _ h1 nl nr
    exact ⟨a, zs, e, h2, h3, h4⟩
  | .tup ds, _, h => by
    simp only [Rep] at h ⊢
    obtain ⟨a, zs, e, h1, hr⟩ := h
    exact ⟨a, zs, e, k.t _ _ h1, RepL.keeps k ds hr⟩
  | .lst ds, _, h => by
    simp only [Rep] at h ⊢
    obtain ⟨a, zs, e, h1, nl, nr, hr⟩ := h
    obtain ⟨h2, h3, h4⟩ := k.l _ _ h1 nl nr
    exact ⟨a, zs, e, h2, h3, h4, RepL.keeps k ds hr⟩
  | .scr ns, _, h => by
    simp only [Rep] at h ⊢
    obtain ⟨a, e, h | h⟩ := h
    · obtain ⟨o, h⟩ := h
      exact ⟨a, e, .inl ⟨o, k.f _ _ _ h⟩⟩
    · exact ⟨a, e, .inr h⟩
  | .ref i, _, h => by
    simp only [Rep] at h ⊢
    obtain ⟨a, e, h⟩ := h
    exact ⟨a, e, k.m _ _ h⟩
theorem RepL.keeps {w' : Wd} (k : Keeps K w w') : ∀ (ds : List D) {vs : List V}, RepL K w ds vs → RepL K w' ds vs
  | [], _, h => by simpa [RepL] using h
  | d :: ds, _, h => by
    simp only [RepL] at h ⊢
    obtain ⟨x, r', e, h1, h2⟩ := h
    exact ⟨x, r', e, Rep.keeps k d h1, RepL.keeps k ds h2⟩
end
theorem CellOk.keeps {w' : Wd} (k : Keeps K w w') {a : Addr} {c : Cell} (e : w'.H a = w.H a) (h : CellOk K w a c) : CellOk K w' a c := by
  cases c with
  | lst ds => obtain ⟨xs, h1, h2⟩ := h; exact ⟨xs, e.trans h1, RepL.keeps k _ h2⟩
  | dic kvs => obtain ⟨xs, h1, h2⟩ := h; exact ⟨xs, e.trans h1, h2.1, RepL.keeps k _ h2.2⟩
  | dit kvs => obtain ⟨xs, h1, h2⟩ := h; exact ⟨xs, e.trans h1, h2.1, RepL.keeps k _ h2.2⟩
  | ins C fs => obtain ⟨dx, gs, h1, h2⟩ := h; exact ⟨dx, gs, e.trans h1, h2.1, RepL.keeps k _ h2.2⟩
  | dead => obtain ⟨u, h⟩ := h; exact ⟨u, e.trans h⟩
/-- a held list becomes a cell -/
def Wd.adopt (w : Wd) (p : Addr) (ds : List D) (s : List Addr) : Wd := ⟨w.m ++ [p], w.M ++ [.lst ds], s, w.H⟩
theorem keeps_adopt {p : Addr} {ds : List D} {s : List Addr} (hp : p ∈ w.r) (hs : ∀ a ∈ s, a ∈ w.r) (hlen : w.m.length = w.M.length) : Keeps K w (w.adopt p ds s) := by
  have lv : ∀ a, ¬ Live w a → a ∉ w.r → ¬ Live (w.adopt p ds s) a := by
    intro a nl nr
    rintro ⟨i, c, e, ec, nd⟩
    have e : (w.m ++ [p])[i]? = some a := e
    have ec : (w.M ++ [Cell.lst ds])[i]? = some c := ec
    by_cases hi : i < w.m.length
    · rw [List.getElem?_append_left hi] at e
      rw [List.getElem?_append_left (by omega)] at ec
      exact nl ⟨i, c, e, ec, nd⟩
    · rw [List.getElem?_append_right (by omega)] at e
      have := List.mem_of_getElem? e
      rw [List.mem_singleton.mp this] at nr
      exact nr hp
  refine ⟨fun _ _ h => h, fun a xs h nl nr => ⟨h, lv a nl nr, fun z => nr (hs a z)⟩, fun _ _ _ h => h, fun i a h => ?_, fun _ _ h => h, fun a xs h nl nr => ⟨h, lv a nl nr, fun z => nr (hs a z)⟩⟩
  · show (w.m ++ [p])[i]? = some a
    rw [List.getElem?_append_left (List.getElem?_eq_some_iff.mp h).1]; exact h
theorem RH.adopt {p : Addr} {xs : List V} {ds : List D} {s : List Addr} (r : RH K w) (hp : p ∈ w.r) (hl : w.H p = some (.lst xs)) (hr : RepL K w ds xs) (hs : ∀ a ∈ s, a ∈ w.r) (ps : p ∉ s) : RH K (w.adopt p ds s) := by
  have hpm : p ∉ w.m := fun z => r.dr p z hp
  have k : Keeps K w (w.adopt p ds s) := keeps_adopt hp hs r.len
  refine ⟨by simp [Wd.adopt, r.len], ?_, fun a ha z => ?_, fun i a c e ec => ?_, fun a ha => r.rk a (hs a ha)⟩
  · show (w.m ++ [p]).Nodup
    rw [List.nodup_append]
    refine ⟨r.nd, by simp, fun a ha b hb => ?_⟩
    rw [List.mem_singleton.mp hb]
    exact fun z => hpm (by rw [← z]; exact ha)
  · rcases List.mem_append.mp ha with h | h
    · exact r.dr a h (hs a z)
    · rw [List.mem_singleton.mp h] at z; exact ps z
  · have e : (w.m ++ [p])[i]? = some a := e
    have ec : (w.M ++ [Cell.lst ds])[i]? = some c := ec
    by_cases hi : i < w.m.length
    · rw [List.getElem?_append_left hi] at e
      rw [List.getElem?_append_left (by rw [← r.len]; exact hi)] at ec
      exact (r.ok i a c e ec).keeps k rfl
    · rw [List.getElem?_append_right (by omega)] at e
      rw [List.getElem?_append_right (by rw [← r.len]; omega)] at ec
      have h0 : i - w.m.length = 0 := by
        have := (List.getElem?_eq_some_iff.mp e).1
        simp at this; omega
      rw [h0] at e
      rw [← r.len, h0] at ec
      simp at e ec
      subst e ec
      exact ⟨xs, hl, RepL.keeps k _ hr⟩
/-- the end of a comprehension -/
theorem lc_end {p : Addr} {xs : List V} {ds : List D} {cell : Bool} {Q : VK} {w0 : Wd} (rh0 : RH K w0) (rh1 : RH K w1) (l1 : Le w0 w1) (hp1 : w1.H p = none) (r : RH K w) (l : Le w1 w) (hp : p ∈ w.r) (hl : w.H p = some (.lst xs)) (hr : RepL K w ds xs)
    (hs : ∀ a ∈ w1.r, a ∈ w.r) (h : newL cell ds w.M (PV K w0 Q)) : Q (.ref p) w.H := by
  have ps : p ∉ w1.r := rh1.not_r_new hp1
  have hpm : p ∉ w.m := fun z => r.dr p z hp
  cases cell with
  | false =>
    have h : PV K w0 Q (.lst ds) w.M := h
    have l2 : Le w1 { w with r := w1.r } := ⟨l.pre, l.dead, l.keep, ⟨[], rfl, by simp⟩⟩
    refine h (.ref p) { w with r := w1.r } rfl (l1.trans rh0 rh1 l2) (r.drop hs) ?_
    simp only [Rep]
    exact ⟨p, xs, rfl, hl, fun z => r.r_dead hp z, ps, RepL.dropr hs _ hr⟩
  | true =>
    have h : PV K w0 Q (.ref w.M.length) (w.M ++ [.lst ds]) := h
    have l2 : Le w1 (w.adopt p ds w1.r) := by
      obtain ⟨t, et, ft⟩ := l.pre
      refine ⟨⟨t ++ [p], ?_, fun a ha => ?_⟩, fun i e => ?_, l.keep, ⟨[], rfl, by simp⟩⟩
      · show w.m ++ [p] = w1.m ++ (t ++ [p])
        rw [et, List.append_assoc]
      · rcases List.mem_append.mp ha with z | z
        · exact ft a z
        · rw [List.mem_singleton.mp z]; exact hp1
      · have := l.dead i e
        show (w.M ++ [Cell.lst ds])[i]? = _
        rw [List.getElem?_append_left (List.getElem?_eq_some_iff.mp this).1]; exact this
    refine h (.ref p) (w.adopt p ds w1.r) rfl (l1.trans rh0 rh1 l2) (r.adopt hp hl hr hs ps) ?_
    simp only [Rep]
    refine ⟨p, rfl, ?_⟩
    show (w.m ++ [p])[w.M.length]? = some p
    rw [← r.len]; simp
theorem Le.turn {p : Addr} {ys : List V} (hp : w.H p = none) (l : Le w w1) : Le w (w1.turn p ys) :=
  ⟨l.pre, l.dead, fun a u e n => by
    show upd w1.H p _ a = some u
    rw [upd_ne (ne_of_none e hp)]; exact l.keep a u e n, l.rr⟩
theorem me_lc (cell : Bool) {elt tg iter : Expr} {ifs : List Expr} {scope : Scope} {own : List (Str × Nat)} {ti : TI'} {gH : TG} {g : TG'} {tt : TT'} {te : TE'} (hc : X.calm = true) (hN : X.N.Nodup) (hi : MI X W tg iter ti) (ok : BlkOk X.N X.env.scope scope own)
    (hg : ∀ (s : Shared) (H : Hp) (C : Addr) (cl : List (Str × Addr)) (fp : List Addr), PG (X.blk s H scope (compEnvC scope cl C X.env) fp) tg gH) (cg : CompG X.K (own.map (·.2)) gH g)
    (ht : ∀ (s : Shared) (H : Hp) (C : Addr) (cl : List (Str × Addr)) (fp : List Addr), MTs (X.blk s H scope (compEnvC scope cl C X.env) fp) WF ifs tt)
    (he : ∀ (s : Shared) (H : Hp) (C : Addr) (cl : List (Str × Addr)) (fp : List Addr), ME (X.blk s H scope (compEnvC scope cl C X.env) fp) WF elt te) (hs : ∀ x, foldedSetIterable iter X.env x = pure x := by intro _; rfl) :
    ME X W (.ListComp elt [⟨tg, iter, ifs, 0⟩] scope pos) (tLc' cell ti g tt te (own.map (·.2))) :=
  ⟨PE.imp (pe_lc (tt := upT X.K WF tt) (te := up X.K WF te) hc hN hi.pi ok hg (fun s H C cl fp => (ht s H C cl fp).pts) (fun s H C cl fp => (he s H C cl fp).pe) hs) fun σ H Q ⟨w, δ, eH, rh, rs, h⟩ => by
    subst eH
    have mt : MonoT tt := (ht X.s_0 X.H_0 0 [] []).mono
    have me : MonoE te := (he X.s_0 X.H_0 0 [] []).mono
    refine ⟨w, δ, rfl, rh, rs, hi.mono _ _ _ _ _ _ (fun it M1 h1 J w1 e1 l1 rh1 ok1 st p hp => ?_) (fun _ _ x => x) h⟩
    subst e1
    refine ⟨fun i m H => ∃ (w2 : Wd) (r acc : List MD.D) (accv : List V), w2.H = H ∧ Le w1 w2 ∧ RH X.K w2 ∧ p ∈ w2.r ∧ w2.H p = some (.lst accv) ∧ RepL X.K w2 acc accv ∧ (∀ a ∈ w1.r, a ∈ w2.r) ∧ r = it.items.drop i ∧ i ≤ it.items.length ∧ m = r.length ∧
        lcL it g tt te (own.map (·.2)) δ (fun acc M2 => newL cell acc M2 (PV X.K w Q)) r acc w2.M,
      ⟨it.items.length, w1.hold p, it.items, [], [], rfl, Le.hold hp, rh1.hold hp, List.mem_cons_self, upd_same, RepL.nil, fun a ha => List.mem_cons_of_mem _ ha, by simp, Nat.zero_le _, rfl, h1⟩, ?_⟩
    rintro i m H2 ⟨w2, r, acc, accv, rfl, l2, rh2, hp2, hl2, hr2, hs2, er, hi2, rfl, h2⟩
    cases r with
    | nil =>
      have hl : it.items.length ≤ i := by
        have := congrArg List.length er
        simp at this; omega
      have : i = it.items.length := by omega
      subst this
      exact .inl ⟨(ok1 w2 l2 rh2 h2.1).1, lc_end rh rh1 l1 hp rh2 l2 hp2 hl2 hr2 hs2 h2.2⟩
    | cons d r =>
      have hd : it.items[i]? = some d := by
        have : (it.items.drop i)[0]? = some d := by rw [← er]; rfl
        simpa using this
      have hr : r = it.items.drop (i + 1) := by
        have : (it.items.drop i).drop 1 = r := by rw [← er]; rfl
        rw [← this, List.drop_drop]
      have hlt : i < it.items.length := (List.getElem?_eq_some_iff.mp hd).1
      obtain ⟨go, yl⟩ := (ok1 w2 l2 rh2 h2.1).2 i d hd
      refine .inr ⟨go, fun H' => ∃ (w5 : Wd) (acc : List MD.D) (accv : List V), w5.H = H' ∧ Le w1 w5 ∧ RH X.K w5 ∧ p ∈ w5.r ∧ w5.H p = some (.lst accv) ∧ RepL X.K w5 acc accv ∧ (∀ a ∈ w1.r, a ∈ w5.r) ∧
          lcL it g tt te (own.map (·.2)) δ (fun acc M2 => newL cell acc M2 (PV X.K w Q)) r acc w5.M,
        fun H' ⟨w5, acc5, accv5, e5, l5, rh5, hp5, hl5, hr5, hs5, q5⟩ => ⟨r.length, Nat.lt_succ_self _, w5, r, acc5, accv5, e5, l5, rh5, hp5, hl5, hr5, hs5, hr, hlt, rfl, q5⟩, fun x H' hy => ?_⟩
      obtain ⟨w3, e3, eM, l3, rh3, rx⟩ := yl x H' hy
      subst e3
      have lr3 : ∀ a ∈ w2.r, a ∈ w3.r := fun a ha => by
        obtain ⟨s, es, _⟩ := l3.rr
        rw [es]; exact List.mem_append_right _ ha
      have hp3 := lr3 p hp2
      have hl3 : w3.H p = some (.lst accv) := l3.keep p _ hl2 (rh2.r_dead hp2)
      have l13 := l2.trans rh1 rh2 l3
      have h2' := h2.2
      rw [← eM] at h2'
      have rsw : RepS X.K w3 (wipeD δ (own.map (·.2))) (wipe σ (own.map (·.2))) := (((rs.le rh l1).le rh1 l13)).wipe _
      have q := cg.run w3 (wipe σ (own.map (·.2))) (wipeD δ (own.map (·.2))) d x _ rh3 rsw rx h2'
      have key : ∀ σ2 H2, (wipe σ2 (own.map (·.2)) = wipe (wipe σ (own.map (·.2))) (own.map (·.2)) ∧ H2 = w3.H ∧ ∃ δ2, RepS X.K w3 δ2 σ2 ∧ tt δ2 w3.M (fun b M3 =>
          if b = true then te δ2 M3 (fun y M4 => acc.length < sizeLine ∧ lcL it g tt te (own.map (·.2)) δ (fun acc M2 => newL cell acc M2 (PV X.K w Q)) r (acc ++ [y]) M4) (fun _ _ => False) else lcL it g tt te (own.map (·.2)) δ (fun acc M2 => newL cell acc M2 (PV X.K w Q)) r acc M3) (fun _ _ => False)) →
          wipe σ2 (own.map (·.2)) = wipe σ (own.map (·.2)) ∧ upT X.K WF tt σ2 H2 fun b H3 => if b = true then up X.K WF te σ2 H3 fun y H4 => ∃ acc, H4 p = some (.lst acc) ∧ acc.length < sizeLine ∧
            (fun H' => ∃ (w5 : Wd) (acc : List MD.D) (accv : List V), w5.H = H' ∧ Le w1 w5 ∧ RH X.K w5 ∧ p ∈ w5.r ∧ w5.H p = some (.lst accv) ∧ RepL X.K w5 acc accv ∧ (∀ a ∈ w1.r, a ∈ w5.r) ∧
              lcL it g tt te (own.map (·.2)) δ (fun acc M2 => newL cell acc M2 (PV X.K w Q)) r acc w5.M) (upd H4 p (.lst (acc ++ [y]))) else
            (fun H' => ∃ (w5 : Wd) (acc : List MD.D) (accv : List V), w5.H = H' ∧ Le w1 w5 ∧ RH X.K w5 ∧ p ∈ w5.r ∧ w5.H p = some (.lst accv) ∧ RepL X.K w5 acc accv ∧ (∀ a ∈ w1.r, a ∈ w5.r) ∧
              lcL it g tt te (own.map (·.2)) δ (fun acc M2 => newL cell acc M2 (PV X.K w Q)) r acc w5.M) H3 := by
        rintro σ2 _ ⟨ew, rfl, δ2, rs2, q2⟩
        refine ⟨by rw [ew, wipe_wipe], upT_go mt rh3 rs2 q2 (fun _ _ z => z.elim) fun b w4 l4 rh4 rs4 q4 => ?_⟩
        have lr4 : ∀ a ∈ w3.r, a ∈ w4.r := fun a ha => by
          obtain ⟨s, es, _⟩ := l4.rr
          rw [es]; exact List.mem_append_right _ ha
        have hp4 := lr4 p hp3
        have hl4 : w4.H p = some (.lst accv) := l4.keep p _ hl3 (rh3.r_dead hp3)
        have l14 := l13.trans rh1 rh3 l4
        cases b with
        | false =>
          exact ⟨w4, acc, accv, rfl, l14, rh4, hp4, hl4, (RepL.le rh2 l3 _ hr2).le' rh3 l4, fun a ha => lr4 a (lr3 a (hs2 a ha)), q4⟩
        | true =>
          refine up_go me rh4 rs4 q4 (fun _ _ z => z.elim) fun dy vy w6 l6 rh6 rs6 ry ⟨q6, q7⟩ => ?_
          have lr6 : ∀ a ∈ w4.r, a ∈ w6.r := fun a ha => by
            obtain ⟨s, es, _⟩ := l6.rr
            rw [es]; exact List.mem_append_right _ ha
          have hp6 := lr6 p hp4
          have hl6 : w6.H p = some (.lst accv) := l6.keep p _ hl4 (rh4.r_dead hp4)
          have l16 := l14.trans rh1 rh4 l6
          have ra : RepL X.K w6 acc accv := ((RepL.le rh2 l3 _ hr2).le' rh3 l4).le' rh4 l6
          refine ⟨accv, hl6, by rw [ra.length]; exact q6, w6.turn p (accv ++ [vy]), acc ++ [dy], accv ++ [vy], rfl, l16.turn hp, rh6.turn hp6 hl6, hp6, upd_same, RepL.turn hp6 hl6 _ (ra.append (RepL.cons ry RepL.nil)), fun a ha => lr6 a (lr4 a (lr3 a (hs2 a ha))), q7⟩
      exact cg.hm _ _ _ _ _ key q, fun δ M Q Q' E E' q x hh => hi.mono _ _ _ _ _ _ (fun it M1 h1 => mono_lcL cg.mono (ht X.s_0 X.H_0 0 [] []).mono (he X.s_0 X.H_0 0 [] []).mono (fun a M h2 => h2.mono q) _ _ _ h1) x hh⟩
end MD
/-! MD: defs' promises, methods of built-ins. -/
namespace MD
open PySem PySem.Spec PyProof.Rows L2
variable {K : PySem.W.Frag} {w w1 w2 : Wd} {X : Cx} {W : WX} {e a b c : Expr} {pos : Pos}

/-! ### what a def leaves -/
mutual
def D.bel (n : Nat) : D → Bool
  | .ref i => decide (i < n)
  | .tup ds => D.belL n ds
  | .lst ds => D.belL n ds
  | _ => true
def D.belL (n : Nat) : List D → Bool
  | [] => true
  | d :: ds => D.bel n d && D.belL n ds
end
def Cell.below (n : Nat) : Cell → Bool
  | .lst ds => D.belL n ds
  | .dic kvs => D.belL n (kvs.map (·.2))
  | .dit kvs => D.belL n (kvs.map (·.2))
  | .ins _ fs => D.belL n (fs.map (·.2))
  | .dead => true
def WFM (M : MH) : Prop := ∀ c ∈ M, Cell.below M.length c = true
open Classical in
noncomputable def popM (n : Nat) (d : D) (M : MH) : MH := if d.bel n = true ∧ ∀ c ∈ M.take n, Cell.below n c = true then M.take n else M
theorem popM_same {n : Nat} {d : D} {M : MH} (h : M.length ≤ n) : popM n d M = M := by
  unfold popM
  split
  · exact List.take_of_length_le h
  · rfl
theorem popM_pop {n : Nat} {d : D} {M M' : MH} (hd : d.bel n = true) (hM : ∀ c ∈ M.take n, Cell.below n c = true) (e : M.take n = M') : popM n d M = M' := by
  unfold popM
  rw [if_pos ⟨hd, hM⟩, e]
mutual
theorem Rep.below (rh : RH K w) : ∀ (d : D) {v : V}, Rep K w d v → d.bel w.M.length = true
  | .ref i, _, h => by
    obtain ⟨a, _, h⟩ := h
    unfold D.bel
    rw [← rh.len]
    exact decide_eq_true (List.getElem?_eq_some_iff.mp h).1
  | .tup ds, _, h => by
    obtain ⟨a, zs, e, h1, hr⟩ := h
    unfold D.bel
    exact RepL.below rh ds hr
  | .lst ds, _, h => by
    obtain ⟨a, zs, e, h1, nl, nr, hr⟩ := h
    unfold D.bel
    exact RepL.below rh ds hr
  | .non, _, _ => by unfold D.bel; rfl
  | .bl _, _, _ => by unfold D.bel; rfl
  | .int _, _, _ => by unfold D.bel; rfl
  | .str _, _, _ => by unfold D.bel; rfl
  | .scr _, _, _ => by unfold D.bel; rfl
  | .con _, _, _ => by unfold D.bel; rfl
  | .exc _ _ _ _, _, _ => by unfold D.bel; rfl
  | .dct, _, _ => by unfold D.bel; rfl
theorem RepL.below (rh : RH K w) : ∀ (ds : List D) {vs : List V}, RepL K w ds vs → D.belL w.M.length ds = true
  | [], _, _ => by unfold D.belL; rfl
  | d :: ds, _, h => by
    obtain ⟨x, r', e, h1, h2⟩ := h
    unfold D.belL
    rw [Rep.below rh d h1, RepL.below rh ds h2]; rfl
end
theorem RH.wfm (rh : RH K w) : WFM w.M := fun c hc => by
  obtain ⟨i, hi, e⟩ := List.getElem_of_mem hc
  have hm : i < w.m.length := by rw [rh.len]; exact hi
  have ok := rh.ok i w.m[i] c (List.getElem?_eq_getElem hm) (by rw [List.getElem?_eq_getElem hi, e])
  cases c with
  | lst ds => obtain ⟨_, _, h⟩ := ok; exact RepL.below rh _ h
  | dic ds => obtain ⟨_, _, h⟩ := ok; exact RepL.below rh _ h.2
  | dit ds => obtain ⟨_, _, h⟩ := ok; exact RepL.below rh _ h.2
  | ins C fs => obtain ⟨_, _, _, h⟩ := ok; exact RepL.below rh _ h.2
  | dead => rfl
def Wd.pop (w : Wd) (n : Nat) : Wd := { w with m := w.m.take n, M := w.M.take n }
theorem live_pop {n : Nat} {a : Addr} (h : Live (w.pop n) a) : Live w a := by
  obtain ⟨i, c, e, ec, nd⟩ := h
  have e : (w.m.take n)[i]? = some a := e
  have ec : (w.M.take n)[i]? = some c := ec
  have hi : i < n := by
    by_cases hi : i < n
    · exact hi
    · rw [List.getElem?_take_eq_none (by omega)] at e; cases e
  rw [List.getElem?_take_of_lt hi] at e ec
  exact ⟨i, c, e, ec, nd⟩
mutual
theorem Rep.pop {n : Nat} : ∀ (d : D) {v : V}, d.bel n = true → Rep K w d v → Rep K (w.pop n) d v
  | .ref i, _, hb, h => by
    simp only [Rep] at h ⊢
    obtain ⟨a, e, h⟩ := h
    unfold D.bel at hb
    refine ⟨a, e, ?_⟩
    show (w.m.take n)[i]? = _
    rw [List.getElem?_take_of_lt (of_decide_eq_true hb)]; exact h
  | .tup ds, _, hb, h => by
    simp only [Rep] at h ⊢
    obtain ⟨a, zs, e, h1, hr⟩ := h
    unfold D.bel at hb
    exact ⟨a, zs, e, h1, RepL.pop ds hb hr⟩
  | .lst ds, _, hb, h => by
    simp only [Rep] at h ⊢
    obtain ⟨a, zs, e, h1, nl, nr, hr⟩ := h
    unfold D.bel at hb
    exact ⟨a, zs, e, h1, fun z => nl (live_pop z), nr, RepL.pop ds hb hr⟩
  | .non, _, _, h => by simpa [Rep] using h
  | .bl b, _, _, h => by simpa [Rep] using h
  | .int i, _, _, h => by simpa [Rep] using h
  | .str x, _, _, h => by simpa [Rep] using h
  | .con u, _, _, h => by simpa [Rep] using h
  | .exc _ _ _ _, _, _, h => by simp only [Rep] at h ⊢; exact h
  | .dct, _, _, h => by
    simp only [Rep] at h ⊢
    obtain ⟨a, zs, e, h1, nl, nr⟩ := h
    exact ⟨a, zs, e, h1, fun z => nl (live_pop z), nr⟩
  | .scr ns, _, _, h => by simp only [Rep] at h ⊢; exact h
theorem RepL.pop {n : Nat} : ∀ (ds : List D) {vs : List V}, D.belL n ds = true → RepL K w ds vs → RepL K (w.pop n) ds vs
  | [], _, _, h => h
  | d :: ds, _, hb, h => by
    simp only [RepL] at h ⊢
    obtain ⟨x, r', e, h1, h2⟩ := h
    unfold D.belL at hb
    rw [Bool.and_eq_true] at hb
    exact ⟨x, r', e, Rep.pop d hb.1 h1, RepL.pop ds hb.2 h2⟩
end
theorem RH.pop {n : Nat} (r : RH K w) (hM : ∀ c ∈ w.M.take n, Cell.below n c = true) : RH K (w.pop n) := by
  refine ⟨by simp [Wd.pop, r.len], r.nd.sublist (List.take_sublist n w.m), fun a ha => r.dr a (List.mem_of_mem_take ha), fun i a c e ec => ?_, r.rk⟩
  have e : (w.m.take n)[i]? = some a := e
  have ec : (w.M.take n)[i]? = some c := ec
  have hi : i < n := by
    by_cases hi : i < n
    · exact hi
    · rw [List.getElem?_take_eq_none (by omega)] at e; cases e
  have hb := hM c (List.mem_of_getElem? ec)
  rw [List.getElem?_take_of_lt hi] at e ec
  have ok := r.ok i a c e ec
  cases c with
  | lst ds => obtain ⟨xs, h1, h2⟩ := ok; exact ⟨xs, h1, RepL.pop _ hb h2⟩
  | dic ds => obtain ⟨xs, h1, h2⟩ := ok; exact ⟨xs, h1, h2.1, RepL.pop _ hb h2.2⟩
  | dit ds => obtain ⟨xs, h1, h2⟩ := ok; exact ⟨xs, h1, h2.1, RepL.pop _ hb h2.2⟩
  | ins C fs => obtain ⟨dx, xs, h1, h2⟩ := ok; exact ⟨dx, xs, h1, h2.1, RepL.pop _ hb h2.2⟩
  | dead => exact ok
theorem Le.pop {w0 : Wd} (r0 : RH K w0) (l : Le w0 w) : Le w0 (w.pop w0.M.length) := by
  obtain ⟨t, et, ft⟩ := l.pre
  refine ⟨⟨[], ?_, by simp⟩, fun i h => ?_, l.keep, l.rr⟩
  · show w.m.take w0.M.length = w0.m ++ []
    rw [et, ← r0.len, List.take_left', List.append_nil]; rfl
  · have := l.dead i h
    show (w.M.take w0.M.length)[i]? = _
    rw [List.getElem?_take_of_lt (List.getElem?_eq_some_iff.mp h).1]; exact this
theorem PV.pop {w0 : Wd} (r0 : RH K w0) {Q : VK} {d : D} {M : MH} (h : PV K w0 Q d (popM w0.M.length d M)) : PV K w0 Q d M := by
  intro v w1 e l r1 rv
  subst e
  unfold popM at h
  by_cases hc : d.bel w0.M.length = true ∧ ∀ c ∈ w1.M.take w0.M.length, Cell.below w0.M.length c = true
  · rw [if_pos hc] at h
    exact h v (w1.pop w0.M.length) rfl (l.pop r0) (r1.pop hc.2) (Rep.pop d hc.1 rv)
  · rw [if_neg hc] at h
    exact h v w1 rfl l r1 rv
open Classical in
noncomputable def popX (n : Nat) (x : Xc) (M : MH) : MH := if ∀ c ∈ M.take n, Cell.below n c = true then M.take n else M
theorem popX_same {n : Nat} {x : Xc} {M : MH} (h : M.length ≤ n) : popX n x M = M := by
  unfold popX
  split
  · exact List.take_of_length_le h
  · rfl
theorem RepX.pop {n : Nat} {x : Xc} {cls : Value} {dx : Option Addr} (h : RepX K w x cls dx) : RepX K (w.pop n) x cls dx := h
theorem PX.pop {w0 : Wd} (r0 : RH K w0) {Q : Value → Option Addr → Hp → Prop} {x : Xc} {M : MH} (h : PX K w0 Q x (popX w0.M.length x M)) : PX K w0 Q x M := by
  intro c v w1 e l r1 rv
  subst e
  unfold popX at h
  by_cases hc : ∀ c ∈ w1.M.take w0.M.length, Cell.below w0.M.length c = true
  · rw [if_pos hc] at h
    exact h c v (w1.pop w0.M.length) rfl (l.pop r0) (r1.pop hc) (RepX.pop rv)
  · rw [if_neg hc] at h
    exact h c v w1 rfl l r1 rv

/-! ### a def keeps its promise -/
noncomputable def retE (n : Nat) (Q : QE) (E : QX) : Ends' := { nx := fun _ M => Q .non (popM n .non M), rt := fun d M => Q d (popM n d M), ex := fun x _ M => E x (popX n x M) }
def startD (N : List Str) (ds : List D) : EnvD := ds.map some ++ List.replicate (N.length - ds.length) none
theorem RepL.start {ds : List D} {vs : List V} (h : RepL K w ds vs) (N : List Str) : RepS K w (startD N ds) (L2.start N vs) := by
  refine ⟨by simp [startD, L2.start, h.length], fun i d e => ?_⟩
  unfold startD at e
  by_cases hi : i < ds.length
  · rw [List.getElem?_append_left (by simpa using hi), List.getElem?_map] at e
    cases hd : ds[i]? with
    | none => rw [hd] at e; cases e
    | some d' =>
      rw [hd] at e
      have : d' = d := Option.some.inj (Option.some.inj e)
      subst this
      obtain ⟨v, ev, rv⟩ := h.get hd
      refine ⟨v, ?_, rv⟩
      unfold L2.start
      rw [List.getElem?_append_left (by rw [List.length_map, h.length]; exact hi), List.getElem?_map, ev]; rfl
  · rw [List.getElem?_append_right (by simpa using hi)] at e
    have := List.mem_of_getElem? e
    rw [List.mem_replicate] at this
    cases this.2
section
variable {P : Program} {wd : World} {mg : Str → Option Value} {base : Heap}
theorem okM {x qual : Str} {st : Stmt} {f : Addr} {fd : FuncData} {N ps : List Str} {k : Nat} {sp : SpD} (F : Fun K x qual st f fd) (S : FnScope N ps (defScope st)) (len : ∀ ds M Q E, sp ds M Q E → ds.length = ps.length)
    (hbody : ∀ (cdv : Value) (A : Around) (outer : List Env) (s : Shared) (H : Hp) (E : XK), Room k (A.deeper (envOfC qual (defScope st) s.heap.objs.size f cdv)) →
      ∃ ts, MSs (cxOf (L2.CX P wd) P wd K mg base N qual (defScope st) f cdv A outer s H E) (fun c d _ H => E c d H) (defBody st) ts ∧
        ∀ ds M Q' E', WFM M → D.belL M.length ds = true → sp ds M Q' E' → ts (retE M.length Q' E') (startD N ds) M) : FnOk P wd K mg base (L2.CX P wd) (k + 1) f fd ps (upP K sp) := by
  refine F.okX S (fun vs H Q E ⟨w, ds, _, _, hr, h⟩ => by rw [hr.length]; exact len _ _ _ _ h) fun cdv A outer s H vs Q E hr h => ?_
  obtain ⟨w, ds, rfl, rh, hd, h⟩ := h
  obtain ⟨ts, hs, q⟩ := hbody cdv A outer s w.H E hr
  refine ⟨_, hs.ps, w, startD N ds, rfl, rh, hd.start N, hs.mono _ _ _ _ ?_ (q ds w.M _ _ rh.wfm (RepL.below rh ds hd) h)⟩
  exact ⟨fun δ M h1 σ w1 e l r1 s1 => PV.pop rh h1 .non w1 e l r1 (by simp [Rep]), fun d M h1 => PV.pop rh h1, fun _ _ h => h.elim, fun _ _ h => h.elim, fun x δ M h1 cls dx σ w1 e l r1 s1 rx => PX.pop rh h1 cls dx w1 e l r1 rx⟩
end

/-! ### methods of built-ins -/
def tyD (T : String) (d : D) (M : MH) : Prop := match d with
  | .str _ => T = "str"
  | .lst _ => T = "list"
  | .ref i => (T = "list" ∧ ∃ ds, M[i]? = some (.lst ds)) ∨ (T = "dict" ∧ ((∃ kvs, M[i]? = some (.dic kvs)) ∨ ∃ kvs, M[i]? = some (.dit kvs)))
  | _ => False
theorem tyD_tyV {T : String} {d : D} {v : V} (rh : RH K w) (r : Rep K w d v) (h : tyD T d w.M) : tyV K T v w.H := by
  cases d with
  | str x => rw [rep_str r]; exact h
  | lst ds =>
    obtain ⟨a, xs, e, hx, _⟩ := r
    subst e
    exact .inl ⟨h, xs, SqL.of hx⟩
  | ref i =>
    obtain ⟨a, e, em⟩ := r
    subst e
    rcases h with ⟨h, ds, ec⟩ | ⟨h, ⟨ds, ec⟩ | ⟨ds, ec⟩⟩
    · obtain ⟨xs, hx, _⟩ := rh.ok i a _ em ec
      exact .inl ⟨h, xs, SqL.of hx⟩
    · obtain ⟨xs, hx, _⟩ := rh.ok i a _ em ec
      exact .inr (.inr (.inl ⟨h, .inl ⟨xs, hx⟩⟩))
    · obtain ⟨xs, hx, _⟩ := rh.ok i a _ em ec
      exact .inr (.inr (.inl ⟨h, .inr ⟨xs, hx⟩⟩))
  | _ => exact h.elim
abbrev RM' := D → List D → MH → QE → Prop
def LiftM (K : PySem.W.Frag) (r : V → List V → Hp → VK → Prop) (r' : RM') : Prop := ∀ (w : Wd) (x : V) (xs : List V) (d : D) (ds : List D) (Q : VK), RH K w → Rep K w d x → RepL K w ds xs → r' d ds w.M (PV K w Q) → r x xs w.H Q
def MonoM (r : RM') : Prop := ∀ x ds M (Q Q' : QE), (∀ d M, Q d M → Q' d M) → r x ds M Q → r x ds M Q'
def tBM' (T : String) (r : RM') (to : TE') (t : TA') : TE' := fun δ M Q E => to δ M (fun x M1 => tyD T x M1 ∧ t δ M1 (fun ds M2 => r x ds M2 Q) E) E
theorem me_bm {T id : String} {name : Str} {apos cpos : Pos} {o e : Expr} {es : List Expr} {r : V → List V → Hp → VK → Prop} {r' : RM'} {to : TE'} {t : TA'} (pa : PlainAttrs T) (slot : Slot T name id) (hty : typeOf (.builtin id) = pure (.type "method_descriptor")) (hm : MtR X id r) (L : LiftM X.K r r') (mr : MonoM r')
    (ho : ME X W o to) (ha : MA X W (e :: es) t)
    (hbase : attributeBase o name X.env (eval o X.env) = eval o X.env := by rfl)
    (hfew : ((backTo cpos (starEach (e :: es) X.env)).all (fun x => !x.1) && (backToKw cpos (keywordEach [] X.env)).all (fun x => x.1.isSome)
      && decide ((e :: es).length + ([] : List Keyword).length + (if ([] : List Keyword).isEmpty then 0 else 1) < 30)) = true := by rfl)
    (hline : (apos.endLine == cpos.line) = true := by rfl) (hs : starEach (e :: es) X.env = (false, eval e X.env) :: starEach es X.env := by rfl) (hplain : (backTo cpos (starEach es X.env)).any (·.1) = false := by rfl) :
    ME X W (.Call (.Attribute o name apos) (e :: es) [] cpos) (tBM' T r' to t) :=
  ⟨PE.imp (pe_bm pa slot hty hm ho.pe ha.pa hbase hfew hline hs hplain) fun σ H Q ⟨w, δ, eH, rh, rs, h⟩ => by
    subst eH
    refine up_go ho.mono rh rs h (fun _ _ x => x) fun d v w1 l1 rh1 rs1 rv ⟨h1, h2⟩ => ⟨tyD_tyV rh1 rv h1, ?_⟩
    refine upA_go ha.mono rh1 rs1 h2 (fun _ _ x => x.le rh rh1 l1) fun ds vs w2 l2 rh2 rs2 rvs h3 => ?_
    exact L w2 v vs d ds Q rh2 (rv.le' rh1 l2) rvs (mr _ _ _ _ _ (fun d M q => (q.le rh rh1 l1).le rh1 rh2 l2) h3),
   fun δ M Q Q' E E' q x hh => ho.mono _ _ _ _ _ _ (fun d M1 ⟨h1, h2⟩ => ⟨h1, ha.mono _ _ _ _ _ _ (fun ds M2 h3 => mr _ _ _ _ _ q h3) x h2⟩) x hh⟩
theorem me_bm0 {T id : String} {name : Str} {apos cpos : Pos} {o : Expr} {r : V → List V → Hp → VK → Prop} {r' : RM'} {to : TE'} (pa : PlainAttrs T) (slot : Slot T name id) (hty : typeOf (.builtin id) = pure (.type "method_descriptor")) (hm : MtR X id r) (L : LiftM X.K r r') (mr : MonoM r')
    (ho : ME X W o to)
    (hbase : attributeBase o name X.env (eval o X.env) = eval o X.env := by rfl) (hline : (apos.endLine == cpos.line) = true := by rfl) :
    ME X W (.Call (.Attribute o name apos) [] [] cpos) (tBM' T r' to tNil') :=
  ⟨PE.imp (pe_bm0 pa slot hty hm ho.pe hbase hline) fun σ H Q ⟨w, δ, eH, rh, rs, h⟩ => by
    subst eH
    refine up_go ho.mono rh rs h (fun _ _ x => x) fun d v w1 l1 rh1 rs1 rv ⟨h1, h2⟩ => ⟨tyD_tyV rh1 rv h1, ?_⟩
    exact L w1 v [] d [] Q rh1 rv RepL.nil (mr _ _ _ _ _ (fun d M q => q.le rh rh1 l1) h2),
   fun δ M Q Q' E E' q x hh => ho.mono _ _ _ _ _ _ (fun d M1 ⟨h1, h2⟩ => ⟨h1, mr _ _ _ _ _ q h2⟩) x hh⟩

/-! ### slices -/
abbrev TO' := EnvD → MH → (Option Int → MH → Prop) → QX → Prop
def MonoO (t : TO') : Prop := ∀ δ M (Q Q' : Option Int → MH → Prop) (E E' : QX), (∀ d M, Q d M → Q' d M) → (∀ x M, E x M → E' x M) → t δ M Q E → t δ M Q' E'
def upO (K : PySem.W.Frag) (W : WX) (t : TO') : TO := fun σ H Q => ∃ (w : Wd) (δ : EnvD), w.H = H ∧ RH K w ∧ RepS K w δ σ ∧ t δ w.M (fun o M1 => ∀ w1, w1.M = M1 → Le w w1 → RH K w1 → Q o w1.H) (PX K w fun c d H => W c d σ H)
structure MO (X : Cx) (W : WX) (e : Option Expr) (t : TO') : Prop where
  po : PO X e (upO X.K W t)
  mono : MonoO t
theorem PO.imp {e : Option Expr} {t t' : TO} (h : PO X e t) (i : ∀ σ H Q, t' σ H Q → t σ H Q) : PO X e t' := ⟨fun pins s σ H Q I q => h.run pins s σ H Q I (i _ _ _ q)⟩
def tNoPart' : TO' := fun _ M Q _ => Q none M
def tPart' (t : TE') : TO' := fun δ M Q E => t δ M (fun d M1 => ∃ i, d = .int i ∧ Q (some i) M1) E
theorem mo_none : MO X W none tNoPart' := ⟨PO.imp po_none fun σ H Q ⟨w, δ, eH, rh, rs, h⟩ => by subst eH; exact h w rfl (Le.refl w) rh, fun _ _ _ _ _ _ q _ h => q _ _ h⟩
theorem mo_some {t : TE'} (h : ME X W e t) : MO X W (some e) (tPart' t) :=
  ⟨PO.imp (po_some h.pe) fun σ H Q ⟨w, δ, eH, rh, rs, h1⟩ => by
    subst eH
    refine up_go h.mono rh rs h1 (fun _ _ x => x) fun d v w1 l1 rh1 rs1 rv ⟨i, e, h2⟩ => ?_
    subst e
    exact ⟨i, rep_int rv, h2 w1 rfl l1 rh1⟩, fun δ M Q Q' E E' q x hh => h.mono _ _ _ _ _ _ (fun d M1 ⟨i, e, h1⟩ => ⟨i, e, q _ _ h1⟩) x hh⟩
abbrev RS' := D → Option Int → Option Int → MH → QE → Prop
def LiftSl (K : PySem.W.Frag) (r : V → Option Int → Option Int → Hp → VK → Prop) (r' : RS') : Prop := ∀ (w : Wd) (x : V) (d : D) (lo hi : Option Int) (Q : VK), RH K w → Rep K w d x → r' d lo hi w.M (PV K w Q) → r x lo hi w.H Q
def MonoSl (r : RS') : Prop := ∀ d lo hi M (Q Q' : QE), (∀ d M, Q d M → Q' d M) → r d lo hi M Q → r d lo hi M Q'
def tSl' (r : RS') (te : TE') (tl th : TO') : TE' := fun δ M Q E => te δ M (fun d M1 => tl δ M1 (fun lo M2 => th δ M2 (fun hi M3 => r d lo hi M3 Q) E) E) E
theorem upO_go {t : TO'} (ma : MonoO t) {σ : L2.St} {δ : EnvD} {G : Option Int → Hp → Prop} {Q0 : Option Int → MH → Prop} {E0 : QX} {w : Wd} (r : RH K w) (s : RepS K w δ σ) (h : t δ w.M Q0 E0)
    (hE : ∀ x M, E0 x M → PX K w (fun c d H => W c d σ H) x M)
    (hG : ∀ b w1, Le w w1 → RH K w1 → RepS K w1 δ σ → Q0 b w1.M → G b w1.H) : upO K W t σ w.H G :=
  ⟨w, δ, rfl, r, s, ma _ _ _ _ _ _ (fun d M q w1 e l r1 => by subst e; exact hG d w1 l r1 (s.le r l) q) hE h⟩
theorem me_slice {lo hi : Option Expr} {p2 : Pos} {r : V → Option Int → Option Int → Hp → VK → Prop} {r' : RS'} {te : TE'} {tl th : TO'} (hr : SlR X r) (L : LiftSl X.K r r') (mr : MonoSl r') (he : ME X W e te) (hl : MO X W lo tl) (hu : MO X W hi th) :
    ME X W (.Subscript e (.Slice lo hi none p2) pos) (tSl' r' te tl th) :=
  ⟨PE.imp (pe_slice hr he.pe hl.po hu.po) fun σ H Q ⟨w, δ, eH, rh, rs, h⟩ => by
    subst eH
    refine up_go he.mono rh rs h (fun _ _ x => x) fun d v w1 l1 rh1 rs1 rv h1 => ?_
    refine upO_go hl.mono rh1 rs1 h1 (fun _ _ x => x.le rh rh1 l1) fun lo w2 l2 rh2 rs2 h2 => ?_
    have l02 := l1.trans rh rh1 l2
    refine upO_go hu.mono rh2 rs2 h2 (fun _ _ x => x.le rh rh2 l02) fun hi w3 l3 rh3 rs3 h3 => ?_
    exact L w3 v d lo hi Q rh3 ((rv.le' rh1 l2).le' rh2 l3) (mr _ _ _ _ _ _ (fun d M q => (q.le rh rh2 l02).le rh2 rh3 l3) h3),
   fun δ M Q Q' E E' q x hh => he.mono _ _ _ _ _ _ (fun d M1 h1 => hl.mono _ _ _ _ _ _ (fun o M2 h2 => hu.mono _ _ _ _ _ _ (fun o M3 h3 => mr _ _ _ _ _ _ q h3) x h2) x h1) x hh⟩
/-- a comparison of three -/
def tChain' (r r' : R2') (ta tb tc : TE') : TE' := fun δ M Q E => ta δ M (fun x M1 => tb δ M1 (fun y M2 => r x y M2 fun z M3 => ∃ k, z = .bl k ∧ if k = true then tc δ M3 (fun u M4 => r' y u M4 Q) E else Q (.bl false) M3) E) E
theorem mono_chain {r r' : R2'} {ta tb tc : TE'} (hr : Mono2 r) (hr' : Mono2 r') (ha : MonoE ta) (hb : MonoE tb) (hc : MonoE tc) : MonoE (tChain' r r' ta tb tc) := fun δ M Q Q' E E' q x h =>
  ha _ _ _ _ _ _ (fun d M1 h1 => hb _ _ _ _ _ _ (fun d2 M2 h2 => hr _ _ _ _ _ (fun z M3 ⟨k, e, h3⟩ => ⟨k, e, by
    cases k with
    | true => exact hc _ _ _ _ _ _ (fun u M4 h4 => hr' _ _ _ _ _ q h4) x h3
    | false => exact q _ _ h3⟩) h2) x h1) x h
theorem chain_lift {r1 r2 : R2} {r1' r2' : R2'} {ta tb tc : TE'} (L1 : Lift2 K r1 r1') (L2' : Lift2 K r2 r2') (m1 : Mono2 r1') (m2 : Mono2 r2') (ma : MonoE ta) (mb : MonoE tb) (mc : MonoE tc) (σ : L2.St) (H : Hp) (Q : VK)
    (h : up K W (tChain' r1' r2' ta tb tc) σ H Q) : tChain r1 r2 (up K W ta) (up K W tb) (up K W tc) σ H Q := by
  obtain ⟨w, δ, rfl, rh, rs, h⟩ := h
  refine up_go ma rh rs h (fun _ _ x => x) fun dx vx w1 l1 rh1 rs1 rx h1 => ?_
  refine up_go mb rh1 rs1 h1 (fun _ _ x => x.le rh rh1 l1) fun dy vy w2 l2 rh2 rs2 ry h2 => ?_
  have l02 := l1.trans rh rh1 l2
  refine L1 w2 vx vy dx dy _ rh2 (rx.le' rh1 l2) ry (m1 _ _ _ _ _ (fun z M3 ⟨k, e, h3⟩ v3 w3 e3 l3 rh3 rv3 => ?_) h2)
  subst e e3
  refine ⟨k, rep_bl rv3, ?_⟩
  have l03 := l02.trans rh rh2 l3
  cases k with
  | false => exact h3 _ w3 rfl l03 rh3 (by simp [Rep])
  | true =>
    refine up_go mc rh3 (rs2.le rh2 l3) h3 (fun _ _ x => x.le rh rh3 l03) fun dz vz w4 l4 rh4 rs4 rz h4 => ?_
    exact L2' w4 vy vz dy dz Q rh4 ((ry.le' rh2 l3).le' rh3 l4) rz (m2 _ _ _ _ _ (fun d M q => (q.le rh rh3 l03).le rh3 rh4 l4) h4)
theorem me_chain {op op' : CmpOp} {r1 r2 : R2} {r1' r2' : R2'} {ta tb tc : TE'} (ho : OpR X (compareOp op) r1) (ho' : OpR X (compareOp op') r2) (L1 : Lift2 X.K r1 r1') (L2' : Lift2 X.K r2 r2') (m1 : Mono2 r1') (m2 : Mono2 r2') (ha : ME X W a ta) (hb : ME X W b tb) (hc : ME X W c tc)
    (hm : lastMarks [op, op'] [b, c] = false := by with_unfolding_all rfl) : ME X W (.Compare a [op, op'] [b, c] pos) (tChain' r1' r2' ta tb tc) :=
  ⟨PE.imp (pe_chain ho ho' ha.pe hb.pe hc.pe hm) (chain_lift L1 L2' m1 m2 ha.mono hb.mono hc.mono), mono_chain m1 m2 ha.mono hb.mono hc.mono⟩
theorem mt_chain {op op' : CmpOp} {r1 r2 : R2} {r1' r2' : R2'} {ta tb tc : TE'} (ho : OpR X (compareOp op) r1) (ho' : OpR X (compareOp op') r2) (L1 : Lift2 X.K r1 r1') (L2' : Lift2 X.K r2 r2') (m1 : Mono2 r1') (m2 : Mono2 r2') (ha : ME X W a ta) (hb : ME X W b tb) (hc : ME X W c tc)
    (hm : lastMarks [op, op'] [b, c] = false := by with_unfolding_all rfl) : MT X W (.Compare a [op, op'] [b, c] pos) (tB' (tChain' r1' r2' ta tb tc)) :=
  ⟨PT.imp (pt_chain ho ho' ha.pe hb.pe hc.pe hm) fun σ H Q ⟨w, δ, e, rh, rs, h⟩ => by
    refine chain_lift L1 L2' m1 m2 ha.mono hb.mono hc.mono σ H (fun x H' => ∃ k, x = .bl k ∧ Q k H') ⟨w, δ, e, rh, rs, ?_⟩
    refine mono_chain m1 m2 ha.mono hb.mono hc.mono _ _ _ _ _ _ (fun d M ⟨c, e, h1⟩ v w1 e1 l r1 rv => ?_) (fun _ _ x => x) h
    subst e
    exact ⟨c, rep_bl rv, h1 w1 e1 l r1⟩, mono_B (mono_chain m1 m2 ha.mono hb.mono hc.mono)⟩
end MD
/-! a comprehension that an exception may leave -/
namespace MD
open PySem PySem.Spec PyProof.Rows L2
/-- what stands at a comprehension's end; F: the frame of its block -/
def cEnd (M : Model) (A : Around) (E : Value → Shared → Prop) (u? : Option (Value → Sem Unit)) (Q : Value → Shared → Prop) (acc : Value) (C : Addr) (F : Option Addr) (r : Result) (t : Shared) : Prop :=
  match r with
  | .ok f => compPost M A E u? Q acc C (.ok f) t
  | .error x => ∃ m, t.heap.Ns C m ∧ ∀ h2, Heap.SameBut C t.heap h2 → ∀ ce : Env, ce.locals = C → ce.frame = F →
      wpAny M A (passOn "comprehension.variables-let-go" x ce : Sem Value) (fun _ _ => False) E { t with heap := h2 }
theorem comp_framed {M : Model} {A : Around} {E : Value → Shared → Prop} {s : Shared} {env : Env} {ex : Expr} {sc : Scope} {p : Pos} {mk fst : Sem Value} {g : Comprehension} {gs : List Comprehension} {cl : List (Str × Addr)} {u? : Option (Value → Sem Unit)} {Q : Value → Shared → Prop}
    (c1 : clausesOf ex = g :: gs) (c2 : ∀ x, foldedSetIterable g.iter env x = pure x) (c3 : closureFor sc env = pure cl) (c4 : sc.kind = .function) (c5 : ∀ x ∈ sc.names, x.2 = .local → sc.names.lookup x.1 = some .local)
    (h : wpAny M A fst (fun x s1 => wpAny M A (pyIter x) (fun it s2 => wpAny M A mk (fun acc s3 => wpAny M A (newFunctionEnv sc env.globals cl [] env.qual none .none (some env))
      (fun ce s4 => codeAny M A (.compStart ex 0 it acc { ce with scope := relabel sc env }) (cEnd M A E u? Q acc ce.locals ce.frame) s4) E s3) E s2) E s1) E s) :
    wpAny M A (comprehension ex sc env p mk false fst u?) Q E s := by
  unfold comprehension
  rw [c3, c1]
  have same : ∀ (x : Value) (t : Shared), E x t → E x t := fun _ _ z => z
  apply wpAny_bind
  apply wpAny_mono h _ same
  intro x s1 h1
  apply wpAny_bind
  apply wpAny_standAt
  apply wpAny_bind
  apply wpAny_of_eq (c2 x)
  apply wpAny_bind
  apply wpAny_holding
  apply wpAny_mono h1 _ same
  intro it s2 h2
  apply wpAny_standIf
  apply wpAny_bind
  apply wpAny_mono h2 _ same
  intro acc s3 h3
  apply wpAny_bind
  apply wpAny_pure
  apply wpAny_bind
  apply wpAny_mono h3 _ same
  intro ce s4 h4
  dsimp only
  have lk : ∀ x ∈ (sc.names.filter fun x => (x.2 == .local || x.2 == .cell) && x.1 != (".0" : Str)).reverse, x.2 = .local → Env.kindOf { ce with scope := relabel sc env } x.1 = some .local :=
    fun x hx hl => lookup_relabel_local (c5 x (List.mem_filter.mp (List.mem_reverse.mp hx)).1 hl)
  have lk2 : ∀ x ∈ (sc.names.filter fun x => (x.2 == .local || x.2 == .cell) && x.1 != (".0" : Str)).reverse.drop 1 ++ (sc.names.filter fun x => (x.2 == .local || x.2 == .cell) && x.1 != (".0" : Str)).reverse.take 1,
      x.2 = .local → Env.kindOf { ce with scope := relabel sc env } x.1 = some .local := fun x hx hl =>
    (List.mem_append.mp hx).elim (fun z => lk x (List.mem_of_mem_drop z) hl) (fun z => lk x (List.mem_of_mem_take z) hl)
  apply wpAny_holding
  apply wpAny_bind
  apply wpAny_attempt
  apply wpAny_holding
  refine wpAny_run ?_
  apply codeAny_mono h4
  intro r t hr
  cases r with
  | ok f =>
    cases u? with
    | none =>
      obtain ⟨m, n1, n2⟩ := hr
      apply wpAny_bind
      apply wpAny_holding
      exact wpAny_comp_letGo (cenv := { ce with scope := relabel sc env }) c4 _ t m lk n1 fun h2 m2 _ sb => wpAny_pure (n2 h2 sb)
    | some u =>
      apply wpAny_bind
      apply wpAny_rule
      apply wpAny_bind
      apply wpAny_holding
      apply wpAny_mono (show wpAny M A (u acc) _ E t from hr) _ same
      rintro _ t2 ⟨m, n1, n2⟩
      apply wpAny_bind
      exact wpAny_comp_letGo (cenv := { ce with scope := relabel sc env }) c4 _ t2 m lk2 n1 fun h2 m2 _ sb => wpAny_pure (n2 h2 sb)
  | error x =>
    have hr : ∃ m, t.heap.Ns ce.locals m ∧ ∀ h2, Heap.SameBut ce.locals t.heap h2 → ∀ e2 : Env, e2.locals = ce.locals → e2.frame = ce.frame → wpAny M A (passOn "comprehension.variables-let-go" x e2 : Sem Value) (fun _ _ => False) E { t with heap := h2 } := hr
    obtain ⟨m, n1, n2⟩ := hr
    have go : ∀ (vs : List Value), wpAny M A (do holding vs (comprehension.letGo { ce with scope := relabel sc env } (fun us => us.flatMap fun x => if x.2 == .cell then (({ ce with scope := relabel sc env } : Env).cells.lookup x.1).map Value.ref |>.toList else []) (sc.names.filter fun x => (x.2 == .local || x.2 == .cell) && x.1 != (".0" : Str)).reverse); (passOn "comprehension.variables-let-go" x { ce with scope := relabel sc env } : Sem Value)) Q E t := by
      intro vs
      apply wpAny_bind
      apply wpAny_holding
      exact wpAny_comp_letGo (cenv := { ce with scope := relabel sc env }) c4 _ t m lk n1 fun h2 m2 _ sb => wpAny_mono (n2 h2 sb _ rfl rfl) (fun _ _ z => z.elim) same
    exact go _
end MD
namespace MD
open PySem PySem.Spec PyProof.Rows L2
section
variable {M : Model} {A : Around} {E : Value → Shared → Prop} {s : Shared} {Z : Obj → Prop} {B : Heap} {env ce : Env} {outer : List Env} {L C a : Addr}
theorem note_same (x : Value) (h : ce.frame = env.frame) : noteFrame x ce = noteFrame x env := by
  unfold noteFrame PySem.frameOf
  rw [h]
/-- noted at another place: noted here -/
theorem note_other {Q : Unit → Shared → Prop} (hZ : HandSPX.Steady Z) (k1 : A.frames = some (env :: outer)) (k2 : env.frame = some L) (ne : C ≠ L) (hh : HandSPX.HeldZ B (env :: outer) a Z C s.heap)
    (hQ : ∀ h2, HandSPX.HeldZ B (env :: outer) a Z L h2 → s.heap.UpToSlots h2 → Q () { s with heap := h2 }) : wpAny M A (noteFrame (.ref a) env) Q E s := by
  obtain ⟨b1, b2, b3, oe, vs, T, oT, ts, e1, e2, e3, e4, e5, e6, e7, e8, e9⟩ := hh
  have keepT : ∀ b, b ≠ T → (s.heap.update T (Obj.mapFields (·.setIfInBounds 3 Value.none))).get? b = s.heap.get? b := fun b hb => Heap.get?_update_other _ _ (fun z => hb z.symm)
  have notT : ∀ b o, s.heap.get? b = some o → (∀ us, o.data ≠ .fields us) → b ≠ T := by
    intro b o hb hn z
    rw [z, e7] at hb
    cases hb
    exact hn ts e8
  have baseT : ∀ b o, B.get? b = some o → b ≠ T := fun b o hb z => by rw [z, e5] at hb; cases hb
  unfold noteFrame
  simp only [k2]
  apply wpAny_bind
  refine wpAny_field e1 e3 e4 ?_
  have nz : (Value.ref T != Value.none) = true := by simp
  have nl : ¬ ((rawInt C == rawInt L) = true) := by
    have : ¬ ((C : Int) = (L : Int)) := fun z => ne (Int.ofNat.inj z)
    simp [rawInt, this]
  rw [if_pos nz]
  apply wpAny_bind
  refine wpAny_field e7 e8 e9 ?_
  rw [if_neg nl]
  apply wpAny_bind
  refine wpAny_setField e7 e8 (Array.getElem?_eq_some_iff.mp e9).1 ?_
  refine HandSPX.wpAny_entryZ (oe := oe) (vs := vs) hZ k1 (b3.of_keeps fun b o hb hn => ⟨o, (keepT b (notT b o hb hn)).trans hb, rfl⟩) k2 ((keepT a (fun z => e6 z.symm)).trans e1) (fun b o hb => (keepT b (baseT b o hb)).trans (b1 b o hb)) b2 e3 ?_ e2 ?_
  · exact (Array.getElem?_eq_some_iff.mp e4).1
  · rintro h2 ⟨x1, x2, x3, x4⟩
    exact hQ h2 ⟨x1, b2, x2, x3⟩ fun b o hb hn => x4 b o ((keepT b (notT b o hb hn)).trans hb) hn
/-- in the air of a block: noted by the frame of its def -/
theorem sky_noted {Q : Unit → Shared → Prop} (hZ : HandSPX.Steady Z) (k1 : A.frames = some (env :: outer)) (k2 : env.frame = some L) (k3 : ce.frame = env.frame) (ne : C ≠ L) (sky : Sky B (env :: outer) a Z C s.heap)
    (hQ : ∀ h2, HandSPX.HeldZ B (env :: outer) a Z L h2 → s.heap.UpToSlots h2 → Q () { s with heap := h2 }) : wpAny M A (noteFrame (.ref a) ce) Q E s := by
  rw [note_same _ k3]
  rcases sky with ⟨b1, b2, b3, oe, vs, c1, c2, c3, c4⟩ | fl | hh
  · exact HandSPX.look_newZ hZ k1 b3 k2 c1 b1 b2 c3 c4 c2 hQ
  · exact HandSPX.looks_onZ hZ k1 k2 fl hQ
  · exact note_other hZ k1 k2 ne hh hQ
end
theorem frames_on {base B2 h h2 : Heap} : ∀ {l : List Env}, h.FunFrames base l → (∀ L ∈ frs l, B2.get? L = none) → (∀ L ∈ frs l, ∀ o, h.get? L = some o → h2.get? L = some o) → h2.FunFrames B2 l
  | [], _, _, _ => trivial
  | env :: l, hh, hn, hk => by
    obtain ⟨x1, ⟨L, o, x2, _, x3, x4⟩, x5⟩ := hh
    have mL : L ∈ frs (env :: l) := List.mem_filterMap.mpr ⟨env, List.mem_cons_self, x2⟩
    have up : ∀ b, b ∈ frs l → b ∈ frs (env :: l) := fun b hb => by
      obtain ⟨e, he, q⟩ := List.mem_filterMap.mp hb
      exact List.mem_filterMap.mpr ⟨e, List.mem_cons_of_mem _ he, q⟩
    exact ⟨x1, ⟨L, o, x2, hn L mL, hk L mL o x3, x4⟩, frames_on x5 (fun b hb => hn b (up b hb)) fun b hb => hk b (up b hb)⟩
/-- a block's context that exceptions may leave -/
abbrev blkX (X : Cx) (s : Shared) (H : Hp) (sc : Scope) (ce : Env) (fp : List Addr) (xe : Value → Shared → Prop) : Cx := { X.blk s H sc ce fp with xe := xe }
theorem ok_xe {X : Cx} {xe : Value → Shared → Prop} (ok : X.Ok) : Cx.Ok { X with xe := xe } :=
  { mod := ok.mod, kind := ok.kind, glob := ok.glob, blt := ok.blt, above := ok.above, inj := ok.inj, has := ok.has, cab := ok.cab, hd := ok.hd, frames := ok.frames, stk := ok.stk, exf := ok.exf, bs := ok.bs, bsz := ok.bsz, noex := ok.noex, exfs := ok.exfs, funs := ok.funs, frf := ok.frf }
theorem inv_xe {X : Cx} {xe : Value → Shared → Prop} {pins : List (Addr × Obj)} {σ : L2.St} {H : Hp} {s : Shared} (I : Inv X pins σ H s) : Inv { X with xe := xe } pins σ H s :=
  { ok := ok_xe I.ok, os := I.os, bare := I.bare, base := I.base, loc := I.loc, cell := I.cell, free := I.free, freeC := I.freeC, pin := I.pin, hok := I.hok, len := I.len }
section
variable {X : Cx} {W : WX}
/-- what an exception of the block's element wishes: that of the def, with the def's slots -/
abbrev wOut (W : WX) (σ : L2.St) : WX := fun c d _ H => W c d σ H
theorem lc_coreX {pins : List (Addr × Obj)} {s : Shared} {σ : L2.St} {H : Hp} {Q : VK} {elt tg iter : Expr} {ifs : List Expr} {scope : Scope} {own : List (Str × Nat)} {p1 p2 : Pos} {wi : TI} {g : TG} {tt : TT} {te : WX → TE} {u? : Option (Value → Sem Unit)} {Qf : Value → Shared → Prop}
    (hst : X.stack = X.env :: X.outer) (hfr : X.env.frame = some X.env.locals) (tk : Takes X W) (hc : X.calm = true) (hN : X.N.Nodup) (I : Inv X pins σ H s) (hi : PI X tg iter wi) (ok : BlkOk X.N X.env.scope scope own)
    (hg : ∀ (s : Shared) (H : Hp) (C : Addr) (cl : List (Str × Addr)) (fp : List Addr), PG (X.blk s H scope (compEnvC scope cl C X.env) fp) tg g)
    (ht : ∀ (s : Shared) (H : Hp) (C : Addr) (cl : List (Str × Addr)) (fp : List Addr), PTs (X.blk s H scope (compEnvC scope cl C X.env) fp) ifs tt)
    (he : ∀ (s : Shared) (H : Hp) (C : Addr) (cl : List (Str × Addr)) (fp : List Addr) (W' : WX) (xe : Value → Shared → Prop), Takes (blkX X s H scope (compEnvC scope cl C X.env) fp xe) W' → PE (blkX X s H scope (compEnvC scope cl C X.env) fp xe) elt (te W'))
    (hs : ∀ x, foldedSetIterable iter X.env x = pure x) (h : tLc wi g tt (te (wOut W σ)) (own.map (·.2)) σ H Q)
    (hRR : ∀ D C s' m H', Inv X pins σ H' s' → Q (.ref D) H' → s'.heap.Ns C m → FpOk X pins H' C → compPost (model X.prog X.w) X.A X.xe u? Qf (.ref D) C (.ok .next) s') :
    wpAny (model X.prog X.w) X.A (comprehension (.ListComp elt [⟨tg, iter, ifs, 0⟩] scope p1) scope X.env p2 (newList []) false (eval iter X.env) u?) Qf X.xe s := by
  have cells_of : ∀ y ∈ scope.names, y.2 = .free → ∃ c, X.env.cells.lookup y.1 = some c := fun y hy e => (ok.free y hy e).elim (fun k => I.ok.has _ (.inl k)) (fun k => I.ok.has _ (.inr k))
  refine comp_framed (u? := u?) rfl hs (closure_ok cells_of) ok.kind (fun y hy e => by rw [ok.uniq y hy, e]) ?_
  refine thn (hi.run pins s σ H _ I h) fun xv s1 hx => ?_
  refine thn hx fun itv s2 h2 => ?_
  obtain ⟨it, fp, tn, J, H2, e, I2, T, st2, f2, q⟩ := h2
  subst e
  refine wpAny_newObj_type (newEnv_comp ?_) (by show 0 ≤ sizeLine; decide)
  generalize hD : s2.heap.objs.size = D
  have fresh2 : H2 D = none := I2.hok.fresh (Nat.le_of_eq hD)
  obtain ⟨Wt, ⟨m0, w0⟩, turn⟩ := q D fresh2
  generalize hs3 : ({ s2 with heap := s2.heap.push { cls := .type "list", data := .seq ([] : List Value).toArray } } : Shared) = s3
  have h3 : s3.heap = s2.heap.push { cls := .type "list", data := .seq ([] : List Value).toArray } := by rw [← hs3]
  have at3 : ∀ b o, s2.heap.get? b = some o → s3.heap.get? b = some o := fun b o e => by rw [h3]; exact Heap.get?_push_of_some _ e
  have I3 : Inv X pins σ (upd H2 D (.lst [])) s3 := by
    rw [← hs3]
    refine I2.laid (t' := s2.toks) (fun b o e => Heap.get?_push_of_some _ e) (Nat.le_of_eq hD) ?_
    exact ⟨Nat.zero_le _, [], 0, .nil, by rw [← hD]; exact Heap.get?_push_size _ rfl⟩
  have below : ∀ b ∈ fp, b < s2.heap.objs.size := fun b hb => let ⟨o, e, _⟩ := T.obj _ _ st2 b hb; Heap.lt_size e
  have f3 : ∀ b ∈ fp, FpOk X pins (upd H2 D (.lst [])) b ∧ b < s3.heap.objs.size := fun b hb =>
    ⟨⟨by rw [upd_ne (fun z => Nat.ne_of_lt (below b hb) (z.trans hD.symm))]; exact (f2 b hb).1, (f2 b hb).2⟩, by rw [h3, Heap.size_push]; exact Nat.lt_succ_of_lt (below b hb)⟩
  have st3 : tn 0 s3.heap := T.keep _ _ _ st2 fun b _ o e => at3 b o e
  have I4 := block_start I3 ok hN f3
  have pg := hg s3 (upd H2 D (.lst [])) s3.heap.objs.size (cellsFrom (s3.heap.objs.size + 1) scope.names (cloFrom X.env.cells scope.names [])) fp
  have pt := ht s3 (upd H2 D (.lst [])) s3.heap.objs.size (cellsFrom (s3.heap.objs.size + 1) scope.names (cloFrom X.env.cells scope.names [])) fp
  have pe := he s3 (upd H2 D (.lst [])) s3.heap.objs.size (cellsFrom (s3.heap.objs.size + 1) scope.names (cloFrom X.env.cells scope.names [])) fp
  show codeAny _ _ (.compStart (.ListComp elt [⟨tg, iter, ifs, 0⟩] scope p1) 0 (.ref it) (.ref D) (compEnvC scope (cellsFrom (s3.heap.objs.size + 1) scope.names (cloFrom X.env.cells scope.names [])) s3.heap.objs.size X.env))
    (cEnd (model X.prog X.w) X.A X.xe u? Qf (.ref D) s3.heap.objs.size X.env.frame) { s3 with heap := pushCells (s3.heap.push { cls := .type "dict", data := .dict #[] }) scope.names }
  have nfp : ∀ b ∈ fp, (upd H2 D (.lst [])) b = none := fun b hb => (f3 b hb).1.1
  generalize hce : compEnvC scope (cellsFrom (s3.heap.objs.size + 1) scope.names (cloFrom X.env.cells scope.names [])) s3.heap.objs.size X.env = ce at I4 pg pt pe ⊢
  have ceL : ce.locals = s3.heap.objs.size := by subst hce; rfl
  have ceF : ce.frame = X.env.frame := by subst hce; rfl
  generalize hH3 : upd H2 D (.lst []) = H3 at I3 I4 pg pt pe w0 nfp f3
  generalize hs4 : ({ s3 with heap := pushCells (s3.heap.push { cls := .type "dict", data := .dict #[] }) scope.names } : Shared) = s4 at I4 ⊢
  have st4 : tn 0 s4.heap := T.keep _ _ _ st3 fun b _ o e => by rw [← hs4]; exact pushCells_keeps _ _ _ _ (Heap.get?_push_of_some _ e)
  -- the block's states are states of the def
  have back : ∀ {pl : List (Addr × Obj)} {σ5 : L2.St} {H5 : Hp} {s5 : Shared}, Inv (X.blk s3 H3 scope ce fp) pl σ5 H5 s5 → Inv X pins σ H5 s5 := fun {pl σ5 H5 s5} J5 =>
    I3.call' (ch := fp) J5.os J5.base J5.hok J5.bare fun b hb => ⟨(f3 b hb).1.2.2.2.1, (f3 b hb).1.2.1, (f3 b hb).1.2.2.2.2.1, (f3 b hb).1.2.2.2.2.2⟩
  have stat : ∀ {σ5 : L2.St} {H5 : Hp} {s5 : Shared}, Inv (X.blk s3 H3 scope ce fp) [] σ5 H5 s5 → (∀ b ∈ fp, H5 b = none) → ∀ b ∈ fp, FpOk (X.blk s3 H3 scope ce fp) [] H5 b := fun {σ5 H5 s5} J5 hn b hb =>
    ⟨hn b hb, (J5.ok.exf b hb).1, J5.ok.exfs b hb, .inl hb, fun x c e => (J5.ok.exf b hb).2 x c e, fun p hp => absurd (show p ∈ ([] : List (Addr × Obj)) ++ [] from hp) (by simp)⟩
  have frames : X.A.frames = some (X.env :: X.outer) := by rw [I.ok.frames, hst]
  have neC : s3.heap.objs.size ≠ X.env.locals := fun z => absurd I3.lt (by rw [z]; exact Nat.lt_irrefl _)
  -- an exception of the element
  have out : ∀ u s5, XE (X.blk s3 H3 scope ce fp) (wOut W σ) u s5 → notedBy (model X.prog X.w) X.A ce (fun e s' => cEnd (model X.prog X.w) X.A X.xe u? Qf (.ref D) s3.heap.objs.size X.env.frame (.error e) s') u s5 := by
    rintro u s5 ⟨a, B, sI, pl, σ5, H5, cls, d, rfl, J5, nb, up, sky, na, os, ag, w⟩
    have sky2 : Sky B (X.env :: X.outer) a (Zc cls d) s3.heap.objs.size s5.heap := by
      have z : Sky B X.stack a (Zc cls d) ce.locals s5.heap := sky
      rwa [hst, ceL] at z
    refine sky_noted Zc.steady frames hfr ceF neC sky2 fun h6 hh6 up6 => ?_
    have J6 : Inv (X.blk s3 H3 scope ce fp) pl σ5 H5 { s5 with heap := h6 } := J5.landed nb hh6.1 (up.trans up6) os ag
    obtain ⟨m, n6, _⟩ := J6.loc
    have n6 : h6.Ns ce.locals m := n6
    rw [ceL] at n6
    refine ⟨m, n6, fun h7 sb e2 l2 fr2 => ?_⟩
    generalize hCC : s3.heap.objs.size = C at *
    obtain ⟨oC, esC, epC, gC, dC, _⟩ := n6
    have notC : ∀ b o vs, h6.get? b = some o → o.data = .fields vs → b ≠ C := fun b o vs e1 e2 z => by
      rw [z, gC] at e1; cases e1
      rw [dC] at e2; cases e2
    have keep7 : ∀ b o, b ≠ C → h6.get? b = some o → h7.get? b = some o := fun b o n e => (sb.2 b n).trans e
    -- the ground without the block's names
    have gB : ∀ b o, (PySem.W.hideAll B [C]).get? b = some o → B.get? b = some o := fun b o e => PySem.W.of_hideAll _ e
    have nBC : ∀ b, B.get? b = none → (PySem.W.hideAll B [C]).get? b = none := fun b e => by
      cases q : (PySem.W.hideAll B [C]).get? b with
      | none => rfl
      | some o => rw [gB b o q] at e; cases e
    have nC : ∀ b o, (PySem.W.hideAll B [C]).get? b = some o → b ≠ C := fun b o e z => by
      rw [PySem.W.hideAll_none [C] (by rw [z]; exact List.mem_cons_self)] at e; cases e
    have nCI : ∀ b o, (PySem.W.hideAll sI.heap [C]).get? b = some o → b ≠ C := fun b o e z => by
      rw [PySem.W.hideAll_none [C] (by rw [z]; exact List.mem_cons_self)] at e; cases e
    have hh7 : HandSPX.HeldZ (PySem.W.hideAll B [C]) (X.env :: X.outer) a (Zc cls d) X.env.locals h7 := by
      obtain ⟨b1, b2, b3, oe, vs, T, oT, ts, c1, c2, c3, c4, c5, c6, c7, c8, c9⟩ := hh6
      refine ⟨fun b o e => keep7 b o (nC b o e) (b1 b o (gB b o e)), nBC a b2, ?_, oe, vs, T, oT, ts, keep7 a oe (notC a oe vs c1 c3) c1, c2, c3, c4, nBC T c5, c6, keep7 T oT (notC T oT ts c7 c8) c7, c8, c9⟩
      exact frames_on b3 (fun L hL => nBC L (b3.mem hL).1) fun L hL o e => keep7 L o (fun z => by
        have hL2 : L ∈ frs X.stack := by rw [hst]; exact hL
        obtain ⟨_, o2, e2, _⟩ := I3.stack.mem hL2
        have := Heap.lt_size e2
        rw [hCC, z] at this
        exact Nat.lt_irrefl _ this) e
    have JX : Inv X pins σ H5 sI := back J5
    have fC : FpOk X pins H5 C := by
      have := I3.fpOk (b := C) (H' := H5) (Nat.le_of_eq hCC) (by
        have z : H5 ce.locals = none := J5.free
        rwa [ceL] at z)
      exact this
    obtain ⟨f0, f1, f2', f3', f4, f5⟩ := fC
    have JI : Inv X pins σ H5 { sI with heap := PySem.W.hideAll sI.heap [C], toks := sI.toks } := JX.turned (t' := sI.toks) (fun b o n e => PySem.W.hideAll_get _ e (by simpa using n)) f0 f1 f3' f4 f5
    unfold PySem.passOn
    obtain ⟨b1, b2, b3, oe, vs, T, oT, ts, c1, c2, c3, c4, c5, c6, c7, c8, c9⟩ := id hh7
    apply wpAny_bind
    refine wpAny_field c1 c3 c4 ?_
    rw [if_neg (show ¬ ((Value.ref T == Value.none) = true) from by simp)]
    have fin : wpAny (model X.prog X.w) X.A (setFlight (.ref a) e2.frame) (fun _ s8 => wpAny (model X.prog X.w) X.A (throw (.ref a) : Sem Value) (fun _ _ => False) X.xe s8) X.xe { s5 with heap := h7 } := by
      rw [fr2, hfr]
      refine HandSPX.setFlight_onZ hh7 fun h8 hh8 up8 => wpAny_throw (tk _ _ ?_)
      refine ⟨a, PySem.W.hideAll B [C], _, pins, σ, H5, cls, d, rfl, JI, fun b o e hb => PySem.W.hideAll_get _ (nb b o (PySem.W.of_hideAll _ e) hb) (by simpa using nCI b o e), ?_, .inr (.inr (by rw [hst]; exact hh8)), na, os, ag, w⟩
      intro b o e hn
      obtain ⟨sl, e7⟩ := (up.trans up6) b o (PySem.W.of_hideAll _ e) hn
      exact up8 b { o with slots := sl } (keep7 b _ (nCI b o e) e7) hn
    first
      | exact wpAny_bind (wpAny_pure (wpAny_bind fin))
      | exact wpAny_bind fin
  have loop : codeAny (model X.prog X.w) X.A (.compLoop (.ListComp elt [⟨tg, iter, ifs, 0⟩] scope p1) 0 (.ref it) (.ref D) ce) (cEnd (model X.prog X.w) X.A X.xe u? Qf (.ref D) s3.heap.objs.size X.env.frame) s4 := by
    have pe2 := pe (wOut W σ) (fun u s' => XE (X.blk s3 H3 scope ce fp) (wOut W σ) u s') (fun u s' ⟨a, B, sI, pl, σ5, H5, cls, d, e, J5, r⟩ => ⟨a, B, sI, pl, σ5, H5, cls, d, e, inv_xe (xe := fun _ _ => False) J5, r⟩)
    refine compLoop_any (fun n s' => ∃ i H', Inv (X.blk s3 H3 scope ce fp) [] (wipe σ (own.map (·.2))) H' s' ∧ tn i s'.heap ∧ (∀ b ∈ fp, H' b = none) ∧ Wt i n H') ?_ m0 ⟨0, H3, I4, st4, nfp, w0⟩
    rintro n s5 ⟨i, H5, I5, st5, n5, w5⟩
    rcases turn i n H5 w5 with ⟨stop, qq⟩ | ⟨go, Nx, hNx, step⟩
    · refine thnF (T.done (X.blk s3 H3 scope ce fp) rfl rfl rfl hc i [] s5 _ H5 (fun _ _ => False) I5 (stat I5 n5) st5 stop) fun r s6 ⟨hr, I6⟩ => ?_
      subst hr
      have frC : H5 s3.heap.objs.size = none := by
        have z : H5 ce.locals = none := I6.free
        rwa [ceL] at z
      obtain ⟨m, hn, _⟩ := I6.loc
      have hn : s6.heap.Ns ce.locals m := hn
      rw [ceL] at hn
      exact hRR D s3.heap.objs.size s6 m H5 (back I6) qq hn (I3.fpOk (Nat.le_refl _) frC)
    · refine thnF (T.item (X.blk s3 H3 scope ce fp) rfl rfl rfl hc i [] s5 _ H5 (fun _ _ => False) I5 (stat I5 n5) st5 go) fun r s6 ⟨u, hr, h6⟩ => ?_
      subst hr
      refine thnF h6 fun _ s7 ⟨x, H7, I7, r7, y7, st7, n7⟩ => ?_
      have I7p := I7.pinned (stat I7 n7) (T.obj _ _ st7)
      refine thnF (pg.run _ s7 _ H7 x u _ I7p r7 (step x H7 y7)) fun _ s8 ⟨σ8, H8, I8, hw8, q8⟩ => ?_
      refine thnF (pt.run _ s8 σ8 H8 _ I8 q8) fun b s9 ⟨H9, I9, q9⟩ => ?_
      have next : ∀ {s' : Shared} {H' : Hp}, Inv (X.blk s3 H3 scope ce fp) ([] ++ pinsAt fp s7.heap) σ8 H' s' → Nx H' →
          ∃ m, m < n ∧ ∃ i H', Inv (X.blk s3 H3 scope ce fp) [] (wipe σ (own.map (·.2))) H' s' ∧ tn i s'.heap ∧ (∀ b ∈ fp, H' b = none) ∧ Wt i m H' := fun {s' H'} J nx => by
        obtain ⟨m', lt, w'⟩ := hNx H' nx
        have held : ∀ b ∈ fp, ∀ o, s7.heap.get? b = some o → s'.heap.get? b = some o ∧ H' b = none := fun b hb o e =>
          have z := J.pin (b, o) (List.mem_append_right _ (List.mem_append_right _ (mem_pinsAt hb e)))
          ⟨z.1, z.2.1⟩
        refine ⟨m', lt, i + 1, H', (J.unpinned (pins := [])).weak (by rw [← hw8, wipe_length]) (fun j v e => ?_), T.keep _ _ _ st7 (fun b hb o e => (held b hb o e).1), fun b hb => ?_, w'⟩
        · rw [← hw8] at e
          exact (wipe_some e).1
        · obtain ⟨o, e, _⟩ := T.obj _ _ st7 b hb
          exact (held b hb o e).2
      cases b with
      | false =>
        simp only [Bool.false_eq_true, if_false] at q9 ⊢
        exact next I9 q9
      | true =>
        simp only [if_true] at q9 ⊢
        refine wpAny_mono (pe2.run _ s9 σ8 H9 _ (inv_xe I9) q9) ?_ (fun u s' x => out u s' x)
        rintro z s10 ⟨yv, H10, I10, r10, acc, hD10, hz10, nx⟩
        exact app_ok (X := X.blk s3 H3 scope ce fp) (inv_xe (xe := fun _ _ => False) I10) hD10 hz10 r10 fun s11 I11 => next I11 nx
  exact codeAny_compStart_list loop (T.self X.A 0 _ _ _ st4 loop)
variable {elt tg iter : Expr} {ifs : List Expr} {scope : Scope} {own : List (Str × Nat)} {pos : Pos}
theorem pe_lcX {wi : TI} {g : TG} {tt : TT} {te : WX → TE} (hst : X.stack = X.env :: X.outer) (hfr : X.env.frame = some X.env.locals) (tk : Takes X W) (hc : X.calm = true) (hN : X.N.Nodup) (hi : PI X tg iter wi) (ok : BlkOk X.N X.env.scope scope own)
    (hg : ∀ (s : Shared) (H : Hp) (C : Addr) (cl : List (Str × Addr)) (fp : List Addr), PG (X.blk s H scope (compEnvC scope cl C X.env) fp) tg g)
    (ht : ∀ (s : Shared) (H : Hp) (C : Addr) (cl : List (Str × Addr)) (fp : List Addr), PTs (X.blk s H scope (compEnvC scope cl C X.env) fp) ifs tt)
    (he : ∀ (s : Shared) (H : Hp) (C : Addr) (cl : List (Str × Addr)) (fp : List Addr) (W' : WX) (xe : Value → Shared → Prop), Takes (blkX X s H scope (compEnvC scope cl C X.env) fp xe) W' → PE (blkX X s H scope (compEnvC scope cl C X.env) fp xe) elt (te W'))
    (hs : ∀ x, foldedSetIterable iter X.env x = pure x := by intro _; rfl) : PE X (.ListComp elt [⟨tg, iter, ifs, 0⟩] scope pos) (fun σ H Q => tLc wi g tt (te (wOut W σ)) (own.map (·.2)) σ H Q) := by
  refine ⟨fun pins s σ H Q I h => ?_⟩
  rw [eval_ListComp]
  refine lc_coreX hst hfr tk hc hN I hi ok hg ht he hs h fun D C s' m H' I' q hn ⟨f0, f1, f2, f3, f4, f5⟩ => ⟨m, hn, fun h2 sb => ?_⟩
  exact ⟨.ref D, H', I'.turned (t' := s'.toks) (fun b o hb e => (sb.2 b hb).trans e) f0 f1 f3 f4 f5, rfl, q⟩
theorem ps_setLcX {i : Nat} {y : Str} {py spos : Pos} {wi : TI} {g : TG} {tt : TT} {te : WX → TE} (hst : X.stack = X.env :: X.outer) (hfr : X.env.frame = some X.env.locals) (tk : Takes X W) (hc : X.calm = true) (hN : X.N.Nodup) (hy : X.N[i]? = some y) (hyl : X.env.scope.names.lookup y = some .local)
    (hsw : swapsWith (.ListComp elt [⟨tg, iter, ifs, 0⟩] scope pos) (some (.Name y py)) spos.line X.env = pure true) (hi : PI X tg iter wi) (ok : BlkOk X.N X.env.scope scope own)
    (hg : ∀ (s : Shared) (H : Hp) (C : Addr) (cl : List (Str × Addr)) (fp : List Addr), PG (X.blk s H scope (compEnvC scope cl C X.env) fp) tg g)
    (ht : ∀ (s : Shared) (H : Hp) (C : Addr) (cl : List (Str × Addr)) (fp : List Addr), PTs (X.blk s H scope (compEnvC scope cl C X.env) fp) ifs tt)
    (he : ∀ (s : Shared) (H : Hp) (C : Addr) (cl : List (Str × Addr)) (fp : List Addr) (W' : WX) (xe : Value → Shared → Prop), Takes (blkX X s H scope (compEnvC scope cl C X.env) fp xe) W' → PE (blkX X s H scope (compEnvC scope cl C X.env) fp xe) elt (te W'))
    (hs : ∀ x, foldedSetIterable iter X.env x = pure x := by intro _; rfl) :
    PS X (.Assign [.Name y py] (.ListComp elt [⟨tg, iter, ifs, 0⟩] scope pos) spos) (tAsg (fun σ H Q => tLc wi g tt (te (wOut W σ)) (own.map (·.2)) σ H Q) (gName i)) := by
  refine ⟨fun pins s σ H D I h => ?_⟩
  rw [exec_Assign_Name_used _ _ _ _ hsw]
  apply wpAny_bind
  apply wpAny_standAt
  apply wpAny_bind
  show wpAny _ X.A (do let _ ← comprehension (.ListComp elt [⟨tg, iter, ifs, 0⟩] scope pos) scope X.env (firstIterPos [⟨tg, iter, ifs, 0⟩] pos) (newList []) false (eval iter X.env) (some (assign (.Name y py) X.env))) _ _ s
  have h : tLc wi g tt (te (wOut W σ)) (own.map (·.2)) σ H (fun x H1 => gName i x σ H1 D.nx) := h
  apply wpAny_bind
  refine thn (lc_coreX (Qf := fun _ s' => SP X pins D .next s') hst hfr tk hc hN I hi ok hg ht he hs h ?_) fun _ s' hq => wpAny_pure (wpAny_pure hq)
  rintro L C s' m H' I' q hn ⟨f0, f1, f2, f3, f4, f5⟩
  show wpAny _ _ (assign (.Name y py) X.env (.ref L)) _ _ _
  refine wpAny_assign_Name (store_ok2 (v := V.ref L) I' hN hy (.inl hyl) rfl ?_ (.inr hyl))
  rintro s2 I2 ⟨a, sb, ha⟩
  have ne : C ≠ a := ha.elim (fun z => by rw [z]; exact f1) fun z e => f4 y a z e.symm
  exact ⟨m, hn.sameBut sb ne, fun h3 sb3 => ⟨_, H', I2.turned (t' := s2.toks) (fun b o hb e => (sb3.2 b hb).trans e) f0 f1 f3 f4 f5, q⟩⟩
end
/-! over data -/
def lcLX (it : ItD) (g : TG') (tt : TT') (te : TE') (vs : List Nat) (δ : EnvD) (Q : List D → MH → Prop) (E : QX) : List MD.D → List MD.D → MH → Prop
  | [], acc, M => it.still M ∧ Q acc M
  | d :: r, acc, M => it.still M ∧ g d (wipeD δ vs) M fun δ2 M2 => tt δ2 M2 (fun b M3 =>
      if b = true then te δ2 M3 (fun y M4 => acc.length < sizeLine ∧ lcLX it g tt te vs δ Q E r (acc ++ [y]) M4) E else lcLX it g tt te vs δ Q E r acc M3) (fun _ _ => False)
theorem mono_lcLX {it : ItD} {g : TG'} {tt : TT'} {te : TE'} {vs : List Nat} {δ : EnvD} (hg : MonoG g) (ht : MonoT tt) (he : MonoE te) {Q Q' : List D → MH → Prop} {E E' : QX} (q : ∀ a M, Q a M → Q' a M) (x : ∀ a M, E a M → E' a M) : ∀ ds acc M, lcLX it g tt te vs δ Q E ds acc M → lcLX it g tt te vs δ Q' E' ds acc M
  | [], _, _, h => ⟨h.1, q _ _ h.2⟩
  | d :: r, acc, M, h => ⟨h.1, hg _ _ _ _ _ (fun δ2 M2 h2 => ht _ _ _ _ _ _ (fun b M3 h3 => by
    cases b with
    | true => exact he _ _ _ _ _ _ (fun y M4 h4 => ⟨h4.1, mono_lcLX hg ht he q x r _ _ h4.2⟩) x h3
    | false => exact mono_lcLX hg ht he q x r _ _ h3) (fun _ _ z => z) h2) h.2⟩
def tLcX' (cell : Bool) (ti : TI') (g : TG') (tt : TT') (te : TE') (vs : List Nat) : TE' := fun δ M Q E => ti δ M (fun it M1 => lcLX it g tt te vs δ (fun acc M2 => newL cell acc M2 Q) E it.items [] M1) E
@[simp] theorem u_lcX {cell : Bool} {ti : TI'} {g : TG'} {tt : TT'} {te : TE'} {vs : List Nat} {δ : EnvD} {M : MH} {Q : QE} {E : QX} : tLcX' cell ti g tt te vs δ M Q E ↔ ti δ M (fun it M1 => lcLX it g tt te vs δ (fun acc M2 => newL cell acc M2 Q) E it.items [] M1) E := Iff.rfl
section
variable {X : Cx} {W : WX} {elt tg iter : Expr} {ifs : List Expr} {scope : Scope} {own : List (Str × Nat)} {pos : Pos} {ti : TI'} {gH : TG} {g : TG'} {tt : TT'} {te : TE'}
theorem mono_lcX {cell : Bool} (hi : MI X W tg iter ti) (cg : CompG X.K (own.map (·.2)) gH g) (mt : MonoT tt) (me : MonoE te) : MonoE (tLcX' cell ti g tt te (own.map (·.2))) :=
  fun δ M Q Q' E E' q x hh => hi.mono _ _ _ _ _ _ (fun it M1 h1 => mono_lcLX cg.mono mt me (fun a M h2 => h2.mono q) x _ _ _ h1) x hh
theorem lc_upX (cell : Bool) (hi : MI X W tg iter ti) (cg : CompG X.K (own.map (·.2)) gH g) (mt : MonoT tt) (me : MonoE te) :
    ∀ (σ : L2.St) (H : Hp) (Q : VK), up X.K W (tLcX' cell ti g tt te (own.map (·.2))) σ H Q → tLc (upI X.K W ti) gH (upT X.K WF tt) (up X.K (wOut W σ) te) (own.map (·.2)) σ H Q := by
  rintro σ _ Q ⟨w, δ, rfl, rh, rs, h⟩
  refine ⟨w, δ, rfl, rh, rs, hi.mono _ _ _ _ _ _ (fun it M1 h1 J w1 e1 l1 rh1 ok1 st p hp => ?_) (fun _ _ x => x) h⟩
  subst e1
  let Inn : List MD.D → Hp → Prop := fun r H => ∃ (w2 : Wd) (acc : List MD.D) (accv : List V), w2.H = H ∧ Le w1 w2 ∧ RH X.K w2 ∧ p ∈ w2.r ∧ w2.H p = some (.lst accv) ∧ RepL X.K w2 acc accv ∧ (∀ a ∈ w1.r, a ∈ w2.r) ∧
    lcLX it g tt te (own.map (·.2)) δ (fun acc M2 => newL cell acc M2 (PV X.K w Q)) (PX X.K w fun c d H => W c d σ H) r acc w2.M
  refine ⟨fun i m H => ∃ r : List MD.D, r = it.items.drop i ∧ i ≤ it.items.length ∧ m = r.length ∧ Inn r H, ?_, ?_⟩
  · exact ⟨it.items.length, it.items, by simp, Nat.zero_le _, rfl, w1.hold p, [], [], rfl, Le.hold hp, rh1.hold hp, List.mem_cons_self, upd_same, RepL.nil, fun a ha => List.mem_cons_of_mem _ ha, h1⟩
  rintro i m H2 ⟨r, er, hi2, rfl, w2, acc, accv, rfl, l2, rh2, hp2, hl2, hr2, hs2, h2⟩
  cases r with
  | nil =>
    have e : i = it.items.length := by
      have := congrArg List.length er
      simp at this; omega
    subst e
    exact .inl ⟨(ok1 w2 l2 rh2 h2.1).1, lc_end rh rh1 l1 hp rh2 l2 hp2 hl2 hr2 hs2 h2.2⟩
  | cons d r =>
    have hd : it.items[i]? = some d := by
      have := congrArg (fun l => l[0]?) er
      simpa using this.symm
    have hr : r = it.items.drop (i + 1) := by
      have := congrArg List.tail er
      simpa using this
    have lt : i < it.items.length := (List.getElem?_eq_some_iff.mp hd).1
    obtain ⟨go, yl⟩ := (ok1 w2 l2 rh2 h2.1).2 i d hd
    refine .inr ⟨go, Inn r, fun H' n => ⟨r.length, Nat.lt_succ_self _, r, hr, lt, rfl, n⟩, fun x H' hy => ?_⟩
    obtain ⟨w3, e3, eM, l3, rh3, rx⟩ := yl x H' hy
    subst e3
    have mem_up : ∀ {wa wb : Wd}, Le wa wb → ∀ a ∈ wa.r, a ∈ wb.r := fun {wa wb} l a ha => by
      obtain ⟨s, es, _⟩ := l.rr
      rw [es]; exact List.mem_append_right _ ha
    have hp3 := mem_up l3 p hp2
    have hl3 : w3.H p = some (.lst accv) := l3.keep p _ hl2 (rh2.r_dead hp2)
    have l13 := l2.trans rh1 rh2 l3
    have h2b := h2.2
    rw [← eM] at h2b
    have rsw : RepS X.K w3 (wipeD δ (own.map (·.2))) (wipe σ (own.map (·.2))) := (((rs.le rh l1).le rh1 l13)).wipe _
    have q := cg.run w3 (wipe σ (own.map (·.2))) (wipeD δ (own.map (·.2))) d x _ rh3 rsw rx h2b
    refine cg.hm _ _ _ _ _ ?_ q
    rintro σ2 _ ⟨ew, rfl, δ2, rs2, q2⟩
    refine ⟨by rw [ew, wipe_wipe], upT_go mt rh3 rs2 q2 (fun _ _ z => z.elim) fun b w4 l4 rh4 rs4 q4 => ?_⟩
    have hp4 := mem_up l4 p hp3
    have hl4 : w4.H p = some (.lst accv) := l4.keep p _ hl3 (rh3.r_dead hp3)
    have l14 := l13.trans rh1 rh3 l4
    have ra4 := (RepL.le rh2 l3 _ hr2).le' rh3 l4
    cases b with
    | false => exact ⟨w4, acc, accv, rfl, l14, rh4, hp4, hl4, ra4, fun a ha => mem_up l4 a (mem_up l3 a (hs2 a ha)), q4⟩
    | true =>
      refine up_go me rh4 rs4 q4 (fun e M z => z.le rh rh4 (l1.trans rh rh1 l14)) fun dy vy w6 l6 rh6 rs6 ry ⟨q6, q7⟩ => ?_
      have hp6 := mem_up l6 p hp4
      have hl6 : w6.H p = some (.lst accv) := l6.keep p _ hl4 (rh4.r_dead hp4)
      have l16 := l14.trans rh1 rh4 l6
      have ra : RepL X.K w6 acc accv := ra4.le' rh4 l6
      exact ⟨accv, hl6, by rw [ra.length]; exact q6, w6.turn p (accv ++ [vy]), acc ++ [dy], accv ++ [vy], rfl, l16.turn hp, rh6.turn hp6 hl6, hp6, upd_same, RepL.turn hp6 hl6 _ (ra.append (RepL.cons ry RepL.nil)), fun a ha => mem_up l6 a (mem_up l4 a (mem_up l3 a (hs2 a ha))), q7⟩
theorem ms_setLcX (cell : Bool) {i : Nat} {y : Str} {py : Pos} {spos : Pos} (hst : X.stack = X.env :: X.outer) (hfr : X.env.frame = some X.env.locals) (tk : Takes X W) (hc : X.calm = true) (hN : X.N.Nodup) (hy : X.N[i]? = some y) (hyl : X.env.scope.names.lookup y = some .local)
    (hsw : swapsWith (.ListComp elt [⟨tg, iter, ifs, 0⟩] scope pos) (some (.Name y py)) spos.line X.env = pure true) (hi : MI X W tg iter ti) (ok : BlkOk X.N X.env.scope scope own)
    (hg : ∀ (s : Shared) (H : Hp) (C : Addr) (cl : List (Str × Addr)) (fp : List Addr), PG (X.blk s H scope (compEnvC scope cl C X.env) fp) tg gH) (cg : CompG X.K (own.map (·.2)) gH g)
    (ht : ∀ (s : Shared) (H : Hp) (C : Addr) (cl : List (Str × Addr)) (fp : List Addr), MTs (X.blk s H scope (compEnvC scope cl C X.env) fp) WF ifs tt)
    (he : ∀ (s : Shared) (H : Hp) (C : Addr) (cl : List (Str × Addr)) (fp : List Addr) (W' : WX) (xe : Value → Shared → Prop), Takes (blkX X s H scope (compEnvC scope cl C X.env) fp xe) W' → ME (blkX X s H scope (compEnvC scope cl C X.env) fp xe) W' elt te)
    (hs : ∀ x, foldedSetIterable iter X.env x = pure x := by intro _; rfl) :
    MS X W (.Assign [.Name y py] (.ListComp elt [⟨tg, iter, ifs, 0⟩] scope pos) spos) (tAsg' (tLcX' cell ti g tt te (own.map (·.2))) (gName' i)) :=
  have mt : MonoT tt := (ht X.s_0 X.H_0 0 [] []).mono
  have me : MonoE te := (he X.s_0 X.H_0 0 [] [] (fun _ _ _ _ => False) (fun _ _ => True) (fun _ _ _ => trivial)).mono
  have ml : MonoE (tLcX' cell ti g tt te (own.map (·.2))) := mono_lcX hi cg mt me
  ⟨PS.imp (ps_setLcX (tt := upT X.K WF tt) (te := fun W' => up X.K W' te) hst hfr tk hc hN hy hyl hsw hi.pi ok hg (fun s H C cl fp => (ht s H C cl fp).pts) (fun s H C cl fp W' xe t => (he s H C cl fp W' xe t).pe) hs) fun D σ H ⟨w, δ, eH, rh, rs, h⟩ => by
    subst eH
    show tLc (upI X.K W ti) gH (upT X.K WF tt) (up X.K (wOut W σ) te) (own.map (·.2)) σ w.H (fun v H1 => gName i v σ H1 D.nx)
    refine lc_upX cell hi cg mt me σ w.H _ ?_
    refine up_go ml rh rs h (ex_of rs rh (Ends'.le.refl _)) fun d v w1 l1 rh1 rs1 rv h1 => ?_
    exact h1 _ w1 rfl l1 rh1 (rs1.set i rv), mono_asg ml fun d δ M Q Q' q h => q _ _ h⟩
end
end MD
/-! MD: operators and built-ins over data. -/
namespace MD
open PySem PySem.Spec PyProof.Rows L2
variable {K : PySem.W.Frag} {w w1 w2 : Wd} {X : Cx} {W : WX} {e a b c : Expr} {pos : Pos}

/-! ### what is a list, a tuple -/
def lstOf (d : D) (M : MH) : Option (List D) := match d with
  | .lst ds => some ds
  | .ref i => match M[i]? with
    | some (.lst ds) => some ds
    | _ => none
  | _ => none
theorem lstOf_rep {d : D} {v : V} {ds : List D} (rh : RH K w) (r : Rep K w d v) (h : lstOf d w.M = some ds) : ∃ a xs, v = .ref a ∧ w.H a = some (.lst xs) ∧ RepL K w ds xs := by
  cases d with
  | lst es =>
    obtain ⟨a, xs, e, hx, _, _, hr⟩ := r
    cases h
    exact ⟨a, xs, e, hx, hr⟩
  | ref i =>
    obtain ⟨a, e, em⟩ := r
    unfold lstOf at h
    simp only at h
    split at h
    · rename_i es ec
      cases h
      obtain ⟨xs, hx, hr⟩ := rh.ok i a _ em ec
      exact ⟨a, xs, e, hx, hr⟩
    · cases h
  | _ => cases h
/-- a list, a tuple or the script, to be read -/
def seqOf (d : D) (M : MH) : Option (List D) := match d with
  | .tup ds => some ds
  | .scr ns => some (ns.map D.int)
  | d => lstOf d M
theorem seqOf_rep {d : D} {v : V} {ds : List D} (rh : RH K w) (r : Rep K w d v) (h : seqOf d w.M = some ds) : ∃ a xs, v = .ref a ∧ (SqL K w.H a xs ∨ SqT K w.H a xs) ∧ RepL K w ds xs := by
  cases d with
  | tup es =>
    obtain ⟨a, xs, e, hx, hr⟩ := r
    cases h
    exact ⟨a, xs, e, .inr hx, hr⟩
  | scr ns =>
    obtain ⟨a, e, hx⟩ := r
    cases h
    rcases hx with ⟨o, hx⟩ | hx
    · exact ⟨a, _, e, .inl (.inl (.inr ⟨o, hx⟩)), RepL.ints ns⟩
    · exact ⟨a, _, e, .inl (hx w.H), RepL.ints ns⟩
  | lst es => obtain ⟨a, xs, e, hx, hr⟩ := lstOf_rep rh r h; exact ⟨a, xs, e, .inl (SqL.of hx), hr⟩
  | ref i => obtain ⟨a, xs, e, hx, hr⟩ := lstOf_rep rh r h; exact ⟨a, xs, e, .inl (SqL.of hx), hr⟩
  | _ => cases h

/-! ### arithmetic -/
def MulOk (i j : Int) : Prop := CMul i j ∨ CMulX i j
theorem op_mulA {X : Cx} : OpR X (binaryOp .Mult) (rI MulOk fun i j => .int (i * j)) := opI fun _ _ _ _ _ _ _ hc q => mul_int q (hc.elim CMul.ok CMulX.ok)
def DivOk (j : Int) : Prop := j ≠ 0 ∧ j.natAbs < 2 ^ 9000
theorem op_fdivA {X : Cx} : OpR X (binaryOp .FloorDiv) (rI (fun _ j => DivOk j) fun i j => .int (i.fdiv j)) := opI fun i j _ _ _ _ _ hc q =>
  floordiv_int hc.1 q (.inl (PyProof.noPylong_of_log2 (PySem.Flt.log2_lt_of (by decide) hc.2)))
theorem rep_mk_int {i : Int} : Rep K w (.int i) (.int i) := by simp [Rep]
theorem rep_mk_bl {i : Bool} : Rep K w (.bl i) (.bl i) := by simp [Rep]
theorem rep_mk_str {i : Str} : Rep K w (.str i) (.str i) := by simp [Rep]
theorem rep_mk_non : Rep K w .non .non := by simp [Rep]
theorem PV.here {Q : VK} {d : D} {v : V} (rh : RH K w) (h : PV K w Q d w.M) (r : Rep K w d v) : Q v w.H := h v w rfl (Le.refl w) rh r

def oAdd (cell : Bool) : R2'
  | .int i, .int j, M, Q => Q (.int (i + j)) M
  | .str a, .str b, M, Q => a.length + b.length ≤ sizeLine ∧ Q (.str (a ++ b)) M
  | .tup a, .tup b, M, Q => a.length + b.length ≤ sizeLine ∧ Q (.tup (a ++ b)) M
  | .lst a, y, M, Q => ∃ b, lstOf y M = some b ∧ a.length + b.length ≤ sizeLine ∧ newL cell (a ++ b) M Q
  | .ref i, y, M, Q => ∃ a b, lstOf (.ref i) M = some a ∧ lstOf y M = some b ∧ a.length + b.length ≤ sizeLine ∧ newL cell (a ++ b) M Q
  | _, _, _, _ => False
abbrev rAddAll (K : PySem.W.Frag) : R2 := fun x y H Q => (rI0 fun i j => .int (i + j)) x y H Q ∨ (∃ i j, x = .str i ∧ y = .str j ∧ i.length + j.length ≤ sizeLine ∧ Q (.str (i ++ j)) H) ∨ rCatA K x y H Q ∨ rCat x y H Q
theorem op_addAll {X : Cx} : OpR X (binaryOp .Add) (rAddAll X.K) := OpR.or op_add (OpR.or op_add_str (OpR.or op_catA op_cat))
theorem lf_add {cell : Bool} : Lift2 K (rAddAll K) (oAdd cell) := by
  intro w x y dx dy Q rh rx ry h
  have cat : ∀ {a b : List D}, lstOf dx w.M = some a → lstOf dy w.M = some b → a.length + b.length ≤ sizeLine → newL cell (a ++ b) w.M (PV K w Q) → rAddAll K x y w.H Q := by
    intro a b ea eb hl h
    obtain ⟨p, xs, rfl, hx, hr⟩ := lstOf_rep rh rx ea
    obtain ⟨q, ys, rfl, hy, hs⟩ := lstOf_rep rh ry eb
    exact .inr (.inr (.inr ⟨p, q, xs, ys, rfl, rfl, hx, hy, by rw [hr.length, hs.length]; exact hl, newL.lift rh (hr.append hs) h⟩))
  cases dx with
  | int i =>
    cases dy with
    | int j => exact .inl ⟨i, j, rep_int rx, rep_int ry, PV.here rh h rep_mk_int⟩
    | _ => exact h.elim
  | str i =>
    cases dy with
    | str j => exact .inr (.inl ⟨i, j, rep_str rx, rep_str ry, h.1, PV.here rh h.2 rep_mk_str⟩)
    | _ => exact h.elim
  | tup ds =>
    cases dy with
    | tup es =>
      obtain ⟨a, xs, e, hx, hr⟩ := rx
      obtain ⟨b, ys, e2, hy, hs⟩ := ry
      subst e e2
      refine .inr (.inr (.inl ⟨a, b, xs, ys, rfl, rfl, hx, hy, by rw [hr.length, hs.length]; exact h.1, fun z => ?_, fun z z2 => ?_, fun _ _ => newT.lift rh (hr.append hs) h.2⟩))
      · subst z
        refine PV.here rh h.2 ⟨b, ys, rfl, hy, ?_⟩
        have : ds = [] := by
          have := hr.length
          exact List.length_eq_zero_iff.mp this.symm
        subst this
        exact hs
      · subst z2
        have : es = [] := by
          have := hs.length
          exact List.length_eq_zero_iff.mp this.symm
        subst this
        refine PV.here rh h.2 ⟨a, xs, rfl, hx, ?_⟩
        rw [List.append_nil]; exact hr
    | _ => exact h.elim
  | lst ds => obtain ⟨b, eb, hl, h⟩ := h; exact cat rfl eb hl h
  | ref i => obtain ⟨a, b, ea, eb, hl, h⟩ := h; exact cat ea eb hl h
  | _ => exact h.elim
theorem mn_add {cell : Bool} : Mono2 (oAdd cell) := by
  intro x y M Q Q' q h
  cases x with
  | int i => cases y with
    | int j => exact q _ _ h
    | _ => exact h.elim
  | str i => cases y with
    | str j => exact ⟨h.1, q _ _ h.2⟩
    | _ => exact h.elim
  | tup i => cases y with
    | tup j => exact ⟨h.1, q _ _ h.2⟩
    | _ => exact h.elim
  | lst ds => obtain ⟨b, eb, hl, h⟩ := h; exact ⟨b, eb, hl, h.mono q⟩
  | ref i => obtain ⟨a, b, ea, eb, hl, h⟩ := h; exact ⟨a, b, ea, eb, hl, h.mono q⟩
  | _ => exact h.elim
/-- operators on ints -/
def oI (C : Int → Int → Prop) (g : Int → Int → D) : R2'
  | .int i, .int j, M, Q => C i j ∧ Q (g i j) M
  | _, _, _, _ => False
def oI0 (g : Int → Int → D) : R2'
  | .int i, .int j, M, Q => Q (g i j) M
  | _, _, _, _ => False
theorem mn_I {C : Int → Int → Prop} {g : Int → Int → D} : Mono2 (oI C g) := by
  intro x y M Q Q' q h
  cases x with
  | int i => cases y with
    | int j => exact ⟨h.1, q _ _ h.2⟩
    | _ => exact h.elim
  | _ => exact h.elim
theorem mn_I0 {g : Int → Int → D} : Mono2 (oI0 g) := by
  intro x y M Q Q' q h
  cases x with
  | int i => cases y with
    | int j => exact q _ _ h
    | _ => exact h.elim
  | _ => exact h.elim
theorem lf_I {C : Int → Int → Prop} {g : Int → Int → Int} : Lift2 K (rI C fun i j => .int (g i j)) (oI C fun i j => .int (g i j)) := by
  intro w x y dx dy Q rh rx ry h
  cases dx with
  | int i => cases dy with
    | int j => exact ⟨i, j, rep_int rx, rep_int ry, h.1, PV.here rh h.2 rep_mk_int⟩
    | _ => exact h.elim
  | _ => exact h.elim
theorem lf_I0 {g : Int → Int → Int} : Lift2 K (rI0 fun i j => .int (g i j)) (oI0 fun i j => .int (g i j)) := by
  intro w x y dx dy Q rh rx ry h
  cases dx with
  | int i => cases dy with
    | int j => exact ⟨i, j, rep_int rx, rep_int ry, PV.here rh h rep_mk_int⟩
    | _ => exact h.elim
  | _ => exact h.elim
theorem lf_B0 {g : Int → Int → Bool} : Lift2 K (rI0 fun i j => .bl (g i j)) (oI0 fun i j => .bl (g i j)) := by
  intro w x y dx dy Q rh rx ry h
  cases dx with
  | int i => cases dy with
    | int j => exact ⟨i, j, rep_int rx, rep_int ry, PV.here rh h rep_mk_bl⟩
    | _ => exact h.elim
  | _ => exact h.elim
abbrev oSub := oI0 fun i j => .int (i - j)
abbrev oFdiv := oI (fun _ j => DivOk j) fun i j => .int (i.fdiv j)
abbrev oMod := oI (fun _ j => j ≠ 0) fun i j => .int (i.fmod j)
abbrev oPow := oI CPow fun i j => .int (i ^ j.toNat)
/-- text times int -/
def strRep (x : Str) (n : Int) : Str := ⟨(List.replicate n.toNat x.cps.toList).flatten.toArray⟩
theorem foldl_cps (x : Array Nat) : ∀ (n : Nat) (acc : Array Nat), (List.replicate n x).foldl (· ++ ·) acc = ⟨acc.toList ++ (List.replicate n x.toList).flatten⟩
  | 0, acc => by simp
  | n + 1, acc => by
    rw [List.replicate_succ, List.foldl_cons, foldl_cps x n, List.replicate_succ, List.flatten_cons]
    simp
def rStrRep : R2 := fun x y H Q => ∃ a n, x = .str a ∧ y = .int n ∧ -(2 ^ 62) < n ∧ n < 2 ^ 62 ∧ a.length * n.toNat ≤ sizeLine ∧ Q (.str (strRep a n)) H
theorem op_strRep {X : Cx} : OpR X (binaryOp .Mult) rStrRep := by
  intro pins s σ H x y v u Q I rx ry h
  obtain ⟨a, n, rfl, rfl, h1, h2, h3, q⟩ := h
  obtain ⟨t, rfl⟩ := rx
  obtain ⟨t', rfl⟩ := ry
  have hz : (sizeLine : Nat) = 16777216 := by decide
  refine PySem.P.mul_str ?_ (fun hn hc => ?_) (fun hn hc => ?_) ?_
  · rw [decide_eq_false (by omega), decide_eq_false (by omega)]; rfl
  · intro hgt
    have hn1 : 1 ≤ n := by omega
    have hk : ((2 : Int) ^ 63 - 1) / n * n > 2 ^ 63 - 1 - n := by
      have := Int.emod_add_mul_ediv ((2 : Int) ^ 63 - 1) n
      have hlt := Int.emod_lt_of_pos ((2 : Int) ^ 63 - 1) (show (0 : Int) < n by omega)
      rw [Int.mul_comm n] at this
      omega
    have hm : (a.length : Int) * n ≥ (((2 : Int) ^ 63 - 1) / n + 1) * n := Int.mul_le_mul_of_nonneg_right (by omega) (by omega)
    rw [Int.add_mul, Int.one_mul] at hm
    have hmul : ((a.length * n.toNat : Nat) : Int) = (a.length : Int) * n := by
      rw [Int.natCast_mul, Int.toNat_of_nonneg (by omega)]
    omega
  · unfold Builtin.Str.tooLong
    exact decide_eq_false (by omega)
  · by_cases hn : n < 1
    · rw [if_pos hn]
      have e : strRep a n = Str.empty := by
        unfold strRep
        rw [show n.toNat = 0 by omega]; rfl
      rw [e] at q
      exact ⟨by decide, .str Str.empty, H, I.tok _, ⟨_, rfl⟩, q⟩
    · rw [if_neg hn]
      by_cases hc : (n == 1 || a.length == 0) = true
      · rw [if_pos hc]
        refine ⟨.str a, H, I, ⟨t, rfl⟩, ?_⟩
        have e : strRep a n = a := by
          unfold strRep
          rcases Bool.or_eq_true .. |>.mp hc with h | h
          · rw [eq_of_beq h]; simp
          · have : a.cps = #[] := Array.size_eq_zero_iff.mp (eq_of_beq h)
            obtain ⟨cps⟩ := a
            simp only at this
            subst this
            simp
        rw [← e]; exact q
      · rw [if_neg hc]
        have e : (⟨(List.replicate n.toNat a.cps).foldl (· ++ ·) #[]⟩ : Str) = strRep a n := by
          rw [foldl_cps]; unfold strRep; simp
        rw [e]
        refine ⟨?_, .str (strRep a n), H, I.tok _, ⟨_, rfl⟩, q⟩
        show (strRep a n).cps.size ≤ _
        unfold strRep
        simp
        rw [Nat.mul_comm]; exact h3
def oMul (cell : Bool) : R2'
  | .int i, .int j, M, Q => MulOk i j ∧ Q (.int (i * j)) M
  | .str a, .int n, M, Q => (-(2 ^ 62) < n ∧ n < 2 ^ 62 ∧ a.length * n.toNat ≤ sizeLine) ∧ Q (.str (strRep a n)) M
  | .lst ds, .int k, M, Q => (-(2 ^ 63) ≤ k ∧ k < 2 ^ 63 ∧ ds.length * k.toNat ≤ sizeLine) ∧ newL cell (List.replicate k.toNat ds).flatten M Q
  | _, _, _, _ => False
abbrev rMulAll : R2 := fun x y H Q => rI MulOk (fun i j => .int (i * j)) x y H Q ∨ rStrRep x y H Q ∨ rRep x y H Q
theorem op_mulAll {X : Cx} : OpR X (binaryOp .Mult) rMulAll := OpR.or op_mulA (OpR.or op_strRep op_rep)
theorem RepL.replicate {ds : List D} {xs : List V} (h : RepL K w ds xs) : ∀ n, RepL K w (List.replicate n ds).flatten (List.replicate n xs).flatten
  | 0 => RepL.nil
  | n + 1 => by rw [List.replicate_succ, List.replicate_succ, List.flatten_cons, List.flatten_cons]; exact h.append (RepL.replicate h n)
theorem lf_mul {cell : Bool} : Lift2 K rMulAll (oMul cell) := by
  intro w x y dx dy Q rh rx ry h
  cases dx with
  | int i => cases dy with
    | int j => exact .inl ⟨i, j, rep_int rx, rep_int ry, h.1, PV.here rh h.2 rep_mk_int⟩
    | _ => exact h.elim
  | str i => cases dy with
    | int j => exact .inr (.inl ⟨i, j, rep_str rx, rep_int ry, h.1.1, h.1.2.1, h.1.2.2, PV.here rh h.2 rep_mk_str⟩)
    | _ => exact h.elim
  | lst ds => cases dy with
    | int j =>
      obtain ⟨a, xs, e, hx, _, _, hr⟩ := rx
      exact .inr (.inr ⟨a, j, xs, e, rep_int ry, hx, h.1.1, h.1.2.1, by rw [hr.length]; exact h.1.2.2, newL.lift rh (hr.replicate _) h.2⟩)
    | _ => exact h.elim
  | _ => exact h.elim
theorem mn_mul {cell : Bool} : Mono2 (oMul cell) := by
  intro x y M Q Q' q h
  cases x with
  | int i => cases y with
    | int j => exact ⟨h.1, q _ _ h.2⟩
    | _ => exact h.elim
  | str i => cases y with
    | int j => exact ⟨h.1, q _ _ h.2⟩
    | _ => exact h.elim
  | lst ds => cases y with
    | int j => exact ⟨h.1, h.2.mono q⟩
    | _ => exact h.elim
  | _ => exact h.elim
/-- minus -/
def oNeg : R1'
  | .int i, M, Q => Q (.int (-i)) M
  | _, _, _ => False
theorem lf_neg : Lift1 K (rU fun i => .int (-i)) oNeg := by
  intro w x dx Q rh rx h
  cases dx with
  | int i => exact ⟨i, rep_int rx, PV.here rh h rep_mk_int⟩
  | _ => exact h.elim
theorem mn_neg : Mono1 oNeg := by
  intro x M Q Q' q h
  cases x with
  | int i => exact q _ _ h
  | _ => exact h.elim

/-! ### comparisons -/
mutual
def D.py : D → PyData
  | .non => .none
  | .bl b => .bool b
  | .int i => .int i
  | .str x => .str x
  | .tup ds => .tuple (D.pyL ds)
  | .lst ds => .list (D.pyL ds)
  | .scr ns => .list (ns.map PyData.int)
  | .ref _ => .none
  | .con _ => .none
  | .exc _ _ _ _ => .none
  | .dct => .none
def D.pyL : List D → List PyData
  | [] => []
  | d :: ds => D.py d :: D.pyL ds
end
mutual
/-- no cell in it -/
def D.flat : D → Bool
  | .ref _ => false
  | .con _ => false
  | .exc _ _ _ _ => false
  | .dct => false
  | .scr _ => false
  | .tup ds => D.flatL ds
  | .lst ds => D.flatL ds
  | _ => true
def D.flatL : List D → Bool
  | [] => true
  | d :: ds => D.flat d && D.flatL ds
end
mutual
theorem Rep.dp : ∀ (d : D) {v : V}, d.flat = true → Rep K w d v → Dp K w.H v d.py
  | .non, _, _, h => by rw [rep_non h]; unfold D.py; exact .non
  | .bl b, _, _, h => by rw [rep_bl h]; unfold D.py; exact .bl b
  | .int i, _, _, h => by rw [rep_int h]; unfold D.py; exact .int i
  | .str i, _, _, h => by rw [rep_str h]; unfold D.py; exact .str i
  | .tup ds, _, hf, h => by
    obtain ⟨a, xs, e, hx, hr⟩ := h
    subst e
    unfold D.flat at hf
    unfold D.py
    exact .tup hx (RepL.dp ds hf hr)
  | .lst ds, _, hf, h => by
    obtain ⟨a, xs, e, hx, _, _, hr⟩ := h
    subst e
    unfold D.flat at hf
    unfold D.py
    exact .lst (SqL.of hx) (RepL.dp ds hf hr)
  | .ref _, _, hf, _ => by unfold D.flat at hf; cases hf
  | .con _, _, hf, _ => by unfold D.flat at hf; cases hf
  | .exc _ _ _ _, _, hf, _ => by unfold D.flat at hf; cases hf
  | .dct, _, hf, _ => by unfold D.flat at hf; cases hf
  | .scr _, _, hf, _ => by unfold D.flat at hf; cases hf
theorem RepL.dp : ∀ (ds : List D) {vs : List V}, D.flatL ds = true → RepL K w ds vs → DpAll K w.H vs (D.pyL ds)
  | [], _, _, h => by
    have h : _ = [] := h
    subst h
    unfold D.pyL
    exact .nil
  | d :: ds, _, hf, h => by
    obtain ⟨x, r', rfl, h1, h2⟩ := h
    unfold D.flatL at hf
    rw [Bool.and_eq_true] at hf
    unfold D.pyL
    exact .cons (Rep.dp d hf.1 h1) (RepL.dp ds hf.2 h2)
end
/-- == of data -/
def deq (x y : D) : Bool := PyData.eqv x.py y.py
def eqOk (x : D) : Prop := x.flat = true ∧ SeqAt.shaped x.py = true
def oEq (neg : Bool) : R2'
  | .int i, .int j, M, Q => Q (.bl (if neg then !decide (i = j) else decide (i = j))) M
  | .str i, .str j, M, Q => Q (.bl (if neg then !decide (i = j) else decide (i = j))) M
  | .bl i, .bl j, M, Q => Q (.bl (if neg then !decide (i = j) else decide (i = j))) M
  | .non, .non, M, Q => Q (.bl (!neg)) M
  | .non, .int _, M, Q => Q (.bl neg) M
  | .int _, .non, M, Q => Q (.bl neg) M
  | .non, .str _, M, Q => Q (.bl neg) M
  | .str _, .non, M, Q => Q (.bl neg) M
  | x, y, M, Q => eqOk x ∧ eqOk y ∧ Q (.bl (if neg then !deq x y else deq x y)) M
abbrev rEqAll (K : PySem.W.Frag) : R2 := fun x y H Q => rEq x y H Q ∨ rEqD K x y H Q
abbrev rNeAll (K : PySem.W.Frag) : R2 := fun x y H Q => rNe x y H Q ∨ rNeD K x y H Q
theorem op_eqAll {X : Cx} (hu : X.A.units + 64 < cLine) : OpR X (compareOp .Eq) (rEqAll X.K) := OpR.or op_eq (op_eqD hu)
theorem op_neAll {X : Cx} (hu : X.A.units + 64 < cLine) : OpR X (compareOp .NotEq) (rNeAll X.K) := OpR.or op_ne (op_neD hu)
theorem oEq_cases {neg : Bool} {x y : D} {M : MH} {Q : QE} (h : oEq neg x y M Q) :
    (∃ i j, x = .int i ∧ y = .int j ∧ Q (.bl (if neg then !decide (i = j) else decide (i = j))) M) ∨ (∃ i j, x = .str i ∧ y = .str j ∧ Q (.bl (if neg then !decide (i = j) else decide (i = j))) M) ∨
    (∃ i j, x = .bl i ∧ y = .bl j ∧ Q (.bl (if neg then !decide (i = j) else decide (i = j))) M) ∨ (x = .non ∧ y = .non ∧ Q (.bl (!neg)) M) ∨ (x = .non ∧ (∃ i, y = .int i) ∧ Q (.bl neg) M) ∨ ((∃ i, x = .int i) ∧ y = .non ∧ Q (.bl neg) M) ∨
    (x = .non ∧ (∃ i, y = .str i) ∧ Q (.bl neg) M) ∨ ((∃ i, x = .str i) ∧ y = .non ∧ Q (.bl neg) M) ∨ (eqOk x ∧ eqOk y ∧ Q (.bl (if neg then !deq x y else deq x y)) M) := by
  unfold oEq at h
  split at h <;> simp_all
theorem lf_eq : Lift2 K (rEqAll K) (oEq false) := by
  intro w x y dx dy Q rh rx ry h
  have sc : ∀ {b : Bool}, scal x y = true → decide (x = y) = b → Q (.bl b) w.H → rEqAll K x y w.H Q := fun hs hd q => .inl ⟨hs, by rw [hd]; exact q⟩
  rcases oEq_cases h with ⟨i, j, rfl, rfl, q⟩ | ⟨i, j, rfl, rfl, q⟩ | ⟨i, j, rfl, rfl, q⟩ | ⟨rfl, rfl, q⟩ | ⟨rfl, ⟨i, rfl⟩, q⟩ | ⟨⟨i, rfl⟩, rfl, q⟩ | ⟨rfl, ⟨i, rfl⟩, q⟩ | ⟨⟨i, rfl⟩, rfl, q⟩ | ⟨ox, oy, q⟩
  · have e1 := rep_int rx; have e2 := rep_int ry; subst e1 e2; exact sc rfl (by by_cases e : i = j <;> simp [e]) (PV.here rh q rep_mk_bl)
  · have e1 := rep_str rx; have e2 := rep_str ry; subst e1 e2; exact sc rfl (by by_cases e : i = j <;> simp [e]) (PV.here rh q rep_mk_bl)
  · have e1 := rep_bl rx; have e2 := rep_bl ry; subst e1 e2; exact sc rfl (by by_cases e : i = j <;> simp [e]) (PV.here rh q rep_mk_bl)
  · have e1 := rep_non rx; have e2 := rep_non ry; subst e1 e2; exact sc rfl (by simp) (PV.here rh q rep_mk_bl)
  · have e1 := rep_non rx; have e2 := rep_int ry; subst e1 e2; exact sc rfl (by simp) (PV.here rh q rep_mk_bl)
  · have e1 := rep_int rx; have e2 := rep_non ry; subst e1 e2; exact sc rfl (by simp) (PV.here rh q rep_mk_bl)
  · have e1 := rep_non rx; have e2 := rep_str ry; subst e1 e2; exact sc rfl (by simp) (PV.here rh q rep_mk_bl)
  · have e1 := rep_str rx; have e2 := rep_non ry; subst e1 e2; exact sc rfl (by simp) (PV.here rh q rep_mk_bl)
  · exact .inr ⟨_, _, Rep.dp dx ox.1 rx, Rep.dp dy oy.1 ry, ox.2, oy.2, PV.here rh q rep_mk_bl⟩
theorem lf_ne : Lift2 K (rNeAll K) (oEq true) := by
  intro w x y dx dy Q rh rx ry h
  have sc : ∀ {b : Bool}, scal x y = true → (!decide (x = y)) = b → Q (.bl b) w.H → rNeAll K x y w.H Q := fun hs hd q => .inl ⟨hs, by rw [hd]; exact q⟩
  rcases oEq_cases h with ⟨i, j, rfl, rfl, q⟩ | ⟨i, j, rfl, rfl, q⟩ | ⟨i, j, rfl, rfl, q⟩ | ⟨rfl, rfl, q⟩ | ⟨rfl, ⟨i, rfl⟩, q⟩ | ⟨⟨i, rfl⟩, rfl, q⟩ | ⟨rfl, ⟨i, rfl⟩, q⟩ | ⟨⟨i, rfl⟩, rfl, q⟩ | ⟨ox, oy, q⟩
  · have e1 := rep_int rx; have e2 := rep_int ry; subst e1 e2; exact sc rfl (by by_cases e : i = j <;> simp [e]) (PV.here rh q rep_mk_bl)
  · have e1 := rep_str rx; have e2 := rep_str ry; subst e1 e2; exact sc rfl (by by_cases e : i = j <;> simp [e]) (PV.here rh q rep_mk_bl)
  · have e1 := rep_bl rx; have e2 := rep_bl ry; subst e1 e2; exact sc rfl (by by_cases e : i = j <;> simp [e]) (PV.here rh q rep_mk_bl)
  · have e1 := rep_non rx; have e2 := rep_non ry; subst e1 e2; exact sc rfl (by simp) (PV.here rh q rep_mk_bl)
  · have e1 := rep_non rx; have e2 := rep_int ry; subst e1 e2; exact sc rfl (by simp) (PV.here rh q rep_mk_bl)
  · have e1 := rep_int rx; have e2 := rep_non ry; subst e1 e2; exact sc rfl (by simp) (PV.here rh q rep_mk_bl)
  · have e1 := rep_non rx; have e2 := rep_str ry; subst e1 e2; exact sc rfl (by simp) (PV.here rh q rep_mk_bl)
  · have e1 := rep_str rx; have e2 := rep_non ry; subst e1 e2; exact sc rfl (by simp) (PV.here rh q rep_mk_bl)
  · exact .inr ⟨_, _, Rep.dp dx ox.1 rx, Rep.dp dy oy.1 ry, ox.2, oy.2, PV.here rh q rep_mk_bl⟩
theorem mn_eq {neg : Bool} : Mono2 (oEq neg) := by
  intro x y M Q Q' q h
  unfold oEq at h ⊢
  split at h <;> first | exact q _ _ h | exact ⟨h.1, h.2.1, q _ _ h.2.2⟩
/-- is None -/
def nonD : D → Bool
  | .non => true
  | _ => false
def oIsN (neg : Bool) : R2'
  | x, .non, M, Q => Q (.bl (if neg then !nonD x else nonD x)) M
  | _, _, _, _ => False
theorem rep_non_iff {d : D} {v : V} (h : Rep K w d v) (hc : ∀ u, d ≠ .con u) : decide (v = .non) = nonD d := by
  cases d with
  | non => have e := rep_non h; subst e; rfl
  | int i => have e := rep_int h; subst e; rfl
  | bl i => have e := rep_bl h; subst e; rfl
  | str i => have e := rep_str h; subst e; rfl
  | tup ds => obtain ⟨a, xs, e, _⟩ := h; subst e; rfl
  | lst ds => obtain ⟨a, xs, e, _⟩ := h; subst e; rfl
  | scr ds => obtain ⟨a, e, _⟩ := h; subst e; rfl
  | ref ds => obtain ⟨a, e, _⟩ := h; subst e; rfl
  | con u => exact absurd rfl (hc u)
  | exc a cls d fs => obtain ⟨e, _⟩ := h; subst e; rfl
  | dct => obtain ⟨a, es, e, _⟩ := h; subst e; rfl
def oIsN' (neg : Bool) : R2' := fun x y M Q => (∀ u, x ≠ .con u) ∧ oIsN neg x y M Q
theorem lf_isN : Lift2 K rIsN (oIsN' false) := by
  intro w x y dx dy Q rh rx ry ⟨hc, h⟩
  cases dy with
  | non =>
    refine ⟨rep_non ry, ?_⟩
    rw [rep_non_iff rx hc]
    have h : PV K w Q (.bl (nonD dx)) w.M := h
    exact PV.here rh h rep_mk_bl
  | _ => exact h.elim
theorem lf_notN : Lift2 K rNotN (oIsN' true) := by
  intro w x y dx dy Q rh rx ry ⟨hc, h⟩
  cases dy with
  | non =>
    refine ⟨rep_non ry, ?_⟩
    rw [rep_non_iff rx hc]
    have h : PV K w Q (.bl (!nonD dx)) w.M := h
    exact PV.here rh h rep_mk_bl
  | _ => exact h.elim
theorem mn_isN {neg : Bool} : Mono2 (oIsN' neg) := by
  intro x y M Q Q' q ⟨hc, h⟩
  refine ⟨hc, ?_⟩
  cases y with
  | non => exact q _ _ h
  | _ => exact h.elim
/-- a sign in a text -/
def oInS (neg : Bool) : R2' := fun x y M Q => ∃ (c : Nat) (z : Str), x = .str ⟨#[c]⟩ ∧ y = .str z ∧ Q (.bl (if neg then !decide (c ∈ z.cps.toList) else decide (c ∈ z.cps.toList))) M
theorem lf_inS : Lift2 K rInS (oInS false) := by
  intro w x y dx dy Q rh rx ry ⟨c, z, e1, e2, h⟩
  subst e1 e2
  exact ⟨c, z, rep_str rx, rep_str ry, PV.here rh h rep_mk_bl⟩
theorem lf_notInS : Lift2 K rNotInS (oInS true) := by
  intro w x y dx dy Q rh rx ry ⟨c, z, e1, e2, h⟩
  subst e1 e2
  exact ⟨c, z, rep_str rx, rep_str ry, PV.here rh h rep_mk_bl⟩
theorem mn_inS {neg : Bool} : Mono2 (oInS neg) := fun x y M Q Q' q ⟨c, z, e1, e2, h⟩ => ⟨c, z, e1, e2, q _ _ h⟩

/-! ### subscripts -/
def oIx : R2' := fun x y M Q => ∃ i, y = .int i ∧ ((∃ ds d, seqOf x M = some ds ∧ atI ds i = some d ∧ Q d M) ∨ (∃ (z : Str) (c : Nat), x = .str z ∧ z.length ≤ sizeLine ∧ atI z.cps.toList i = some c ∧ Q (.str ⟨#[c]⟩) M))
theorem atI_rep {ds : List D} {xs : List V} {i : Int} {d : D} (h : RepL K w ds xs) (e : atI ds i = some d) : ∃ x, atI xs i = some x ∧ Rep K w d x := by
  unfold atI at e ⊢
  rw [h.length]
  cases hj : ixN ds.length i with
  | none => rw [hj] at e; cases e
  | some j =>
    rw [hj] at e
    exact h.get e
theorem lf_ix : Lift2 K (rIx K) oIx := by
  intro w x y dx dy Q rh rx ry ⟨i, ey, h⟩
  subst ey
  have ry := rep_int ry
  subst ry
  rcases h with ⟨ds, d, e1, e2, q⟩ | ⟨z, c, e1, hz, e2, q⟩
  · obtain ⟨a, xs, rfl, hx, hr⟩ := seqOf_rep rh rx e1
    obtain ⟨v, ev, rv⟩ := atI_rep hr e2
    rcases hx with hx | hx
    · exact .inl ⟨a, xs, i, v, rfl, rfl, hx, ev, PV.here rh q rv⟩
    · exact .inr (.inl ⟨a, xs, i, v, rfl, rfl, hx, ev, PV.here rh q rv⟩)
  · subst e1
    exact .inr (.inr ⟨z, i, c, rep_str rx, rfl, hz, e2, PV.here rh q rep_mk_str⟩)
theorem mn_ix : Mono2 oIx := fun x y M Q Q' q ⟨i, e, h⟩ => ⟨i, e, by
  rcases h with ⟨ds, d, e1, e2, h⟩ | ⟨z, c, e1, hz, e2, h⟩
  · exact .inl ⟨ds, d, e1, e2, q _ _ h⟩
  · exact .inr ⟨z, c, e1, hz, e2, q _ _ h⟩⟩
def oSetL : TSet' := fun o i v M Q => ∃ c ds k j, o = .ref c ∧ i = .int k ∧ M[c]? = some (.lst ds) ∧ ixN ds.length k = some j ∧ Q (M.set c (.lst (ds.set j v)))
theorem ls_list : LiftS K rSetL oSetL := by
  intro w o i v do_ di dv Q rh ro ri rv ⟨c, ds, k, j, e1, e2, ec, hj, q⟩
  subst e1 e2
  obtain ⟨a, e, em⟩ := ro
  subst e
  obtain ⟨xs, hx, hr⟩ := rh.ok c a _ em ec
  refine ⟨a, xs, k, j, rfl, rep_int ri, hx, by rw [hr.length]; exact hj, ?_⟩
  have nd : (Cell.lst ds) ≠ Cell.dead := fun z => by cases z
  have l : Le w (w.put c a (.lst (xs.set j v)) (.lst (ds.set j dv))) := Le.put rh em ec nd
  exact q (w.put c a (.lst (xs.set j v)) (.lst (ds.set j dv))) rfl l (rh.put em ec nd ⟨_, upd_same, RepL.le rh l _ (hr.set rv j)⟩)
theorem ms_list : ∀ o i v M (Q Q' : MH → Prop), (∀ M, Q M → Q' M) → oSetL o i v M Q → oSetL o i v M Q' := fun o i v M Q Q' q ⟨c, ds, k, j, e1, e2, ec, hj, h⟩ => ⟨c, ds, k, j, e1, e2, ec, hj, q _ h⟩
/-- text[lo:hi] -/
def oSlS : RS' := fun d lo hi M Q => ∃ z, d = .str z ∧ z.length ≤ sizeLine ∧ Q (.str (cutS z lo hi)) M
theorem lsl_str : LiftSl K rSlS oSlS := by
  intro w x d lo hi Q rh rx ⟨z, e, hz, q⟩
  subst e
  exact ⟨z, rep_str rx, hz, PV.here rh q rep_mk_str⟩
theorem msl_str : MonoSl oSlS := fun d lo hi M Q Q' q ⟨z, e, hz, h⟩ => ⟨z, e, hz, q _ _ h⟩

/-! ### truth -/
def truD (d : D) (M : MH) : Option Bool := match d with
  | .non => some false
  | .bl b => some b
  | .int i => some (i != 0)
  | .str y => some ((y.length : Int) != 0)
  | d => (seqOf d M).map fun ds => !ds.isEmpty
def tTru' (t : TE') : TT' := fun δ M Q E => t δ M (fun d M1 => (∀ y, d = .str y → y.length ≤ sizeLine) ∧ ∃ b, truD d M1 = some b ∧ Q b M1) E
theorem isEmpty_rep {ds : List D} {xs : List V} (h : RepL K w ds xs) : xs.isEmpty = ds.isEmpty := by
  have := h.length
  cases xs <;> cases ds <;> simp_all
theorem truD_rep {d : D} {v : V} {b : Bool} (rh : RH K w) (r : Rep K w d v) (hl : ∀ y, d = .str y → y.length ≤ sizeLine) (h : truD d w.M = some b) : TruV K v w.H b := by
  have sq : ∀ ds, seqOf d w.M = some ds → b = (!ds.isEmpty) → TruV K v w.H b := fun ds e eb => by
    obtain ⟨a, xs, rfl, hx, hr⟩ := seqOf_rep rh r e
    rcases hx with hx | hx
    · exact .inl ⟨xs, hx, by rw [isEmpty_rep hr]; exact eb⟩
    · exact .inr (.inl ⟨xs, hx, by rw [isEmpty_rep hr]; exact eb⟩)
  cases d with
  | non => rw [rep_non r]; exact (Option.some.inj h).symm
  | bl b => rw [rep_bl r]; exact (Option.some.inj h).symm
  | int b => rw [rep_int r]; exact (Option.some.inj h).symm
  | str y => rw [rep_str r]; exact ⟨hl y rfl, (Option.some.inj h).symm⟩
  | tup ds => exact sq ds rfl (Option.some.inj h).symm
  | lst ds => exact sq ds rfl (Option.some.inj h).symm
  | scr ds => exact sq _ rfl (Option.some.inj h).symm
  | ref i =>
    unfold truD at h
    simp only at h
    cases hs : seqOf (.ref i) w.M with
    | none => rw [hs] at h; cases h
    | some ds => rw [hs] at h; exact sq ds hs (Option.some.inj h).symm
  | con u => cases h
  | exc a c d fs => cases h
  | dct => cases h
theorem mt_tru {t : TE'} (h : ME X W e t) (he : ∀ whole, isTrue e X.env whole = (do let v ← whole; standAt e.pos; holding [v] (truthy v)) := by intro _; rfl) : MT X W e (tTru' t) :=
  ⟨PT.imp (pt_truth h.pe he) fun σ H Q ⟨w, δ, eH, rh, rs, h1⟩ => by
    subst eH
    refine up_go h.mono rh rs h1 (fun _ _ x => x) fun d v w1 l1 rh1 rs1 rv ⟨hl, b, eb, q⟩ => ?_
    exact ⟨b, truD_rep rh1 rv hl eb, q w1 rfl l1 rh1⟩, fun δ M Q Q' E E' q x hh => h.mono _ _ _ _ _ _ (fun d M1 ⟨hl, b, eb, h1⟩ => ⟨hl, b, eb, q _ _ h1⟩) x hh⟩

/-! ### built-ins -/
theorem rep1 {d : D} {xs : List V} (h : RepL K w [d] xs) : ∃ v, xs = [v] ∧ Rep K w d v := by
  obtain ⟨v, r, e, rv, er⟩ := h
  have er : r = [] := er
  subst er
  exact ⟨v, e, rv⟩
theorem rep2 {d d' : D} {xs : List V} (h : RepL K w [d, d'] xs) : ∃ v v', xs = [v, v'] ∧ Rep K w d v ∧ Rep K w d' v' := by
  obtain ⟨v, r, e, rv, h⟩ := h
  obtain ⟨v', e2, rv'⟩ := rep1 h
  subst e2
  exact ⟨v, v', e, rv, rv'⟩
def lenD (d : D) (M : MH) : Option Nat := match d with
  | .str y => some y.length
  | d => (seqOf d M).map List.length
def cLen : RA' := fun ds M Q => ∃ d n, ds = [d] ∧ lenD d M = some n ∧ (∀ y, d = .str y → y.length ≤ sizeLine) ∧ Q (.int (n : Int)) M
theorem la_len : LiftA K (fun xs H Q => ∃ x n, xs = [x] ∧ LenV K x H n ∧ Q (.int (n : Nat)) H) cLen := by
  intro w xs ds Q rh r ⟨d, n, e, en, hl, q⟩
  subst e
  obtain ⟨v, rfl, rv⟩ := rep1 r
  refine ⟨v, n, rfl, ?_, PV.here rh q rep_mk_int⟩
  have sq : ∀ es, seqOf d w.M = some es → n = es.length → LenV K v w.H n := fun es e eb => by
    obtain ⟨a, xs, rfl, hx, hr⟩ := seqOf_rep rh rv e
    rcases hx with hx | hx
    · exact .inl ⟨xs, hx, by rw [hr.length]; exact eb⟩
    · exact .inr ⟨xs, hx, by rw [hr.length]; exact eb⟩
  cases d with
  | str y => rw [rep_str rv]; exact ⟨hl y rfl, (Option.some.inj en).symm⟩
  | tup ds => exact sq ds rfl (Option.some.inj en).symm
  | lst ds => exact sq ds rfl (Option.some.inj en).symm
  | scr ds => exact sq _ rfl (Option.some.inj en).symm
  | ref i =>
    unfold lenD at en
    simp only at en
    cases hs : seqOf (.ref i) w.M with
    | none => rw [hs] at en; cases en
    | some ds => rw [hs] at en; exact sq ds hs (Option.some.inj en).symm
  | _ => cases en
theorem mr_len : MonoR cLen := fun ds M Q Q' q ⟨d, n, e, en, hl, h⟩ => ⟨d, n, e, en, hl, q _ _ h⟩
/-- a function of one int -/
def cI1 (g : Int → D) : RA' := fun ds M Q => ∃ i, ds = [.int i] ∧ Q (g i) M
theorem mr_I1 {g : Int → D} : MonoR (cI1 g) := fun ds M Q Q' q ⟨i, e, h⟩ => ⟨i, e, q _ _ h⟩
theorem la_abs : LiftA K (fun xs H Q => ∃ i, xs = [.int i] ∧ Q (.int (if i < 0 then -i else i)) H) (cI1 fun i => .int (if i < 0 then -i else i)) := by
  intro w xs ds Q rh r ⟨i, e, q⟩
  subst e
  obtain ⟨v, rfl, rv⟩ := rep1 r
  exact ⟨i, by rw [rep_int rv], PV.here rh q rep_mk_int⟩
def cInt : RA' := fun ds M Q => (∃ i, ds = [.int i] ∧ Q (.int i) M) ∨ (∃ k, ds = [.bl k] ∧ Q (.int (if k then 1 else 0)) M) ∨ (∃ a n, ds = [.str a] ∧ PySem.intText? a = some n ∧ a.length ≤ 640 ∧ Q (.int n) M)
theorem call_intAll {X : Cx} : CallR X (.type "int") (fun xs H Q => ((∃ i, xs = [.int i] ∧ Q (.int i) H) ∨ ∃ k, xs = [.bl k] ∧ Q (.int (if k then 1 else 0)) H) ∨ ∃ a n, xs = [.str a] ∧ PySem.intText? a = some n ∧ a.length ≤ 640 ∧ Q (.int n) H) := CallR.or call_int1 call_int_str
theorem la_int : LiftA K (fun xs H Q => ((∃ i, xs = [.int i] ∧ Q (.int i) H) ∨ ∃ k, xs = [.bl k] ∧ Q (.int (if k then 1 else 0)) H) ∨ ∃ a n, xs = [.str a] ∧ PySem.intText? a = some n ∧ a.length ≤ 640 ∧ Q (.int n) H) cInt := by
  intro w xs ds Q rh r h
  rcases h with ⟨i, e, q⟩ | ⟨i, e, q⟩ | ⟨a, n, e, h1, h2, q⟩ <;> subst e <;> obtain ⟨v, rfl, rv⟩ := rep1 r
  · exact .inl (.inl ⟨i, by rw [rep_int rv], PV.here rh q rep_mk_int⟩)
  · exact .inl (.inr ⟨i, by rw [rep_bl rv], PV.here rh q rep_mk_int⟩)
  · exact .inr ⟨a, n, by rw [rep_str rv], h1, h2, PV.here rh q rep_mk_int⟩
theorem mr_int : MonoR cInt := fun ds M Q Q' q h => by
  rcases h with ⟨i, e, h⟩ | ⟨i, e, h⟩ | ⟨a, n, e, h1, h2, h⟩
  · exact .inl ⟨i, e, q _ _ h⟩
  · exact .inr (.inl ⟨i, e, q _ _ h⟩)
  · exact .inr (.inr ⟨a, n, e, h1, h2, q _ _ h⟩)
def cStr : RA' := fun ds M Q => ∃ i, ds = [.int i] ∧ i.natAbs < 2 ^ 1920 ∧ Q (.str (toString i)) M
theorem la_str : LiftA K (fun xs H Q => ∃ i, xs = [.int i] ∧ i.natAbs.log2 < 1920 ∧ Q (.str (toString i)) H) cStr := by
  intro w xs ds Q rh r ⟨i, e, h1, q⟩
  subst e
  obtain ⟨v, rfl, rv⟩ := rep1 r
  exact ⟨i, by rw [rep_int rv], PySem.Flt.log2_lt_of (by decide) h1, PV.here rh q rep_mk_str⟩
theorem mr_str : MonoR cStr := fun ds M Q Q' q ⟨i, e, h1, h⟩ => ⟨i, e, h1, q _ _ h⟩
def cI2 (g : Int → Int → D) : RA' := fun ds M Q => ∃ i j, ds = [.int i, .int j] ∧ Q (g i j) M
theorem mr_I2 {g : Int → Int → D} : MonoR (cI2 g) := fun ds M Q Q' q ⟨i, j, e, h⟩ => ⟨i, j, e, q _ _ h⟩
theorem la_max2 : LiftA K (fun xs H Q => ∃ i j, xs = [.int i, .int j] ∧ Q (.int (if j > i then j else i)) H) (cI2 fun i j => .int (if j > i then j else i)) := by
  intro w xs ds Q rh r ⟨i, j, e, q⟩
  subst e
  obtain ⟨v, v', rfl, rv, rv'⟩ := rep2 r
  exact ⟨i, j, by rw [rep_int rv, rep_int rv'], PV.here rh q rep_mk_int⟩
theorem la_min2 : LiftA K (fun xs H Q => ∃ i j, xs = [.int i, .int j] ∧ Q (.int (if j < i then j else i)) H) (cI2 fun i j => .int (if j < i then j else i)) := by
  intro w xs ds Q rh r ⟨i, j, e, q⟩
  subst e
  obtain ⟨v, v', rfl, rv, rv'⟩ := rep2 r
  exact ⟨i, j, by rw [rep_int rv, rep_int rv'], PV.here rh q rep_mk_int⟩
/-- all, any of truth values -/
def blsD : List D → Option (List Bool)
  | [] => some []
  | .bl b :: r => (blsD r).map (b :: ·)
  | _ :: _ => none
theorem blsD_rep : ∀ {ds : List D} {xs : List V} {bs : List Bool}, RepL K w ds xs → blsD ds = some bs → xs = bs.map V.bl
  | [], xs, bs, h, e => by cases e; exact h
  | d :: r, xs, bs, h, e => by
    obtain ⟨x, xr, rfl, rx, h⟩ := h
    cases d with
    | bl b =>
      unfold blsD at e
      cases hr : blsD r with
      | none => rw [hr] at e; cases e
      | some bs' =>
        rw [hr] at e
        cases e
        rw [rep_bl rx, blsD_rep h hr]; rfl
    | _ => unfold blsD at e; cases e
def cBls (f : List Bool → Bool) : RA' := fun ds M Q => ∃ d es bs, ds = [d] ∧ lstOf d M = some es ∧ blsD es = some bs ∧ Q (.bl (f bs)) M
theorem mr_bls {f : List Bool → Bool} : MonoR (cBls f) := fun ds M Q Q' q ⟨d, es, bs, e, e1, e2, h⟩ => ⟨d, es, bs, e, e1, e2, q _ _ h⟩
theorem la_all : LiftA K (rAll K) (cBls fun bs => bs.all id) := by
  intro w xs ds Q rh r ⟨d, es, bs, e, e1, e2, q⟩
  subst e
  obtain ⟨v, rfl, rv⟩ := rep1 r
  obtain ⟨a, ys, rfl, hy, hr⟩ := lstOf_rep rh rv e1
  exact ⟨a, bs, rfl, by rw [← blsD_rep hr e2]; exact SqL.of hy, PV.here rh q rep_mk_bl⟩
theorem la_any : LiftA K (rAny K) (cBls fun bs => bs.any id) := by
  intro w xs ds Q rh r ⟨d, es, bs, e, e1, e2, q⟩
  subst e
  obtain ⟨v, rfl, rv⟩ := rep1 r
  obtain ⟨a, ys, rfl, hy, hr⟩ := lstOf_rep rh rv e1
  exact ⟨a, bs, rfl, by rw [← blsD_rep hr e2]; exact SqL.of hy, PV.here rh q rep_mk_bl⟩
/-- list(x), tuple(x) -/
def cList (cell : Bool) : RA' := fun ds M Q => ∃ d es, ds = [d] ∧ seqOf d M = some es ∧ newL cell es M Q
theorem mr_list {cell : Bool} : MonoR (cList cell) := fun ds M Q Q' q ⟨d, es, e, e1, h⟩ => ⟨d, es, e, e1, h.mono q⟩
theorem la_list {cell : Bool} : LiftA K (fun xs H Q => ∃ p ys, xs = [.ref p] ∧ (SqL K H p ys ∨ SqT K H p ys) ∧ ∀ l, H l = none → Q (.ref l) (upd H l (.lst ys))) (cList cell) := by
  intro w xs ds Q rh r ⟨d, es, e, e1, q⟩
  subst e
  obtain ⟨v, rfl, rv⟩ := rep1 r
  obtain ⟨a, ys, rfl, hy, hr⟩ := seqOf_rep rh rv e1
  exact ⟨a, ys, rfl, hy, newL.lift rh hr q⟩
def cTuple : RA' := fun ds M Q => ∃ d es, ds = [d] ∧ seqOf d M = some es ∧ Q (.tup es) M
theorem mr_tuple : MonoR cTuple := fun ds M Q Q' q ⟨d, es, e, e1, h⟩ => ⟨d, es, e, e1, q _ _ h⟩
theorem la_tuple : LiftA K (fun xs H Q => ∃ p ys, xs = [.ref p] ∧ ((SqL K H p ys ∧ ∀ l, H l = none → Q (.ref l) (upd H l (.tup ys))) ∨ (SqT K H p ys ∧ Q (.ref p) H))) cTuple := by
  intro w xs ds Q rh r ⟨d, es, e, e1, q⟩
  subst e
  obtain ⟨v, rfl, rv⟩ := rep1 r
  obtain ⟨a, ys, rfl, hy, hr⟩ := seqOf_rep rh rv e1
  rcases hy with hy | hy
  · exact ⟨a, ys, rfl, .inl ⟨hy, newT.lift rh hr q⟩⟩
  · exact ⟨a, ys, rfl, .inr ⟨hy, PV.here rh q ⟨a, ys, rfl, hy, hr⟩⟩⟩
/-- isinstance -/
def tyStr (d : D) (M : MH) : Option String := match d with
  | .non => some "NoneType"
  | .bl _ => some "bool"
  | .int _ => some "int"
  | .str _ => some "str"
  | .tup _ => some "tuple"
  | .lst _ => some "list"
  | .scr _ => some "list"
  | .ref i => match M[i]? with
    | some (.lst _) => some "list"
    | some (.dic _) => some "dict"
    | some (.dit _) => some "dict"
    | _ => none
  | .con _ => none
  | .exc _ _ _ _ => none
  | .dct => some "dict"
theorem sqT_ty {a : Addr} {xs : List V} {H : Hp} (h : SqT K H a xs) : TyX K H (.ref a) (.type "tuple") := by
  rcases h with (h | ⟨o, h⟩) | ⟨o, its, n, h, hc, _⟩
  · exact .base (.tup h)
  · exact .fTuple h
  · exact .kTuple h hc
theorem tyStr_rep {d : D} {v : V} {n : String} (rh : RH K w) (r : Rep K w d v) (h : tyStr d w.M = some n) : TyX K w.H v (.type n) := by
  cases d with
  | non => rw [rep_non r]; cases h; exact .base .non
  | bl b => rw [rep_bl r]; cases h; exact .base (.bl b)
  | int b => rw [rep_int r]; cases h; exact .base (.int b)
  | str b => rw [rep_str r]; cases h; exact .base (.str b)
  | tup ds => obtain ⟨a, xs, e, hx, _⟩ := r; subst e; cases h; exact sqT_ty hx
  | lst ds => obtain ⟨a, xs, e, hx, _⟩ := r; subst e; cases h; exact .base (.lst hx)
  | scr ns =>
    obtain ⟨a, e, hx⟩ := r
    subst e; cases h
    rcases hx with ⟨o, hx⟩ | hx
    · exact .base (.frz hx)
    · rcases hx (fun _ => none) with (z | ⟨o, z⟩) | ⟨o, its, n, hk, hc, _⟩
      · cases z
      · cases z
      · exact .kList hk hc
  | ref i =>
    obtain ⟨a, e, em⟩ := r
    subst e
    unfold tyStr at h
    simp only at h
    split at h
    · rename_i ds ec; cases h; obtain ⟨xs, hx, _⟩ := rh.ok i a _ em ec; exact .base (.lst hx)
    · rename_i ds ec; cases h; obtain ⟨xs, hx, _⟩ := rh.ok i a _ em ec; exact .base (.dK hx)
    · rename_i ds ec; cases h; obtain ⟨xs, hx, _⟩ := rh.ok i a _ em ec; exact .base (.dT hx)
    · cases h
  | con u => cases h
  | exc a c d fs => cases h
  | dct => obtain ⟨a, es, e, hx, _⟩ := r; subst e; cases h; exact .base (.dK hx)
/-- is n the type T or under it -/
def subTy (n T : String) : Bool := n == T || (n == "bool" && T == "int")
def knownTy (n : String) : Bool := ["NoneType", "bool", "int", "str", "tuple", "list", "dict"].contains n
theorem kit_tab {n T : String} (hn : knownTy n = true) (hT : ["bool", "int", "str", "tuple", "list", "dict"].contains T = true) : PySem.W.kitOne K (.type n) (.type T) = some (subTy n T) := by
  have a : n = "NoneType" ∨ n = "bool" ∨ n = "int" ∨ n = "str" ∨ n = "tuple" ∨ n = "list" ∨ n = "dict" := by simpa [knownTy] using hn
  have b : T = "bool" ∨ T = "int" ∨ T = "str" ∨ T = "tuple" ∨ T = "list" ∨ T = "dict" := by simpa using hT
  rcases a with rfl | rfl | rfl | rfl | rfl | rfl | rfl <;> rcases b with rfl | rfl | rfl | rfl | rfl | rfl <;> rfl
theorem tyStr_known {d : D} {M : MH} {n : String} (h : tyStr d M = some n) : knownTy n = true := by
  cases d with
  | ref i =>
    unfold tyStr at h
    simp only at h
    split at h
    · cases h; rfl
    · cases h; rfl
    · cases h; rfl
    · cases h
  | con u => cases h
  | exc a c d fs => cases h
  | _ => cases h; rfl
def cIsi : RA' := fun ds M Q => ∃ d T n, ds = [d, .con (.ty T)] ∧ ["bool", "int", "str", "tuple", "list", "dict"].contains T = true ∧ tyStr d M = some n ∧ Q (.bl (subTy n T)) M
theorem mr_isi : MonoR cIsi := fun ds M Q Q' q ⟨d, T, n, e, hT, en, h⟩ => ⟨d, T, n, e, hT, en, q _ _ h⟩
theorem la_isi : LiftA K (rIsi K) cIsi := by
  intro w xs ds Q rh r ⟨d, T, n, e, hT, en, q⟩
  subst e
  obtain ⟨v, v', rfl, rv, rv'⟩ := rep2 r
  have : v' = .ty T := by simpa [Rep] using rv'
  subst this
  exact ⟨v, .ty T, .type n, .type T, subTy n T, rfl, .ty T, tyStr_rep rh rv en, kit_tab (tyStr_known en) hT, PV.here rh q rep_mk_bl⟩
/-- a built-in type as a value -/
theorem me_ty {x : Str} {T : String} (hg : Gl X x) (hm : X.mg x = none) (hv : bootBuiltins x = some (.type T)) (hn : x ≠ "__name__" := by decide) (hd : (x == ("__debug__" : Str)) = false := by decide) : ME X W (.Name x pos) (tC' (.con (.ty T))) :=
  me_c (v := .ty T) (pe_bltn hg hm hv rfl hn hd) fun _ => by simp [Rep]
/-- isinstance(x, (T1, T2)) -/
def tysD : List D → Option (List String)
  | [] => some []
  | .con (.ty T) :: r => (tysD r).map (T :: ·)
  | _ :: _ => none
theorem tysD_rep : ∀ {ds : List D} {xs : List V} {ts : List String}, RepL K w ds xs → tysD ds = some ts → xs = ts.map V.ty
  | [], xs, ts, h, e => by cases e; exact h
  | d :: r, xs, ts, h, e => by
    obtain ⟨x, xr, rfl, rx, h⟩ := h
    cases d with
    | con u =>
      cases u with
      | ty T =>
        unfold tysD at e
        cases hr : tysD r with
        | none => rw [hr] at e; cases e
        | some ts' =>
          rw [hr] at e
          cases e
          rw [show x = .ty T by simpa [Rep] using rx, tysD_rep h hr]; rfl
      | _ => unfold tysD at e; cases e
    | _ => unfold tysD at e; cases e
def okTys (ts : List String) : Bool := ts.all fun T => ["bool", "int", "str", "tuple", "list", "dict"].contains T
theorem kitAny_tab {n : String} (hn : knownTy n = true) : ∀ {ts : List String}, okTys ts = true → PySem.W.kitAny K (.type n) (ts.map Value.type) = some (ts.any fun T => subTy n T)
  | [], _ => rfl
  | T :: r, h => by
    unfold okTys at h
    rw [List.all_cons, Bool.and_eq_true] at h
    have ih : PySem.W.kitAny K (.type n) (r.map Value.type) = some (r.any fun T => subTy n T) := kitAny_tab hn (ts := r) h.2
    show (match PySem.W.kitOne K (.type n) (.type T) with | some true => some true | some false => PySem.W.kitAny K (.type n) (r.map Value.type) | none => none) = _
    rw [kit_tab hn h.1, List.any_cons]
    cases subTy n T with
    | true => rfl
    | false => simp [ih]
theorem paired_ty : ∀ ts : List String, Paired ClsV (ts.map V.ty) (ts.map Value.type)
  | [] => .nil
  | T :: r => .cons (.ty T) (paired_ty r)
/-- the written tuple of types is just laid -/
def cIsiT : RA' := fun ds M Q => ∃ d es ts n, ds = [d, .tup es] ∧ tysD es = some ts ∧ okTys ts = true ∧ tyStr d M = some n ∧ Q (.bl (ts.any fun T => subTy n T)) M
theorem mr_isiT : MonoR cIsiT := fun ds M Q Q' q ⟨d, es, ts, n, e, e1, e2, en, h⟩ => ⟨d, es, ts, n, e, e1, e2, en, q _ _ h⟩
/-- the layer's rule asks for a tracked tuple -/
def rIsiT2 (K : PySem.W.Frag) : List V → Hp → VK → Prop := fun xs H Q => ∃ (x : V) (tp : Addr) (cs : List V) (t : Value) (us : List Value) (b : Bool), xs = [x, .ref tp] ∧ SqT K H tp cs ∧ Paired ClsV cs us ∧ TyX K H x t ∧ PySem.W.kitAny K t us = some b ∧ Q (.bl b) H
theorem call_isiT2 {X : Cx} : CallR X (.builtin "isinstance") (rIsiT2 X.K) := by
  intro pins s σ H xs us Q I r h
  obtain ⟨x, tp, cs, t, ws, b, rfl, hT, k, ty, e, q⟩ := h
  obtain ⟨u1, u2, rfl, r1, r2⟩ := vals2 r
  rcases hT with (hT | ⟨o, hT⟩) | ⟨o, its, n, hk, hc, hd, hz, hv⟩
  · exact call_isiT pins s σ H _ _ Q I r ⟨x, tp, cs, t, ws, b, rfl, hT, k, ty, e, q⟩
  · cases (show u2 = Value.ref tp from r2)
    obtain ⟨P, Z, p, hx⟩ := kit_of I r1 ty
    obtain ⟨_, _, its, rv, o2, h1, h2, n, h3⟩ := (show ObjOk X.prog X.w H s.heap tp (.frz o (.tup cs)) from I.hok tp _ hT)
    have e3 := ClsV.all k rv
    subst e3
    obtain ⟨oc, od, dt, sl⟩ := o2
    simp only at h2 h3
    subst h2 h3
    exact PySem.W.kia_tup Z I.kIn p h1 e hx fun tk => ⟨.bl b, H, I.tok tk, rfl, q⟩
  · cases (show u2 = Value.ref tp from r2)
    obtain ⟨P, Z, p, hx⟩ := kit_of I r1 ty
    have e3 := ClsV.all k hv
    subst e3
    obtain ⟨oc, od, dt, sl⟩ := o
    simp only at hc hd
    subst hc hd
    exact PySem.W.kia_tup Z I.kIn p (I.kIn tp _ hk) e hx fun tk => ⟨.bl b, H, I.tok tk, rfl, q⟩
theorem la_isiT : LiftA K (rIsiT2 K) cIsiT := by
  intro w xs ds Q rh r ⟨d, es, ts, n, e, e1, e2, en, q⟩
  subst e
  obtain ⟨v, v', rfl, rv, rv'⟩ := rep2 r
  obtain ⟨a, cs, e, hx, hr⟩ := rv'
  subst e
  have := tysD_rep hr e1
  subst this
  exact ⟨v, a, _, .type n, _, _, rfl, hx, paired_ty ts, tyStr_rep rh rv en, kitAny_tab (tyStr_known en) e2, PV.here rh q rep_mk_bl⟩
/-! ### methods -/
def mAppend : RM' := fun x ds M Q => ∃ c es d, x = .ref c ∧ ds = [d] ∧ M[c]? = some (.lst es) ∧ es.length < sizeLine ∧ Q .non (M.set c (.lst (es ++ [d])))
theorem lm_append : LiftM K rAppend mAppend := by
  intro w x xs d ds Q rh rx rs ⟨c, es, d1, e1, e2, ec, hl, q⟩
  subst e1 e2
  obtain ⟨a, e, em⟩ := rx
  subst e
  obtain ⟨v, rfl, rv⟩ := rep1 rs
  obtain ⟨ys, hy, hr⟩ := rh.ok c a _ em ec
  have nd : (Cell.lst es) ≠ Cell.dead := fun z => by cases z
  have l : Le w (w.put c a (.lst (ys ++ [v])) (.lst (es ++ [d1]))) := Le.put rh em ec nd
  exact ⟨a, ys, v, rfl, rfl, hy, by rw [hr.length]; exact hl, q .non (w.put c a (.lst (ys ++ [v])) (.lst (es ++ [d1]))) rfl l (rh.put em ec nd ⟨_, upd_same, RepL.le rh l _ (hr.append (RepL.cons rv RepL.nil))⟩) rep_mk_non⟩
theorem mm_append : MonoM mAppend := fun x ds M Q Q' q ⟨c, es, d, e1, e2, ec, hl, h⟩ => ⟨c, es, d, e1, e2, ec, hl, q _ _ h⟩
def mPopAt : RM' := fun x ds M Q => ∃ c es i k d, x = .ref c ∧ ds = [.int i] ∧ M[c]? = some (.lst es) ∧ ixN es.length i = some k ∧ -(2 ^ 63) ≤ i ∧ i < 2 ^ 63 ∧ es[k]? = some d ∧ Q d (M.set c (.lst (es.eraseIdx k)))
theorem lm_popAt : LiftM K rPopAt mPopAt := by
  intro w x xs d ds Q rh rx rs ⟨c, es, i, k, d1, e1, e2, ec, hk, h1, h2, hd, q⟩
  subst e1 e2
  obtain ⟨a, e, em⟩ := rx
  subst e
  obtain ⟨v, rfl, rv⟩ := rep1 rs
  obtain ⟨ys, hy, hr⟩ := rh.ok c a _ em ec
  obtain ⟨y, ey, ry⟩ := hr.get hd
  have nd : (Cell.lst es) ≠ Cell.dead := fun z => by cases z
  have l : Le w (w.put c a (.lst (ys.eraseIdx k)) (.lst (es.eraseIdx k))) := Le.put rh em ec nd
  exact ⟨a, ys, i, k, y, rfl, by rw [rep_int rv], hy, h1, h2, by rw [hr.length]; exact (ixN_seq hk).1, ey, q y (w.put c a (.lst (ys.eraseIdx k)) (.lst (es.eraseIdx k))) rfl l (rh.put em ec nd ⟨_, upd_same, RepL.le rh l _ (hr.eraseIdx k)⟩) (ry.le' rh l)⟩
theorem mm_popAt : MonoM mPopAt := fun x ds M Q Q' q ⟨c, es, i, k, d, e1, e2, ec, hk, h1, h2, hd, h⟩ => ⟨c, es, i, k, d, e1, e2, ec, hk, h1, h2, hd, q _ _ h⟩
def mStarts : RM' := fun x ds M Q => ∃ a b, x = .str a ∧ ds = [.str b] ∧ Q (.bl (Txt.startswith a b)) M
theorem lm_starts : LiftM K (fun x xs H Q => ∃ a b, x = .str a ∧ xs = [.str b] ∧ Q (.bl (Txt.startswith a b)) H) mStarts := by
  intro w x xs d ds Q rh rx rs ⟨a, b, e1, e2, q⟩
  subst e1 e2
  obtain ⟨v, rfl, rv⟩ := rep1 rs
  exact ⟨a, b, rep_str rx, by rw [rep_str rv], PV.here rh q rep_mk_bl⟩
theorem mm_starts : MonoM mStarts := fun x ds M Q Q' q ⟨a, b, e1, e2, h⟩ => ⟨a, b, e1, e2, q _ _ h⟩
def mSIndex : RM' := fun x ds M Q => ∃ (a b : Str) (i : Nat) (rest : List Nat), x = .str a ∧ ds = [.str b] ∧ Builtin.Str.occurrences a b 0 a.length 1 = i :: rest ∧ Q (.int (i : Int)) M
theorem lm_sindex : LiftM K (fun x xs H Q => ∃ a b i rest, x = .str a ∧ xs = [.str b] ∧ Builtin.Str.occurrences a b 0 a.length 1 = i :: rest ∧ Q (.int (i : Nat)) H) mSIndex := by
  intro w x xs d ds Q rh rx rs ⟨a, b, i, rest, e1, e2, ho, q⟩
  subst e1 e2
  obtain ⟨v, rfl, rv⟩ := rep1 rs
  exact ⟨a, b, i, rest, rep_str rx, by rw [rep_str rv], ho, PV.here rh q rep_mk_int⟩
theorem mm_sindex : MonoM mSIndex := fun x ds M Q Q' q ⟨a, b, i, rest, e1, e2, ho, h⟩ => ⟨a, b, i, rest, e1, e2, ho, q _ _ h⟩
/-! ### list(range(..)), tuple(range(..)) -/
def tRg1' (ta : TE') : EnvD → MH → (Int → Int → MH → Prop) → QX → Prop := fun δ M Q E => ta δ M (fun d M1 => ∃ n, d = .int n ∧ Q 0 n M1) E
def tRg2' (ta tb : TE') : EnvD → MH → (Int → Int → MH → Prop) → QX → Prop := fun δ M Q E => ta δ M (fun d M1 => tb δ M1 (fun d2 M2 => ∃ i j, d = .int i ∧ d2 = .int j ∧ Q i j M2) E) E
def tListRg' (cell : Bool) (t : EnvD → MH → (Int → Int → MH → Prop) → QX → Prop) : TE' := fun δ M Q E => t δ M (fun a b M1 => RgOk a b ∧ newL cell (rangeD a (b - a).toNat) M1 Q) E
def tTupRg' (t : EnvD → MH → (Int → Int → MH → Prop) → QX → Prop) : TE' := fun δ M Q E => t δ M (fun a b M1 => RgOk a b ∧ Q (.tup (rangeD a (b - a).toNat)) M1) E
theorem rep_range {a b : Int} : RepL K w (rangeD a (b - a).toNat) (rgV a b) := by
  unfold rangeD rgV
  generalize List.range (b - a).toNat = l
  induction l with
  | nil => exact RepL.nil
  | cons i r ih => exact RepL.cons rep_mk_int ih
theorem me_listRg1 (cell : Bool) {p p2 pos2 : Pos} {ta : TE'} (hc : X.calm = true) (hg : Gl X "list") (hm : X.mg "list" = none) (hg2 : Gl X "range") (hm2 : X.mg "range" = none) (ha : ME X W a ta)
    (na : starEach [a] X.env = (false, eval a X.env) :: starEach [] X.env := by rfl) (na2 : starEach [.Call (.Name "range" p2) [a] [] pos2] X.env = (false, eval (.Call (.Name "range" p2) [a] [] pos2) X.env) :: starEach [] X.env := by rfl) :
    ME X W (.Call (.Name "list" p) [.Call (.Name "range" p2) [a] [] pos2] [] pos) (tListRg' cell (tRg1' ta)) :=
  ⟨PE.imp (pe_listRg hc hg hm (prg_1 hg2 hm2 ha.pe na) na2) fun σ H Q ⟨w, δ, eH, rh, rs, h⟩ => by
    subst eH
    refine up_go ha.mono rh rs h (fun _ _ x => x) fun d v w1 l1 rh1 rs1 rv ⟨n, e, ok, q⟩ => ?_
    subst e
    exact ⟨n, rep_int rv, ok, newL.lift rh1 rep_range (newL.mono (fun d M q => q.le rh rh1 l1) q)⟩,
   fun δ M Q Q' E E' q x hh => ha.mono _ _ _ _ _ _ (fun d M1 ⟨n, e, ok, h⟩ => ⟨n, e, ok, h.mono q⟩) x hh⟩
theorem me_tupRg1 {p p2 pos2 : Pos} {ta : TE'} (hc : X.calm = true) (hg : Gl X "tuple") (hm : X.mg "tuple" = none) (hg2 : Gl X "range") (hm2 : X.mg "range" = none) (ha : ME X W a ta)
    (na : starEach [a] X.env = (false, eval a X.env) :: starEach [] X.env := by rfl) (na2 : starEach [.Call (.Name "range" p2) [a] [] pos2] X.env = (false, eval (.Call (.Name "range" p2) [a] [] pos2) X.env) :: starEach [] X.env := by rfl) :
    ME X W (.Call (.Name "tuple" p) [.Call (.Name "range" p2) [a] [] pos2] [] pos) (tTupRg' (tRg1' ta)) :=
  ⟨PE.imp (pe_tupRg hc hg hm (prg_1 hg2 hm2 ha.pe na) na2) fun σ H Q ⟨w, δ, eH, rh, rs, h⟩ => by
    subst eH
    refine up_go ha.mono rh rs h (fun _ _ x => x) fun d v w1 l1 rh1 rs1 rv ⟨n, e, ok, q⟩ => ?_
    subst e
    exact ⟨n, rep_int rv, ok, newT.lift rh1 rep_range (q.le rh rh1 l1)⟩,
   fun δ M Q Q' E E' q x hh => ha.mono _ _ _ _ _ _ (fun d M1 ⟨n, e, ok, h⟩ => ⟨n, e, ok, q _ _ h⟩) x hh⟩
end MD
/-! MD: slices of all kinds, constants of the module, the ends. -/
namespace MD
open PySem PySem.Spec PyProof.Rows L2
variable {K : PySem.W.Frag} {w w1 w2 : Wd} {X : Cx} {W : WX} {e a b c : Expr} {pos : Pos}
def cutD (xs : List D) (lo hi : Option Int) : List D := (xs.drop (HT.sIx xs.length 0 lo)).take (HT.sIx xs.length xs.length hi - HT.sIx xs.length 0 lo)
theorem RepL.cut {ds : List D} {xs : List V} (h : RepL K w ds xs) (lo hi : Option Int) : RepL K w (cutD ds lo hi) (cutV xs lo hi) := by
  unfold cutD cutV
  rw [h.length]
  exact (h.drop _).take _
abbrev rSlAll (K : PySem.W.Frag) : V → Option Int → Option Int → Hp → VK → Prop := fun x lo hi H Q => rSlS x lo hi H Q ∨ rSlA K x lo hi H Q ∨ rSlL K x lo hi H Q
theorem sl_all : SlR X (rSlAll X.K) := SlR.or sl_str (SlR.or sl_tupA sl_list)
def oSl (cell : Bool) : RS' := fun d lo hi M Q => match d with
  | .str z => z.length ≤ sizeLine ∧ Q (.str (cutS z lo hi)) M
  | .tup ds => Q (.tup (cutD ds lo hi)) M
  | d => ∃ ds, lstOf d M = some ds ∧ newL cell (cutD ds lo hi) M Q
theorem cut_all {xs : List V} {lo hi : Option Int} (h : HT.sIx xs.length 0 lo = 0 ∧ HT.sIx xs.length xs.length hi = xs.length) : cutV xs lo hi = xs := by
  unfold cutV
  rw [h.1, h.2]; simp
theorem lsl_all {cell : Bool} : LiftSl K (rSlAll K) (oSl cell) := by
  intro w x d lo hi Q rh rx h
  have lst : ∀ ds, lstOf d w.M = some ds → newL cell (cutD ds lo hi) w.M (PV K w Q) → rSlAll K x lo hi w.H Q := by
    intro ds e h
    obtain ⟨a, xs, rfl, hx, hr⟩ := lstOf_rep rh rx e
    exact .inr (.inr ⟨a, xs, rfl, SqL.of hx, newL.lift rh (hr.cut lo hi) h⟩)
  cases d with
  | str z => exact .inl ⟨z, rep_str rx, h.1, PV.here rh h.2 rep_mk_str⟩
  | tup ds =>
    obtain ⟨a, xs, e, hx, hr⟩ := rx
    have h : PV K w Q (.tup (cutD ds lo hi)) w.M := h
    refine .inr (.inl ⟨a, xs, e, hx, fun hc => ?_, fun _ => newT.lift rh (hr.cut lo hi) h⟩)
    have hr2 := hr.cut lo hi
    rw [cut_all hc] at hr2
    exact PV.here rh h ⟨a, xs, rfl, hx, hr2⟩
  | lst ds => obtain ⟨es, e, h⟩ := h; exact lst es e h
  | ref i => obtain ⟨es, e, h⟩ := h; exact lst es e h
  | _ => obtain ⟨es, e, h⟩ := h; cases e
theorem msl_all {cell : Bool} : MonoSl (oSl cell) := by
  intro d lo hi M Q Q' q h
  cases d with
  | str z => exact ⟨h.1, q _ _ h.2⟩
  | tup ds => exact q _ _ h
  | lst ds => obtain ⟨es, e, h⟩ := h; exact ⟨es, e, h.mono q⟩
  | ref ds => obtain ⟨es, e, h⟩ := h; exact ⟨es, e, h.mono q⟩
  | _ => obtain ⟨es, e, h⟩ := h; cases e

/-! ### constants of the module -/
def GlobD (K : PySem.W.Frag) (mg : Str → Option Value) (x : Str) (d : D) : Prop := ∃ (u : Value) (v : V), mg x = some u ∧ RelV v u ∧ ∀ w, Rep K w d v
theorem me_globD {x : Str} {d : D} (hg : Gl X x) (h : GlobD X.K X.mg x d) (hd : (x == ("__debug__" : Str)) = false := by decide) : ME X W (.Name x pos) (tC' d) := by
  obtain ⟨u, v, hm, r, hr⟩ := h
  exact me_glob hg hm r hr hd
def GlobK (K : PySem.W.Frag) (x : Str) (d : D) : Prop := ∃ (u : Value) (v : V), PySem.W.nsIn K mainGlobals x = some (some u) ∧ RelV v u ∧ ∀ w, Rep K w d v
theorem globD_of {h : Heap} {mg : Str → Option Value} {x : Str} {d : D} (X : K.In h) (G : h.Ns mainGlobals mg) (g : GlobK K x d) : GlobD K mg x d := by
  obtain ⟨u, v, hm, r, hr⟩ := g
  exact ⟨u, v, PySem.W.mg_of X G hm, r, hr⟩
theorem globK_str {x y : Str} {t : Tok} (h : PySem.W.nsIn K mainGlobals x = some (some (.str y t))) : GlobK K x (.str y) := ⟨_, .str y, h, ⟨t, rfl⟩, fun _ => rep_mk_str⟩
theorem globK_int {x : Str} {y : Int} {t : Tok} (h : PySem.W.nsIn K mainGlobals x = some (some (.int y t))) : GlobK K x (.int y) := ⟨_, .int y, h, ⟨t, rfl⟩, fun _ => rep_mk_int⟩
theorem globK_tup {x : Str} {ds : List D} {xs : List V} {its : Array Value} {a : Addr} {dd : Option Addr} {n : Nat} {sl : Array (Option Value)} (h : PySem.W.nsIn K mainGlobals x = some (some (.ref a)))
    (l : K.lookup a = some ⟨.type "tuple", dd, .seq its n, sl⟩) (hv : its.size ≤ sizeLine ∧ Vals xs its.toList ∧ ∀ w, RepL K w ds xs) : GlobK K x (.tup ds) :=
  ⟨_, .ref a, h, rfl, fun w => by
    simp only [Rep]
    exact ⟨a, xs, rfl, .inr ⟨_, its, n, l, rfl, rfl, hv.1, hv.2.1⟩, hv.2.2 w⟩⟩

/-! ### the ends -/
theorem upP_imp {sp sp' : SpD} (h : ∀ ds M Q E, sp' ds M Q E → sp ds M Q E) {vs : List V} {H : Hp} {Q : VK} {E : XK} (q : upP K sp' vs H Q E) : upP K sp vs H Q E := by
  obtain ⟨w, ds, e, rh, hr, q⟩ := q
  exact ⟨w, ds, e, rh, hr, h _ _ _ _ q⟩
theorem law_start {sp : SpD} {H : Hp} {a : Addr} {ns : List Int} (hO : Only H) (hS : SqL K H a (ns.map V.int)) (h : ∀ Q E, (∀ M, Q (.bl true) M) → sp [.scr ns] [] Q E) : upP K sp [.ref a] H (fun v _ => v = .bl true) fun _ _ _ => False := by
  refine ⟨⟨[], [], [], H⟩, [.scr ns], rfl, ⟨rfl, List.nodup_nil, (fun _ h => nomatch h), (fun i a c e => by simp at e), (fun _ h => nomatch h)⟩, ?_, h _ _ fun M v w1 _ _ _ r => rep_bl r⟩
  refine ⟨.ref a, [], rfl, ?_, rfl⟩
  simp only [Rep]
  refine ⟨a, rfl, ?_⟩
  rcases hS with (hS | ⟨o, hS⟩) | hS
  · rcases hO a with z | ⟨o, xs, z⟩
    · rw [z] at hS; cases hS
    · rw [z] at hS; cases hS
  · exact .inl ⟨o, hS⟩
  · exact .inr fun H => .inr hS
theorem cx_none {P : Program} {wd : World} {H : Hp} {s s' : Shared} {e : Value} (h : L2.CX P wd [] H s (fun _ _ _ => False) e s') : False := by
  obtain ⟨_, _, _, _, _, _, _, _, _, _, _, _, z⟩ := h
  exact z
theorem law_binds {x qual : Str} {st : Stmt} {f : Addr} {fd : FuncData} {y : Str} (F : Fun K x qual st f fd) (s : Shared) (u : Value)
    (h : ∀ (kV doc pm : Value) (an : Option Addr) (cdv ct : Value), bindArgs (PySem.W.fnOf x qual (defArgs st) (defBody st) (defScope st) .none kV doc pm an cdv ct) ⟨[u], []⟩ = pure [(y, u)]) : BindsTo s fd ⟨[u], []⟩ [(y, u)] := by
  obtain ⟨oc, od, kV, doc, pm, an, cdv, ct, osl, rfl, _, _⟩ := F.ex
  exact .of_eq (h kV doc pm an cdv ct)
end MD
/-! MD: rules for simp, loops by induction. -/
namespace MD
open PySem PySem.Spec PyProof.Rows L2
def asB (d : D) (P : Bool → Prop) : Prop := match d with
  | .bl c => P c
  | _ => False
@[simp] theorem asB_bl {c : Bool} {P : Bool → Prop} : asB (.bl c) P ↔ P c := Iff.rfl
theorem asB_iff {d : D} {P : Bool → Prop} : (∃ c, d = .bl c ∧ P c) ↔ asB d P := by
  constructor
  · rintro ⟨c, rfl, h⟩; exact h
  · intro h
    cases d with
    | bl c => exact ⟨c, rfl, h⟩
    | _ => exact h.elim
def onB (o : Option Bool) (P : Bool → Prop) : Prop := match o with
  | some c => P c
  | none => False
@[simp] theorem onB_some {c : Bool} {P : Bool → Prop} : onB (some c) P ↔ P c := Iff.rfl
theorem onB_iff {d : Option Bool} {P : Bool → Prop} : (∃ c, d = some c ∧ P c) ↔ onB d P := by
  constructor
  · rintro ⟨c, rfl, h⟩; exact h
  · intro h
    cases d with
    | some c => exact ⟨c, rfl, h⟩
    | none => exact h.elim
section
variable {δ : EnvD} {M : MH} {Q : QE} {E : QX} {i : Nat} {d : D} {ta tb te : TE'} {t u : TT'} {a b : TA'} {DD : Ends'} {s1 s2 : TS'} {QB : Bool → MH → Prop} {QA : List D → MH → Prop} {r : R2'} {r1 : R1'} {g : TG'}
@[simp] theorem u_var : tVar' i δ M Q E ↔ ∃ d, δ[i]? = some (some d) ∧ Q d M := Iff.rfl
@[simp] theorem u_c : tC' d δ M Q E ↔ Q d M := Iff.rfl
@[simp] theorem u_op : tOp' r ta tb δ M Q E ↔ ta δ M (fun x M1 => tb δ M1 (fun y M2 => r x y M2 Q) E) E := Iff.rfl
@[simp] theorem u_un : tUn' r1 ta δ M Q E ↔ ta δ M (fun x M1 => r1 x M1 Q) E := Iff.rfl
@[simp] theorem u_B : tB' te δ M QB E ↔ te δ M (fun d M1 => asB d fun c => QB c M1) E := by unfold tB'; simp only [asB_iff]
@[simp] theorem u_and : tAnd' t u δ M QB E ↔ t δ M (fun c M1 => if c = true then u δ M1 QB E else QB false M1) E := Iff.rfl
@[simp] theorem u_or : tOr' t u δ M QB E ↔ t δ M (fun c M1 => if c = true then QB true M1 else u δ M1 QB E) E := Iff.rfl
@[simp] theorem u_not : tNot' t δ M QB E ↔ t δ M (fun c M1 => QB (!c) M1) E := Iff.rfl
@[simp] theorem u_andV : tAndV' ta tb δ M Q E ↔ ta δ M (fun x M1 => asB x fun c => if c = true then tb δ M1 Q E else Q (.bl false) M1) E := by unfold tAndV'; simp only [asB_iff]
@[simp] theorem u_orV : tOrV' ta tb δ M Q E ↔ ta δ M (fun x M1 => asB x fun c => if c = true then Q (.bl true) M1 else tb δ M1 Q E) E := by unfold tOrV'; simp only [asB_iff]
@[simp] theorem u_notV : tNotV' ta δ M Q E ↔ ta δ M (fun x M1 => asB x fun c => Q (.bl (!c)) M1) E := by unfold tNotV'; simp only [asB_iff]
@[simp] theorem u_if : tIf' t ta tb δ M Q E ↔ t δ M (fun c M1 => if c = true then ta δ M1 Q E else tb δ M1 Q E) E := Iff.rfl
@[simp] theorem u_nil : tNil' δ M QA E ↔ QA [] M := Iff.rfl
@[simp] theorem u_cons : tCons' te a δ M QA E ↔ te δ M (fun d M1 => a δ M1 (fun ds M2 => QA (d :: ds) M2) E) E := Iff.rfl
@[simp] theorem u_tup : tTup' a δ M Q E ↔ a δ M (fun ds M1 => ds.length ≤ sizeLine ∧ Q (.tup ds) M1) E := Iff.rfl
@[simp] theorem u_lst {c : Bool} : tLst' c a δ M Q E ↔ a δ M (fun ds M1 => ds.length ≤ sizeLine ∧ newL c ds M1 Q) E := Iff.rfl
@[simp] theorem u_newF {ds : List D} : newL false ds M Q ↔ Q (.lst ds) M := Iff.rfl
@[simp] theorem u_newT {ds : List D} : newL true ds M Q ↔ Q (.ref M.length) (M ++ [.lst ds]) := Iff.rfl
@[simp] theorem u_frz : tFrz te δ M Q E ↔ te δ M (fun d M1 => ∃ i ds, d = .ref i ∧ M1[i]? = some (.lst ds) ∧ Q (.lst ds) (M1.set i .dead)) E := Iff.rfl
@[simp] theorem u_CB {r : RA'} : tCB' r a δ M Q E ↔ a δ M (fun ds M1 => r ds M1 Q) E := Iff.rfl
@[simp] theorem u_call {sp : SpD} : tCall' sp a δ M Q E ↔ a δ M (fun ds M1 => sp ds M1 Q E) E := Iff.rfl
@[simp] theorem u_gname {QG : EnvD → MH → Prop} : gName' i d δ M QG ↔ QG (δ.set i (some d)) M := Iff.rfl
theorem u_gnil {ds : List D} {QG : EnvD → MH → Prop} : gAll' [] ds δ M QG ↔ ds = [] ∧ QG δ M := Iff.rfl
theorem u_gcons {gs : List TG'} {ds : List D} {QG : EnvD → MH → Prop} : gAll' (g :: gs) ds δ M QG ↔ ∃ d r, ds = d :: r ∧ g d δ M fun δ1 M1 => gAll' gs r δ1 M1 QG := Iff.rfl
theorem u_gtup {n : Nat} {gs : List TG'} {QG : EnvD → MH → Prop} : gTup' n gs d δ M QG ↔ ∃ ds, (d = .tup ds ∨ d = .lst ds) ∧ ds.length = n ∧ gAll' gs ds δ M QG := Iff.rfl
@[simp] theorem u_gsub {ts : TSet'} {QG : EnvD → MH → Prop} : gSub' ta tb ts d δ M QG ↔ ta δ M (fun o M1 => tb δ M1 (fun i M2 => ts o i d M2 fun M3 => QG δ M3) fun _ _ => False) fun _ _ => False := Iff.rfl
@[simp] theorem u_next : tNext' DD δ M ↔ DD.nx δ M := Iff.rfl
@[simp] theorem u_seq : tSeq' s1 s2 DD δ M ↔ s1 { DD with nx := s2 DD } δ M := Iff.rfl
@[simp] theorem u_break : tBreak' DD δ M ↔ DD.bk δ M := Iff.rfl
@[simp] theorem u_cont : tCont' DD δ M ↔ DD.ct δ M := Iff.rfl
@[simp] theorem u_never : tNever' DD δ M ↔ False := Iff.rfl
@[simp] theorem u_drop : tDrop' te DD δ M ↔ te δ M (fun _ M1 => DD.nx δ M1) (fun x M1 => DD.ex x δ M1) := Iff.rfl
@[simp] theorem u_ret : tRet' te DD δ M ↔ te δ M DD.rt (fun x M1 => DD.ex x δ M1) := Iff.rfl
@[simp] theorem u_retN : tRetN' DD δ M ↔ DD.rt .non M := Iff.rfl
@[simp] theorem u_ifS : tIfS' t s1 s2 DD δ M ↔ t δ M (fun b M1 => if b = true then s1 DD δ M1 else s2 DD δ M1) (fun x M1 => DD.ex x δ M1) := Iff.rfl
@[simp] theorem u_asg : tAsg' te g DD δ M ↔ te δ M (fun d M1 => g d δ M1 DD.nx) (fun x M1 => DD.ex x δ M1) := Iff.rfl
@[simp] theorem u_par {j : Nat} : tPar' i j a DD δ M ↔ a δ M (fun ds M1 => ∃ d d', ds = [d, d'] ∧ DD.nx ((δ.set i (some d)).set j (some d')) M1) (fun x M1 => DD.ex x δ M1) := Iff.rfl
@[simp] theorem u_it {R : ItD → MH → Prop} : tIt' te δ M R E ↔ te δ M (fun d M1 => seqD d M1 R) E := Iff.rfl
@[simp] theorem u_seqT {ds : List D} {R : ItD → MH → Prop} : seqD (.tup ds) M R ↔ R ⟨ds, none⟩ M := Iff.rfl
@[simp] theorem u_seqL {ds : List D} {R : ItD → MH → Prop} : seqD (.lst ds) M R ↔ R ⟨ds, none⟩ M := Iff.rfl
@[simp] theorem u_seqScr {ns : List Int} {R : ItD → MH → Prop} : seqD (.scr ns) M R ↔ R ⟨ns.map D.int, none⟩ M := Iff.rfl
@[simp] theorem u_seqStr {x : Str} {R : ItD → MH → Prop} : seqD (.str x) M R ↔ R ⟨x.cps.toList.map fun c => D.str ⟨#[c]⟩, none⟩ M := Iff.rfl
@[simp] theorem u_seqRef {R : ItD → MH → Prop} : seqD (.ref i) M R ↔ ∃ ds, M[i]? = some (.lst ds) ∧ R ⟨ds, some i⟩ M := Iff.rfl
@[simp] theorem u_rng1 {R : ItD → MH → Prop} : tRng1' a δ M R E ↔ a δ M (fun ds M1 => ∃ j : Int, ds = [.int j] ∧ -(2 ^ 62) ≤ j ∧ j < 2 ^ 62 ∧ R ⟨rangeD 0 j.toNat, none⟩ M1) E := Iff.rfl
@[simp] theorem u_rng2 {R : ItD → MH → Prop} : tRng2' a δ M R E ↔ a δ M (fun ds M1 => ∃ i j : Int, ds = [.int i, .int j] ∧ (-(2 ^ 62) ≤ i ∧ i < 2 ^ 62 ∧ -(2 ^ 62) ≤ j ∧ j < 2 ^ 62) ∧ R ⟨rangeD i (j - i).toNat, none⟩ M1) E := Iff.rfl
@[simp] theorem u_for {ti : TI'} : tFor' ti g s1 DD δ M ↔ ti δ M (fun it M1 => forL it g s1 DD it.items δ M1) (fun x M1 => DD.ex x δ M1) := Iff.rfl
@[simp] theorem u_while : tWhile' t s1 DD δ M ↔ ∃ n, whileN t s1 DD n δ M := Iff.rfl
@[simp] theorem u_lc {c : Bool} {ti : TI'} {vs : List Nat} : tLc' c ti g t te vs δ M Q E ↔ ti δ M (fun it M1 => lcL it g t te vs δ (fun acc M2 => newL c acc M2 Q) it.items [] M1) E := Iff.rfl
@[simp] theorem u_yes : tYes' δ M QB E ↔ QB true M := Iff.rfl
@[simp] theorem u_BM {T : String} {rm : RM'} : tBM' T rm te a δ M Q E ↔ te δ M (fun x M1 => tyD T x M1 ∧ a δ M1 (fun ds M2 => rm x ds M2 Q) E) E := Iff.rfl
@[simp] theorem u_tyS {x : Str} : tyD "str" (.str x) M ↔ True := ⟨fun _ => trivial, fun _ => rfl⟩
@[simp] theorem u_tyL {ds : List D} : tyD "list" (.lst ds) M ↔ True := ⟨fun _ => trivial, fun _ => rfl⟩
@[simp] theorem u_tyR : tyD "list" (.ref i) M ↔ ∃ ds, M[i]? = some (.lst ds) := ⟨fun h => h.elim (fun h => h.2) (fun h => absurd h.1 (by decide)), fun h => .inl ⟨rfl, h⟩⟩
@[simp] theorem u_sl {rs : RS'} {tl th : TO'} : tSl' rs te tl th δ M Q E ↔ te δ M (fun d M1 => tl δ M1 (fun lo M2 => th δ M2 (fun hi M3 => rs d lo hi M3 Q) E) E) E := Iff.rfl
@[simp] theorem u_part {QO : Option Int → MH → Prop} : tPart' te δ M QO E ↔ te δ M (fun d M1 => ∃ i, d = .int i ∧ QO (some i) M1) E := Iff.rfl
@[simp] theorem u_nopart {QO : Option Int → MH → Prop} : tNoPart' δ M QO E ↔ QO none M := Iff.rfl
@[simp] theorem u_chain {r r' : R2'} {tc : TE'} : tChain' r r' ta tb tc δ M Q E ↔ ta δ M (fun x M1 => tb δ M1 (fun y M2 => r x y M2 fun z M3 => asB z fun k => if k = true then tc δ M3 (fun u M4 => r' y u M4 Q) E else Q (.bl false) M3) E) E := by unfold tChain'; simp only [asB_iff]
@[simp] theorem u_tru : tTru' te δ M QB E ↔ te δ M (fun d M1 => (∀ y, d = .str y → y.length ≤ sizeLine) ∧ onB (truD d M1) fun b => QB b M1) E := by unfold tTru'; simp only [onB_iff]
@[simp] theorem u_truB {c : Bool} : truD (.bl c) M = some c := rfl
@[simp] theorem u_truN : truD .non M = some false := rfl
@[simp] theorem u_truS {x : Str} : truD (.str x) M = some ((x.length : Int) != 0) := rfl
@[simp] theorem u_truI {x : Int} : truD (.int x) M = some (x != 0) := rfl
@[simp] theorem u_truT {ds : List D} : truD (.tup ds) M = some (!ds.isEmpty) := rfl
@[simp] theorem u_truL {ds : List D} : truD (.lst ds) M = some (!ds.isEmpty) := rfl
/-! operators -/
@[simp] theorem u_addI {c : Bool} {i j : Int} : oAdd c (.int i) (.int j) M Q ↔ Q (.int (i + j)) M := Iff.rfl
@[simp] theorem u_addS {c : Bool} {i j : Str} : oAdd c (.str i) (.str j) M Q ↔ i.length + j.length ≤ sizeLine ∧ Q (.str (i ++ j)) M := Iff.rfl
@[simp] theorem u_addT {c : Bool} {i j : List D} : oAdd c (.tup i) (.tup j) M Q ↔ i.length + j.length ≤ sizeLine ∧ Q (.tup (i ++ j)) M := Iff.rfl
@[simp] theorem u_I {C : Int → Int → Prop} {gg : Int → Int → D} {i j : Int} : oI C gg (.int i) (.int j) M Q ↔ C i j ∧ Q (gg i j) M := Iff.rfl
@[simp] theorem u_I0 {gg : Int → Int → D} {i j : Int} : oI0 gg (.int i) (.int j) M Q ↔ Q (gg i j) M := Iff.rfl
@[simp] theorem u_mulI {c : Bool} {i j : Int} : oMul c (.int i) (.int j) M Q ↔ MulOk i j ∧ Q (.int (i * j)) M := Iff.rfl
@[simp] theorem u_mulS {c : Bool} {i : Str} {j : Int} : oMul c (.str i) (.int j) M Q ↔ (-(2 ^ 62) < j ∧ j < 2 ^ 62 ∧ i.length * j.toNat ≤ sizeLine) ∧ Q (.str (strRep i j)) M := Iff.rfl
@[simp] theorem u_neg {i : Int} : oNeg (.int i) M Q ↔ Q (.int (-i)) M := Iff.rfl
@[simp] theorem u_eqI {i j : Int} : oEq false (.int i) (.int j) M Q ↔ Q (.bl (decide (i = j))) M := Iff.rfl
@[simp] theorem u_neI {i j : Int} : oEq true (.int i) (.int j) M Q ↔ Q (.bl (!decide (i = j))) M := Iff.rfl
@[simp] theorem u_eqS {i j : Str} : oEq false (.str i) (.str j) M Q ↔ Q (.bl (decide (i = j))) M := Iff.rfl
@[simp] theorem u_neS {i j : Str} : oEq true (.str i) (.str j) M Q ↔ Q (.bl (!decide (i = j))) M := Iff.rfl
@[simp] theorem u_eqB {i j : Bool} : oEq false (.bl i) (.bl j) M Q ↔ Q (.bl (decide (i = j))) M := Iff.rfl
@[simp] theorem u_eqT {i j : List D} {n : Bool} : oEq n (.tup i) (.tup j) M Q ↔ eqOk (.tup i) ∧ eqOk (.tup j) ∧ Q (.bl (if n then !deq (.tup i) (.tup j) else deq (.tup i) (.tup j))) M := Iff.rfl
@[simp] theorem u_eqL {i j : List D} {n : Bool} : oEq n (.lst i) (.lst j) M Q ↔ eqOk (.lst i) ∧ eqOk (.lst j) ∧ Q (.bl (if n then !deq (.lst i) (.lst j) else deq (.lst i) (.lst j))) M := Iff.rfl
@[simp] theorem u_isN {n : Bool} : oIsN' n d .non M Q ↔ (∀ u, d ≠ .con u) ∧ Q (.bl (if n then !nonD d else nonD d)) M := Iff.rfl
@[simp] theorem u_nonN : nonD .non = true := rfl
@[simp] theorem u_nonI {x : Int} : nonD (.int x) = false := rfl
@[simp] theorem u_nonB {x : Bool} : nonD (.bl x) = false := rfl
@[simp] theorem u_nonS {x : Str} : nonD (.str x) = false := rfl
@[simp] theorem u_nonT {ds : List D} : nonD (.tup ds) = false := rfl
@[simp] theorem u_nonL {ds : List D} : nonD (.lst ds) = false := rfl
@[simp] theorem u_ix {x y : D} : oIx x y M Q ↔ ∃ i, y = .int i ∧ ((∃ ds d, seqOf x M = some ds ∧ atI ds i = some d ∧ Q d M) ∨ (∃ (z : Str) (c : Nat), x = .str z ∧ z.length ≤ sizeLine ∧ atI z.cps.toList i = some c ∧ Q (.str ⟨#[c]⟩) M)) := Iff.rfl
@[simp] theorem u_sqT {ds : List D} : seqOf (.tup ds) M = some ds := rfl
@[simp] theorem u_sqL {ds : List D} : seqOf (.lst ds) M = some ds := rfl
@[simp] theorem u_sqI {x : Int} : seqOf (.int x) M = none := rfl
@[simp] theorem u_sqS {x : Str} : seqOf (.str x) M = none := rfl
@[simp] theorem u_sqR : seqOf (.ref i) M = lstOf (.ref i) M := rfl
@[simp] theorem u_lL {ds : List D} : lstOf (.lst ds) M = some ds := rfl
theorem lstOf_ref {i : Nat} {ds : List D} (h : M[i]? = some (.lst ds)) : lstOf (.ref i) M = some ds := by unfold lstOf; simp only [h]
theorem seqOf_ref {i : Nat} {ds : List D} (h : M[i]? = some (.lst ds)) : seqOf (.ref i) M = some ds := lstOf_ref h
@[simp] theorem u_setL {o i v : D} {QM : MH → Prop} : oSetL o i v M QM ↔ ∃ c ds k j, o = .ref c ∧ i = .int k ∧ M[c]? = some (.lst ds) ∧ ixN ds.length k = some j ∧ QM (M.set c (.lst (ds.set j v))) := Iff.rfl
@[simp] theorem u_len {ds : List D} : cLen ds M Q ↔ ∃ d n, ds = [d] ∧ lenD d M = some n ∧ (∀ y, d = .str y → y.length ≤ sizeLine) ∧ Q (.int (n : Int)) M := Iff.rfl
@[simp] theorem u_lenS {x : Str} : lenD (.str x) M = some x.length := rfl
@[simp] theorem u_lenT {ds : List D} : lenD (.tup ds) M = some ds.length := rfl
@[simp] theorem u_lenL {ds : List D} : lenD (.lst ds) M = some ds.length := rfl
@[simp] theorem u_lenR : lenD (.ref i) M = (lstOf (.ref i) M).map List.length := rfl
@[simp] theorem u_int1 {i : Int} : cInt [.int i] M Q ↔ Q (.int i) M := by
  constructor
  · rintro (⟨j, e, h⟩ | ⟨k, e, _⟩ | ⟨a, n, e, _⟩)
    · cases e; exact h
    · cases e
    · cases e
  · exact fun h => .inl ⟨i, rfl, h⟩
@[simp] theorem u_int2 {i : Bool} : cInt [.bl i] M Q ↔ Q (.int (if i then 1 else 0)) M := by
  constructor
  · rintro (⟨j, e, h⟩ | ⟨k, e, h⟩ | ⟨a, n, e, _⟩)
    · cases e
    · cases e; exact h
    · cases e
  · exact fun h => .inr (.inl ⟨i, rfl, h⟩)
@[simp] theorem u_I1 {gg : Int → D} {ds : List D} : cI1 gg ds M Q ↔ ∃ i, ds = [.int i] ∧ Q (gg i) M := Iff.rfl
@[simp] theorem u_I2 {gg : Int → Int → D} {ds : List D} : cI2 gg ds M Q ↔ ∃ i j, ds = [.int i, .int j] ∧ Q (gg i j) M := Iff.rfl
@[simp] theorem u_str {ds : List D} : cStr ds M Q ↔ ∃ i, ds = [.int i] ∧ i.natAbs < 2 ^ 1920 ∧ Q (.str (toString i)) M := Iff.rfl
@[simp] theorem u_bls {f : List Bool → Bool} {ds : List D} : cBls f ds M Q ↔ ∃ d es bs, ds = [d] ∧ lstOf d M = some es ∧ blsD es = some bs ∧ Q (.bl (f bs)) M := Iff.rfl
@[simp] theorem u_list {c : Bool} {ds : List D} : cList c ds M Q ↔ ∃ d es, ds = [d] ∧ seqOf d M = some es ∧ newL c es M Q := Iff.rfl
@[simp] theorem u_tuple {ds : List D} : cTuple ds M Q ↔ ∃ d es, ds = [d] ∧ seqOf d M = some es ∧ Q (.tup es) M := Iff.rfl
def onN (o : Option String) (P : String → Prop) : Prop := match o with
  | some c => P c
  | none => False
@[simp] theorem onN_some {c : String} {P : String → Prop} : onN (some c) P ↔ P c := Iff.rfl
theorem isi_iff {d : D} {T : String} (hT : ["bool", "int", "str", "tuple", "list", "dict"].contains T = true) : cIsi [d, .con (.ty T)] M Q ↔ onN (tyStr d M) fun n => Q (.bl (subTy n T)) M := by
  constructor
  · rintro ⟨d', T', n, e, _, en, h⟩
    cases e
    rw [en]; exact h
  · intro h
    cases hn : tyStr d M with
    | none => rw [hn] at h; exact h.elim
    | some n => rw [hn] at h; exact ⟨d, T, n, rfl, hT, hn, h⟩
@[simp] theorem isi_int {d : D} : cIsi [d, .con (.ty "int")] M Q ↔ onN (tyStr d M) fun n => Q (.bl (subTy n "int")) M := isi_iff rfl
@[simp] theorem isi_bool {d : D} : cIsi [d, .con (.ty "bool")] M Q ↔ onN (tyStr d M) fun n => Q (.bl (subTy n "bool")) M := isi_iff rfl
@[simp] theorem isi_str {d : D} : cIsi [d, .con (.ty "str")] M Q ↔ onN (tyStr d M) fun n => Q (.bl (subTy n "str")) M := isi_iff rfl
@[simp] theorem isi_tuple {d : D} : cIsi [d, .con (.ty "tuple")] M Q ↔ onN (tyStr d M) fun n => Q (.bl (subTy n "tuple")) M := isi_iff rfl
@[simp] theorem isi_list {d : D} : cIsi [d, .con (.ty "list")] M Q ↔ onN (tyStr d M) fun n => Q (.bl (subTy n "list")) M := isi_iff rfl
@[simp] theorem isi_dict {d : D} : cIsi [d, .con (.ty "dict")] M Q ↔ onN (tyStr d M) fun n => Q (.bl (subTy n "dict")) M := isi_iff rfl
@[simp] theorem u_append {x : D} {ds : List D} : mAppend x ds M Q ↔ ∃ c es d, x = .ref c ∧ ds = [d] ∧ M[c]? = some (.lst es) ∧ es.length < sizeLine ∧ Q .non (M.set c (.lst (es ++ [d]))) := Iff.rfl
@[simp] theorem u_popAt {x : D} {ds : List D} : mPopAt x ds M Q ↔ ∃ c es i k d, x = .ref c ∧ ds = [.int i] ∧ M[c]? = some (.lst es) ∧ ixN es.length i = some k ∧ -(2 ^ 63) ≤ i ∧ i < 2 ^ 63 ∧ es[k]? = some d ∧ Q d (M.set c (.lst (es.eraseIdx k))) := Iff.rfl
@[simp] theorem u_lrg {c : Bool} {tr : EnvD → MH → (Int → Int → MH → Prop) → QX → Prop} : tListRg' c tr δ M Q E ↔ tr δ M (fun a b M1 => RgOk a b ∧ newL c (rangeD a (b - a).toNat) M1 Q) E := Iff.rfl
@[simp] theorem u_trg {tr : EnvD → MH → (Int → Int → MH → Prop) → QX → Prop} : tTupRg' tr δ M Q E ↔ tr δ M (fun a b M1 => RgOk a b ∧ Q (.tup (rangeD a (b - a).toNat)) M1) E := Iff.rfl
@[simp] theorem u_rg1 {QR : Int → Int → MH → Prop} : tRg1' te δ M QR E ↔ te δ M (fun d M1 => ∃ n, d = .int n ∧ QR 0 n M1) E := Iff.rfl
@[simp] theorem u_rt {n : Nat} : (retE n Q E).rt d M ↔ Q d (popM n d M) := Iff.rfl
@[simp] theorem u_nx {n : Nat} : (retE n Q E).nx δ M ↔ Q .non (popM n .non M) := Iff.rfl
@[simp] theorem u_ex {n : Nat} {x : Xc} : (retE n Q E).ex x δ M ↔ E x (popX n x M) := Iff.rfl
end
/-! numbers -/
theorem e_fdiv {i j : Int} (h : 0 < j) : i.fdiv j = i / j := Int.fdiv_eq_ediv_of_nonneg i (by omega)
theorem e_fmod {i j : Int} (h : 0 < j) : i.fmod j = i % j := Int.fmod_eq_emod_of_nonneg i (by omega)
theorem mulOk_l {i j : Int} (h : -(2 ^ 64) < i ∧ i < 2 ^ 64) : MulOk i j := .inl (.inl h)
theorem mulOk_r {i j : Int} (h : -(2 ^ 64) < j ∧ j < 2 ^ 64) : MulOk i j := .inl (.inr h)
set_option exponentiation.threshold 10000 in
theorem pow_9000 : (2 : Nat) ^ 64 ≤ 2 ^ 9000 := Nat.pow_le_pow_right (by decide) (by decide)
theorem divOk_of {j : Int} (h : 0 < j) (h2 : j < 2 ^ 64) : DivOk j := ⟨by omega, Nat.lt_of_lt_of_le (by omega) pow_9000⟩
theorem atI_n {α : Type} {xs : List α} {i : Int} {x : α} (h0 : 0 ≤ i) (h : xs[i.toNat]? = some x) : atI xs i = some x := by
  unfold atI ixN
  have := (List.getElem?_eq_some_iff.mp h).1
  rw [if_pos h0, if_pos (by omega)]
  exact h
theorem ixN_n {n : Nat} {i : Int} (h0 : 0 ≤ i) (h : i < n) : ixN n i = some i.toNat := by
  unfold ixN
  rw [if_pos h0, if_pos h]
@[simp] theorem atI_0 {α : Type} {x : α} {r : List α} : atI (x :: r) 0 = some x := atI_n (by decide) rfl
@[simp] theorem atI_1 {α : Type} {x y : α} {r : List α} : atI (x :: y :: r) 1 = some y := atI_n (by decide) rfl
@[simp] theorem atI_2 {α : Type} {x y z : α} {r : List α} : atI (x :: y :: z :: r) 2 = some z := atI_n (by decide) rfl
@[simp] theorem atI_3 {α : Type} {x y z u : α} {r : List α} : atI (x :: y :: z :: u :: r) 3 = some u := atI_n (by decide) rfl
/-! one statement at a time -/
theorem seq_step {s1 s2 : TS'} {DD : Ends'} {δ : EnvD} {M : MH} (h : ∀ S : TS', S = s2 → s1 { DD with nx := S DD } δ M) : tSeq' s1 s2 DD δ M := h s2 rfl
/-! loops -/
theorem forL_ind {it : ItD} {g : TG'} {tb : TS'} {DD : Ends'} (P : List D → EnvD → MH → Prop) (h0 : ∀ δ M, P [] δ M → it.still M ∧ DD.nx δ M)
    (hs : ∀ d r δ M (F : EnvD → MH → Prop), P (d :: r) δ M → (∀ δ' M', P r δ' M' → F δ' M') → it.still M ∧ g d δ M (fun δ1 M1 => tb { DD with nx := F, ct := F, bk := DD.nx } δ1 M1)) :
    ∀ ds δ M, P ds δ M → forL it g tb DD ds δ M
  | [], δ, M, h => h0 δ M h
  | d :: r, δ, M, h => hs d r δ M _ h (fun δ' M' h' => forL_ind P h0 hs r δ' M' h')
theorem lcL_ind {it : ItD} {g : TG'} {tt : TT'} {te : TE'} {vs : List Nat} {δ : EnvD} {Q : List D → MH → Prop} (P : List D → List D → MH → Prop) (h0 : ∀ acc M, P [] acc M → it.still M ∧ Q acc M)
    (hs : ∀ d r acc M (F : List D → MH → Prop), P (d :: r) acc M → (∀ acc' M', P r acc' M' → F acc' M') → it.still M ∧ g d (wipeD δ vs) M fun δ2 M2 => tt δ2 M2 (fun b M3 =>
      if b = true then te δ2 M3 (fun y M4 => acc.length < sizeLine ∧ F (acc ++ [y]) M4) (fun _ _ => False) else F acc M3) (fun _ _ => False)) :
    ∀ ds acc M, P ds acc M → lcL it g tt te vs δ Q ds acc M
  | [], acc, M, h => h0 acc M h
  | d :: r, acc, M, h => hs d r acc M _ h (fun acc' M' h' => lcL_ind P h0 hs r acc' M' h')
/-- a comprehension of one name whose element is a function of the item -/
theorem lcL_map {it : ItD} {te : TE'} {i : Nat} {vs : List Nat} {δ : EnvD} {M : MH} {Q : List D → MH → Prop} (f : D → D) (hst : it.still M) :
    ∀ (ds acc : List D), (∀ d ∈ ds, ∀ Q' : QE, Q' (f d) M → te ((wipeD δ vs).set i (some d)) M Q' (fun _ _ => False)) → acc.length + ds.length ≤ sizeLine → Q (acc ++ ds.map f) M → lcL it (gName' i) tYes' te vs δ Q ds acc M
  | [], acc, _, _, q => ⟨hst, by simpa using q⟩
  | d :: r, acc, h, hl, q => ⟨hst, by
    show te ((wipeD δ vs).set i (some d)) M _ _
    refine h d List.mem_cons_self _ ⟨by simp at hl; omega, ?_⟩
    refine lcL_map f hst r (acc ++ [f d]) (fun e he => h e (List.mem_cons_of_mem _ he)) (by simp at hl ⊢; omega) ?_
    simpa using q⟩
theorem whileN_ind {c : TT'} {tb : TS'} {DD : Ends'} (P : EnvD → MH → Prop) (μ : EnvD → MH → Nat)
    (hs : ∀ δ M (F : EnvD → MH → Prop), P δ M → (∀ δ' M', P δ' M' → μ δ' M' < μ δ M → F δ' M') →
      c δ M (fun b M1 => if b = true then tb { DD with nx := F, ct := F, bk := DD.nx } δ M1 else DD.nx δ M1) (fun x M1 => DD.ex x δ M1)) :
    ∀ n δ M, P δ M → μ δ M < n → whileN c tb DD n δ M
  | 0, _, _, _, h => absurd h (Nat.not_lt_zero _)
  | n + 1, δ, M, p, h => hs δ M _ p (fun δ' M' p' l => whileN_ind P μ hs n δ' M' p' (by omega))
theorem while_ind {c : TT'} {tb : TS'} {DD : Ends'} (P : EnvD → MH → Prop) (μ : EnvD → MH → Nat)
    (hs : ∀ δ M (F : EnvD → MH → Prop), P δ M → (∀ δ' M', P δ' M' → μ δ' M' < μ δ M → F δ' M') →
      c δ M (fun b M1 => if b = true then tb { DD with nx := F, ct := F, bk := DD.nx } δ M1 else DD.nx δ M1) (fun x M1 => DD.ex x δ M1))
    {δ : EnvD} {M : MH} (p : P δ M) : ∃ n, whileN c tb DD n δ M := ⟨μ δ M + 1, whileN_ind P μ hs _ δ M p (Nat.lt_succ_self _)⟩
end MD
namespace Kit
open MD L2 PySem
/-! what a law draws -/
abbrev N__law_pool : List Str := ["script", "cell"]
abbrev N__law_take : List Str := ["pool", "many", "cell", "mixed", "digit"]
abbrev N__law_pick : List Str := ["pool", "rows"]
def r__law_pool : TS' := (tRet' (tLst' true (tCons' (tLc' false (tIt' (tVar' 0)) (gName' 1) tYes' (tIf' (tB' (tOp' (oI0 fun i j => .bl (decide (j ≤ i))) (tVar' 1) (tC' (.int 0)))) (tOp' (oMul false) (tC' (.int 2)) (tVar' 1)) (tOp' oSub (tOp' (oMul false) (tUn' oNeg (tC' (.int 2))) (tVar' 1)) (tC' (.int 1)))) [1]) (tCons' (tC' (.int 0)) (tCons' (tC' (.int 0)) (tCons' (tC' (.int 17)) tNil'))))))
/-- the list that a law draws from -/
def poolD (ns : List Int) (i b s : Int) : Cell := .lst [.lst (ns.map D.int), .int i, .int b, .int s]
def Pool (M : MH) (p : Nat) : Prop := ∃ (ns : List Int) (i b s : Int), M[p]? = some (poolD ns i b s) ∧ (∀ n ∈ ns, 0 ≤ n) ∧ 0 ≤ i ∧ 0 ≤ s ∧ s < 2147483647
def sp__law_pool : SpD := fun ds M Q _ => ∃ ns : List Int, ds = [.scr ns] ∧ ns.length ≤ 63 ∧ ∀ ms : List Int, (∀ n ∈ ms, 0 ≤ n) → Q (.ref M.length) (M ++ [poolD ms 0 0 17])
theorem mono__law_pool : MonoP sp__law_pool := fun ds M Q Q' E E' q x ⟨ns, e, hl, h⟩ => ⟨ns, e, hl, fun ms hm => q _ _ (h ms hm)⟩
theorem len__law_pool (ds M Q E) (h : sp__law_pool ds M Q E) : ds.length = 1 := by obtain ⟨ns, rfl, _⟩ := h; rfl
theorem math__law_pool (ds M Q E) (hM : WFM M) (hb : D.belL M.length ds = true) (h : sp__law_pool ds M Q E) : r__law_pool (retE M.length Q E) (startD N__law_pool ds) M := by
  obtain ⟨ns, rfl, hl, q⟩ := h
  have hz : (sizeLine : Nat) = 16777216 := by decide
  simp [r__law_pool, startD]
  refine lcL_map (fun d => match d with | .int n => .int (if 0 ≤ n then 2 * n else -2 * n - 1) | d => d) (by exact trivial) _ _ ?_ ?_ ?_
  · intro d hd Q' q'
    rw [List.mem_map] at hd
    obtain ⟨n, _, rfl⟩ := hd
    by_cases hn : 0 ≤ n
    · simp [wipeD, hn] at q' ⊢
      exact ⟨mulOk_l (by decide), q'⟩
    · simp [wipeD, hn] at q' ⊢
      exact ⟨mulOk_l (by decide), q'⟩
  · simp; omega
  · refine ⟨by show 4 ≤ sizeLine; decide, ?_⟩
    have e : (List.map (fun d => match d with | .int n => D.int (if 0 ≤ n then 2 * n else -2 * n - 1) | d => d) (List.map D.int ns)) = (ns.map fun n => if 0 ≤ n then 2 * n else -2 * n - 1).map D.int := by
      rw [List.map_map, List.map_map]; rfl
    rw [List.nil_append, e]
    have := q (ns.map fun n => if 0 ≤ n then 2 * n else -2 * n - 1) (by
      intro n hn
      rw [List.mem_map] at hn
      obtain ⟨k, _, rfl⟩ := hn
      split <;> omega)
    have e2 : popM M.length (.ref M.length) (M ++ [poolD (ns.map fun n => if 0 ≤ n then 2 * n else -2 * n - 1) 0 0 17]) = M ++ [poolD (ns.map fun n => if 0 ≤ n then 2 * n else -2 * n - 1) 0 0 17] := by
      unfold popM
      rw [if_neg]
      rintro ⟨h, _⟩
      unfold D.bel at h
      simp at h
    unfold poolD at e2 this
    rw [e2]
    exact this
/-- one more drawn -/
def Step (p : Nat) (M M' : MH) : Prop := (∃ c, M' = M.set p c) ∧ Pool M' p
theorem Step.length {p : Nat} {M M' : MH} (h : Step p M M') : M'.length = M.length := by obtain ⟨⟨c, rfl⟩, _⟩ := h; simp
theorem Step.other {p q : Nat} {M M' : MH} (h : Step p M M') (n : q ≠ p) : M'[q]? = M[q]? := by obtain ⟨⟨c, rfl⟩, _⟩ := h; rw [List.getElem?_set_ne (Ne.symm n)]
theorem Step.trans {p : Nat} {M M1 M2 : MH} (h : Step p M M1) (k : Step p M1 M2) : Step p M M2 := by
  obtain ⟨⟨c, rfl⟩, _⟩ := h
  obtain ⟨⟨c2, rfl⟩, h2⟩ := k
  exact ⟨⟨c2, by rw [List.set_set]⟩, h2⟩
def spr__law_take (n : Nat) : SpD := fun ds M Q _ => ∃ (p : Nat) (many : Int), ds = [.ref p, .int many] ∧ 0 < many ∧ many ≤ 1000000000000000000000000000000 ∧ Pool M p ∧ (n = 1 → ∃ ns i b s, M[p]? = some (poolD ns i b s) ∧ (∀ n ∈ ns, 0 ≤ n) ∧ 0 ≤ i ∧ 0 ≤ s ∧ s < 2147483647 ∧ 0 < b) ∧ n ≠ 0 ∧
  ∀ r M', 0 ≤ r → r < many → Step p M M' → Q (.int r) M'
def sp__law_take : SpD := fun ds M Q _ => ∃ (p : Nat) (many : Int), ds = [.ref p, .int many] ∧ 0 < many ∧ many ≤ 1000000000000000000000000000000 ∧ Pool M p ∧ ∀ r M', 0 ≤ r → r < many → Step p M M' → Q (.int r) M'
theorem mono__law_take : MonoP sp__law_take := fun ds M Q Q' E E' q x ⟨p, m, e, h1, h2, h3, h⟩ => ⟨p, m, e, h1, h2, h3, fun r M' a b c => q _ _ (h r M' a b c)⟩
theorem monor__law_take (n : Nat) : MonoP (spr__law_take n) := fun ds M Q Q' E E' q x ⟨p, m, e, h1, h2, h3, h4, h5, h⟩ => ⟨p, m, e, h1, h2, h3, h4, h5, fun r M' a b c => q _ _ (h r M' a b c)⟩
theorem lenr__law_take (n : Nat) (ds M Q E) (h : spr__law_take n ds M Q E) : ds.length = 2 := by obtain ⟨_, _, rfl, _⟩ := h; rfl
theorem zero__law_take (ds M Q E) (h : spr__law_take 0 ds M Q E) : False := by obtain ⟨_, _, _, _, _, _, _, h, _⟩ := h; exact h rfl
theorem sub__law_take {ds M Q E} (h : sp__law_take ds M Q E) : spr__law_take 2 ds M Q E := by
  obtain ⟨p, m, e, h1, h2, h3, h⟩ := h
  exact ⟨p, m, e, h1, h2, h3, fun z => by omega, by decide, h⟩
def rr__law_take (i : Nat) : TS' := (tSeq' (tIfS' (tB' (tOp' (oI0 fun i j => .bl (decide (j < i))) (tOp' oIx (tVar' 0) (tC' (.int 2))) (tC' (.int 0)))) (tSeq' (tAsg' (tOp' oMod (tCB' cInt (tCons' (tOp' oIx (tVar' 0) (tC' (.int 2))) tNil')) (tVar' 1)) (gName' 4))
    (tSeq' (tAsg' (tOp' oFdiv (tOp' oIx (tVar' 0) (tC' (.int 2))) (tVar' 1)) (gSub' (tVar' 0) (tC' (.int 2)) oSetL))
    (tRet' (tVar' 4)))) tNext')
    (tSeq' (tAsg' (tC' (.int 0)) (gName' 2))
    (tSeq' (tIfS' (tB' (tOp' (oI0 fun i j => .bl (decide (i < j))) (tOp' oIx (tVar' 0) (tC' (.int 1))) (tCB' cLen (tCons' (tOp' oIx (tVar' 0) (tC' (.int 0))) tNil')))) (tAsg' (tOp' oIx (tOp' oIx (tVar' 0) (tC' (.int 0))) (tOp' oIx (tVar' 0) (tC' (.int 1)))) (gName' 2)) tNext')
    (tSeq' (tAsg' (tOp' (oAdd false) (tOp' oIx (tVar' 0) (tC' (.int 1))) (tC' (.int 1))) (gSub' (tVar' 0) (tC' (.int 1)) oSetL))
    (tSeq' (tIfS' (tB' (tOp' (oI0 fun i j => .bl (decide (j ≤ i))) (tVar' 2) (tOp' oPow (tC' (.int 10)) (tC' (.int 18))))) (tSeq' (tAsg' (tOp' oFdiv (tVar' 2) (tC' (.int 2))) (gSub' (tVar' 0) (tC' (.int 2)) oSetL))
    (tRet' (tCall' (spr__law_take i) (tCons' (tVar' 0) (tCons' (tVar' 1) tNil'))))) tNext')
    (tSeq' (tAsg' (tOp' oMod (tCB' cInt (tCons' (tOp' (oAdd false) (tOp' (oAdd false) (tOp' (oMul false) (tOp' oIx (tVar' 0) (tC' (.int 3))) (tC' (.int 48271))) (tOp' (oMul false) (tVar' 2) (tC' (.int 69621)))) (tOp' (oMul false) (tOp' oIx (tVar' 0) (tC' (.int 1))) (tC' (.int 613)))) tNil')) (tC' (.int 2147483647))) (gSub' (tVar' 0) (tC' (.int 3)) oSetL))
    (tSeq' (tAsg' (tOp' oMod (tCB' cInt (tCons' (tOp' (oAdd false) (tOp' (oAdd false) (tOp' (oMul false) (tOp' oIx (tVar' 0) (tC' (.int 3))) (tOp' oIx (tVar' 0) (tC' (.int 3)))) (tOp' (oMul false) (tOp' oIx (tVar' 0) (tC' (.int 3))) (tC' (.int 7919)))) (tC' (.int 104729))) tNil')) (tC' (.int 1000000007))) (gName' 3))
    (tRet' (tOp' oMod (tCB' cInt (tCons' (tOp' oFdiv (tVar' 3) (tC' (.int 3))) tNil')) (tVar' 1))))))))))
theorem set_self {M : MH} {p : Nat} {c d : Cell} (h : M[p]? = some c) : (M.set p d)[p]? = some d := List.getElem?_set_self (List.getElem?_eq_some_iff.mp h).1
theorem mathr__law_take (n : Nat) (ds M Q E) (hM : WFM M) (hb : D.belL M.length ds = true) (h : spr__law_take (n + 1) ds M Q E) : rr__law_take n (retE M.length Q E) (startD N__law_take ds) M := by
  obtain ⟨p, many, rfl, h1, h2, ⟨ns, i, b, s, hp, hns, hi, hs0, hs1⟩, h4, _, q⟩ := h
  have hp' := hp
  unfold poolD at hp
  have lp : ∀ {M' : MH} {a0 a1 a2 a3 : D}, M'[p]? = some (.lst [a0, a1, a2, a3]) → lstOf (.ref p) M' = some [a0, a1, a2, a3] := fun h => lstOf_ref h
  have dv : ∀ x : Int, DivOk many := fun _ => ⟨by omega, Nat.lt_of_lt_of_le (show many.natAbs < 2 ^ 100 by omega) (Nat.pow_le_pow_right (by decide) (by decide))⟩
  unfold rr__law_take
  refine seq_step fun S hS => ?_
  simp [startD, lp hp]
  by_cases hb0 : 0 < b
  · simp [hb0, hp, lp hp, dv b, ixN, List.set]
    refine ⟨by omega, ?_⟩
    rw [e_fmod h1, e_fdiv h1, popM_same (by simp)]
    exact q _ _ (Int.emod_nonneg _ (by omega)) (Int.emod_lt_of_pos _ h1) ⟨⟨_, rfl⟩, ns, i, b / many, s, set_self hp, hns, hi, hs0, hs1⟩
  · simp [hb0]
    subst hS
    refine seq_step fun S hS => ?_
    simp
    subst hS
    refine seq_step fun S hS => ?_
    have key : ∃ cell : Int, 0 ≤ cell ∧ (S (retE M.length Q E) [some (.ref p), some (.int many), some (.int cell), none, none] M → (tIfS' (tB' (tOp' (oI0 fun i j => .bl (decide (i < j))) (tOp' oIx (tVar' 0) (tC' (.int 1))) (tCB' cLen (tCons' (tOp' oIx (tVar' 0) (tC' (.int 0))) tNil')))) (tAsg' (tOp' oIx (tOp' oIx (tVar' 0) (tC' (.int 0))) (tOp' oIx (tVar' 0) (tC' (.int 1)))) (gName' 2)) tNext') { retE M.length Q E with nx := S (retE M.length Q E) } [some (.ref p), some (.int many), some (.int 0), none, none] M) := by
      by_cases hl : i < (ns.length : Int)
      · have hg : (ns.map D.int)[i.toNat]? = some (.int ns[i.toNat]) := by
          rw [List.getElem?_map, List.getElem?_eq_getElem (show i.toNat < ns.length by omega)]; rfl
        exact ⟨ns[i.toNat], hns _ (List.getElem_mem _), fun h => by simp [lp hp, hl, atI_n hi hg]; exact h⟩
      · exact ⟨0, by omega, fun h => by simp [lp hp, hl]; exact h⟩
    obtain ⟨cell, hc, key⟩ := key
    refine key ?_
    subst hS
    refine seq_step fun S hS => ?_
    simp [lp hp, hp, ixN, List.set]
    subst hS
    generalize hM1 : List.set M p (Cell.lst [D.lst (List.map D.int ns), D.int (i + 1), D.int b, D.int s]) = M1
    have hp1 : M1[p]? = some (.lst [D.lst (List.map D.int ns), D.int (i + 1), D.int b, D.int s]) := by rw [← hM1]; exact set_self hp
    have hl1 : M1.length = M.length := by rw [← hM1]; simp
    have ms : ∀ c, List.set M1 p c = List.set M p c := fun c => by rw [← hM1, List.set_set]
    refine seq_step fun S hS => ?_
    have cp : CPow 10 18 := ⟨by decide, by decide, by decide⟩
    simp [cp]
    by_cases hbig : 1000000000000000000 ≤ cell
    · simp [hbig, hp1, ixN, List.set, ms, e_fdiv]
      refine ⟨divOk_of (by decide) (by decide), ?_⟩
      have hst : Step p M (List.set M p (Cell.lst [D.lst (List.map D.int ns), D.int (i + 1), D.int (cell / 2), D.int s])) := ⟨⟨_, rfl⟩, ns, i + 1, cell / 2, s, set_self hp, hns, by omega, hs0, hs1⟩
      refine ⟨p, many, rfl, h1, h2, hst.2, fun _ => ⟨ns, i + 1, cell / 2, s, set_self hp, hns, by omega, hs0, hs1, by omega⟩, fun z => ?_, fun r M' a b c => ?_⟩
      · subst z
        obtain ⟨ns', i', b', s', e, _, _, _, _, hb'⟩ := h4 rfl
        rw [hp'] at e
        simp [poolD] at e
        omega
      · show Q (.int r) (popM M.length (.int r) M')
        rw [popM_same (by rw [c.length]; simp)]
        exact q r M' a b (hst.trans c)
    · simp [hbig]
      subst hS
      refine seq_step fun S hS => ?_
      simp [lp hp1, hp1, ixN, List.set, ms, e_fmod]
      refine ⟨mulOk_r (by decide), mulOk_r (by decide), mulOk_r (by decide), ?_⟩
      subst hS
      generalize hs2 : (s * 48271 + cell * 69621 + (i + 1) * 613) % 2147483647 = s2
      have h20 : 0 ≤ s2 := by omega
      have h21 : s2 < 2147483647 := by omega
      generalize hM2 : List.set M p (Cell.lst [D.lst (List.map D.int ns), D.int (i + 1), D.int b, D.int s2]) = M2
      have hp2 : M2[p]? = some (.lst [D.lst (List.map D.int ns), D.int (i + 1), D.int b, D.int s2]) := by rw [← hM2]; exact set_self hp
      refine seq_step fun S hS => ?_
      simp [lp hp2, hp2, e_fmod]
      refine ⟨mulOk_r (by omega), mulOk_r (by decide), ?_⟩
      subst hS
      simp [e_fmod h1, e_fdiv]
      refine ⟨divOk_of (by decide) (by decide), by omega, ?_⟩
      rw [popM_same (by rw [← hM2]; simp)]
      exact q _ _ (Int.emod_nonneg _ (by omega)) (Int.emod_lt_of_pos _ h1) ⟨⟨_, hM2.symm⟩, ns, i + 1, b, s2, hp2, hns, by omega, h20, h21⟩
def sp__law_pick : SpD := fun ds M Q _ => ∃ (p : Nat) (x : D) (xs : List D), ds = [.ref p, x] ∧ Pool M p ∧ x ≠ .ref p ∧ seqOf x M = some xs ∧ (∀ M', Step p M M' → seqOf x M' = some xs) ∧ xs ≠ [] ∧ xs.length ≤ 1000000 ∧ ∀ d M', d ∈ xs → Step p M M' → Q d M'
theorem mono__law_pick : MonoP sp__law_pick := fun ds M Q Q' E E' q x ⟨p, y, xs, e, h1, h2, h3, h4, h5, h6, h⟩ => ⟨p, y, xs, e, h1, h2, h3, h4, h5, h6, fun d M' a b => q _ _ (h d M' a b)⟩
theorem len__law_pick (ds M Q E) (h : sp__law_pick ds M Q E) : ds.length = 2 := by obtain ⟨_, _, _, rfl, _⟩ := h; rfl
def r__law_pick : TS' := (tRet' (tOp' oIx (tVar' 1) (tCall' sp__law_take (tCons' (tVar' 0) (tCons' (tCB' cLen (tCons' (tVar' 1) tNil')) tNil')))))
theorem lenD_seq {d : D} {M : MH} {ds : List D} (h : seqOf d M = some ds) : lenD d M = some ds.length ∧ ∀ y, d ≠ .str y := by
  cases d with
  | str x => cases h
  | _ => refine ⟨?_, fun _ => by simp⟩; unfold lenD; simp only [h]; rfl
theorem math__law_pick (ds M Q E) (hM : WFM M) (hb : D.belL M.length ds = true) (h : sp__law_pick ds M Q E) : r__law_pick (retE M.length Q E) (startD N__law_pick ds) M := by
  obtain ⟨p, x, xs, rfl, h1, h2, h3, h4, h5, h6, q⟩ := h
  obtain ⟨l1, l2⟩ := lenD_seq h3
  have hl : 0 < xs.length := List.length_pos_iff.mpr h5
  simp [r__law_pick, startD, l1]
  refine ⟨fun y e => (l2 y e).elim, ?_⟩
  refine ⟨p, xs.length, rfl, by omega, by omega, h1, fun r M' a b c => ?_⟩
  have hr : xs[r.toNat]? = some xs[r.toNat] := List.getElem?_eq_getElem (by omega)
  refine ⟨r, rfl, .inl ⟨xs, h4 M' c, xs[r.toNat], atI_n a hr, ?_⟩⟩
  show Q _ (popM M.length _ M')
  rw [popM_same (by rw [c.length]; exact Nat.le_refl _)]
  exact q _ M' (List.getElem_mem _) c
end Kit
namespace Kit
open MD L2 PySem
/-! what a law holds against what is due -/
abbrev N__law_is_integer : List Str := ["actual"]
abbrev N__law_same : List Str := ["actual", "due", "k"]
theorem mem_rangeD {lo : Int} {n : Nat} {d : D} (h : d ∈ rangeD lo n) : ∃ i : Nat, i < n ∧ d = .int (lo + i) := by
  unfold rangeD at h
  rw [List.mem_map] at h
  obtain ⟨i, hi, rfl⟩ := h
  exact ⟨i, List.mem_range.mp hi, rfl⟩
mutual
def plainD (n : Nat) : D → Bool
  | .non => true
  | .bl _ => true
  | .int _ => true
  | .str _ => true
  | .tup ds => decide (0 < n) && decide (ds.length ≤ sizeLine) && plainL (n - 1) ds
  | .lst ds => decide (0 < n) && decide (ds.length ≤ sizeLine) && plainL (n - 1) ds
  | _ => false
def plainL (n : Nat) : List D → Bool
  | [] => true
  | d :: ds => plainD n d && plainL n ds
end
theorem plainL_mem {n : Nat} : ∀ {ds : List D} {d : D}, plainL n ds = true → d ∈ ds → plainD n d = true
  | [], _, _, h => nomatch h
  | e :: r, d, hp, h => by
    unfold plainL at hp
    rw [Bool.and_eq_true] at hp
    rcases List.mem_cons.mp h with rfl | h
    · exact hp.1
    · exact plainL_mem hp.2 h
def r__law_is_integer : TS' := (tRet' (tAndV' (tCB' cIsi (tCons' (tVar' 0) (tCons' (tC' (.con (.ty "int"))) tNil'))) (tNotV' (tCB' cIsi (tCons' (tVar' 0) (tCons' (tC' (.con (.ty "bool"))) tNil'))))))
def sp__law_is_integer : SpD := fun ds M Q _ => ∃ d n, ds = [d] ∧ tyStr d M = some n ∧ Q (.bl (n == "int")) M
theorem mono__law_is_integer : MonoP sp__law_is_integer := fun ds M Q Q' E E' q x ⟨d, n, e, h1, h⟩ => ⟨d, n, e, h1, q _ _ h⟩
theorem len__law_is_integer (ds M Q E) (h : sp__law_is_integer ds M Q E) : ds.length = 1 := by obtain ⟨_, _, rfl, _⟩ := h; rfl
theorem known_cases {n : String} (h : knownTy n = true) : n = "NoneType" ∨ n = "bool" ∨ n = "int" ∨ n = "str" ∨ n = "tuple" ∨ n = "list" ∨ n = "dict" := by simpa [knownTy] using h
theorem math__law_is_integer (ds M Q E) (hM : WFM M) (hb : D.belL M.length ds = true) (h : sp__law_is_integer ds M Q E) : r__law_is_integer (retE M.length Q E) (startD N__law_is_integer ds) M := by
  obtain ⟨d, n, rfl, h1, q⟩ := h
  simp [r__law_is_integer, startD, h1]
  rcases known_cases (tyStr_known h1) with rfl | rfl | rfl | rfl | rfl | rfl | rfl <;> simpa [subTy, popM_same] using q
def spr__law_same (n : Nat) : SpD := fun ds M Q _ => ∃ d, ds = [d, d] ∧ n ≠ 0 ∧ plainD (n - 1) d = true ∧ Q (.bl true) M
def sp__law_same : SpD := fun ds M Q _ => ∃ d, ds = [d, d] ∧ plainD 5 d = true ∧ Q (.bl true) M
theorem mono__law_same : MonoP sp__law_same := fun ds M Q Q' E E' q x ⟨d, e, h1, h⟩ => ⟨d, e, h1, q _ _ h⟩
theorem monor__law_same (n : Nat) : MonoP (spr__law_same n) := fun ds M Q Q' E E' q x ⟨d, e, h0, h1, h⟩ => ⟨d, e, h0, h1, q _ _ h⟩
theorem lenr__law_same (n : Nat) (ds M Q E) (h : spr__law_same n ds M Q E) : ds.length = 2 := by obtain ⟨_, rfl, _⟩ := h; rfl
theorem zero__law_same (ds M Q E) (h : spr__law_same 0 ds M Q E) : False := by obtain ⟨_, _, h, _⟩ := h; exact h rfl
theorem sub__law_same {ds M Q E} (h : sp__law_same ds M Q E) : spr__law_same 6 ds M Q E := by
  obtain ⟨d, e, h1, h⟩ := h
  exact ⟨d, e, by decide, h1, h⟩
def rr__law_same (i : Nat) : TS' := (tSeq' (tIfS' (tTru' (tCB' cIsi (tCons' (tVar' 1) (tCons' (tC' (.con (.ty "tuple"))) tNil')))) (tSeq' (tIfS' (tOr' (tNot' (tTru' (tCB' cIsi (tCons' (tVar' 0) (tCons' (tC' (.con (.ty "tuple"))) tNil'))))) (tB' (tOp' (oEq true) (tCB' cLen (tCons' (tVar' 0) tNil')) (tCB' cLen (tCons' (tVar' 1) tNil'))))) (tRet' (tC' (.bl false))) tNext')
    (tRet' (tCB' (cBls fun bs => bs.all id) (tCons' (tLc' false (tRng1' (tCons' (tCB' cLen (tCons' (tVar' 1) tNil')) tNil')) (gName' 2) tYes' (tCall' (spr__law_same i) (tCons' (tOp' oIx (tVar' 0) (tVar' 2)) (tCons' (tOp' oIx (tVar' 1) (tVar' 2)) tNil'))) [2]) tNil')))) tNext')
    (tSeq' (tIfS' (tTru' (tCB' cIsi (tCons' (tVar' 1) (tCons' (tC' (.con (.ty "list"))) tNil')))) (tSeq' (tIfS' (tOr' (tNot' (tTru' (tCB' cIsi (tCons' (tVar' 0) (tCons' (tC' (.con (.ty "list"))) tNil'))))) (tB' (tOp' (oEq true) (tCB' cLen (tCons' (tVar' 0) tNil')) (tCB' cLen (tCons' (tVar' 1) tNil'))))) (tRet' (tC' (.bl false))) tNext')
    (tRet' (tCB' (cBls fun bs => bs.all id) (tCons' (tLc' false (tRng1' (tCons' (tCB' cLen (tCons' (tVar' 1) tNil')) tNil')) (gName' 2) tYes' (tCall' (spr__law_same i) (tCons' (tOp' oIx (tVar' 0) (tVar' 2)) (tCons' (tOp' oIx (tVar' 1) (tVar' 2)) tNil'))) [2]) tNil')))) tNext')
    (tSeq' (tIfS' (tB' (tOp' (oIsN' false) (tVar' 1) (tC' .non))) (tRet' (tOp' (oIsN' false) (tVar' 0) (tC' .non))) tNext')
    (tSeq' (tIfS' (tTru' (tCB' cIsi (tCons' (tVar' 1) (tCons' (tC' (.con (.ty "bool"))) tNil')))) (tRet' (tAndV' (tCB' cIsi (tCons' (tVar' 0) (tCons' (tC' (.con (.ty "bool"))) tNil'))) (tOp' (oEq false) (tVar' 0) (tVar' 1)))) tNext')
    (tSeq' (tIfS' (tTru' (tCB' cIsi (tCons' (tVar' 1) (tCons' (tC' (.con (.ty "str"))) tNil')))) (tRet' (tAndV' (tCB' cIsi (tCons' (tVar' 0) (tCons' (tC' (.con (.ty "str"))) tNil'))) (tOp' (oEq false) (tVar' 0) (tVar' 1)))) tNext')
    (tRet' (tAndV' (tCall' sp__law_is_integer (tCons' (tVar' 0) tNil')) (tOp' (oEq false) (tVar' 0) (tVar' 1)))))))))
theorem bls_true : ∀ ds : List D, blsD (ds.map fun _ => D.bl true) = some (ds.map fun _ => true)
  | [] => rfl
  | d :: r => by
    rw [List.map_cons, List.map_cons]
    show (blsD (r.map fun _ => D.bl true)).map (true :: ·) = _
    rw [bls_true r]; rfl
theorem all_true : ∀ ds : List D, (ds.map fun _ => true).all id = true
  | [] => rfl
  | d :: r => by rw [List.map_cons, List.all_cons, all_true r]; rfl
@[simp] theorem ty_tup {ds : List D} {M : MH} : tyStr (.tup ds) M = some "tuple" := rfl
@[simp] theorem ty_lst {ds : List D} {M : MH} : tyStr (.lst ds) M = some "list" := rfl
@[simp] theorem ty_int {x : Int} {M : MH} : tyStr (.int x) M = some "int" := rfl
@[simp] theorem ty_str {x : Str} {M : MH} : tyStr (.str x) M = some "str" := rfl
@[simp] theorem ty_bl {x : Bool} {M : MH} : tyStr (.bl x) M = some "bool" := rfl
@[simp] theorem ty_non {M : MH} : tyStr .non M = some "NoneType" := rfl
theorem same_seq {n : Nat} {ds : List D} {x : D} {M : MH} (hx : x = .tup ds ∨ x = .lst ds) (hl : ds.length ≤ sizeLine) (hp : plainL n ds = true) {Q : QE} {E : QX} (q : Q (.bl true) M) {m : D} :
    (tCB' (cBls fun bs => bs.all id) (tCons' (tLc' false (tRng1' (tCons' (tCB' cLen (tCons' (tVar' 1) tNil')) tNil')) (gName' 2) tYes' (tCall' (spr__law_same (n + 1)) (tCons' (tOp' oIx (tVar' 0) (tVar' 2)) (tCons' (tOp' oIx (tVar' 1) (tVar' 2)) tNil'))) [2]) tNil')) [some x, some x, none] M Q E := by
  have hz : (sizeLine : Nat) = 16777216 := by decide
  have hs : seqOf x M = some ds := by rcases hx with rfl | rfl <;> rfl
  have hlen : lenD x M = some ds.length := by rcases hx with rfl | rfl <;> rfl
  have hstr : ∀ y, x = .str y → False := by rcases hx with rfl | rfl <;> simp
  simp [hlen]
  refine ⟨fun y e => (hstr y e).elim, by omega, ?_⟩
  refine lcL_map (fun _ => .bl true) (by exact trivial) _ _ (fun d hd Q' q' => ?_) (by simp [rangeD_length]; omega) ?_
  · obtain ⟨i, hi, rfl⟩ := mem_rangeD hd
    have hg : ds[i]? = some ds[i] := List.getElem?_eq_getElem hi
    simp [wipeD, hs]
    refine .inl ⟨ds[i], atI_n (by omega) (by simpa using hg), .inl ⟨ds[i], atI_n (by omega) (by simpa using hg), ?_⟩⟩
    exact ⟨_, rfl, by omega, plainL_mem hp (List.getElem_mem _), q'⟩
  · simp only [List.nil_append, bls_true]
    refine ⟨_, rfl, ?_⟩
    rw [all_true]; exact q
theorem mathr__law_same (n : Nat) (ds M Q E) (hM : WFM M) (hb : D.belL M.length ds = true) (h : spr__law_same (n + 1) ds M Q E) : rr__law_same n (retE M.length Q E) (startD N__law_same ds) M := by
  obtain ⟨d, rfl, _, hp, q⟩ := h
  have hp : plainD n d = true := hp
  have q' : ∀ b, Q b M → Q b (popM M.length b M) := fun b h => by rw [popM_same (Nat.le_refl _)]; exact h
  have q1 := q' _ q
  unfold rr__law_same
  cases d with
  | tup ds =>
    unfold plainD at hp
    simp only [Bool.and_eq_true, decide_eq_true_eq] at hp
    refine seq_step fun S hS => ?_
    simp only [u_ifS]
    simp [startD, subTy]
    obtain ⟨k, rfl⟩ : ∃ k, n = k + 1 := ⟨n - 1, by omega⟩
    have hs := same_seq (M := M) (Q := (retE M.length Q E).rt) (E := fun x M1 => (retE M.length Q E).ex x [some (D.tup ds), some (D.tup ds), none] M1) (.inl rfl) hp.1.2 hp.2 q1 (m := .non)
    simpa using hs
  | lst ds =>
    unfold plainD at hp
    simp only [Bool.and_eq_true, decide_eq_true_eq] at hp
    refine seq_step fun S hS => ?_
    simp [startD, subTy]
    subst hS
    refine seq_step fun S hS => ?_
    simp [subTy]
    obtain ⟨k, rfl⟩ : ∃ k, n = k + 1 := ⟨n - 1, by omega⟩
    have hs := same_seq (M := M) (Q := (retE M.length Q E).rt) (E := fun x M1 => (retE M.length Q E).ex x [some (D.lst ds), some (D.lst ds), none] M1) (.inr rfl) hp.1.2 hp.2 q1 (m := .non)
    simpa using hs
  | non => simp [startD, subTy, q1]
  | bl b => simp [startD, subTy, q1]
  | int b => simp [startD, subTy, q1, sp__law_is_integer]
  | str b => simp [startD, subTy, q1]
  | _ => unfold plainD at hp; cases hp
end Kit
namespace Kit
open MD L2 PySem
/-! more rules for simp -/
def hasC (c : Nat) (z : Str) : Bool := decide (c ∈ z.cps.toList)
@[simp] theorem u_inS {c : Nat} {z : Str} {M : MH} {Q : QE} : oInS false (.str ⟨#[c]⟩) (.str z) M Q ↔ Q (.bl (hasC c z)) M := by
  constructor
  · rintro ⟨c', z', e1, e2, h⟩
    cases e1; cases e2; exact h
  · exact fun h => ⟨c, z, rfl, rfl, h⟩
@[simp] theorem u_ninS {c : Nat} {z : Str} {M : MH} {Q : QE} : oInS true (.str ⟨#[c]⟩) (.str z) M Q ↔ Q (.bl (!hasC c z)) M := by
  constructor
  · rintro ⟨c', z', e1, e2, h⟩
    cases e1; cases e2; exact h
  · exact fun h => ⟨c, z, rfl, rfl, h⟩
@[simp] theorem u_starts {x y : Str} {M : MH} {Q : QE} : mStarts (.str x) [.str y] M Q ↔ Q (.bl (PySem.Txt.startswith x y)) M := by
  constructor
  · rintro ⟨c', z', e1, e2, h⟩
    cases e1; cases e2; exact h
  · exact fun h => ⟨x, y, rfl, rfl, h⟩
@[simp] theorem u_sindex {x y : Str} {M : MH} {Q : QE} : mSIndex (.str x) [.str y] M Q ↔ ∃ i rest, Builtin.Str.occurrences x y 0 x.length 1 = i :: rest ∧ Q (.int (i : Int)) M := by
  constructor
  · rintro ⟨c', z', i, rest, e1, e2, h⟩
    cases e1; cases e2; exact ⟨i, rest, h⟩
  · rintro ⟨i, rest, h⟩
    exact ⟨x, y, i, rest, rfl, rfl, h⟩
@[simp high] theorem u_gAll1 {g1 : TG'} {a : D} {δ : EnvD} {M : MH} {QG : EnvD → MH → Prop} : gAll' [g1] [a] δ M QG ↔ g1 a δ M fun δ1 M1 => gAll' [] [] δ1 M1 QG := by
  constructor
  · rintro ⟨d, r, e, h⟩
    cases e
    exact h
  · intro h
    exact ⟨_, _, rfl, h⟩
@[simp high] theorem u_gAll0 {δ : EnvD} {M : MH} {QG : EnvD → MH → Prop} : gAll' [] [] δ M QG ↔ QG δ M := ⟨fun h => h.2, fun h => ⟨rfl, h⟩⟩
@[simp high] theorem u_gAll2 {g1 g2 : TG'} {gs : List TG'} {a b : D} {ds : List D} {δ : EnvD} {M : MH} {QG : EnvD → MH → Prop} : gAll' (g1 :: g2 :: gs) (a :: b :: ds) δ M QG ↔ g1 a δ M fun δ1 M1 => gAll' (g2 :: gs) (b :: ds) δ1 M1 QG := by
  constructor
  · rintro ⟨d, r, e, h⟩
    cases e
    exact h
  · intro h
    exact ⟨_, _, rfl, h⟩
@[simp high] theorem u_gtupT {gs : List TG'} {ds : List D} {n : Nat} {δ : EnvD} {M : MH} {QG : EnvD → MH → Prop} : gTup' n gs (.tup ds) δ M QG ↔ ds.length = n ∧ gAll' gs ds δ M QG := by
  constructor
  · rintro ⟨d, (e | e), h⟩
    · cases e; exact h
    · cases e
  · intro h
    exact ⟨_, .inl rfl, h⟩
@[simp high] theorem u_gtupL {gs : List TG'} {ds : List D} {n : Nat} {δ : EnvD} {M : MH} {QG : EnvD → MH → Prop} : gTup' n gs (.lst ds) δ M QG ↔ ds.length = n ∧ gAll' gs ds δ M QG := by
  constructor
  · rintro ⟨d, (e | e), h⟩
    · cases e
    · cases e; exact h
  · intro h
    exact ⟨_, .inr rfl, h⟩
/-! texts of whole numbers -/
theorem str_ext {a b : Str} (h : a.cps.toList = b.cps.toList) : a = b := by
  cases a; cases b; congr 1; exact Array.toList_inj.mp h
theorem len_cps (x : Str) : x.length = x.cps.toList.length := Array.length_toList.symm
theorem cps_app (a b : Str) : (a ++ b).cps.toList = a.cps.toList ++ b.cps.toList := PyProof.Rows.cps_toList_append a b
def digs (m : Nat) : List Nat := (Nat.toDigits 10 m).map Char.toNat
theorem cps_num (m : Nat) : ((toString (m : Int) : String) : Str).cps.toList = digs m := PySem.W.KIN.signs_num m
theorem cps_neg (m : Nat) : ((toString (Int.negSucc m) : String) : Str).cps.toList = 45 :: digs (m + 1) := by
  rw [PyProof.Rows.signs_ofString]
  show (("-" ++ toString (m + 1) : String)).toList.map Char.toNat = _
  rw [String.toList_append, List.map_append]
  show 45 :: (Nat.repr (m + 1)).toList.map Char.toNat = _
  rw [Nat.toList_repr]
  rfl
theorem digs_all (m : Nat) : ∀ c ∈ digs m, 48 ≤ c ∧ c ≤ 57 := by
  intro c hc
  obtain ⟨ch, hch, e⟩ := List.mem_map.mp hc
  have r := PyProof.Rows.digit_range (Nat.isDigit_of_mem_toDigits (by decide) (by decide) hch)
  rw [← e]; exact r
theorem digs_ne (m : Nat) : digs m ≠ [] := by
  intro h
  exact Nat.toDigits_ne_nil (List.map_eq_nil_iff.mp h)
theorem digs_len {m : Nat} (h : m < 10 ^ 7) : (digs m).length ≤ 7 := by
  unfold digs
  rw [List.length_map]
  exact (Nat.length_toDigits_le_iff (by decide) (by decide)).mpr h
theorem digs_val (m : Nat) : PySem.NumText.digitsVal (digs m) = m := PySem.W.KIN.val_back m
theorem dig_nz : ∀ d : Nat, d < 10 → d ≠ 0 → (Nat.digitChar d).toNat ≠ 48 := by decide
theorem digs_head : ∀ m : Nat, m ≠ 0 → ∃ c r, digs m = c :: r ∧ c ≠ 48 := by
  intro m
  induction m using Nat.strongRecOn with
  | _ m ih =>
    intro hm
    by_cases h : m < 10
    · refine ⟨(Nat.digitChar m).toNat, [], ?_, dig_nz m h hm⟩
      unfold digs
      rw [Nat.toDigits_of_lt_base h]; rfl
    · have h10 : m % 10 < 10 := Nat.mod_lt m (by decide)
      have t : Nat.toDigits 10 (m / 10) ++ Nat.toDigits 10 (m % 10) = Nat.toDigits 10 (10 * (m / 10) + m % 10) := Nat.toDigits_append_toDigits (by decide) (by omega) h10
      rw [Nat.div_add_mod] at t
      obtain ⟨c, r, e, hc⟩ := ih (m / 10) (by omega) (by omega)
      refine ⟨c, r ++ (Nat.toDigits 10 (m % 10)).map Char.toNat, ?_, hc⟩
      unfold digs
      rw [← t, List.map_append]
      show digs (m / 10) ++ _ = _
      rw [e]; rfl
theorem digs_zero : digs 0 = [48] := rfl
/-- the signs of a whole number's text -/
theorem num_split (n : Int) : ∃ m : Nat, (n = m ∧ ((toString n : String) : Str).cps.toList = digs m) ∨ (m ≠ 0 ∧ n = -(m : Int) ∧ ((toString n : String) : Str).cps.toList = 45 :: digs m) := by
  cases n with
  | ofNat m => exact ⟨m, .inl ⟨rfl, cps_num m⟩⟩
  | negSucc m => exact ⟨m + 1, .inr ⟨by omega, Int.negSucc_eq m, cps_neg m⟩⟩
theorem num_len {n : Int} (h : -10000000 < n ∧ n < 10000000) : ((toString n : String) : Str).length ≤ 8 := by
  rw [len_cps]
  obtain ⟨m, ⟨e, h1⟩ | ⟨_, e, h1⟩⟩ := num_split n <;> rw [h1]
  · have := digs_len (m := m) (by omega); omega
  · have := digs_len (m := m) (by omega); simp; omega
theorem num_back {n : Int} (h : -10000000 < n ∧ n < 10000000) : PySem.intText? ((toString n : String) : Str) = some n := by
  have hl := num_len h
  obtain ⟨m, ⟨e, h1⟩ | ⟨_, e, h1⟩⟩ := num_split n
  · have := PySem.intText_digits (x := ((toString n : String) : Str)) (by rw [h1]; exact digs_all m) (by rw [h1]; exact digs_ne m) (by omega)
    rw [h1, digs_val] at this
    rw [this, e]
  · have := PySem.intText_neg (x := ((toString n : String) : Str)) h1 (digs_all m) (digs_ne m) (by omega)
    rw [digs_val] at this
    rw [this, e]
theorem num_head (n : Int) : ∃ c r, ((toString n : String) : Str).cps.toList = c :: r ∧ (c = 45 ∨ (48 ≤ c ∧ c ≤ 57)) := by
  obtain ⟨m, ⟨e, h1⟩ | ⟨_, e, h1⟩⟩ := num_split n <;> rw [h1]
  · cases hd : digs m with
    | nil => exact absurd hd (digs_ne m)
    | cons c r => exact ⟨c, r, rfl, .inr (digs_all m c (by rw [hd]; exact List.mem_cons_self))⟩
  · exact ⟨45, digs m, rfl, .inl rfl⟩
/-! signs of a text -/
theorem starts1 (x : Str) (c : Nat) : PySem.Txt.startswith x ⟨#[c]⟩ = (x.cps.toList.head? == some c) := by
  obtain ⟨⟨l⟩⟩ := x
  unfold PySem.Txt.startswith PySem.Builtin.Str.subAt
  cases l with
  | nil => rfl
  | cons d r => 
    show (decide (0 + 1 ≤ r.length + 1) && ((Array.mk (d :: r)).extract 0 1 == #[c])) = (some d == some c)
    have : (Array.mk (d :: r)).extract 0 1 = #[d] := by simp
    rw [this]
    simp
theorem cut_from (x : Str) (k : Nat) (h : k ≤ x.length) : cutS x (some (k : Int)) none = ⟨(x.cps.toList.drop k).toArray⟩ := by
  unfold cutS
  rw [HT.sIx_nat, HT.sIx_none]
  have : min k x.length = k := by omega
  rw [this, List.take_of_length_le]
  rw [List.length_drop, ← len_cps]; omega
theorem cut_to (x : Str) (k : Nat) (h : k ≤ x.length) : cutS x none (some (k : Int)) = ⟨(x.cps.toList.take k).toArray⟩ := by
  unfold cutS
  rw [HT.sIx_nat, HT.sIx_none]
  have : min k x.length = k := by omega
  rw [this]; rfl
theorem cps_mk (l : List Nat) : (⟨l.toArray⟩ : Str).cps.toList = l := rfl
theorem mk_cps (x : Str) : (⟨x.cps.toList.toArray⟩ : Str) = x := str_ext rfl
theorem flat_one (n c : Nat) : (List.replicate n [c]).flatten = List.replicate n c := by
  induction n with
  | zero => rfl
  | succ n ih => rw [List.replicate_succ, List.flatten_cons, ih]; rfl
theorem rep_one (n : Int) (c : Nat) : (strRep ⟨#[c]⟩ n).cps.toList = List.replicate n.toNat c := flat_one n.toNat c
end Kit
namespace Kit
open MD L2 PySem
@[simp] theorem u_still {ds : List D} {M : MH} : ItD.still ⟨ds, none⟩ M ↔ True := Iff.rfl
/-! loops by position -/
theorem forI_from {it : ItD} {g : TG'} {tb : TS'} {DD : Ends'} {ds0 : List D} (P : Nat → EnvD → MH → Prop) (h0 : ∀ δ M, P ds0.length δ M → it.still M ∧ DD.nx δ M)
    (hs : ∀ i d δ M (F : EnvD → MH → Prop), ds0[i]? = some d → P i δ M → (∀ δ' M', P (i + 1) δ' M' → F δ' M') → it.still M ∧ g d δ M (fun δ1 M1 => tb { DD with nx := F, ct := F, bk := DD.nx } δ1 M1))
    {δ : EnvD} {M : MH} (p : P 0 δ M) : forL it g tb DD ds0 δ M := by
  refine forL_ind (fun ds δ M => ∃ i, ds = ds0.drop i ∧ i ≤ ds0.length ∧ P i δ M) ?_ ?_ ds0 δ M ⟨0, rfl, Nat.zero_le _, p⟩
  · rintro δ M ⟨i, e, hi, hp⟩
    have : ds0.length ≤ i := List.drop_eq_nil_iff.mp e.symm
    obtain rfl : i = ds0.length := by omega
    exact h0 δ M hp
  · rintro d r δ M F ⟨i, e, hi, hp⟩ hF
    have hd : ds0[i]? = some d := by
      have := congrArg List.head? e
      simp [List.head?_drop] at this
      exact this.symm
    have hr : r = ds0.drop (i + 1) := by
      have := congrArg List.tail e
      simpa using this
    have hlt := (List.getElem?_eq_some_iff.mp hd).1
    exact hs i d δ M F hd hp (fun δ' M' hp' => hF δ' M' ⟨i + 1, hr, hlt, hp'⟩)
theorem range_at {lo : Int} {n i : Nat} (h : i < n) : (rangeD lo n)[i]? = some (.int (lo + (i : Int))) := by
  unfold rangeD
  rw [List.getElem?_map, List.getElem?_range h]; rfl
theorem forR_ind {it : ItD} {g : TG'} {tb : TS'} {DD : Ends'} {lo : Int} {n : Nat} (P : Nat → EnvD → MH → Prop) (h0 : ∀ δ M, P n δ M → it.still M ∧ DD.nx δ M)
    (hs : ∀ i δ M (F : EnvD → MH → Prop), i < n → P i δ M → (∀ δ' M', P (i + 1) δ' M' → F δ' M') → it.still M ∧ g (.int (lo + (i : Int))) δ M (fun δ1 M1 => tb { DD with nx := F, ct := F, bk := DD.nx } δ1 M1))
    {δ : EnvD} {M : MH} (p : P 0 δ M) : forL it g tb DD (rangeD lo n) δ M := by
  refine forI_from P (by rw [rangeD_length]; exact h0) ?_ p
  intro i d δ M F hd hp hF
  have hi : i < n := by have := (List.getElem?_eq_some_iff.mp hd).1; rwa [rangeD_length] at this
  rw [range_at hi] at hd
  cases hd
  exact hs i δ M F hi hp hF
theorem lcI_from {it : ItD} {g : TG'} {tt : TT'} {te : TE'} {vs : List Nat} {δ : EnvD} {Q : List D → MH → Prop} {ds0 : List D} (P : Nat → List D → MH → Prop) (h0 : ∀ acc M, P ds0.length acc M → it.still M ∧ Q acc M)
    (hs : ∀ i d acc M (F : List D → MH → Prop), ds0[i]? = some d → P i acc M → (∀ acc' M', P (i + 1) acc' M' → F acc' M') → it.still M ∧ g d (wipeD δ vs) M fun δ2 M2 => tt δ2 M2 (fun b M3 =>
      if b = true then te δ2 M3 (fun y M4 => acc.length < sizeLine ∧ F (acc ++ [y]) M4) (fun _ _ => False) else F acc M3) (fun _ _ => False))
    {M : MH} (p : P 0 [] M) : lcL it g tt te vs δ Q ds0 [] M := by
  refine lcL_ind (fun ds acc M => ∃ i, ds = ds0.drop i ∧ i ≤ ds0.length ∧ P i acc M) ?_ ?_ ds0 [] M ⟨0, rfl, Nat.zero_le _, p⟩
  · rintro acc M ⟨i, e, hi, hp⟩
    have : ds0.length ≤ i := List.drop_eq_nil_iff.mp e.symm
    obtain rfl : i = ds0.length := by omega
    exact h0 acc M hp
  · rintro d r acc M F ⟨i, e, hi, hp⟩ hF
    have hd : ds0[i]? = some d := by
      have := congrArg List.head? e
      simp [List.head?_drop] at this
      exact this.symm
    have hr : r = ds0.drop (i + 1) := by
      have := congrArg List.tail e
      simpa using this
    have hlt := (List.getElem?_eq_some_iff.mp hd).1
    exact hs i d acc M F hd hp (fun acc' M' hp' => hF acc' M' ⟨i + 1, hr, hlt, hp'⟩)
/-! what stays below -/
theorem belL_iff {n : Nat} : ∀ {ds : List D}, D.belL n ds = true ↔ ∀ d ∈ ds, d.bel n = true
  | [] => by simp [D.belL]
  | d :: r => by unfold D.belL; rw [Bool.and_eq_true, belL_iff (ds := r)]; simp
theorem belL_int {n : Nat} (f : α → Int) (xs : List α) : D.belL n (xs.map fun x => D.int (f x)) = true := by
  rw [belL_iff]
  intro d hd
  obtain ⟨x, _, rfl⟩ := List.mem_map.mp hd
  simp [D.bel]
theorem pool_below {n : Nat} {ns : List Int} {i b s : Int} : Cell.below n (poolD ns i b s) = true := by
  have := belL_int (n := n) (fun x : Int => x) ns
  simp [Cell.below, poolD, D.belL, D.bel]
  exact this
theorem Step.wf {p : Nat} {M M' : MH} (hM : WFM M) (h : Step p M M') : WFM M' := by
  have hl := h.length
  obtain ⟨⟨c, rfl⟩, ns, i, b, s, hp, _⟩ := h
  intro c' hc
  rw [hl]
  rcases List.mem_or_eq_of_mem_set hc with hc | rfl
  · exact hM c' hc
  · have hlt : p < M.length := by
      have := (List.getElem?_eq_some_iff.mp hp).1
      simpa using this
    rw [List.getElem?_set_self hlt] at hp
    cases hp
    exact pool_below
theorem Pool.lt {p : Nat} {M : MH} (h : Pool M p) : p < M.length := by
  obtain ⟨_, _, _, _, hp, _⟩ := h
  exact (List.getElem?_eq_some_iff.mp hp).1
theorem Pool.of_eq {p : Nat} {M M' : MH} (h : Pool M p) (e : M'[p]? = M[p]?) : Pool M' p := by
  obtain ⟨ns, i, b, s, hp, hr⟩ := h
  exact ⟨ns, i, b, s, by rw [e]; exact hp, hr⟩
/-- a step of the whole heap is one of its first part -/
theorem Step.cut {p n : Nat} {M M' : MH} (h : Step p M M') (hp : p < n) : Step p (M.take n) (M'.take n) := by
  obtain ⟨⟨c, rfl⟩, hP⟩ := h
  refine ⟨⟨c, by rw [List.take_set]⟩, hP.of_eq ?_⟩
  rw [List.getElem?_take_of_lt hp]
theorem erase_perm {α : Type} {ls : List α} {k : Nat} (h : k < ls.length) : (ls[k] :: ls.eraseIdx k).Perm ls := by
  have e : ls = ls.take k ++ ls[k] :: ls.drop (k + 1) := by
    rw [← List.drop_eq_getElem_cons h, List.take_append_drop]
  rw [List.eraseIdx_eq_take_drop_succ]
  conv => rhs; rw [e]
  exact List.perm_middle.symm
theorem erase_map {α β : Type} (f : α → β) (ls : List α) (k : Nat) : (ls.map f).eraseIdx k = (ls.eraseIdx k).map f := by
  rw [List.eraseIdx_eq_take_drop_succ, List.eraseIdx_eq_take_drop_succ, List.map_append, List.map_take, List.map_drop]
/-! an order of the first whole numbers -/
abbrev N__law_order : List Str := ["pool", "many", "left", "found", "k"]
def sp__law_order : SpD := fun ds M Q _ => ∃ (p n : Nat), ds = [.ref p, .int n] ∧ n ≤ 1000 ∧ Pool M p ∧ ∀ (ks : List Nat) M', ks.Perm (List.range n) → Step p M M' → Q (.tup (ks.map fun (k : Nat) => D.int k)) M'
theorem mono__law_order : MonoP sp__law_order := fun ds M Q Q' E E' q x ⟨p, n, e, h0, h1, h⟩ => ⟨p, n, e, h0, h1, fun ks M' a b => q _ _ (h ks M' a b)⟩
theorem len__law_order (ds M Q E) (h : sp__law_order ds M Q E) : ds.length = 2 := by obtain ⟨_, _, rfl, _⟩ := h; rfl
def r__law_order : TS' := (tSeq' (tAsg' (tListRg' true (tRg1' (tVar' 1))) (gName' 2))
    (tSeq' (tAsg' (tTup' tNil') (gName' 3))
    (tSeq' (tFor' (tRng1' (tCons' (tVar' 1) tNil')) (gName' 4) (tAsg' (tOp' (oAdd false) (tVar' 3) (tTup' (tCons' (tBM' "list" mPopAt (tVar' 2) (tCons' (tCall' sp__law_take (tCons' (tVar' 0) (tCons' (tCB' cLen (tCons' (tVar' 2) tNil')) tNil'))) tNil')) tNil'))) (gName' 3)))
    (tRet' (tVar' 3)))))
theorem math__law_order (ds M Q E) (hM : WFM M) (hb : D.belL M.length ds = true) (h : sp__law_order ds M Q E) : r__law_order (retE M.length Q E) (startD N__law_order ds) M := by
  obtain ⟨p, n, rfl, hn, hp, q⟩ := h
  have hz : (sizeLine : Nat) = 16777216 := by decide
  have hpl := hp.lt
  unfold r__law_order
  refine seq_step fun S hS => ?_
  simp [startD]
  refine ⟨by unfold RgOk; omega, ?_⟩
  subst hS
  refine seq_step fun S hS => ?_
  simp
  subst hS
  refine seq_step fun S hS => ?_
  simp
  refine ⟨by omega, ?_⟩
  refine forR_ind (fun i δ M' => ∃ (ks ls : List Nat) (a : Option D), ks.length = i ∧ (ks ++ ls).Perm (List.range n) ∧ δ = [some (.ref p), some (.int n), some (.ref M.length), some (.tup (ks.map fun (k : Nat) => D.int k)), a] ∧ M'.length = M.length + 1 ∧ M'[M.length]? = some (.lst (ls.map fun (k : Nat) => D.int k)) ∧ Step p M (M'.take M.length)) ?_ ?_ ?_
  · rintro δ M' ⟨ks, ls, a, hk, hperm, rfl, hl, hc, hst⟩
    have : ls = [] := by
      have := hperm.length_eq
      simp at this
      exact List.length_eq_zero_iff.mp (by omega)
    subst this
    subst hS
    rw [List.append_nil] at hperm
    simp
    rw [popM_pop (by unfold D.bel; exact belL_int _ _) (by have := hst.wf hM; unfold WFM at this; rwa [hst.length] at this) rfl]
    exact q ks _ hperm hst
  · rintro i δ M' F hi ⟨ks, ls, a, hk, hperm, rfl, hl, hc, hst⟩ hF
    have hll : ls.length = n - i := by
      have := hperm.length_eq
      simp at this
      omega
    have hP : Pool M' p := hst.2.of_eq (by rw [List.getElem?_take_of_lt hpl])
    simp [lstOf_ref hc, hc]
    refine ⟨p, _, rfl, by omega, by omega, hP, fun r M2 h0 h1 h2 => ?_⟩
    have hc2 : M2[M.length]? = some (.lst (ls.map fun (k : Nat) => D.int k)) := by rw [h2.other (by omega)]; exact hc
    have hr : r.toNat < ls.length := by omega
    simp [hc2, hll, ixN_n h0 (show r < ((n - i : Nat) : Int) by omega)]
    refine ⟨by omega, by omega, .int ((ls[r.toNat] : Nat) : Int), ⟨ls[r.toNat], List.getElem?_eq_getElem hr, rfl⟩, by decide, by omega, ?_⟩
    refine hF _ _ ⟨ks ++ [ls[r.toNat]], ls.eraseIdx r.toNat, some (.int i), by simp [hk], ?_, by simp, by simp [h2.length, hl], ?_, ?_⟩
    · refine List.Perm.trans ?_ hperm
      rw [List.append_assoc]
      refine List.Perm.append_left ks ?_
      show (ls[r.toNat] :: ls.eraseIdx r.toNat).Perm ls
      exact erase_perm hr
    · rw [List.getElem?_set_self (by rw [h2.length]; omega)]
      congr 2
      exact erase_map ..
    · rw [List.take_set_of_le (Nat.le_refl _)]
      exact hst.trans (h2.cut hpl)
  · refine ⟨[], List.range n, none, rfl, by simp, by simp, by simp, ?_, ?_⟩
    · rw [List.getElem?_append_right (Nat.le_refl _)]
      simp [rangeD]
    · rw [List.take_left' rfl]
      exact ⟨⟨M[p], by simp⟩, hp⟩
/-! a tone drawn -/
abbrev N__law_tone : List Str := ["pool", "fifths"]
def sp__law_tone : SpD := fun ds M Q _ => ∃ p, ds = [.ref p] ∧ Pool M p ∧ ∀ f o M', -50 ≤ f → f ≤ 50 → 0 ≤ o + 4 * f / 7 → o + 4 * f / 7 ≤ 6 → Step p M M' → Q (.tup [.int f, .int o]) M'
theorem mono__law_tone : MonoP sp__law_tone := fun ds M Q Q' E E' q x ⟨p, e, h1, h⟩ => ⟨p, e, h1, fun f o M' a b c d e => q _ _ (h f o M' a b c d e)⟩
theorem len__law_tone (ds M Q E) (h : sp__law_tone ds M Q E) : ds.length = 1 := by obtain ⟨_, rfl, _⟩ := h; rfl
def r__law_tone : TS' := (tSeq' (tAsg' (tOp' oSub (tCall' sp__law_take (tCons' (tVar' 0) (tCons' (tC' (.int 15)) tNil'))) (tC' (.int 7))) (gName' 1))
    (tSeq' (tIfS' (tB' (tOp' (oEq false) (tCall' sp__law_take (tCons' (tVar' 0) (tCons' (tC' (.int 12)) tNil'))) (tC' (.int 0)))) (tAsg' (tOp' oSub (tCall' sp__law_take (tCons' (tVar' 0) (tCons' (tC' (.int 101)) tNil'))) (tC' (.int 50))) (gName' 1)) tNext')
    (tRet' (tTup' (tCons' (tVar' 1) (tCons' (tOp' oSub (tCall' sp__law_take (tCons' (tVar' 0) (tCons' (tC' (.int 7)) tNil'))) (tCB' cInt (tCons' (tOp' oFdiv (tOp' (oMul false) (tC' (.int 4)) (tVar' 1)) (tC' (.int 7))) tNil'))) tNil'))))))

theorem math__law_tone (ds M Q E) (hM : WFM M) (hb : D.belL M.length ds = true) (h : sp__law_tone ds M Q E) : r__law_tone (retE M.length Q E) (startD N__law_tone ds) M := by
  obtain ⟨p, rfl, hp, q⟩ := h
  unfold r__law_tone
  refine seq_step fun S hS => ?_
  simp [startD]
  refine ⟨p, 15, rfl, by decide, by decide, hp, fun r1 M1 a1 b1 c1 => ?_⟩
  simp
  subst hS
  refine seq_step fun S hS => ?_
  simp
  refine ⟨p, 12, rfl, by decide, by decide, c1.2, fun r2 M2 a2 b2 c2 => ?_⟩
  simp
  have key : ∀ (f : Int) (M3 : MH), -50 ≤ f → f ≤ 50 → Step p M1 M3 → S (retE M.length Q E) [some (D.ref p), some (D.int f)] M3 := by
    intro f M3 hf1 hf2 c3
    subst hS
    simp
    refine ⟨p, 7, rfl, by decide, by decide, c3.2, fun r4 M4 a4 b4 c4 => ?_⟩
    simp
    refine ⟨mulOk_l (by decide), divOk_of (by decide) (by decide), by decide, ?_⟩
    have c5 := (c1.trans c3).trans c4
    rw [popM_same (by rw [c5.length]; simp), e_fdiv (by decide)]
    exact q _ _ _ hf1 hf2 (by omega) (by omega) c5
  by_cases h0 : r2 = 0
  · simp [h0]
    refine ⟨p, 101, rfl, by decide, by decide, c2.2, fun r3 M3 a3 b3 c3 => ?_⟩
    simp
    exact key _ _ (by omega) (by omega) (c2.trans c3)
  · simp [h0]
    exact key _ _ (by omega) (by omega) c2
/-! a tone drawn from afar -/
def Far (f : Int) : Prop := -1000 ≤ f ∧ f ≤ 1000
abbrev N__law_far_pair : List Str := ["pool", "kind", "edges"]
def sp__law_far_pair : SpD := fun ds M Q _ => ∃ p, ds = [.ref p] ∧ Pool M p ∧ ∀ f o M', Far f → Far o → Step p M M' → Q (.tup [.int f, .int o]) M'
theorem mono__law_far_pair : MonoP sp__law_far_pair := fun ds M Q Q' E E' q x ⟨p, e, h1, h⟩ => ⟨p, e, h1, fun f o M' a b c => q _ _ (h f o M' a b c)⟩
theorem len__law_far_pair (ds M Q E) (h : sp__law_far_pair ds M Q E) : ds.length = 1 := by obtain ⟨_, rfl, _⟩ := h; rfl
def r__law_far_pair : TS' := (tSeq' (tAsg' (tCall' sp__law_take (tCons' (tVar' 0) (tCons' (tC' (.int 4)) tNil'))) (gName' 1))
    (tSeq' (tIfS' (tB' (tOp' (oEq false) (tVar' 1) (tC' (.int 0)))) (tRet' (tTup' (tCons' (tOp' oSub (tCall' sp__law_take (tCons' (tVar' 0) (tCons' (tC' (.int 2001)) tNil'))) (tC' (.int 1000))) (tCons' (tOp' oSub (tCall' sp__law_take (tCons' (tVar' 0) (tCons' (tC' (.int 2001)) tNil'))) (tC' (.int 1000))) tNil')))) tNext')
    (tSeq' (tIfS' (tB' (tOp' (oEq false) (tVar' 1) (tC' (.int 1)))) (tSeq' (tAsg' (tLst' false (tCons' (tC' (.int 1000)) (tCons' (tUn' oNeg (tC' (.int 1000))) (tCons' (tC' (.int 999)) (tCons' (tUn' oNeg (tC' (.int 999))) (tCons' (tC' (.int 0)) (tCons' (tC' (.int 5)) (tCons' (tC' (.int 6)) (tCons' (tUn' oNeg (tC' (.int 1))) (tCons' (tUn' oNeg (tC' (.int 2))) (tCons' (tC' (.int 12)) (tCons' (tUn' oNeg (tC' (.int 7))) tNil')))))))))))) (gName' 2))
    (tRet' (tTup' (tCons' (tCall' sp__law_pick (tCons' (tVar' 0) (tCons' (tVar' 2) tNil'))) (tCons' (tCall' sp__law_pick (tCons' (tVar' 0) (tCons' (tVar' 2) tNil'))) tNil'))))) tNext')
    (tRet' (tCall' sp__law_tone (tCons' (tVar' 0) tNil'))))))

theorem math__law_far_pair (ds M Q E) (hM : WFM M) (hb : D.belL M.length ds = true) (h : sp__law_far_pair ds M Q E) : r__law_far_pair (retE M.length Q E) (startD N__law_far_pair ds) M := by
  obtain ⟨p, rfl, hp, q⟩ := h
  unfold r__law_far_pair
  refine seq_step fun S hS => ?_
  simp [startD]
  refine ⟨p, 4, rfl, by decide, by decide, hp, fun k M1 a1 b1 c1 => ?_⟩
  simp
  subst hS
  refine seq_step fun S hS => ?_
  simp
  by_cases h0 : k = 0
  · simp [h0]
    refine ⟨p, 2001, rfl, by decide, by decide, c1.2, fun r2 M2 a2 b2 c2 => ?_⟩
    simp
    refine ⟨p, 2001, rfl, by decide, by decide, c2.2, fun r3 M3 a3 b3 c3 => ?_⟩
    simp
    refine ⟨by decide, ?_⟩
    have c5 := (c1.trans c2).trans c3
    rw [popM_same (by rw [c5.length]; simp)]
    exact q _ _ _ ⟨by omega, by omega⟩ ⟨by omega, by omega⟩ c5
  · simp [h0]
    subst hS
    refine seq_step fun S hS => ?_
    simp
    by_cases h1 : k = 1
    · simp [h1]
      let es : List Int := [1000, -1000, 999, -999, 0, 5, 6, -1, -2, 12, -7]
      refine ⟨by decide, p, _, _, rfl, c1.2, nofun, rfl, fun _ _ => rfl, by simp, by decide, fun d2 M2 hd2 c2 => ⟨p, _, _, rfl, c2.2, nofun, rfl, fun _ _ => rfl, by simp, by decide, fun d3 M3 hd3 c3 => ?_⟩⟩
      simp
      refine ⟨by decide, ?_⟩
      have c5 := (c1.trans c2).trans c3
      rw [popM_same (by rw [c5.length]; simp)]
      have hin : ∀ d ∈ es.map D.int, ∃ z, d = D.int z ∧ Far z := by
        intro d hd
        obtain ⟨z, hz, e⟩ := List.mem_map.mp hd
        refine ⟨z, e.symm, ?_⟩
        have : ∀ z ∈ es, -1000 ≤ z ∧ z ≤ 1000 := by decide
        exact this z hz
      obtain ⟨z2, rfl, h2⟩ := hin d2 hd2
      obtain ⟨z3, rfl, h3⟩ := hin d3 hd3
      exact q _ _ _ h2 h3 c5
    · simp [h1]
      subst hS
      simp
      refine ⟨p, rfl, c1.2, fun f o M2 hf1 hf2 ho1 ho2 c2 => ?_⟩
      show Q _ (popM _ _ _)
      have c5 := c1.trans c2
      rw [popM_same (by rw [c5.length]; simp)]
      exact q _ _ _ ⟨by omega, by omega⟩ ⟨by omega, by omega⟩ c5
end Kit
namespace MD
open PySem PySem.Spec PyProof.Rows L2
variable {K : PySem.W.Frag}
/-! a member of a tuple or a list of plain items -/
def D.fl : D → Bool
  | .non => true
  | .bl _ => true
  | .int _ => true
  | .str _ => true
  | _ => false
def D.sv : D → V
  | .bl b => .bl b
  | .int i => .int i
  | .str x => .str x
  | _ => .non
theorem rep_sv {w : Wd} {d : D} {v : V} (f : d.fl = true) (h : Rep K w d v) : v = d.sv ∧ flatV d.sv = true := by
  cases d with
  | non => exact ⟨rep_non h, rfl⟩
  | bl b => exact ⟨rep_bl h, rfl⟩
  | int b => exact ⟨rep_int h, rfl⟩
  | str b => exact ⟨rep_str h, rfl⟩
  | _ => cases f
theorem repL_sv {w : Wd} : ∀ {ds : List D} {xs : List V}, ds.all D.fl = true → RepL K w ds xs → xs = ds.map D.sv ∧ xs.all flatV = true
  | [], xs, _, h => by have h : xs = [] := h; subst h; exact ⟨rfl, rfl⟩
  | d :: ds, xs, f, h => by
    obtain ⟨x, r, rfl, hx, hr⟩ := h
    rw [List.all_cons, Bool.and_eq_true] at f
    obtain ⟨rfl, h2⟩ := rep_sv f.1 hx
    obtain ⟨rfl, h4⟩ := repL_sv f.2 hr
    exact ⟨rfl, by rw [List.all_cons, h2, h4]; rfl⟩
def inD (x : D) (ds : List D) : Bool := inV x.sv (ds.map D.sv)
def oInT (neg : Bool) : R2' := fun x y M Q => x.fl = true ∧ ∃ ds, (y = .tup ds ∨ y = .lst ds) ∧ ds.all D.fl = true ∧ Q (.bl (if neg then !inD x ds else inD x ds)) M
theorem lf_inT {neg : Bool} : Lift2 K (rIn K neg) (oInT neg) := by
  intro w x y dx dy Q rh rx ry ⟨fx, ds, e, fs, h⟩
  obtain ⟨rfl, h2⟩ := rep_sv fx rx
  have q : ∀ xs, RepL K w ds xs → xs.all flatV = true ∧ PV K w Q (.bl (if neg then !inV dx.sv xs else inV dx.sv xs)) w.M := fun xs hr => by
    obtain ⟨rfl, h4⟩ := repL_sv fs hr
    exact ⟨h4, h⟩
  rcases e with rfl | rfl
  · obtain ⟨a, xs, rfl, hs, hr⟩ := ry
    obtain ⟨h4, h5⟩ := q xs hr
    exact ⟨a, xs, rfl, .inr hs, h2, h4, PV.here rh h5 rep_mk_bl⟩
  · obtain ⟨a, xs, rfl, hs, _, _, hr⟩ := ry
    obtain ⟨h4, h5⟩ := q xs hr
    exact ⟨a, xs, rfl, .inl (SqL.of hs), h2, h4, PV.here rh h5 rep_mk_bl⟩
theorem mn_inT {neg : Bool} : Mono2 (oInT neg) := fun x y M Q Q' q ⟨fx, ds, e, fs, h⟩ => ⟨fx, ds, e, fs, q _ _ h⟩
@[simp] theorem u_inTI {i : Int} {ds : List D} {M : MH} {Q : QE} : oInT false (.int i) (.tup ds) M Q ↔ ds.all D.fl = true ∧ Q (.bl (inD (.int i) ds)) M := by
  constructor
  · rintro ⟨_, ds', (e | e), h⟩
    · cases e; exact h
    · cases e
  · exact fun h => ⟨rfl, ds, .inl rfl, h⟩
theorem inD_ints (i : Int) : ∀ (j : Int) (ds : List D), inD (.int i) (.int j :: ds) = (j == i || inD (.int i) ds) := fun j ds => rfl
theorem inD_nil (x : D) : inD x [] = false := rfl
end MD
namespace Kit
open MD L2 PySem
/-! tones and whole numbers in names -/
def Pr (s : D) (f o : Int) : Prop := s = .tup [.int f, .int o] ∨ s = .lst [.int f, .int o]
abbrev N_steps : List Str := ["interval"]
def sp_steps : SpD := fun ds M Q _ => ∃ s f o, ds = [s] ∧ Pr s f o ∧ Q (.int (4 * f + 7 * o)) M
theorem mono_steps : MonoP sp_steps := fun ds M Q Q' E E' q x ⟨s, f, o, e, h1, h⟩ => ⟨s, f, o, e, h1, q _ _ h⟩
theorem len_steps (ds M Q E) (h : sp_steps ds M Q E) : ds.length = 1 := by obtain ⟨_, _, _, rfl, _⟩ := h; rfl
def r_steps : TS' := (tRet' (tOp' (oAdd false) (tOp' (oMul false) (tC' (.int 4)) (tOp' oIx (tVar' 0) (tC' (.int 0)))) (tOp' (oMul false) (tC' (.int 7)) (tOp' oIx (tVar' 0) (tC' (.int 1))))))
theorem math_steps (ds M Q E) (hM : WFM M) (hb : D.belL M.length ds = true) (h : sp_steps ds M Q E) : r_steps (retE M.length Q E) (startD N_steps ds) M := by
  obtain ⟨s, f, o, rfl, hs, q⟩ := h
  rcases hs with rfl | rfl <;> simp [r_steps, startD, mulOk_l, popM_same, q]
abbrev N_height : List Str := ["interval"]
def sp_height : SpD := fun ds M Q _ => ∃ s f o, ds = [s] ∧ Pr s f o ∧ Q (.int (7 * f + 12 * o)) M
theorem mono_height : MonoP sp_height := fun ds M Q Q' E E' q x ⟨s, f, o, e, h1, h⟩ => ⟨s, f, o, e, h1, q _ _ h⟩
theorem len_height (ds M Q E) (h : sp_height ds M Q E) : ds.length = 1 := by obtain ⟨_, _, _, rfl, _⟩ := h; rfl
def r_height : TS' := (tRet' (tOp' (oAdd false) (tOp' (oMul false) (tC' (.int 7)) (tOp' oIx (tVar' 0) (tC' (.int 0)))) (tOp' (oMul false) (tC' (.int 12)) (tOp' oIx (tVar' 0) (tC' (.int 1))))))
theorem math_height (ds M Q E) (hM : WFM M) (hb : D.belL M.length ds = true) (h : sp_height ds M Q E) : r_height (retE M.length Q E) (startD N_height ds) M := by
  obtain ⟨s, f, o, rfl, hs, q⟩ := h
  rcases hs with rfl | rfl <;> simp [r_height, startD, mulOk_l, popM_same, q]
abbrev N_whole : List Str := ["text", "figures", "sign"]
def sp_whole : SpD := fun ds M Q _ => ∃ n : Int, ds = [.str (toString n : String)] ∧ -1000000 ≤ n ∧ n ≤ 1000000 ∧ Q (.int n) M
theorem mono_whole : MonoP sp_whole := fun ds M Q Q' E E' q x ⟨n, e, h1, h2, h⟩ => ⟨n, e, h1, h2, q _ _ h⟩
theorem len_whole (ds M Q E) (h : sp_whole ds M Q E) : ds.length = 1 := by obtain ⟨_, rfl, _⟩ := h; rfl
def r_whole : TS' := (tSeq' (tAsg' (tIf' (tTru' (tBM' "str" mStarts (tVar' 0) (tCons' (tC' (.str "-")) tNil'))) (tSl' (oSl false) (tVar' 0) (tPart' (tC' (.int 1))) tNoPart') (tVar' 0)) (gName' 1))
    (tSeq' (tIfS' (tOr' (tNot' (tB' (tChain' (oI0 fun i j => .bl (decide (i < j))) (oI0 fun i j => .bl (decide (i ≤ j))) (tC' (.int 0)) (tCB' cLen (tCons' (tVar' 1) tNil')) (tC' (.int 30))))) (tNot' (tTru' (tCB' (cBls fun bs => bs.all id) (tCons' (tLc' false (tIt' (tVar' 1)) (gName' 2) tYes' (tOp' (oInS false) (tVar' 2) (tC' (.str "0123456789"))) [2]) tNil'))))) (tRet' (tC' .non)) tNext')
    (tSeq' (tIfS' (tAnd' (tB' (tOp' (oEq false) (tOp' oIx (tVar' 1) (tC' (.int 0))) (tC' (.str "0")))) (tOr' (tB' (tOp' (oI0 fun i j => .bl (decide (j < i))) (tCB' cLen (tCons' (tVar' 1) tNil')) (tC' (.int 1)))) (tB' (tOp' (oEq true) (tVar' 1) (tVar' 0))))) (tRet' (tC' .non)) tNext')
    (tRet' (tCB' cInt (tCons' (tVar' 0) tNil'))))))
theorem blsD_bl : ∀ bs : List Bool, blsD (bs.map D.bl) = some bs
  | [] => rfl
  | b :: r => by show (blsD (r.map D.bl)).map (b :: ·) = _; rw [blsD_bl r]; rfl
theorem digit_in : ∀ c : Nat, 48 ≤ c → c ≤ 57 → c ∈ ("0123456789" : Str).cps.toList := by
  intro c h1 h2
  have : ("0123456789" : Str).cps.toList = [48, 49, 50, 51, 52, 53, 54, 55, 56, 57] := rfl
  rw [this]
  simp
  omega
theorem whole_tail {m : Nat} {x fig : Str} {n : Int} (hf : fig.cps.toList = digs m) (hx : x.length ≤ 8) (hl : fig.length ≤ 8) (hm : m = 0 → fig = x) (hn : PySem.intText? x = some n) {Q : QE} {E : QX} {M : MH} (q : Q (.int n) M) :
    (tSeq' (tIfS' (tOr' (tNot' (tB' (tChain' (oI0 fun i j => .bl (decide (i < j))) (oI0 fun i j => .bl (decide (i ≤ j))) (tC' (.int 0)) (tCB' cLen (tCons' (tVar' 1) tNil')) (tC' (.int 30))))) (tNot' (tTru' (tCB' (cBls fun bs => bs.all id) (tCons' (tLc' false (tIt' (tVar' 1)) (gName' 2) tYes' (tOp' (oInS false) (tVar' 2) (tC' (.str "0123456789"))) [2]) tNil'))))) (tRet' (tC' .non)) tNext')
    (tSeq' (tIfS' (tAnd' (tB' (tOp' (oEq false) (tOp' oIx (tVar' 1) (tC' (.int 0))) (tC' (.str "0")))) (tOr' (tB' (tOp' (oI0 fun i j => .bl (decide (j < i))) (tCB' cLen (tCons' (tVar' 1) tNil')) (tC' (.int 1)))) (tB' (tOp' (oEq true) (tVar' 1) (tVar' 0))))) (tRet' (tC' .non)) tNext')
    (tRet' (tCB' cInt (tCons' (tVar' 0) tNil'))))) (retE M.length Q E) [some (.str x), some (.str fig), none] M := by
  have hz : (sizeLine : Nat) = 16777216 := by decide
  have hp : 0 < fig.length := by
    rw [len_cps, hf]
    exact List.length_pos_iff.mpr (digs_ne m)
  refine seq_step fun S hS => ?_
  simp
  refine ⟨by omega, ?_⟩
  simp [hp, show (fig.length : Int) ≤ 30 by omega]
  refine lcL_map (fun d => match d with | .str ⟨⟨[c]⟩⟩ => .bl (hasC c "0123456789") | d => d) (by exact trivial) _ _ ?_ ?_ ?_
  · intro d hd Q' q'
    rw [List.mem_map] at hd
    obtain ⟨c, _, rfl⟩ := hd
    simp [wipeD]
    exact q'
  · simp
    have : fig.cps.size = fig.length := rfl
    omega
  · have e : (List.map (fun d => match d with | .str ⟨⟨[c]⟩⟩ => .bl (hasC c "0123456789") | d => d) (List.map (fun c => D.str ⟨#[c]⟩) fig.cps.toList)) = (fig.cps.toList.map fun c => hasC c "0123456789").map D.bl := by
      rw [List.map_map, List.map_map]; rfl
    rw [List.nil_append, e]
    refine ⟨_, blsD_bl _, ?_⟩
    rw [if_neg (by
      intro hb
      obtain ⟨c, hc, e⟩ := List.mem_map.mp hb
      rw [hf] at hc
      obtain ⟨h1, h2⟩ := digs_all m c hc
      rw [show hasC c "0123456789" = true from decide_eq_true (digit_in c h1 h2)] at e
      cases e)]
    subst hS
    refine seq_step fun S hS => ?_
    cases hd : digs m with
    | nil => exact absurd hd (digs_ne m)
    | cons c r =>
      have h0 : atI fig.cps.toList 0 = some c := by rw [hf, hd]; exact atI_0
      simp [h0]
      have fin : S (retE M.length Q E) [some (.str x), some (.str fig), none] M := by
        subst hS
        simp [popM_same]
        exact .inr (.inr ⟨x, n, rfl, hn, by omega, by rw [u_rt, popM_same (Nat.le_refl _)]; exact q⟩)
      refine ⟨by omega, ?_⟩
      by_cases h0 : m = 0
      · subst h0
        have hl1 : fig.length = 1 := by rw [len_cps, hf]; rfl
        rw [hm rfl] at hl1 ⊢
        rw [hm rfl] at fin
        split
        · refine ⟨by omega, ?_⟩
          rw [if_neg (by rw [hl1]; decide), if_pos rfl]
          exact fin
        · exact fin
      · rw [if_neg]
        · exact fin
        · intro e
          obtain ⟨c', r', e1, e2⟩ := digs_head m h0
          rw [hd] at e1
          cases e1
          have : (#[c] : Array Nat) = #[48] := congrArg Str.cps e
          simp at this
          exact e2 this
theorem math_whole (ds M Q E) (hM : WFM M) (hb : D.belL M.length ds = true) (h : sp_whole ds M Q E) : r_whole (retE M.length Q E) (startD N_whole ds) M := by
  obtain ⟨n, rfl, h1, h2, q⟩ := h
  have hz : (sizeLine : Nat) = 16777216 := by decide
  have hl := num_len (n := n) (by omega)
  have hn := num_back (n := n) (by omega)
  have hs := num_split n
  generalize ((toString n : String) : Str) = x at hl hn hs ⊢
  unfold r_whole
  refine seq_step fun S hS => ?_
  simp [startD]
  have e45 : ("-" : Str) = ⟨#[45]⟩ := rfl
  rw [e45, starts1]
  obtain ⟨m, ⟨e, hx⟩ | ⟨hm, e, hx⟩⟩ := hs
  · have : (x.cps.toList.head? == some 45) = false := by
      rw [hx]
      cases hd : digs m with
      | nil => rfl
      | cons c r =>
        have := digs_all m c (by rw [hd]; exact List.mem_cons_self)
        simp
        omega
    rw [this]
    simp
    subst hS
    exact whole_tail hx hl hl (fun _ => rfl) hn q
  · have : (x.cps.toList.head? == some 45) = true := by rw [hx]; rfl
    rw [this]
    have hlx : x.length = (digs m).length + 1 := by rw [len_cps, hx]; rfl
    have hc := cut_from x 1 (by omega)
    rw [hx] at hc
    simp [oSl]
    refine ⟨by omega, ?_⟩
    rw [show (some (1 : Int)) = some (((1 : Nat) : Int)) from rfl, hc]
    subst hS
    refine whole_tail (m := m) rfl hl ?_ (fun z => absurd z hm) hn q
    show (digs m).length ≤ 8
    omega
abbrev N_within : List Str := ["interval", "text"]
def sp_within : SpD := fun ds M Q _ => ∃ f o x, ds = [.tup [.int f, .int o], x] ∧ Far f ∧ Far o ∧ Q (.tup [.int f, .int o]) M
theorem mono_within : MonoP sp_within := fun ds M Q Q' E E' q x ⟨f, o, y, e, h1, h2, h⟩ => ⟨f, o, y, e, h1, h2, q _ _ h⟩
theorem len_within (ds M Q E) (h : sp_within ds M Q E) : ds.length = 2 := by obtain ⟨_, _, _, rfl, _⟩ := h; rfl
def r_within : TS' := (tSeq' (tIfS' (tB' (tOp' (oI0 fun i j => .bl (decide (j < i))) (tCB' (cI2 fun i j => .int (if j > i then j else i)) (tCons' (tCB' (cI1 fun i => .int (if i < 0 then -i else i)) (tCons' (tOp' oIx (tVar' 0) (tC' (.int 0))) tNil')) (tCons' (tCB' (cI1 fun i => .int (if i < 0 then -i else i)) (tCons' (tOp' oIx (tVar' 0) (tC' (.int 1))) tNil')) tNil'))) (tC' (.int 1000)))) tNever' tNext')
    (tRet' (tVar' 0)))
theorem math_within (ds M Q E) (hM : WFM M) (hb : D.belL M.length ds = true) (h : sp_within ds M Q E) : r_within (retE M.length Q E) (startD N_within ds) M := by
  obtain ⟨f, o, x, rfl, h1, h2, q⟩ := h
  unfold Far at h1 h2
  unfold r_within
  refine seq_step fun S hS => ?_
  simp [startD]
  have : ¬ (1000 < (if (if f < 0 then -f else f) < (if o < 0 then -o else o) then (if o < 0 then -o else o) else (if f < 0 then -f else f))) := by
    split <;> split <;> omega
  refine ⟨_, _, ⟨rfl, rfl⟩, Int.not_lt.mp this, ?_⟩
  subst hS
  simp [popM_same, q]
theorem pl_lt {f : Int} : (((4 * f) % 7).toNat) < 7 := by omega
theorem fifth_of (f : Int) : ([0, 2, 4, -1, 1, 3, 5] : List Int)[((4 * f) % 7).toNat]? = some (f - 7 * ((f + 1) / 7)) := by
  have h : f % 7 = 0 ∨ f % 7 = 1 ∨ f % 7 = 2 ∨ f % 7 = 3 ∨ f % 7 = 4 ∨ f % 7 = 5 ∨ f % 7 = 6 := by omega
  rcases h with h | h | h | h | h | h | h <;> first | (have e : ((4 * f) % 7).toNat = 0 := by omega) ; (have e2 : f - 7 * ((f + 1) / 7) = 0 := by omega) ; (rw [e, e2]; rfl) | (have e : ((4 * f) % 7).toNat = 1 := by omega) ; (have e2 : f - 7 * ((f + 1) / 7) = 2 := by omega) ; (rw [e, e2]; rfl) | (have e : ((4 * f) % 7).toNat = 2 := by omega) ; (have e2 : f - 7 * ((f + 1) / 7) = 4 := by omega) ; (rw [e, e2]; rfl) | (have e : ((4 * f) % 7).toNat = 3 := by omega) ; (have e2 : f - 7 * ((f + 1) / 7) = -1 := by omega) ; (rw [e, e2]; rfl) | (have e : ((4 * f) % 7).toNat = 4 := by omega) ; (have e2 : f - 7 * ((f + 1) / 7) = 1 := by omega) ; (rw [e, e2]; rfl) | (have e : ((4 * f) % 7).toNat = 5 := by omega) ; (have e2 : f - 7 * ((f + 1) / 7) = 3 := by omega) ; (rw [e, e2]; rfl) | (have e : ((4 * f) % 7).toNat = 6 := by omega) ; (have e2 : f - 7 * ((f + 1) / 7) = 5 := by omega) ; (rw [e, e2]; rfl)
theorem str_len_app (a b : Str) : (a ++ b).length = a.length + b.length := by rw [len_cps, len_cps a, len_cps b, cps_app, List.length_append]
theorem at_nat {α : Type} {xs : List α} {k : Nat} {x : α} (h : xs[k]? = some x) : atI xs (k : Int) = some x := atI_n (by omega) (by simpa using h)
end Kit
namespace MD
open PySem PySem.Spec PyProof.Rows L2
variable {K : PySem.W.Frag} {w w1 w2 : Wd} {X : Cx} {W : WX} {e a b c : Expr} {pos : Pos}
theorem lc_up (cell : Bool) {tg iter : Expr} {own : List (Str × Nat)} {ti : TI'} {gH : TG} {g : TG'} {tt : TT'} {te : TE'} (hi : MI X W tg iter ti) (cg : CompG X.K (own.map (·.2)) gH g) (mt : MonoT tt) (me : MonoE te) :
    ∀ (σ : L2.St) (H : Hp) (Q : VK), up X.K W (tLc' cell ti g tt te (own.map (·.2))) σ H Q → tLc (upI X.K W ti) gH (upT X.K WF tt) (up X.K WF te) (own.map (·.2)) σ H Q :=
  fun σ H Q ⟨w, δ, eH, rh, rs, h⟩ => by
    subst eH
    refine ⟨w, δ, rfl, rh, rs, hi.mono _ _ _ _ _ _ (fun it M1 h1 J w1 e1 l1 rh1 ok1 st p hp => ?_) (fun _ _ x => x) h⟩
    subst e1
    refine ⟨fun i m H => ∃ (w2 : Wd) (r acc : List MD.D) (accv : List V), w2.H = H ∧ Le w1 w2 ∧ RH X.K w2 ∧ p ∈ w2.r ∧ w2.H p = some (.lst accv) ∧ RepL X.K w2 acc accv ∧ (∀ a ∈ w1.r, a ∈ w2.r) ∧ r = it.items.drop i ∧ i ≤ it.items.length ∧ m = r.length ∧
        lcL it g tt te (own.map (·.2)) δ (fun acc M2 => newL cell acc M2 (PV X.K w Q)) r acc w2.M,
      ⟨it.items.length, w1.hold p, it.items, [], [], rfl, Le.hold hp, rh1.hold hp, List.mem_cons_self, upd_same, RepL.nil, fun a ha => List.mem_cons_of_mem _ ha, by simp, Nat.zero_le _, rfl, h1⟩, ?_⟩
    rintro i m H2 ⟨w2, r, acc, accv, rfl, l2, rh2, hp2, hl2, hr2, hs2, er, hi2, rfl, h2⟩
    cases r with
    | nil =>
      have hl : it.items.length ≤ i := by
        have := congrArg List.length er
        simp at this; omega
      have : i = it.items.length := by omega
      subst this
      exact .inl ⟨(ok1 w2 l2 rh2 h2.1).1, lc_end rh rh1 l1 hp rh2 l2 hp2 hl2 hr2 hs2 h2.2⟩
    | cons d r =>
      have hd : it.items[i]? = some d := by
        have : (it.items.drop i)[0]? = some d := by rw [← er]; rfl
        simpa using this
      have hr : r = it.items.drop (i + 1) := by
        have : (it.items.drop i).drop 1 = r := by rw [← er]; rfl
        rw [← this, List.drop_drop]
      have hlt : i < it.items.length := (List.getElem?_eq_some_iff.mp hd).1
      obtain ⟨go, yl⟩ := (ok1 w2 l2 rh2 h2.1).2 i d hd
      refine .inr ⟨go, fun H' => ∃ (w5 : Wd) (acc : List MD.D) (accv : List V), w5.H = H' ∧ Le w1 w5 ∧ RH X.K w5 ∧ p ∈ w5.r ∧ w5.H p = some (.lst accv) ∧ RepL X.K w5 acc accv ∧ (∀ a ∈ w1.r, a ∈ w5.r) ∧
          lcL it g tt te (own.map (·.2)) δ (fun acc M2 => newL cell acc M2 (PV X.K w Q)) r acc w5.M,
        fun H' ⟨w5, acc5, accv5, e5, l5, rh5, hp5, hl5, hr5, hs5, q5⟩ => ⟨r.length, Nat.lt_succ_self _, w5, r, acc5, accv5, e5, l5, rh5, hp5, hl5, hr5, hs5, hr, hlt, rfl, q5⟩, fun x H' hy => ?_⟩
      obtain ⟨w3, e3, eM, l3, rh3, rx⟩ := yl x H' hy
      subst e3
      have lr3 : ∀ a ∈ w2.r, a ∈ w3.r := fun a ha => by
        obtain ⟨s, es, _⟩ := l3.rr
        rw [es]; exact List.mem_append_right _ ha
      have hp3 := lr3 p hp2
      have hl3 : w3.H p = some (.lst accv) := l3.keep p _ hl2 (rh2.r_dead hp2)
      have l13 := l2.trans rh1 rh2 l3
      have h2' := h2.2
      rw [← eM] at h2'
      have rsw : RepS X.K w3 (wipeD δ (own.map (·.2))) (wipe σ (own.map (·.2))) := (((rs.le rh l1).le rh1 l13)).wipe _
      have q := cg.run w3 (wipe σ (own.map (·.2))) (wipeD δ (own.map (·.2))) d x _ rh3 rsw rx h2'
      have key : ∀ σ2 H2, (wipe σ2 (own.map (·.2)) = wipe (wipe σ (own.map (·.2))) (own.map (·.2)) ∧ H2 = w3.H ∧ ∃ δ2, RepS X.K w3 δ2 σ2 ∧ tt δ2 w3.M (fun b M3 =>
          if b = true then te δ2 M3 (fun y M4 => acc.length < sizeLine ∧ lcL it g tt te (own.map (·.2)) δ (fun acc M2 => newL cell acc M2 (PV X.K w Q)) r (acc ++ [y]) M4) (fun _ _ => False) else lcL it g tt te (own.map (·.2)) δ (fun acc M2 => newL cell acc M2 (PV X.K w Q)) r acc M3) (fun _ _ => False)) →
          wipe σ2 (own.map (·.2)) = wipe σ (own.map (·.2)) ∧ upT X.K WF tt σ2 H2 fun b H3 => if b = true then up X.K WF te σ2 H3 fun y H4 => ∃ acc, H4 p = some (.lst acc) ∧ acc.length < sizeLine ∧
            (fun H' => ∃ (w5 : Wd) (acc : List MD.D) (accv : List V), w5.H = H' ∧ Le w1 w5 ∧ RH X.K w5 ∧ p ∈ w5.r ∧ w5.H p = some (.lst accv) ∧ RepL X.K w5 acc accv ∧ (∀ a ∈ w1.r, a ∈ w5.r) ∧
              lcL it g tt te (own.map (·.2)) δ (fun acc M2 => newL cell acc M2 (PV X.K w Q)) r acc w5.M) (upd H4 p (.lst (acc ++ [y]))) else
            (fun H' => ∃ (w5 : Wd) (acc : List MD.D) (accv : List V), w5.H = H' ∧ Le w1 w5 ∧ RH X.K w5 ∧ p ∈ w5.r ∧ w5.H p = some (.lst accv) ∧ RepL X.K w5 acc accv ∧ (∀ a ∈ w1.r, a ∈ w5.r) ∧
              lcL it g tt te (own.map (·.2)) δ (fun acc M2 => newL cell acc M2 (PV X.K w Q)) r acc w5.M) H3 := by
        rintro σ2 _ ⟨ew, rfl, δ2, rs2, q2⟩
        refine ⟨by rw [ew, wipe_wipe], upT_go mt rh3 rs2 q2 (fun _ _ z => z.elim) fun b w4 l4 rh4 rs4 q4 => ?_⟩
        have lr4 : ∀ a ∈ w3.r, a ∈ w4.r := fun a ha => by
          obtain ⟨s, es, _⟩ := l4.rr
          rw [es]; exact List.mem_append_right _ ha
        have hp4 := lr4 p hp3
        have hl4 : w4.H p = some (.lst accv) := l4.keep p _ hl3 (rh3.r_dead hp3)
        have l14 := l13.trans rh1 rh3 l4
        cases b with
        | false =>
          exact ⟨w4, acc, accv, rfl, l14, rh4, hp4, hl4, (RepL.le rh2 l3 _ hr2).le' rh3 l4, fun a ha => lr4 a (lr3 a (hs2 a ha)), q4⟩
        | true =>
          refine up_go me rh4 rs4 q4 (fun _ _ z => z.elim) fun dy vy w6 l6 rh6 rs6 ry ⟨q6, q7⟩ => ?_
          have lr6 : ∀ a ∈ w4.r, a ∈ w6.r := fun a ha => by
            obtain ⟨s, es, _⟩ := l6.rr
            rw [es]; exact List.mem_append_right _ ha
          have hp6 := lr6 p hp4
          have hl6 : w6.H p = some (.lst accv) := l6.keep p _ hl4 (rh4.r_dead hp4)
          have l16 := l14.trans rh1 rh4 l6
          have ra : RepL X.K w6 acc accv := ((RepL.le rh2 l3 _ hr2).le' rh3 l4).le' rh4 l6
          refine ⟨accv, hl6, by rw [ra.length]; exact q6, w6.turn p (accv ++ [vy]), acc ++ [dy], accv ++ [vy], rfl, l16.turn hp, rh6.turn hp6 hl6, hp6, upd_same, RepL.turn hp6 hl6 _ (ra.append (RepL.cons ry RepL.nil)), fun a ha => lr6 a (lr4 a (lr3 a (hs2 a ha))), q7⟩
      exact cg.hm _ _ _ _ _ key q
theorem mono_lc {cell : Bool} {tg iter : Expr} {own : List (Str × Nat)} {ti : TI'} {gH : TG} {g : TG'} {tt : TT'} {te : TE'} (hi : MI X W tg iter ti) (cg : CompG X.K (own.map (·.2)) gH g) (mt : MonoT tt) (me : MonoE te) : MonoE (tLc' cell ti g tt te (own.map (·.2))) :=
  fun δ M Q Q' E E' q x hh => hi.mono _ _ _ _ _ _ (fun it M1 h1 => mono_lcL cg.mono mt me (fun a M h2 => h2.mono q) _ _ _ h1) x hh
theorem ms_setLc (cell : Bool) {i : Nat} {y : Str} {py : Pos} {elt tg iter : Expr} {ifs : List Expr} {scope : Scope} {own : List (Str × Nat)} {spos : Pos} {ti : TI'} {gH : TG} {g : TG'} {tt : TT'} {te : TE'} (hc : X.calm = true) (hN : X.N.Nodup) (hy : X.N[i]? = some y) (hyl : X.env.scope.names.lookup y = some .local)
    (hsw : swapsWith (.ListComp elt [⟨tg, iter, ifs, 0⟩] scope pos) (some (.Name y py)) spos.line X.env = pure true) (hi : MI X W tg iter ti) (ok : BlkOk X.N X.env.scope scope own)
    (hg : ∀ (s : Shared) (H : Hp) (C : Addr) (cl : List (Str × Addr)) (fp : List Addr), PG (X.blk s H scope (compEnvC scope cl C X.env) fp) tg gH) (cg : CompG X.K (own.map (·.2)) gH g)
    (ht : ∀ (s : Shared) (H : Hp) (C : Addr) (cl : List (Str × Addr)) (fp : List Addr), MTs (X.blk s H scope (compEnvC scope cl C X.env) fp) WF ifs tt)
    (he : ∀ (s : Shared) (H : Hp) (C : Addr) (cl : List (Str × Addr)) (fp : List Addr), ME (X.blk s H scope (compEnvC scope cl C X.env) fp) WF elt te) (hs : ∀ x, foldedSetIterable iter X.env x = pure x := by intro _; rfl) :
    MS X W (.Assign [.Name y py] (.ListComp elt [⟨tg, iter, ifs, 0⟩] scope pos) spos) (tAsg' (tLc' cell ti g tt te (own.map (·.2))) (gName' i)) :=
  have mt : MonoT tt := (ht X.s_0 X.H_0 0 [] []).mono
  have me : MonoE te := (he X.s_0 X.H_0 0 [] []).mono
  have ml : MonoE (tLc' cell ti g tt te (own.map (·.2))) := mono_lc hi cg mt me
  ⟨PS.imp (ps_setLc (tt := upT X.K WF tt) (te := up X.K WF te) hc hN hy hyl hsw hi.pi ok hg (fun s H C cl fp => (ht s H C cl fp).pts) (fun s H C cl fp => (he s H C cl fp).pe) hs) fun D σ H ⟨w, δ, eH, rh, rs, h⟩ => by
    subst eH
    refine lc_up cell hi cg mt me σ w.H _ ?_
    refine up_go ml rh rs h (ex_of rs rh (Ends'.le.refl _)) fun d v w1 l1 rh1 rs1 rv h1 => ?_
    exact h1 _ w1 rfl l1 rh1 (rs1.set i rv), mono_asg ml fun d δ M Q Q' q h => q _ _ h⟩
end MD
namespace MD
open PySem PySem.Spec PyProof.Rows L2
variable {K : PySem.W.Frag} {w w1 w2 : Wd} {X : Cx} {W : WX} {e a b c : Expr} {pos : Pos}
/-! sorted(xs), xs a list of pairs of whole numbers -/
def lexLe (p q : Int × Int) : Prop := p.1 < q.1 ∨ (p.1 = q.1 ∧ p.2 ≤ q.2)
def rSortQ (K : PySem.W.Frag) : List V → Hp → VK → Prop := fun vs H Q => ∃ (a : Addr) (zs : List (V × (Int × Int))), vs = [V.ref a] ∧ SqL K H a (zs.map (·.1)) ∧ (∀ z ∈ zs, ∃ t, z.1 = V.ref t ∧ SqT K H t [.int z.2.1, .int z.2.2]) ∧
  ∀ (zs' : List (V × (Int × Int))) p, zs'.Perm zs → (zs'.map (·.2)).Pairwise lexLe → H p = none → Q (.ref p) (upd H p (.lst (zs'.map (·.1))))
open Classical in
noncomputable def keyOf (h : Heap) (v : Value) : Int × Int := if x : ∃ p : Int × Int, Srt.IsPair h v p.1 p.2 then Classical.choose x else (0, 0)
theorem isPair_inj {h : Heap} {v : Value} {p q : Int × Int} (a : Srt.IsPair h v p.1 p.2) (b : Srt.IsPair h v q.1 q.2) : p = q := by
  obtain ⟨p1, p2⟩ := p
  obtain ⟨q1, q2⟩ := q
  obtain ⟨x, o, t, u, n, rfl, ho, hc, hd⟩ := a
  obtain ⟨x', o', t', u', n', e, ho', hc', hd'⟩ := b
  cases e
  rw [ho] at ho'; cases ho'
  rw [hd] at hd'
  cases hd'
  rfl
theorem keyOf_eq {h : Heap} {v : Value} {p : Int × Int} (a : Srt.IsPair h v p.1 p.2) : keyOf h v = p := by
  unfold keyOf
  have x : ∃ p : Int × Int, Srt.IsPair h v p.1 p.2 := ⟨p, a⟩
  rw [dif_pos x]
  exact isPair_inj (Classical.choose_spec x) a
theorem cr_sortQ : CallR X (.builtin "sorted") (rSortQ X.K) := by
  intro pins s σ H vs us Q I r h
  obtain ⟨a, zs, rfl, hs, hx, q⟩ := h
  obtain ⟨its, rv, hl, hz⟩ := I.list hs
  obtain ⟨u, rfl, ru⟩ := vals1 r
  obtain rfl : u = Value.ref a := ru
  obtain ⟨e1, e2⟩ := refs_back rv fun x m => by
    obtain ⟨z, hz, rfl⟩ := List.mem_map.mp m
    obtain ⟨t, e, _⟩ := hx z hz
    exact ⟨t, e⟩
  have pr : ∀ z ∈ zs, ∀ v, backV v = z.1 → (∃ a, v = Value.ref a) → Srt.IsPair s.heap v z.2.1 z.2.2 := by
    rintro z hz v e ⟨t, rfl⟩
    obtain ⟨t', e', ht⟩ := hx z hz
    rw [e'] at e
    cases e
    obtain ⟨its2, r2, ⟨o, ho, hc, n, hd⟩, _⟩ := I.tuple ht
    obtain ⟨u1, u2, rfl, ri, rj⟩ := vals2 r2
    obtain ⟨t1, rfl⟩ := ri
    obtain ⟨t2, rfl⟩ := rj
    exact ⟨t, o, t1, t2, n, rfl, ho, hc, hd⟩
  have hzs : zs = its.map fun v => (backV v, keyOf s.heap v) := by
    have : ∀ (zs : List (V × (Int × Int))) (its : List Value), zs.map (·.1) = its.map backV → (∀ u ∈ its, ∃ a, u = Value.ref a) → (∀ z ∈ zs, ∀ v, backV v = z.1 → (∃ a, v = Value.ref a) → Srt.IsPair s.heap v z.2.1 z.2.2) → zs = its.map fun v => (backV v, keyOf s.heap v) := by
      intro zs
      induction zs with
      | nil =>
        intro its e _ _
        cases its with
        | nil => rfl
        | cons v r => cases e
      | cons z r ih =>
        intro its e h2 h3
        cases its with
        | nil => cases e
        | cons v its =>
          rw [List.map_cons, List.map_cons] at e
          injection e with e1 e2
          rw [List.map_cons, ← ih its e2 (fun u hu => h2 u (List.mem_cons_of_mem _ hu)) (fun z hz => h3 z (List.mem_cons_of_mem _ hz))]
          have := keyOf_eq (h3 z List.mem_cons_self v e1.symm (h2 v List.mem_cons_self))
          rw [this, ← e1]
    exact this zs its e1 e2 pr
  refine SrtO.sorted_pairsO (k := fun u => keyOf s.heap u) hl.isList (by rw [← rv.length]; exact hz) (fun v hv => ?_) fun h' d out h1 h2 kp hd hn => ?_
  · have hm : (backV v, keyOf s.heap v) ∈ zs := by rw [hzs]; exact List.mem_map.mpr ⟨v, hv, rfl⟩
    exact pr _ hm v rfl (e2 v hv)
  · have h3 : ∀ u ∈ out, ∃ a, u = Value.ref a := fun u hu => e2 u (h2.perm.mem_iff.mp hu)
    obtain ⟨n, hn⟩ := hn
    have hp : (out.map fun v => (backV v, keyOf s.heap v)).Perm zs := by rw [hzs]; exact h2.perm.map _
    refine ⟨.ref d, upd H d (.lst (out.map backV)), I.laid (t' := s.toks) kp hd ⟨?_, out, n, vals_back h3, hn⟩, rfl, ?_⟩
    · have := hp.length_eq
      rw [List.length_map] at this ⊢
      rw [this]
      rw [List.length_map] at hz
      exact hz
    · have := q (out.map fun v => (backV v, keyOf s.heap v)) d hp ?_ (I.hok.fresh hd)
      · rw [List.map_map] at this
        exact this
      · rw [List.map_map]
        unfold SrtO.Srtd at h1
        rw [List.pairwise_map]
        exact h1.imp fun {x y} hxy => by
          have := SrtO.lexB_no.mp hxy
          unfold lexLe
          show (keyOf s.heap x).1 < (keyOf s.heap y).1 ∨ ((keyOf s.heap x).1 = (keyOf s.heap y).1 ∧ (keyOf s.heap x).2 ≤ (keyOf s.heap y).2)
          omega
def prD (p : Int × Int) : D := .tup [.int p.1, .int p.2]
def cSortP (cell : Bool) : RA' := fun ds M Q => ∃ d es ps, ds = [d] ∧ lstOf d M = some es ∧ es = ps.map prD ∧ ∀ ps' : List (Int × Int), ps'.Perm ps → ps'.Pairwise lexLe → newL cell (ps'.map prD) M Q
theorem repL_pairs : ∀ {ps : List (Int × Int)} {xs : List V}, RepL K w (ps.map prD) xs → ∃ zs : List (V × (Int × Int)), zs.map (·.1) = xs ∧ zs.map (·.2) = ps ∧ (∀ z ∈ zs, Rep K w (prD z.2) z.1)
  | [], xs, h => by have h : xs = [] := h; subst h; exact ⟨[], rfl, rfl, nofun⟩
  | p :: ps, xs, h => by
    obtain ⟨x, r, rfl, hx, hr⟩ := h
    obtain ⟨zs, e1, e2, h3⟩ := repL_pairs hr
    refine ⟨(x, p) :: zs, by rw [List.map_cons, e1], by rw [List.map_cons, e2], fun z hz => ?_⟩
    rcases List.mem_cons.mp hz with rfl | hz
    · exact hx
    · exact h3 z hz
theorem repL_of_pairs : ∀ {zs : List (V × (Int × Int))}, (∀ z ∈ zs, Rep K w (prD z.2) z.1) → RepL K w ((zs.map (·.2)).map prD) (zs.map (·.1))
  | [], _ => rfl
  | z :: zs, h => ⟨_, _, rfl, h z List.mem_cons_self, repL_of_pairs fun y hy => h y (List.mem_cons_of_mem _ hy)⟩
theorem la_sortP {cell : Bool} : LiftA K (rSortQ K) (cSortP cell) := by
  intro w xs ds Q rh r ⟨d, es, ps, e, e1, e2, q⟩
  subst e e2
  obtain ⟨v, rfl, rv⟩ := rep1 r
  obtain ⟨a, ys, rfl, hy, hr⟩ := lstOf_rep rh rv e1
  obtain ⟨zs, f1, f2, h3⟩ := repL_pairs hr
  subst f1 f2
  refine ⟨a, zs, rfl, SqL.of hy, fun z hz => ?_, fun zs' p hp hs hn => ?_⟩
  · obtain ⟨t, us, e, ht, hu⟩ := h3 z hz
    refine ⟨t, e, ?_⟩
    obtain ⟨x1, r1, rfl, hx1, hr1⟩ := hu
    obtain ⟨x2, r2, rfl, hx2, hr2⟩ := hr1
    have hr2 : r2 = [] := hr2
    rw [rep_int hx1, rep_int hx2, hr2] at ht
    exact ht
  · have q' := q (zs'.map (·.2)) (hp.map _) hs
    exact newL.lift rh (repL_of_pairs fun z hz => h3 z (hp.mem_iff.mp hz)) q' p hn
theorem mr_sortP {cell : Bool} : MonoR (cSortP cell) := fun ds M Q Q' q ⟨d, es, ps, e, e1, e2, h⟩ => ⟨d, es, ps, e, e1, e2, fun ps' a b => (h ps' a b).mono q⟩
@[simp] theorem u_sortP {cell : Bool} {ds : List D} {M : MH} {Q : QE} : cSortP cell ds M Q ↔ ∃ d es ps, ds = [d] ∧ lstOf d M = some es ∧ es = ps.map prD ∧ ∀ ps' : List (Int × Int), ps'.Perm ps → ps'.Pairwise lexLe → newL cell (ps'.map prD) M Q := Iff.rfl
theorem lex_uniq : ∀ {l m : List (Int × Int)}, l.Perm m → l.Pairwise lexLe → m.Pairwise lexLe → l = m
  | [], m, h, _, _ => (List.nil_perm.mp h).symm
  | x :: l, [], h, _, _ => nomatch h.length_eq
  | x :: l, y :: m, h, hl, hm => by
    have e : x = y := by
      have h1 : x = y ∨ x ∈ m := List.mem_cons.mp (h.mem_iff.mp List.mem_cons_self)
      have h2 : y = x ∨ y ∈ l := List.mem_cons.mp (h.mem_iff.mpr List.mem_cons_self)
      rcases h1 with h1 | h1
      · exact h1
      rcases h2 with h2 | h2
      · exact h2.symm
      have a := (List.pairwise_cons.mp hm).1 x h1
      have b := (List.pairwise_cons.mp hl).1 y h2
      unfold lexLe at a b
      refine Prod.ext ?_ ?_ <;> omega
    subst e
    rw [lex_uniq h.cons_inv (List.pairwise_cons.mp hl).2 (List.pairwise_cons.mp hm).2]
end MD
namespace MD
open PySem PySem.Spec PyProof.Rows L2
variable {K : PySem.W.Frag} {w w1 w2 : Wd} {X : Cx} {W : WX} {e a b c : Expr} {pos : Pos}
/-! repr of nested data, where no other repr is under way -/
def rRepr (K : PySem.W.Frag) : List V → Hp → VK → Prop := fun vs H Q => ∃ a d, vs = [V.ref a] ∧ Dp K H (V.ref a) d ∧ d.showable = true ∧ d.hasDict = false ∧ d.depth ≤ 64 ∧ d.shown.length ≤ sizeLine ∧ Q (.str d.shown) H
theorem cr_repr (hg : X.A.guards = some []) (hu : X.A.units + 66 < cLine) : CallR X (.builtin "repr") (rRepr X.K) := by
  intro pins s σ H vs us Q I r h
  obtain ⟨a, d, rfl, hd, hs, hn, h64, hz, q⟩ := h
  obtain ⟨u, rfl, ru⟩ := vals1 r
  obtain rfl : u = Value.ref a := ru
  obtain ⟨as, rd⟩ := Dp.reads I d (.ref a) (.ref a) hd rfl
  refine repr_of_reads' rd hs (fun z => by rw [hn] at z; cases z) hg (by omega) (fun _ _ z => z) (fun h' u tk hk => ?_) hz
  exact ⟨.str d.shown, H, I.kept hk, ⟨_, rfl⟩, q⟩
def cRepr : RA' := fun ds M Q => ∃ d, ds = [d] ∧ d.flat = true ∧ (∃ es, d = .tup es ∨ d = .lst es) ∧ d.py.showable = true ∧ d.py.hasDict = false ∧ d.py.depth ≤ 64 ∧ d.py.shown.length ≤ sizeLine ∧ Q (.str d.py.shown) M
theorem la_repr : LiftA K (rRepr K) cRepr := by
  intro w xs ds Q rh r ⟨d, e, hf, ht, h1, h2, h3, h4, q⟩
  subst e
  obtain ⟨v, rfl, rv⟩ := rep1 r
  have hp := Rep.dp d hf rv
  obtain ⟨es, rfl | rfl⟩ := ht
  · obtain ⟨a, ys, rfl, _⟩ := rv
    exact ⟨a, _, rfl, hp, h1, h2, h3, h4, PV.here rh q rep_mk_str⟩
  · obtain ⟨a, ys, rfl, _⟩ := rv
    exact ⟨a, _, rfl, hp, h1, h2, h3, h4, PV.here rh q rep_mk_str⟩
theorem mr_repr : MonoR cRepr := fun ds M Q Q' q ⟨d, e, hf, ht, h1, h2, h3, h4, h⟩ => ⟨d, e, hf, ht, h1, h2, h3, h4, q _ _ h⟩
end MD
namespace MD
open PySem PySem.Spec PyProof.Rows L2
/-! a def's promise where no repr is under way; for the def `law` alone -/
structure FnG (P : Program) (wd : World) (K : PySem.W.Frag) (mg : Str → Option Value) (base : Heap) (k : Nat) (f : Addr) (fd : FuncData) (ps : List Str) (sp : Sp) : Prop where
  run : ∀ (A : Around) (outer : List Env) (s : Shared) (H : Hp) (args : Args) (us : List Value) (vs : List V) (Q : VK) (E : XK),
    A.guards = some [] → Room k A → Env0 P wd K mg base A outer s H → BindsTo s fd args (ps.zip us) → Vals vs us → sp vs H Q E →
      codeAny (model P wd) A (.call (.ref f) args) (CR (L2.CX P wd) outer P wd H s Q E) s
section
variable {P : Program} {wd : World} {K : PySem.W.Frag} {mg : Str → Option Value} {base : Heap}
theorem fnG_of {k : Nat} {f : Addr} {x qual : Str} {st : Stmt} {fd : FuncData} {N ps : List Str} {sp : Sp} (F : Fun K x qual st f fd) (S : FnScope N ps (defScope st)) (len : ∀ vs H Q E, sp vs H Q E → vs.length = ps.length)
    (hbody : ∀ (cdv : Value) (A : Around) (outer : List Env) (s : Shared) (H : Hp) (vs : List V) (Q : VK) (E : XK), A.guards = some [] →
      Room k (A.deeper (envOfC qual (defScope st) s.heap.objs.size f cdv)) → sp vs H Q E →
      ∃ t, PSs (cxOf (L2.CX P wd) P wd K mg base N qual (defScope st) f cdv A outer s H E) (defBody st) t ∧ t { nx := fun _ H' => Q .non H', rt := Q } (start N vs) H) :
    FnG P wd K mg base (k + 1) f fd ps sp := by
  obtain ⟨oc, od, kV, doc, pm, an, cdv, ct, osl, rfl, lk, hcd⟩ := F.ex
  refine ⟨fun A outer s H args us vs Q E gd room en bind rel promise => ?_⟩
  have ln := len _ _ _ _ promise
  have inK : K.In s.heap := en.mod.kin.keeps fun b o e => (en.bs b o e).1
  have noLim : s.heap.NoLimit := en.mod.nolimit.keeps fun b o e => (en.bs b o e).1
  have kinds : ∀ y ∈ ps.zip us, (defScope st).names.lookup y.1 = some .local ∨
      ((defScope st).names.lookup y.1 = some .cell ∧ ((cellsFrom (s.heap.objs.size + 1) (defScope st).names []).lookup y.1).isSome = true) := by
    rintro ⟨n, v⟩ hy
    rcases S.par n (List.of_mem_zip hy).1 with z | z
    · exact Or.inl z
    · exact Or.inr ⟨z, PySem.W.cellsFrom_some _ _ _ (Or.inl z)⟩
  refine codeAny_call_function room.depth (inK _ _ lk) rfl S.co S.gen rfl (PySem.W.codeRec_of inK hcd) (bind _ _ _ _ ?_)
  refine wpAny_newFunctionEnv_cells S.kind kinds fun env ee s1 made => ?_
  subst ee
  refine ⟨noLim.keeps made.toInCall.keep, codeAny_func ?_⟩
  obtain ⟨t, body, q0⟩ := hbody cdv A outer s H vs Q E gd (room.deeper _) promise
  have J : Inv (cxOf (L2.CX P wd) P wd K mg base N qual (defScope st) f cdv A outer s H E) [] (start N vs) H s1 := inv_start S room.hd en ln rel made
  refine wpAny_mono (body.run [] s1 (start N vs) H _ J q0) (fun fl s' out => ?_) fun _ _ out => out
  cases fl with
  | ret u =>
    obtain ⟨v, σ', H', J', rv, q⟩ := out
    exact ⟨v, H', J'.os, J'.bare, J'.base, J'.hok, rv, q⟩
  | next =>
    obtain ⟨σ', H', J', q⟩ := out
    exact ⟨V.non, H', J'.os, J'.bare, J'.base, J'.hok, rfl, q⟩
  | brk => exact (out.elim fun _ z => z.elim fun _ z => z.elim fun _ z => False.elim z)
  | cont => exact (out.elim fun _ z => z.elim fun _ z => z.elim fun _ z => False.elim z)
theorem okMG {x qual : Str} {st : Stmt} {f : Addr} {fd : FuncData} {N ps : List Str} {k : Nat} {sp : SpD} (F : Fun K x qual st f fd) (S : FnScope N ps (defScope st)) (len : ∀ ds M Q E, sp ds M Q E → ds.length = ps.length)
    (hbody : ∀ (cdv : Value) (A : Around) (outer : List Env) (s : Shared) (H : Hp) (E : XK), A.guards = some [] → Room k (A.deeper (envOfC qual (defScope st) s.heap.objs.size f cdv)) →
      ∃ ts, MSs (cxOf (L2.CX P wd) P wd K mg base N qual (defScope st) f cdv A outer s H E) (fun c d _ H => E c d H) (defBody st) ts ∧
        ∀ ds M Q' E', WFM M → D.belL M.length ds = true → sp ds M Q' E' → ts (retE M.length Q' E') (startD N ds) M) : FnG P wd K mg base (k + 1) f fd ps (upP K sp) := by
  refine fnG_of F S (fun vs H Q E ⟨w, ds, _, _, hr, h⟩ => by rw [hr.length]; exact len _ _ _ _ h) fun cdv A outer s H vs Q E gd hr h => ?_
  obtain ⟨w, ds, rfl, rh, hd, h⟩ := h
  obtain ⟨ts, hs, q⟩ := hbody cdv A outer s w.H E gd hr
  refine ⟨_, hs.ps, w, startD N ds, rfl, rh, hd.start N, hs.mono _ _ _ _ ?_ (q ds w.M _ _ rh.wfm (RepL.below rh ds hd) h)⟩
  exact ⟨fun δ M h1 σ w1 e l r1 s1 => PV.pop rh h1 .non w1 e l r1 (by simp [Rep]), fun d M h1 => PV.pop rh h1, fun _ _ h => h.elim, fun _ _ h => h.elim, fun x δ M h1 cls dx σ w1 e l r1 s1 rx => PX.pop rh h1 cls dx w1 e l r1 rx⟩
end
end MD
namespace MD
open PySem PySem.Spec PyProof.Rows L2
/-! the end for a def `law` that calls repr -/
section
variable {P : Program} {wd : World} {K : PySem.W.Frag} {mg mb : Str → Option Value} {k : Nat} {fa a : Addr} {fd : FuncData} {x : Str} {sp : Sp} {s₁ : Shared} {vs : List Value} {ns : List Int}
/-- the object of the script -/
abbrev scrO (vs : List Value) : Obj := { cls := .type "list", data := .seq vs.toArray }
theorem runG (inK : K.In s₁.heap) (glob : s₁.heap.Ns mainGlobals mg) (blt : s₁.heap.Ns builtinsNs mb) (bltB : ∀ y : Str, y ≠ "__name__" → mb y = bootBuiltins y) (noLim : s₁.heap.NoLimit) (gens : s₁.gens = #[])
    (atA : s₁.heap.get? a = some (scrO vs)) (room : Room k callerA)
    (F : ∀ base : Heap, K.In base → base.Ns mainGlobals mg → FnG P wd K mg base k fa fd [x] sp) (bind : ∀ (s : Shared) (u : Value), BindsTo s fd ⟨[u], []⟩ [(x, u)])
    (start : ∀ H : Hp, Only H → SqL K H a (ns.map V.int) → sp [.ref a] H (fun v _ => v = .bl true) fun _ _ _ => False)
    {H : Hp} (only : Only H) (sq : SqL K H a (ns.map V.int)) (ok : HOk P wd H s₁.heap) (just : ∀ b, H b ≠ none → b = a) (notK : H a ≠ none → K.lookup a = none) :
    codeAny (model P wd) callerA (.call (.ref fa) ⟨[.ref a], []⟩)
      (fun r s' => r = .ok (.ret (.bool true)) ∧ OldK s₁.heap s'.heap ∧ s'.os = s₁.os ∧ AllBare s'.gens) s₁ := by
  have keepB : ∀ {b : Addr} {o : Obj}, s₁.heap.get? b = some o → H b = none → (hidT s₁.heap H).get? b = some o := fun e n => hidT_get e n
  have plain : ∀ {b : Addr} {o : Obj}, s₁.heap.get? b = some o → o ≠ scrO vs → H b = none := by
    intro b o e d
    cases hb : H b with
    | none => rfl
    | some u =>
      have z : b = a := just b (by rw [hb]; exact nofun)
      rw [z, atA] at e
      exact absurd (Option.some.inj e).symm d
  have ns2 : ∀ {b : Addr} {m : Str → Option Value}, s₁.heap.Ns b m → (hidT s₁.heap H).Ns b m := by
    rintro b m ⟨o, es, ep, e, d, r⟩
    refine ⟨o, es, ep, keepB e (plain e fun z => ?_), d, r⟩
    rw [z] at d
    cases d
  have inK2 : K.In (hidT s₁.heap H) := by
    intro b o e
    refine keepB (inK b o e) ?_
    cases hb : H b with
    | none => rfl
    | some u =>
      have z : b = a := just b (by rw [hb]; exact nofun)
      rw [z] at e hb
      rw [notK (by rw [hb]; exact nofun)] at e
      cases e
  obtain ⟨mc, l1, l2⟩ := noLim
  have md : Mod K mg (hidT s₁.heap H) := ⟨inK2, ns2 glob, ⟨mb, ns2 blt, bltB⟩, mc, ns2 l1, l2⟩
  have en : Env0 P wd K mg (hidT s₁.heap H) callerA [] s₁ H :=
    ⟨rfl, md, fun b o e => of_hidT e, Nat.le_of_eq (hidT_size _ _), trivial, fun b hb => absurd (show b ∈ ([] : List Addr) from hb) (by simp), ok, .of_eq gens⟩
  have go := (F _ inK2 (ns2 glob)).run callerA [] s₁ H ⟨[.ref a], []⟩ [.ref a] [.ref a] _ _ rfl room en (bind s₁ (.ref a)) (.cons rfl .nil) (start H only sq)
  refine codeAny_mono go fun r s' out => ?_
  cases r with
  | error e => exact (cx_none (show L2.CX P wd [] H s₁ (fun _ _ _ => False) e s' from out)).elim
  | ok fl =>
    cases fl with
    | ret u =>
      obtain ⟨v, H', os, bare, un, ok', rel, q⟩ := out
      have q : v = .bl true := q
      subst q
      have eu : u = Value.bool true := rel
      subst eu
      refine ⟨rfl, OldK.of_keep fun b o e => ?_, os, bare⟩
      cases hb : H b with
      | none => exact un.keep b o e hb (fun z => absurd (show b ∈ ([] : List Addr) from z) (by simp)) (by simp)
      | some u =>
        rcases only b with z | ⟨ob, xs, z⟩
        · rw [hb] at z; cases z
        · obtain ⟨e1, _⟩ := ok b _ z
          obtain ⟨e2, _⟩ := ok' b _ (un.frzs b ob _ z)
          rw [e1] at e
          cases e
          exact e2
    | next => exact False.elim out
    | brk => exact False.elim out
    | cont => exact False.elim out
theorem callG (inK : K.In s₁.heap) (glob : s₁.heap.Ns mainGlobals mg) (blt : s₁.heap.Ns builtinsNs mb) (bltB : ∀ y : Str, y ≠ "__name__" → mb y = bootBuiltins y) (noLim : s₁.heap.NoLimit) (gens : s₁.gens = #[])
    (atA : s₁.heap.get? a = some (scrO vs)) (whole : IntsAre vs ns) (short : ns.length ≤ sizeLine) (room : Room k callerA)
    (F : ∀ base : Heap, K.In base → base.Ns mainGlobals mg → FnG P wd K mg base k fa fd [x] sp) (bind : ∀ (s : Shared) (u : Value), BindsTo s fd ⟨[u], []⟩ [(x, u)])
    (start : ∀ H : Hp, Only H → SqL K H a (ns.map V.int) → sp [.ref a] H (fun v _ => v = .bl true) fun _ _ _ => False) :
    codeAny (model P wd) callerA (.call (.ref fa) ⟨[.ref a], []⟩)
      (fun r s' => r = .ok (.ret (.bool true)) ∧ OldK s₁.heap s'.heap ∧ s'.os = s₁.os ∧ AllBare s'.gens) s₁ := by
  have rel := vals_ints whole
  have len := whole.length
  cases own : K.lookup a with
  | some o =>
    have e := inK a o own
    rw [atA] at e
    cases e
    exact runG (ns := ns) (H := fun _ => none) inK glob blt bltB noLim gens atA room F bind start (fun _ => Or.inl rfl)
      (Or.inr ⟨_, vs.toArray, _, own, rfl, rfl, rfl, by rw [List.size_toArray, len]; exact short, by simpa using rel⟩) (fun b u z => nomatch (show (none : Option HO) = some u from z)) (fun b z => absurd rfl z) (fun z => absurd rfl z)
  | none =>
    have at1 : ∀ b, (if b = a then some (HO.frz (scrO vs) (.lst (ns.map V.int))) else none) = (if b = a then some (HO.frz (scrO vs) (.lst (ns.map V.int))) else none) := fun _ => rfl
    refine runG (ns := ns) (H := fun b => if b = a then some (.frz (scrO vs) (.lst (ns.map V.int))) else none) inK glob blt bltB noLim gens atA room F bind start (fun b => ?_)
      (Or.inl (Or.inr ⟨scrO vs, if_pos rfl⟩)) (fun b u z => ?_) (fun b z => ?_) (fun _ => own)
    · by_cases hb : b = a
      · exact Or.inr ⟨_, _, if_pos hb⟩
      · exact Or.inl (if_neg hb)
    · by_cases hb : b = a
      · have z2 := (if_pos hb).symm.trans z
        cases z2
        rw [hb]
        exact ⟨atA, by rw [List.length_map]; exact short, vs, _, rel, atA⟩
      · have z2 := (if_neg hb).symm.trans z
        cases z2
    · by_cases hb : b = a
      · exact hb
      · exact absurd (if_neg hb) z
end
theorem walkG {l : PySem.W.OpenLaw} {n k : Nat} {q : Program} {loose : List Str} {XP : (Str → Option Value) → Heap → Prop} {YP : World → Heap → Prop} {d : DefRec} {K : Params → PySem.W.Frag} {sp : World → Sp} {x : Str}
    (most : l.most = some n) (small : n ≤ sizeLine) (noDef : d.params.defaults = []) (room : Room k callerA)
    (inK : ∀ (w : World) (h : Heap), YP w h → (K w.params).In h)
    (F : ∀ (w : World) (mg : Str → Option Value) (fa : Addr) (h : Heap), (K w.params).In h → h.Ns mainGlobals mg → mg d.name = some (.ref fa) →
      ∃ fd : FuncData, (∀ (s : Shared) (u : Value), BindsTo s fd ⟨[u], []⟩ [(x, u)]) ∧
        ∀ base : Heap, (K w.params).In base → base.Ns mainGlobals mg → FnG l.prog w (K w.params) mg base k fa fd [x] (sp w))
    (start : ∀ (w : World) (H : Hp) (a : Addr) (ns : List Int), ns.length ≤ n → (∀ z ∈ ns, Builtin.Int.intBits z ≤ 1048576) → Only H → SqL (K w.params) H a (ns.map V.int) →
      sp w [.ref a] H (fun v _ => v = .bl true) fun _ _ _ => False) :
    PySem.W.WalkO q loose XP YP l.row.toRowW d [] (fun f vs => PySem.call f vs) := by
  refine Att.attach_callB most noDef fun w s₀ s₁ mg mb fa o pm cd doc a vs ns G Y ho hd hcd hmg hobj hints hlen hbits hg => ?_
  have kx := inK w _ Y
  obtain ⟨fd, bind, hF⟩ := F w mg fa _ kx G.T.g hmg
  exact callG kx G.T.g G.T.b G.T.builtins G.T.nolimit hg hobj hints (Nat.le_trans hlen small) room hF bind (fun H hO hS => start w H a ns hlen hbits hO hS)
end MD
namespace MD
open PySem PySem.Spec PyProof.Rows L2
variable {K : PySem.W.Frag}
theorem room66 {k : Nat} {A : Around} (r : Room k A) : A.units + 66 < cLine := by have := r.un; omega
theorem la_gcd : LiftA K rGcd (cI2 fun i j => .int ((Nat.gcd i.natAbs j.natAbs : Nat) : Int)) := by
  intro w xs ds Q rh r ⟨i, j, e, q⟩
  subst e
  obtain ⟨x, r1, rfl, rx, h⟩ := r
  obtain ⟨y, r2, rfl, ry, h2⟩ := h
  have h2 : r2 = [] := h2
  subst h2
  exact ⟨i, j, by rw [rep_int rx, rep_int ry], PV.here rh q rep_mk_int⟩
end MD
namespace MD
open PySem PySem.Spec PyProof.Rows L2
variable {K : PySem.W.Frag} {w w1 w2 : Wd} {X : Cx} {W : WX} {e a b c : Expr} {pos : Pos}
/-! a call of a def whose promise asks that no repr is under way -/
theorem runFnG {k : Nat} {f : Addr} {fd : FuncData} {ps : List Str} {sp : Sp} {E : L2.St → XK} {pins : List (Addr × Obj)} {σ : L2.St} {H : Hp} {s : Shared} {Q : VK} {us : List Value} {vs : List V}
    (F : FnG X.prog X.w X.K X.mg X.base k f fd ps sp) (len : ∀ vs H Q E, sp vs H Q E → vs.length = ps.length) (gd : X.A.guards = some []) (room : Room k X.A) (bind : Binds X.K fd ps []) (pass : PassesAt (L2.CX X.prog X.w) X σ (E σ))
    (I : Inv X pins σ H s) (rel : Vals vs us) (h : sp vs H Q (E σ)) : wpAny (model X.prog X.w) X.A (call (.ref f) us) (EP X pins σ Q) X.xe s := by
  have same : us.length = ps.length := by rw [← rel.length]; exact len _ _ _ _ h
  have bound := bind s us I.kIn (by rw [List.append_nil]; exact same)
  rw [List.append_nil] at bound
  have go := F.run X.A X.stack s H ⟨us, []⟩ us vs Q (E σ) gd room I.env0 bound rel h
  refine wpAny_call (codeAny_mono go fun r s' out => ?_)
  cases r with
  | error x => exact pass pins H s x s' I out
  | ok fl =>
    cases fl with
    | ret u => exact I.after out
    | next => exact False.elim out
    | brk => exact False.elim out
    | cont => exact False.elim out
theorem me_callG {x : Str} {p : Pos} {es : List Expr} {k : Nat} {f : Addr} {fd : FuncData} {ps : List Str} {sp : SpD} {t : TA'} (F : FnG X.prog X.w X.K X.mg X.base k f fd ps (upP X.K sp)) (len : ∀ ds M Q E, sp ds M Q E → ds.length = ps.length) (gd : X.A.guards = some []) (ms : MonoP sp) (hr : Room k X.A) (tk : Takes X W)
    (hg : Gl X x) (hm : X.mg x = some (.ref f)) (hk : PySem.W.keepIn X.K (.ref f) = true) (hb : Binds X.K fd ps []) (ha : MA X W (e :: es) t)
    (hdb : (x == ("__debug__" : Str)) = false := by decide) (he : starEach (e :: es) X.env = (false, eval e X.env) :: starEach es X.env := by rfl) (hpl : (backTo pos (starEach es X.env)).any (·.1) = false := by rfl) :
    ME X W (.Call (.Name x p) (e :: es) [] pos) (tCall' sp t) := by
  have slen : ∀ vs H Q E, upP X.K sp vs H Q E → vs.length = ps.length := fun vs H Q E ⟨w, ds, _, _, hr, h⟩ => by rw [hr.length]; exact len _ _ _ _ h
  have core : PE X (.Call (.Name x p) (e :: es) [] pos) (tCallSD (upP X.K sp) [] (fun σ c d H => W c d σ H) (upA X.K W t)) := by
    refine ⟨fun pins s σ H Q I h => ?_⟩
    refine wpAny_Call_Name_kw (ld_glob I hg hm ?_ hdb)
    refine PySem.W.callWith_K (h₀ := X.base) I.ok.mod.kin hk (thn (ha.pa.run pos pins s σ H _ I h) fun us s1 ⟨vs, H1, I1, rel, q⟩ => ⟨I1.kIn, ?_⟩) he hpl
    have q2 : upP X.K sp vs H1 Q (fun c d H => W c d σ H) := by
      have q3 : upP X.K sp (vs ++ []) H1 Q (fun c d H => W c d σ H) := q
      rwa [List.append_nil] at q3
    exact runFnG (E := fun σ c d H => W c d σ H) F slen gd hr hb (fun pins H s e s' I c => tk e s' (XE.of_call I (fun _ _ _ h => h) c)) I1 rel q2
  exact ⟨PE.imp core fun σ H Q ⟨w, δ, e, rh, rs, h1⟩ => by
    subst e
    refine upA_go ha.mono rh rs h1 (fun _ _ x => x) fun d v w1 l1 rh1 rs1 rv h2 => ?_
    exact ⟨w1, d, rfl, rh1, by rw [List.append_nil]; exact rv, ms _ _ _ _ _ _ (fun d M q => q.le rh rh1 l1) (fun x M q => q.le rh rh1 l1) h2⟩,
   fun δ M Q Q' E E' q x hh => ha.mono _ _ _ _ _ _ (fun d M1 h1 => ms _ _ _ _ _ _ q x h1) x hh⟩
end MD
namespace MD
open PySem PySem.Spec PyProof.Rows L2
variable {K : PySem.W.Frag} {w w1 w2 : Wd} {X : Cx} {W : WX} {e a b c : Expr} {pos : Pos}
/-! enumerate(a list that nobody writes) -/
def enumD (ds : List D) : List D := ds.mapIdx fun i d => .tup [.int (i : Int), d]
theorem enumD_at {ds : List D} {i : Nat} {x : D} (h : (enumD ds)[i]? = some x) : ∃ d, ds[i]? = some d ∧ x = .tup [.int (i : Int), d] := by
  unfold enumD at h
  rw [List.getElem?_mapIdx] at h
  obtain ⟨d, hd, rfl⟩ := Option.map_eq_some_iff.mp h
  exact ⟨d, hd, rfl⟩
theorem enumD_length (ds : List D) : (enumD ds).length = ds.length := by simp [enumD]
theorem itOk_enum {p : Addr} {ds : List D} {w0 : Wd} (hl : ∀ w2, Le w0 w2 → RH K w2 → ∃ xs, SqL K w2.H p xs ∧ RepL K w2 ds xs) :
    ItOk K ⟨enumD ds, none⟩ (Ite K p) w0 := by
  intro w2 l r st
  obtain ⟨xs, hs, hr⟩ := hl w2 l r
  refine ⟨⟨xs, hs, by rw [enumD_length, hr.length]; exact Nat.le_refl _⟩, fun i x hx => ?_⟩
  obtain ⟨d, hd, rfl⟩ := enumD_at hx
  obtain ⟨y, hy, ry⟩ : ∃ y, xs[i]? = some y ∧ Rep K w2 d y := by
    have := hr.length
    have hi := (List.getElem?_eq_some_iff.mp hd).1
    have := atI_rep (i := (i : Int)) hr (atI_n (by omega) (by simpa using hd))
    obtain ⟨y, e, ry⟩ := this
    refine ⟨y, ?_, ry⟩
    unfold atI ixN at e
    rw [if_pos (by omega), if_pos (by omega)] at e
    simpa using e
  refine ⟨⟨xs, y, hs, hy⟩, ?_⟩
  rintro x H' ⟨T, x', rfl, hT, rfl, hx'⟩
  have : x' = y := by
    have := hx' xs hs
    rw [hy] at this
    exact (Option.some.inj this).symm
  subst this
  exact ⟨w2.new T (.tup [.int (i : Nat), x']), rfl, rfl, Le.new hT, r.new hT, rep_new_tup r hT (RepL.cons (by simp [Rep]) (RepL.cons ry RepL.nil))⟩
def tEnum' (t : TA') : TI' := fun δ M R E => t δ M (fun dl M1 => ∃ ds, dl = [.lst ds] ∧ R ⟨enumD ds, none⟩ M1) E
theorem mi_enum {p tpos : Pos} {elts : List Expr} {kk : Nat} {t : TA'} (hg : Gl X "enumerate") (hm : X.mg "enumerate" = none) (ha : MA X W [e] t) (hs : starEach [e] X.env = [(false, eval e X.env)] := by rfl) :
    MI X W (.Tuple elts kk tpos) (.Call (.Name "enumerate" p) [e] [] pos) (tEnum' t) :=
  ⟨PI.imp (pi_enum hg hm ha.pa hs) fun σ H R ⟨w, δ, eH, rh, rs, q⟩ => by
    subst eH
    refine upA_go ha.mono rh rs q (fun _ _ x => x) fun dl vl w1 l1 rh1 rs1 rv ⟨ds, e1, h1⟩ => ?_
    subst e1
    obtain ⟨v1, r1, e2, rv1, e3⟩ := rv
    have e3 : r1 = [] := e3
    subst e2 e3
    obtain ⟨a, xs, e4, hl, nl, nr, hr⟩ := rv1
    subst e4
    exact ⟨a, xs, rfl, SqL.of hl, h1 _ w1 rfl l1 rh1 (itOk_enum fun w2 l r => ⟨xs, SqL.of (l.keep a _ hl nl), RepL.le rh1 l _ hr⟩) trivial⟩,
   fun δ M Q Q' E E' q x hh => ha.mono _ _ _ _ _ _ (fun d M1 ⟨ds, e1, h1⟩ => ⟨ds, e1, q _ _ h1⟩) x hh⟩
@[simp] theorem u_enum {t : TA'} {δ : EnvD} {M : MH} {R : ItD → MH → Prop} {E : QX} : tEnum' t δ M R E ↔ t δ M (fun dl M1 => ∃ ds, dl = [.lst ds] ∧ R ⟨enumD ds, none⟩ M1) E := Iff.rfl
end MD
namespace PySem
open AutoSeq1 (wpAny_loadPart')
open Sem (wp)
theorem meets_enumerate_newTup (l : Addr) (items : Array Value) (n : Nat) (dct : Option Addr) (sl : Array (Option Value)) :
    Meets (Builtin.«enumerate.__new__» ⟨[.type "enumerate", .ref l], []⟩) (fun _ R s => s.heap.get? l = some { cls := .type "tuple", dict := dct, data := .seq items n, slots := sl } ∧
      R (.ok (.ret (.ref (s.heap.push { cls := .type "tuple_iterator", data := .fields #[.ref l, .int 0 0] }).objs.size)))
        { s with heap := (s.heap.push { cls := .type "tuple_iterator", data := .fields #[.ref l, .int 0 0] }).push { cls := .type "enumerate", data := .fields #[.none, .bool false, .ref s.heap.objs.size, rawInt 0, .none, .none] } }) :=
  .of_wp fun prog w A R s h => by
    obtain ⟨hp, g, d, tk, os⟩ := s; obtain ⟨hl, h⟩ := h
    have hsub := sub_enumerate
    have hL : Heap.IsTuple (Shared.heap ⟨hp, g, d, tk, os⟩) l items := ⟨_, hl, rfl, n, rfl⟩
    wp_walk using wpAny_loadPart' hl
    refine wpAny_stack_any fun st => wpAny_pure ?_
    split
    · rename_i c _ _ _ _ _
      cases (c == Value.type "enumerate")
      · wp_walk using wpAny_loadPart' hl, wpAny_pyIter_tuple hL
        exact ⟨_, rfl, h⟩
      · wp_walk using wpAny_loadPart' hl, wpAny_pyIter_tuple hL
        exact ⟨_, rfl, h⟩
    · wp_walk using wpAny_loadPart' hl, wpAny_pyIter_tuple hL
      exact ⟨_, rfl, h⟩
section
variable {prog : Program} {w : World} {A : Around} {E : Value → Shared → Prop} {s : Shared}
theorem call_enumerate_tup {l : Addr} {items : Array Value} {Q : Value → Shared → Prop} (hL : s.heap.IsTuple l items)
    (h : ∀ h', IsEnum h' (s.heap.objs.size + 1) s.heap.objs.size 0 .none → h'.IsTupleIter s.heap.objs.size l 0 → h'.objs.size = s.heap.objs.size + 2 →
      (∀ b o, s.heap.get? b = some o → h'.get? b = some o) → Q (.ref (s.heap.objs.size + 1)) { s with heap := h' }) :
    wpAny (model prog w) A (call (.type "enumerate") [.ref l]) Q E s := by
  obtain ⟨⟨c, dct, dt, sl⟩, hl, hc, n, hd⟩ := hL
  replace hc : c = .type "tuple" := hc
  replace hd : dt = .seq items n := hd
  subst hc hd
  refine callType_new F.called_enumerate (by decide) (F.typeCall_enumerate_1 _) (F.newCall_enumerate_1 _) (fun obj => F.args_object_init_2 obj _) F.entry_enumerate_new
    (meets_enumerate_newTup l items n dct sl) ⟨hl, ?_⟩
  have hz : (s.heap.push { cls := .type "tuple_iterator", data := .fields #[.ref l, .int 0 0] }).objs.size = s.heap.objs.size + 1 := Heap.size_push ..
  show _ ∧ _
  rw [hz]
  have he : IsEnum ((s.heap.push { cls := .type "tuple_iterator", data := .fields #[.ref l, .int 0 0] }).push
      { cls := .type "enumerate", data := .fields #[.none, .bool false, .ref s.heap.objs.size, rawInt 0, .none, .none] }) (s.heap.objs.size + 1) s.heap.objs.size 0 .none := by
    have := Heap.get?_push_size (s.heap.push { cls := .type "tuple_iterator", data := .fields #[.ref l, .int 0 0] })
      (o := { cls := .type "enumerate", data := .fields #[.none, .bool false, .ref s.heap.objs.size, rawInt 0, .none, .none] }) rfl
    rw [hz] at this; exact this
  refine ⟨⟨_, he, rfl⟩, h _ he ⟨_, Heap.get?_push_of_some _ (Heap.get?_push_size _ rfl), rfl, rfl⟩ (by rw [Heap.size_push, hz]) fun b o x => Heap.get?_push_of_some _ (Heap.get?_push_of_some _ x)⟩
theorem wpAny_pyNext_enum_endT {e it l : Addr} {i : Nat} {items : Array Value} {old : Value} {Q : Option Value → Shared → Prop} (hh : A.handled = none)
    (he : IsEnum s.heap e it i old) (hit : s.heap.IsTupleIter it l i) (hl : s.heap.IsTuple l items) (hx : items[i]? = none)
    (hQ : ∀ h', Heap.ExtBut it s.heap h' → Q none { s with heap := h' }) : wpAny (model prog w) A (pyNext (.ref e)) Q E s := by
  have hT : s.TypeIs (.ref e) "enumerate" := ⟨_, he, rfl⟩
  unfold pyNext
  refine wpAny_bind (wpAny_attempt (wpAny_callSpecial?_slot (name := Str.ofString "__next__") hT F.slot_enumerate_next
    (wpAny_call_entry F.slot_enumerate_next hT F.entry_enumerate_next ?_ (F.args_enumerate_next_1 _))))
  show wpAny _ _ (field (.ref e) 2 >>= _) _ _ _
  refine wpAny_bind (wpAny_field he rfl (x := .ref it) rfl ?_)
  refine wpAny_bind (wpAny_nextOf_tuple_end hh hit hl hx fun h' x he' hx' => ?_)
  obtain ⟨o, ho, hc⟩ := hx'
  refine wpAny_bind (wpAny_isInstance (T := "StopIteration") (b := true) ⟨o, ho, hc⟩ isSubtype_stop ?_)
  exact wpAny_pure (hQ _ he')
end
end PySem
namespace MD
open PySem PySem.Spec PyProof.Rows L2
variable {K : PySem.W.Frag} {w w1 w2 : Wd} {X : Cx} {W : WX} {e a b c : Expr} {pos : Pos}
/-! enumerate over a tuple, or a list that nobody writes -/
def IteT (K : PySem.W.Frag) (a : Addr) : It :=
  ⟨fun i H => ∃ (xs : List V) (x : V), SqT K H a xs ∧ xs[i]? = some x, fun i H v H' => ∃ T x, v = .ref T ∧ H T = none ∧ H' = upd H T (.tup [.int (i : Nat), x]) ∧ ∀ xs, SqT K H a xs → xs[i]? = some x, fun i H => ∃ xs : List V, SqT K H a xs ∧ xs.length ≤ i⟩
theorem turn_enumT {P : Program} {w : World} {K : PySem.W.Frag} {elts : List Expr} {kk : Nat} {tpos : Pos} (a e it : Addr) :
    Turn P w K (.Tuple elts kk tpos) (IteT K a) [e, it] e (fun i h => (∃ old, IsEnum h e it ((i : Nat) : Int) old) ∧ h.IsTupleIter it a i ∧ e ≠ it) where
  mem := by simp
  obj := fun i h st b hb => by
    obtain ⟨⟨old, he⟩, ⟨o, ho, hc, hd⟩, _⟩ := st
    have e' : b = e ∨ b = it := by simpa using hb
    rcases e' with z | z
    · rw [z]; exact ⟨_, he, fun v q => nomatch q⟩
    · rw [z]; exact ⟨o, ho, fun v q => by rw [hd] at q; cases q⟩
  keep := fun i h h' st k => let ⟨⟨old, he⟩, hi, hne⟩ := st; ⟨⟨old, k e (by simp) _ he⟩, hi.at fun o q => k it (by simp) o q, hne⟩
  item := by
    intro X hP hw hK hc i pins s σ H E I hf st hg
    subst hP hw hK
    obtain ⟨⟨old, he⟩, hit, hne⟩ := st
    obtain ⟨xs, x, hq, hx⟩ := hg
    obtain ⟨its, rv, p, hz⟩ := I.tuple hq
    obtain ⟨u, hu, ru⟩ := rv.get hx
    have hel : e < s.heap.objs.size := Heap.lt_size he
    have hil : it < s.heap.objs.size := by obtain ⟨_, q, _⟩ := hit; exact Heap.lt_size q
    have hni : a ≠ it := by
      rintro rfl
      obtain ⟨o, ho, hc1, hd⟩ := hit
      obtain ⟨o', ho', hc2, _⟩ := p
      rw [ho] at ho'
      cases ho'
      rw [hc1] at hc2
      exact absurd (Value.type.inj hc2) (by decide)
    have hnt : e ≠ a := by
      rintro rfl
      obtain ⟨o', ho', hc2, _⟩ := p
      have he2 := he
      unfold IsEnum at he2
      rw [he2] at ho'
      cases ho'
      exact absurd (Value.type.inj hc2) (by decide)
    have hlt : i < its.toArray.size := by
      have := (List.getElem?_eq_some_iff.mp hu).1
      simpa using this
    have hst0 : s.heap.IsTupleIter it a i ∧ s.heap.IsTuple a its.toArray := ⟨hit, p⟩
    have hef : e ∉ [it, a] := by
      intro hm
      rcases List.mem_cons.mp hm with z | z
      · exact hne z
      · exact hnt (List.mem_singleton.mp z)
    refine wpAny_pyNext_enum_itemD (Draws.tuple (prog := X.prog) (w := X.w) (A := X.A.in1) (I.ok.hd hc) it a hni its.toArray) he hst0 hlt hne hef fun x' h' tk hx' ho hst' hT hsz hk => ?_
    obtain ⟨hit', _⟩ := hst'
    have hxu : x' = u := by
      have hx' : its.toArray[i]? = some x' := hx'
      rw [List.getElem?_toArray, hu] at hx'
      exact (Option.some.inj hx').symm
    subst hxu
    refine ⟨_, rfl, wpAny_letOwnedTupleGo_enum (s := { s with heap := h', toks := tk + 1 }) ho fun h'' he' sb => ?_⟩
    have hT2 : h''.get? s.heap.objs.size = some { cls := .type "tuple", data := .seq #[.int i tk, x'] } := (sb.2 _ (Nat.ne_of_gt hel)).trans hT
    have new : ObjOk X.prog X.w (upd H s.heap.objs.size (.tup [.int (i : Nat), x])) h'' s.heap.objs.size (.tup [.int (i : Nat), x]) :=
      ⟨by show 2 ≤ sizeLine; decide, [.int i tk, x'], .cons ⟨_, rfl⟩ (.cons ru .nil), ⟨_, hT2, rfl, _, rfl⟩⟩
    have I1 : L2.Inv X pins σ (upd H s.heap.objs.size (.tup [.int (i : Nat), x])) { s with heap := h'', toks := tk + 1 } :=
      I.turnedNew (ch := [e, it]) (fun b ob hb q => (sb.2 b (fun z => hb (by simp [z]))).trans (hk b ob (fun z => hb (by simp [z])) (fun z => hb (by simp [z])) q)) hf (Nat.le_refl _) new
    refine ⟨.ref s.heap.objs.size, _, I1, rfl, ⟨_, x, rfl, I.hok.fresh (Nat.le_refl _), rfl, fun ys hy => by rw [I.tuple_inj hy hq]; exact hx⟩, ⟨⟨x', ?_⟩, hit'.at fun o q => (sb.2 it (Ne.symm hne)).trans q, hne⟩, fun b hb => ?_⟩
    · have e1 : ((i + 1 : Nat) : Int) = (i : Int) + 1 := by omega
      rw [e1]; exact he'
    · have hb' : b < s.heap.objs.size := by
        have e' : b = e ∨ b = it := by simpa using hb
        rcases e' with z | z
        · rw [z]; exact hel
        · rw [z]; exact hil
      rw [upd_ne (Nat.ne_of_lt hb')]
      exact (hf b hb).1
  done := by
    intro X hP hw hK hc i pins s σ H E I hf st hg
    subst hP hw hK
    obtain ⟨⟨old, he⟩, hit, hne⟩ := st
    obtain ⟨xs, hq, hx⟩ := hg
    obtain ⟨its, rv, p, hz⟩ := I.tuple hq
    obtain ⟨f0, f1, f2, f3, f4, f5⟩ := hf it (by simp)
    have hl := rv.length
    exact wpAny_pyNext_enum_endT (I.ok.hd hc) he hit p (by simp; omega) fun h' eb => ⟨rfl, I.turned (t' := s.toks) (fun b o hb q => eb b o hb q) f0 f1 f3 f4 f5⟩
  self := fun A i s Q E st h => let ⟨⟨_, he⟩, _⟩ := st; wpAny_pyIter_enum he h
def iEnum2 (K : PySem.W.Frag) (ta : TA) : TI := fun σ H R => ta σ H fun vs H1 => ∃ a xs, vs = [.ref a] ∧ ((SqL K H1 a xs ∧ R (Ite K a) H1) ∨ (SqT K H1 a xs ∧ R (IteT K a) H1))
theorem pi_enum2 {X : Cx} {e : Expr} {ta : TA} {p pos tpos : Pos} {elts : List Expr} {kk : Nat} (hg : Gl X "enumerate") (hm : X.mg "enumerate" = none) (ha : PA X [e] ta) (hs : starEach [e] X.env = [(false, eval e X.env)] := by rfl) :
    PI X (.Tuple elts kk tpos) (.Call (.Name "enumerate" p) [e] [] pos) (iEnum2 X.K ta) := by
  refine ⟨fun pins s σ H R I h => ?_⟩
  refine Call_ (ld_blt I hg hm boot_enumerate (PyProof.Rows.callWith_type1 (thn (ha.run pos pins s σ H _ I h) fun us s1 ⟨vs, H1, I1, r1, q1⟩ => ?_) hs rfl))
  obtain ⟨a, xs, ex, q⟩ := q1
  subst ex
  cases r1 with
  | cons r rr =>
    cases rr
    cases r
    have fp : ∀ b ∈ [s1.heap.objs.size + 1, s1.heap.objs.size], s1.heap.objs.size ≤ b := fun b hb => by
      have e' : b = s1.heap.objs.size + 1 ∨ b = s1.heap.objs.size := by simpa using hb
      rcases e' with z | z
      · rw [z]; exact Nat.le_add_right _ _
      · rw [z]; exact Nat.le_refl _
    rcases q with ⟨hq, q⟩ | ⟨hq, q⟩
    · obtain ⟨its, rv, p', hz⟩ := I1.list hq
      refine call_enumerate_list p'.isList fun h' he hit hsz hk => wpAny_pyIter_enum he ?_
      have I2 : L2.Inv X pins σ H1 { s1 with heap := h' } := I1.kept (t' := s1.toks) hk
      exact ⟨s1.heap.objs.size + 1, [s1.heap.objs.size + 1, s1.heap.objs.size], _, _, H1, rfl, I2, turn_enum a (s1.heap.objs.size + 1) s1.heap.objs.size, ⟨⟨.none, he⟩, hit, Nat.succ_ne_self _⟩, fun b hb => I1.fpOk (fp b hb) (I1.hok.fresh (fp b hb)), q⟩
    · obtain ⟨its, rv, p', hz⟩ := I1.tuple hq
      refine call_enumerate_tup p' fun h' he hit hsz hk => wpAny_pyIter_enum he ?_
      have I2 : L2.Inv X pins σ H1 { s1 with heap := h' } := I1.kept (t' := s1.toks) hk
      exact ⟨s1.heap.objs.size + 1, [s1.heap.objs.size + 1, s1.heap.objs.size], _, _, H1, rfl, I2, turn_enumT a (s1.heap.objs.size + 1) s1.heap.objs.size, ⟨⟨.none, he⟩, hit, Nat.succ_ne_self _⟩, fun b hb => I1.fpOk (fp b hb) (I1.hok.fresh (fp b hb)), q⟩
theorem itOk_enumT {p : Addr} {ds : List D} {w0 : Wd} (hl : ∀ w2, Le w0 w2 → RH K w2 → ∃ xs, SqT K w2.H p xs ∧ RepL K w2 ds xs) :
    ItOk K ⟨enumD ds, none⟩ (IteT K p) w0 := by
  intro w2 l r st
  obtain ⟨xs, hs, hr⟩ := hl w2 l r
  refine ⟨⟨xs, hs, by rw [enumD_length, hr.length]; exact Nat.le_refl _⟩, fun i x hx => ?_⟩
  obtain ⟨d, hd, rfl⟩ := enumD_at hx
  obtain ⟨y, hy, ry⟩ : ∃ y, xs[i]? = some y ∧ Rep K w2 d y := by
    have := hr.length
    have hi := (List.getElem?_eq_some_iff.mp hd).1
    have := atI_rep (i := (i : Int)) hr (atI_n (by omega) (by simpa using hd))
    obtain ⟨y, e, ry⟩ := this
    refine ⟨y, ?_, ry⟩
    unfold atI ixN at e
    rw [if_pos (by omega), if_pos (by omega)] at e
    simpa using e
  refine ⟨⟨xs, y, hs, hy⟩, ?_⟩
  rintro x H' ⟨T, x', rfl, hT, rfl, hx'⟩
  have : x' = y := by
    have := hx' xs hs
    rw [hy] at this
    exact (Option.some.inj this).symm
  subst this
  exact ⟨w2.new T (.tup [.int (i : Nat), x']), rfl, rfl, Le.new hT, r.new hT, rep_new_tup r hT (RepL.cons (by simp [Rep]) (RepL.cons ry RepL.nil))⟩
def tEnum2' (t : TA') : TI' := fun δ M R E => t δ M (fun dl M1 => ∃ ds, (dl = [.lst ds] ∨ dl = [.tup ds]) ∧ R ⟨enumD ds, none⟩ M1) E
theorem mi_enum2 {p tpos : Pos} {elts : List Expr} {kk : Nat} {t : TA'} (hg : Gl X "enumerate") (hm : X.mg "enumerate" = none) (ha : MA X W [e] t) (hs : starEach [e] X.env = [(false, eval e X.env)] := by rfl) :
    MI X W (.Tuple elts kk tpos) (.Call (.Name "enumerate" p) [e] [] pos) (tEnum2' t) :=
  ⟨PI.imp (pi_enum2 hg hm ha.pa hs) fun σ H R ⟨w, δ, eH, rh, rs, q⟩ => by
    subst eH
    refine upA_go ha.mono rh rs q (fun _ _ x => x) fun dl vl w1 l1 rh1 rs1 rv ⟨ds, e1, h1⟩ => ?_
    rcases e1 with e1 | e1 <;> subst e1 <;> obtain ⟨v1, r1, e2, rv1, e3⟩ := rv <;> have e3 : r1 = [] := e3 <;> subst e2 e3
    · obtain ⟨a, xs, e4, hl, nl, nr, hr⟩ := rv1
      subst e4
      exact ⟨a, xs, rfl, .inl ⟨SqL.of hl, h1 _ w1 rfl l1 rh1 (itOk_enum fun w2 l r => ⟨xs, SqL.of (l.keep a _ hl nl), RepL.le rh1 l _ hr⟩) trivial⟩⟩
    · have rv2 := rv1
      obtain ⟨a, xs, e4, hl, hr⟩ := rv1
      subst e4
      refine ⟨a, xs, rfl, .inr ⟨hl, h1 _ w1 rfl l1 rh1 (itOk_enumT fun w2 l r => ?_) trivial⟩⟩
      obtain ⟨a', xs', e5, hl', hr'⟩ := Rep.le rh1 l (.tup ds) rv2
      cases e5
      exact ⟨xs', hl', hr'⟩,
   fun δ M Q Q' E E' q x hh => ha.mono _ _ _ _ _ _ (fun d M1 ⟨ds, e1, h1⟩ => ⟨ds, e1, q _ _ h1⟩) x hh⟩
@[simp] theorem u_enum2 {t : TA'} {δ : EnvD} {M : MH} {R : ItD → MH → Prop} {E : QX} : tEnum2' t δ M R E ↔ t δ M (fun dl M1 => ∃ ds, (dl = [.lst ds] ∨ dl = [.tup ds]) ∧ R ⟨enumD ds, none⟩ M1) E := Iff.rfl
end MD
namespace MD
open PySem PySem.Spec PyProof.Rows L2
variable {K : PySem.W.Frag} {w w1 w2 : Wd} {X : Cx} {W : WX}
/-! max, min of a list of whole numbers -/
def cMaxL : RA' := fun ds M Q => ∃ (d : D) (es : List D) (ns : List Int), ds = [d] ∧ lstOf d M = some es ∧ es = ns.map D.int ∧ 0 < ns.length ∧ ∀ m, m ∈ ns → (∀ y, y ∈ ns → y ≤ m) → Q (.int m) M
def cMinL : RA' := fun ds M Q => ∃ (d : D) (es : List D) (ns : List Int), ds = [d] ∧ lstOf d M = some es ∧ es = ns.map D.int ∧ 0 < ns.length ∧ ∀ m, m ∈ ns → (∀ y, y ∈ ns → m ≤ y) → Q (.int m) M
theorem repL_ints_eq : ∀ {ns : List Int} {xs : List V}, RepL K w (ns.map D.int) xs → xs = ns.map V.int
  | [], xs, h => h
  | n :: ns, xs, h => by
    obtain ⟨x, r, rfl, hx, hr⟩ := h
    rw [rep_int hx, repL_ints_eq hr]
    rfl
theorem la_maxL : LiftA K (rMax K) cMaxL := by
  intro w xs ds Q rh r ⟨d, es, ns, e, e1, e2, h0, q⟩
  subst e e2
  obtain ⟨v, rfl, rv⟩ := rep1 r
  obtain ⟨a, ys, rfl, hy, hr⟩ := lstOf_rep rh rv e1
  rw [repL_ints_eq hr] at hy
  exact ⟨a, ns, rfl, SqL.of hy, h0, fun m h1 h2 => PV.here rh (q m h1 h2) rep_mk_int⟩
theorem la_minL : LiftA K (rMin K) cMinL := by
  intro w xs ds Q rh r ⟨d, es, ns, e, e1, e2, h0, q⟩
  subst e e2
  obtain ⟨v, rfl, rv⟩ := rep1 r
  obtain ⟨a, ys, rfl, hy, hr⟩ := lstOf_rep rh rv e1
  rw [repL_ints_eq hr] at hy
  exact ⟨a, ns, rfl, SqL.of hy, h0, fun m h1 h2 => PV.here rh (q m h1 h2) rep_mk_int⟩
theorem mr_maxL : MonoR cMaxL := fun ds M Q Q' q ⟨d, es, ps, e, e1, e2, e3, h⟩ => ⟨d, es, ps, e, e1, e2, e3, fun p a b => q _ _ (h p a b)⟩
theorem mr_minL : MonoR cMinL := fun ds M Q Q' q ⟨d, es, ps, e, e1, e2, e3, h⟩ => ⟨d, es, ps, e, e1, e2, e3, fun p a b => q _ _ (h p a b)⟩
@[simp] theorem u_maxL {ds : List D} {M : MH} {Q : QE} : cMaxL ds M Q ↔ ∃ (d : D) (es : List D) (ns : List Int), ds = [d] ∧ lstOf d M = some es ∧ es = ns.map D.int ∧ 0 < ns.length ∧ ∀ m, m ∈ ns → (∀ y, y ∈ ns → y ≤ m) → Q (.int m) M := Iff.rfl
@[simp] theorem u_minL {ds : List D} {M : MH} {Q : QE} : cMinL ds M Q ↔ ∃ (d : D) (es : List D) (ns : List Int), ds = [d] ∧ lstOf d M = some es ∧ es = ns.map D.int ∧ 0 < ns.length ∧ ∀ m, m ∈ ns → (∀ y, y ∈ ns → m ≤ y) → Q (.int m) M := Iff.rfl
end MD
namespace MD
open PySem PySem.Spec PyProof.Rows L2
variable {K : PySem.W.Frag} {w w1 w2 : Wd} {X : Cx} {W : WX}
/-! a member of a tuple or a list of nested data -/
def rInN (K : PySem.W.Frag) (neg : Bool) : V → V → Hp → VK → Prop := fun x y H Q => ∃ d t ds, Dp K H x d ∧ Dp K H y t ∧ (t = .list ds ∨ t = .tuple ds) ∧ SeqAt.shaped d = true ∧ SeqAt.shaped t = true ∧ Q (.bl (if neg then !ds.any fun z => PyData.eqv z d else ds.any fun z => PyData.eqv z d)) H
theorem op_inN (hu : X.A.units + 65 < cLine) : OpR X (compareOp .In) (rInN X.K false) := by
  intro pins s σ H x y v u Q I rx ry h
  obtain ⟨d, t, ds, hd, he, ht, sd, se, q⟩ := h
  obtain ⟨as, r1⟩ := Dp.reads I d x v hd rx
  obtain ⟨bs, r2⟩ := Dp.reads I t y u he ry
  rcases ht with rfl | rfl
  · exact SeqAt.in_list_reads r2 r1 (SeqAt.canLay_of_shaped se) (SeqAt.canLay_of_shaped sd) (room_in_shaped sd hu) ⟨.bl _, H, I, rfl, q⟩
  · exact SeqAt.in_tuple_reads r2 r1 (SeqAt.canLay_of_shaped se) (SeqAt.canLay_of_shaped sd) (room_in_shaped sd hu) ⟨.bl _, H, I, rfl, q⟩
theorem op_notInN (hu : X.A.units + 65 < cLine) : OpR X (compareOp .NotIn) (rInN X.K true) := by
  intro pins s σ H x y v u Q I rx ry h
  obtain ⟨d, t, ds, hd, he, ht, sd, se, q⟩ := h
  obtain ⟨as, r1⟩ := Dp.reads I d x v hd rx
  obtain ⟨bs, r2⟩ := Dp.reads I t y u he ry
  rcases ht with rfl | rfl
  · exact SeqAt.notIn_list_reads r2 r1 (SeqAt.canLay_of_shaped se) (SeqAt.canLay_of_shaped sd) (room_in_shaped sd hu) ⟨.bl _, H, I, rfl, q⟩
  · exact SeqAt.notIn_tuple_reads r2 r1 (SeqAt.canLay_of_shaped se) (SeqAt.canLay_of_shaped sd) (room_in_shaped sd hu) ⟨.bl _, H, I, rfl, q⟩
def inDD (x : D) (ds : List D) : Bool := ds.any fun z => deq z x
def oInN (neg : Bool) : R2' := fun x y M Q => eqOk x ∧ eqOk y ∧ ∃ ds, (y = .tup ds ∨ y = .lst ds) ∧ Q (.bl (if neg then !inDD x ds else inDD x ds)) M
theorem any_py (x : D) : ∀ ds : List D, ((D.pyL ds).any fun z => PyData.eqv z x.py) = inDD x ds
  | [] => rfl
  | d :: r => by
    unfold D.pyL inDD
    rw [List.any_cons, List.any_cons, any_py x r]
    rfl
theorem lf_inN {neg : Bool} : Lift2 K (rInN K neg) (oInN neg) := by
  intro w x y dx dy Q rh rx ry ⟨⟨fx, sx⟩, ⟨fy, sy⟩, ds, e, h⟩
  have h1 := Rep.dp dx fx rx
  have h2 := Rep.dp dy fy ry
  refine ⟨dx.py, dy.py, D.pyL ds, h1, h2, ?_, sx, sy, ?_⟩
  · rcases e with rfl | rfl
    · exact .inr rfl
    · exact .inl rfl
  · rw [any_py]
    exact PV.here rh h rep_mk_bl
theorem mn_inN {neg : Bool} : Mono2 (oInN neg) := fun x y M Q Q' q ⟨fx, fy, ds, e, h⟩ => ⟨fx, fy, ds, e, q _ _ h⟩
@[simp] theorem u_inN {neg : Bool} {x y : D} {M : MH} {Q : QE} : oInN neg x y M Q ↔ eqOk x ∧ eqOk y ∧ ∃ ds, (y = .tup ds ∨ y = .lst ds) ∧ Q (.bl (if neg then !inDD x ds else inDD x ds)) M := Iff.rfl
end MD
namespace MD
open PySem PySem.Spec PyProof.Rows L2
open AutoSeq1 (wpAny_loadPart')
theorem tuple_mul1 (l : Addr) (items : Array Value) (n : Nat) (sl : Array (Option Value)) (u : Tok) (dd : Option Addr) :
    Meets (Builtin.«tuple.__mul__» ⟨[.ref l, .int 1 u], []⟩) (fun _ R s => s.heap.get? l = some { cls := .type "tuple", dict := dd, data := .seq items n, slots := sl } ∧ R (.ok (.ret (Value.ref l))) s) :=
  .of_wp fun prog w A R s h => by
    obtain ⟨hp, g, d, tk, os⟩ := s
    obtain ⟨hl, h⟩ := h
    have f1 := AutoSeq1.idx_int
    have c0 : (decide ((1 : Int) < -(2 ^ 63)) || decide ((1 : Int) ≥ 2 ^ 63)) = false := by decide
    have c1 : (items.isEmpty || (1 : Int) == 1) = true := by simp
    wp_walk using wpAny_loadPart' hl
    exact ⟨_, rfl, h⟩
def rRepT1 (K : PySem.W.Frag) : R2 := fun x y H Q => ∃ l xs, x = .ref l ∧ y = .int 1 ∧ SqT K H l xs ∧ Q (.ref l) H
theorem op_repT1 {X : Cx} : OpR X (binaryOp .Mult) (rRepT1 X.K) := by
  intro pins s σ H x y v u Q I rx ry h
  obtain ⟨l, xs, rfl, rfl, hT, q⟩ := h
  cases rx
  obtain ⟨t, rfl⟩ := ry
  obtain ⟨its, r, ⟨⟨cls, dd, data, sl⟩, ho, hc, n, hd⟩, hs⟩ := I.tuple hT
  simp only at hc hd
  subst hc hd
  exact wpAny_binaryOp_repeat_ref (T := "tuple") (U := "int") (by decide) ⟨_, ho, rfl⟩ (fun s' => typeIs_int s' 1 t) noFill_tuple_mul F.fills_int_mul F.slot_int_rmul repeat_tuple F.slot_int_index.lookup
    (call_meets F.slot_int_rmul (typeIs_int s 1 t) F.entry_int_rmul (F.args_int_rmul_2 _ _) (int_rmul_tuple 1 t l its.toArray n dd sl)
      ⟨ho, rfl, ⟨_, ho, rfl⟩, call_meets F.slot_tuple_mul ⟨_, ho, rfl⟩ F.entry_tuple_mul (F.args_tuple_mul_2 _ _) (tuple_mul1 l its.toArray n sl t dd) ⟨ho, ⟨.ref l, H, I, rfl, q⟩⟩⟩)
/-- a tuple that is not empty, once or more -/
def oMulT : R2' := fun x y M Q => ∃ ds k, x = .tup ds ∧ y = .int k ∧ ds ≠ [] ∧ 1 ≤ k ∧ k ≤ 1000 ∧ ds.length ≤ 1000 ∧ Q (.tup (List.replicate k.toNat ds).flatten) M
abbrev rMulT (K : PySem.W.Frag) : R2 := fun x y H Q => rRepT1 K x y H Q ∨ rRepT K x y H Q
theorem op_mulT {X : Cx} : OpR X (binaryOp .Mult) (rMulT X.K) := OpR.or op_repT1 op_repT
theorem lf_mulT {K : PySem.W.Frag} : Lift2 K (rMulT K) oMulT := by
  intro w x y dx dy Q rh rx ry ⟨ds, k, e1, e2, hne, h1, h2, hl, q⟩
  subst e1 e2
  have ry := rep_int ry
  subst ry
  have rx0 := rx
  obtain ⟨a, xs, rfl, hs, hr⟩ := rx
  by_cases hk : k = 1
  · subst hk
    have ef : (List.replicate (1 : Int).toNat ds).flatten = ds := by
      show (List.replicate 1 ds).flatten = ds
      simp
    rw [ef] at q
    exact .inl ⟨a, xs, rfl, rfl, hs, PV.here rh q rx0⟩
  · refine .inr ⟨a, k, xs, rfl, rfl, hs, ?_, by omega, h2, by rw [hr.length]; exact hl, fun p hn => ?_⟩
    · intro e
      subst e
      have := hr.length
      exact hne (List.eq_nil_of_length_eq_zero (by simpa using this.symm))
    · exact q (.ref p) (w.new p (.tup (List.replicate k.toNat xs).flatten)) rfl (Le.new hn) (rh.new hn) (rep_new_tup rh hn (hr.replicate _))
theorem mn_mulT : Mono2 oMulT := fun x y M Q Q' q ⟨ds, k, e1, e2, h1, h2, h3, h4, h⟩ => ⟨ds, k, e1, e2, h1, h2, h3, h4, q _ _ h⟩
@[simp] theorem u_mulT {x y : D} {M : MH} {Q : QE} : oMulT x y M Q ↔ ∃ ds k, x = .tup ds ∧ y = .int k ∧ ds ≠ [] ∧ 1 ≤ k ∧ k ≤ 1000 ∧ ds.length ≤ 1000 ∧ Q (.tup (List.replicate k.toNat ds).flatten) M := Iff.rfl
end MD
namespace MD
open PySem PySem.Spec PyProof.Rows L2
variable {K : PySem.W.Frag} {w w1 w2 : Wd} {X : Cx} {W : WX} {e a b c : Expr} {pos : Pos}
/-! xs[::-1] of a list -/
def tRev' (cell : Bool) (te : TE') : TE' := fun δ M Q E => te δ M (fun d M1 => ∃ es, lstOf d M1 = some es ∧ newL cell es.reverse M1 Q) E
theorem RepL.reverse {ds : List D} {xs : List V} (h : RepL K w ds xs) : RepL K w ds.reverse xs.reverse := by
  induction ds generalizing xs with
  | nil => have h : xs = [] := h; subst h; exact RepL.nil
  | cons d ds ih =>
    obtain ⟨x, r, rfl, hx, hr⟩ := h
    rw [List.reverse_cons, List.reverse_cons]
    exact (ih hr).append (RepL.cons hx RepL.nil)
theorem me_rev {cell : Bool} {te : TE'} {k : Nat} {p1 p2 p3 : Pos} (he : ME X W e te) : ME X W (.Subscript e (.Slice none none (some (.UnaryOp .USub (.Constant (.int 1) k p1) p2)) p3) pos) (tRev' cell te) :=
  ⟨PE.imp (pe_revL he.pe) fun σ H Q ⟨w, δ, eH, rh, rs, h⟩ => by
    subst eH
    refine up_go he.mono rh rs h (fun _ _ x => x) fun d v w1 l1 rh1 rs1 rv ⟨es, e1, h1⟩ => ?_
    obtain ⟨a, xs, rfl, hx, hr⟩ := lstOf_rep rh1 rv e1
    exact ⟨a, xs, rfl, SqL.of hx, newL.lift rh1 hr.reverse (h1.mono fun d M q => q.le rh rh1 l1)⟩,
   fun δ M Q Q' E E' q x h => he.mono _ _ _ _ _ _ (fun d M1 ⟨es, e1, h1⟩ => ⟨es, e1, h1.mono q⟩) x h⟩
@[simp] theorem u_rev {cell : Bool} {te : TE'} {δ : EnvD} {M : MH} {Q : QE} {E : QX} : tRev' cell te δ M Q E ↔ te δ M (fun d M1 => ∃ es, lstOf d M1 = some es ∧ newL cell es.reverse M1 Q) E := Iff.rfl
/-! range with three numbers -/
def rangeC (lo c : Int) (n : Nat) : List D := (List.range n).map fun (i : Nat) => D.int (lo + (i : Int) * c)
theorem rangeC_length {lo c : Int} {n : Nat} : (rangeC lo c n).length = n := by simp [rangeC]
theorem itOk_rangeC {lo c : Int} {n : Nat} {w0 : Wd} : ItOk K ⟨rangeC lo c n, none⟩ (Itc lo c n) w0 := by
  intro w2 l r st
  refine ⟨by show n ≤ (rangeC lo c n).length; rw [rangeC_length]; exact Nat.le_refl _, fun i d hd => ?_⟩
  have hd' : (rangeC lo c n)[i]? = some d := hd
  have hi : i < n := by
    have := (List.getElem?_eq_some_iff.mp hd').1
    rwa [rangeC_length] at this
  unfold rangeC at hd'
  rw [List.getElem?_map, List.getElem?_range hi] at hd'
  cases hd'
  refine ⟨hi, fun y H' ⟨e, ey⟩ => ⟨w2, e.symm, rfl, Le.refl _, r, ?_⟩⟩
  subst ey; simp [Rep]
def tRng3' (ta : TA') : TI' := fun δ M R E => ta δ M (fun ds M1 => ∃ (i j c : Int) (n : Nat), ds = [.int i, .int j, .int c] ∧ RgC i j c n ∧ R ⟨rangeC i c n, none⟩ M1) E
theorem mi_range3 {tg : Expr} {ta : TA'} {p pos : Pos} (hg : Gl X "range") (hm : X.mg "range" = none) (ha : MA X W [a, b, c] ta)
    (hs : starEach [a, b, c] X.env = (false, eval a X.env) :: starEach [b, c] X.env := by rfl) (hpl : (backTo pos (starEach [b, c] X.env)).any (·.1) = false := by rfl) : MI X W tg (.Call (.Name "range" p) [a, b, c] [] pos) (tRng3' ta) :=
  ⟨PI.imp (pi_range3 hg hm ha.pa hs hpl) fun σ H R ⟨w, δ, eH, rh, rs, q⟩ => by
    subst eH
    refine upA_go ha.mono rh rs q (fun _ _ x => x) fun d v w1 l1 rh1 rs1 rv ⟨i, j, k, n, e, h1, h3⟩ => ?_
    subst e
    obtain ⟨v1, r1, e, rv1, v2, r2, e2, rv2, v3, r3, e3, rv3, e4⟩ := rv
    have e4 : r3 = [] := e4
    subst e e2 e3 e4
    exact ⟨i, j, k, n, by rw [rep_int rv1, rep_int rv2, rep_int rv3], h1, h3 _ w1 rfl l1 rh1 itOk_rangeC trivial⟩,
   fun δ M Q Q' E E' q x hh => ha.mono _ _ _ _ _ _ (fun d M1 ⟨i, j, k, n, e, h1, h3⟩ => ⟨i, j, k, n, e, h1, q _ _ h3⟩) x hh⟩
@[simp] theorem u_rng3 {ta : TA'} {δ : EnvD} {M : MH} {R : ItD → MH → Prop} {E : QX} : tRng3' ta δ M R E ↔ ta δ M (fun ds M1 => ∃ (i j c : Int) (n : Nat), ds = [.int i, .int j, .int c] ∧ RgC i j c n ∧ R ⟨rangeC i c n, none⟩ M1) E := Iff.rfl
end MD
namespace MD
open PySem PySem.Spec PyProof.Rows L2
variable {K : PySem.W.Frag} {w w1 w2 : Wd}
/-! texts: split, join, lstrip -/
theorem RepL.strs : ∀ (ys : List Str), RepL K w (ys.map D.str) (ys.map V.str)
  | [] => rfl
  | y :: ys => ⟨.str y, ys.map V.str, rfl, rfl, RepL.strs ys⟩
theorem repL_strs : ∀ {ys : List Str} {xs : List V}, RepL K w (ys.map D.str) xs → xs = ys.map V.str
  | [], xs, h => h
  | y :: ys, xs, ⟨v, vs, e, h1, h2⟩ => by rw [e, rep_str h1, repL_strs h2]; rfl
def mSplit (cell : Bool) : RM' := fun x ds M Q => ∃ a b, x = .str a ∧ ds = [.str b] ∧ (b.length == 0) = false ∧ a.length + 2 ≤ sizeLine ∧ newL cell ((Txt.split a b).map D.str) M Q
theorem lm_split {cell : Bool} : LiftM K (fun x xs H Q => ∃ a b, x = .str a ∧ xs = [.str b] ∧ (b.length == 0) = false ∧ a.length + 2 ≤ sizeLine ∧ rNewStrs (Txt.split a b) H Q) (mSplit cell) := by
  intro w x xs d ds Q rh rx rs ⟨a, b, e1, e2, h1, h2, q⟩
  subst e1 e2
  obtain ⟨v, rfl, rv⟩ := rep1 rs
  exact ⟨a, b, rep_str rx, by rw [rep_str rv], h1, h2, newL.lift rh (RepL.strs _) q⟩
theorem mm_split {cell : Bool} : MonoM (mSplit cell) := fun x ds M Q Q' q ⟨a, b, e1, e2, h1, h2, h⟩ => ⟨a, b, e1, e2, h1, h2, h.mono q⟩
def mLstrip : RM' := fun x ds M Q => ∃ a b, x = .str a ∧ ds = [.str b] ∧ a.length ≤ sizeLine ∧ Q (.str (Txt.lstripChars a b)) M
theorem lm_lstrip : LiftM K (fun x xs H Q => ∃ a b, x = .str a ∧ xs = [.str b] ∧ a.length ≤ sizeLine ∧ Q (.str (Txt.lstripChars a b)) H) mLstrip := by
  intro w x xs d ds Q rh rx rs ⟨a, b, e1, e2, h1, q⟩
  subst e1 e2
  obtain ⟨v, rfl, rv⟩ := rep1 rs
  exact ⟨a, b, rep_str rx, by rw [rep_str rv], h1, PV.here rh q rep_mk_str⟩
theorem mm_lstrip : MonoM mLstrip := fun x ds M Q Q' q ⟨a, b, e1, e2, h1, h⟩ => ⟨a, b, e1, e2, h1, q _ _ h⟩
def mJoin : RM' := fun x ds M Q => ∃ a d, ∃ ys : List Str, x = .str a ∧ ds = [d] ∧ seqOf d M = some (ys.map D.str) ∧ (ys.map (·.length)).sum + ys.length * a.length ≤ 16777216 ∧ Q (.str (Txt.join a ys)) M
theorem lm_join : LiftM K (fun x xs H Q => ∃ a p, ∃ ys : List Str, x = .str a ∧ xs = [.ref p] ∧ (SqL K H p (ys.map V.str) ∨ SqT K H p (ys.map V.str)) ∧ (ys.map (·.length)).sum + ys.length * a.length ≤ 16777216 ∧ Q (.str (Txt.join a ys)) H) mJoin := by
  intro w x xs d ds Q rh rx rs ⟨a, d2, ys, e1, e2, e3, h1, q⟩
  subst e1 e2
  obtain ⟨v, rfl, rv⟩ := rep1 rs
  obtain ⟨p, zs, rfl, hy, hr⟩ := seqOf_rep rh rv e3
  rw [repL_strs hr] at hy
  exact ⟨a, p, ys, rep_str rx, rfl, hy, h1, PV.here rh q rep_mk_str⟩
theorem mm_join : MonoM mJoin := fun x ds M Q Q' q ⟨a, d, ys, e1, e2, e3, h1, h⟩ => ⟨a, d, ys, e1, e2, e3, h1, q _ _ h⟩
@[simp] theorem u_split {cell : Bool} {x : D} {ds : List D} {M : MH} {Q : QE} : mSplit cell x ds M Q ↔ ∃ a b, x = .str a ∧ ds = [.str b] ∧ (b.length == 0) = false ∧ a.length + 2 ≤ sizeLine ∧ newL cell ((Txt.split a b).map D.str) M Q := Iff.rfl
@[simp] theorem u_lstrip {x : D} {ds : List D} {M : MH} {Q : QE} : mLstrip x ds M Q ↔ ∃ a b, x = .str a ∧ ds = [.str b] ∧ a.length ≤ sizeLine ∧ Q (.str (Txt.lstripChars a b)) M := Iff.rfl
@[simp] theorem u_join {x : D} {ds : List D} {M : MH} {Q : QE} : mJoin x ds M Q ↔ ∃ a d, ∃ ys : List Str, x = .str a ∧ ds = [d] ∧ seqOf d M = some (ys.map D.str) ∧ (ys.map (·.length)).sum + ys.length * a.length ≤ 16777216 ∧ Q (.str (Txt.join a ys)) M := Iff.rfl
end MD
namespace Kit
open MD L2 PySem
/-! a text cut at every sign c -/
def cuts (c : Nat) : List Nat → List (List Nat)
  | [] => [[]]
  | x :: r => if x = c then [] :: cuts c r else match cuts c r with
    | p :: ps => (x :: p) :: ps
    | [] => [[x]]
theorem cuts_ne (c : Nat) : ∀ l, cuts c l ≠ []
  | [] => by simp [cuts]
  | x :: r => by
    unfold cuts
    split
    · simp
    · split <;> simp
theorem cuts_free (c : Nat) : ∀ l, ∀ p ∈ cuts c l, c ∉ p
  | [], p, h => by simp [cuts] at h; rw [h]; simp
  | x :: r, p, h => by
    unfold cuts at h
    have ih := cuts_free c r
    by_cases hx : x = c
    · rw [if_pos hx] at h
      rcases List.mem_cons.mp h with rfl | h
      · simp
      · exact ih p h
    · rw [if_neg hx] at h
      cases hc : cuts c r with
      | nil => exact absurd hc (cuts_ne c r)
      | cons q qs =>
        rw [hc] at h ih
        rcases List.mem_cons.mp h with rfl | h
        · have := ih q List.mem_cons_self
          simp
          exact ⟨fun z => hx z.symm, this⟩
        · exact ih p (List.mem_cons_of_mem _ h)
theorem join_cuts (c : Nat) : ∀ l, TL.joinL [c] (cuts c l) = l
  | [] => rfl
  | x :: r => by
    have ih := join_cuts c r
    unfold cuts
    cases hc : cuts c r with
    | nil => exact absurd hc (cuts_ne c r)
    | cons q qs =>
      rw [hc] at ih
      by_cases hx : x = c
      · rw [if_pos hx]
        show [] ++ ([c] ++ TL.joinL [c] (q :: qs)) = x :: r
        rw [ih, hx]; rfl
      · rw [if_neg hx]
        cases qs with
        | nil =>
          show x :: q = x :: r
          rw [show q = r from ih]
        | cons q2 qs =>
          show x :: q ++ ([c] ++ TL.joinL [c] (q2 :: qs)) = x :: r
          rw [← ih]; rfl
theorem spl_cuts (c : Nat) (l : List Nat) : TL.spl [c] 0 [] l = cuts c l := by
  have := TL.spl_join (s := c) (S := []) (cuts_ne c l) (cuts_free c l)
  rwa [join_cuts] at this
theorem split_cuts {c : Nat} (hc : c < 256) (x : Str) : Txt.split x ⟨#[c]⟩ = (cuts c x.cps.toList).map SX.S := by
  have := SX.split_S (a := x.cps.toList) (b := [c]) (by simp) (by simp [hc])
  rw [SX.S_tl] at this
  rw [← spl_cuts]
  exact this
/-- parts without the sign, joined and cut again -/
theorem cuts_join {c : Nat} {ps : List (List Nat)} (h : ps ≠ []) (hp : ∀ p ∈ ps, c ∉ p) : cuts c (TL.joinL [c] ps) = ps := by
  rw [← spl_cuts]
  exact TL.spl_join h hp
theorem cuts_none {c : Nat} {l : List Nat} (h : c ∉ l) : cuts c l = [l] := cuts_join (ps := [l]) (by simp) (by simpa using h)
/-- how many spaces stand ahead -/
def lead (l : List Nat) : Nat := (l.takeWhile fun c => c == 32).length
theorem lstrip_len (x : Str) : (Txt.lstripChars x " ").length = x.length - lead x.cps.toList := by
  have hg : ((" " : Str).cps.contains : Nat → Bool) = fun c => c == 32 := by
    funext c
    show (#[32] : Array Nat).contains c = (c == 32)
    rw [Bool.eq_iff_iff]
    simp
  unfold Txt.lstripChars
  rw [hg, PyProof.Rows.stripBy_eq]
  show (Builtin.Str.strSub x (lead x.cps.toList) x.length).length = _
  rw [TL.len_tl, TL.tl_strSub_end, List.length_drop, ← TL.len_tl]
end Kit
/-! try with several clauses: a name, a name noted, two names. -/
namespace MD
open PySem PySem.Spec PyProof.Rows L2
abbrev TSx := Addr → Value → Option Addr → TS
inductive Hx where
  | one (c : Value) (ts : TSx)
  | two (c1 c2 : Value) (ts : TSx)
  | as_ (c : Value) (i : Nat) (ts : TSx)
def asE (i : Nat) (D : Ends) : Ends := { nx := fun σ' H' => D.nx (σ'.set i none) H', rt := D.rt, bk := fun σ' H' => D.bk (σ'.set i none) H', ct := fun σ' H' => D.ct (σ'.set i none) H' }
def wMix (K : PySem.W.Frag) (Wout : WX) (D : Ends) : List Hx → WX
  | [] => Wout
  | .one c ts :: r => fun cls d σ H => ∃ b, PySem.W.exmOne K cls c = some b ∧ (b = true → ∀ a, H a = none → ts a cls d D σ H) ∧ (b = false → wMix K Wout D r cls d σ H)
  | .two c1 c2 ts :: r => fun cls d σ H => ∃ b, PySem.W.exmAny K cls [c1, c2] = some b ∧ (b = true → ∀ a, H a = none → ts a cls d D σ H) ∧ (b = false → wMix K Wout D r cls d σ H)
  | .as_ c i ts :: r => fun cls d σ H => ∃ b, PySem.W.exmOne K cls c = some b ∧ (b = true → ∀ a, H a = none → ts a cls d (asE i D) (σ.set i (some (.ref a))) H) ∧ (b = false → wMix K Wout D r cls d σ H)
inductive HdsMix (X : Cx) : List ExceptHandler → List Hx → Prop
  | nil : HdsMix X [] []
  | one {x : Str} {c : Value} {ts : TSx} {b₀ : Stmt} {suite : List Stmt} {np pos' : Pos} {hds : List ExceptHandler} {l : List Hx} (hc : Names X x c)
      (hsu : ∀ (a : Addr) (oe : Obj) (cls : Value) (d : Option Addr) (pn : List (Addr × Obj)), Zc cls d oe → (∃ vs, oe.data = .fields vs) → PSs (X.suite a ((a, oe) :: pn)) (b₀ :: suite) (ts a cls d)) (r : HdsMix X hds l) :
      HdsMix X (.ExceptHandler (some (.Name x np)) none (b₀ :: suite) pos' :: hds) (.one c ts :: l)
  | two {x1 x2 : Str} {c1 c2 : Value} {ts : TSx} {b₀ : Stmt} {suite : List Stmt} {p1 p2 np pos' : Pos} {kk : Nat} {hds : List ExceptHandler} {l : List Hx} (hc1 : Names X x1 c1) (hc2 : Names X x2 c2)
      (hsu : ∀ (a : Addr) (oe : Obj) (cls : Value) (d : Option Addr) (pn : List (Addr × Obj)), Zc cls d oe → (∃ vs, oe.data = .fields vs) → PSs (X.suite a ((a, oe) :: pn)) (b₀ :: suite) (ts a cls d)) (r : HdsMix X hds l) :
      HdsMix X (.ExceptHandler (some (.Tuple [.Name x1 p1, .Name x2 p2] kk np)) none (b₀ :: suite) pos' :: hds) (.two c1 c2 ts :: l)
  | as_ {x n : Str} {i : Nat} {c : Value} {ts : TSx} {b₀ : Stmt} {suite : List Stmt} {np pos' : Pos} {hds : List ExceptHandler} {l : List Hx} (hN : X.N.Nodup) (hi : X.N[i]? = some n) (hln : X.env.kindOf n = some .local) (hc : Names X x c)
      (hsu : ∀ (a : Addr) (oe : Obj) (cls : Value) (d : Option Addr) (pn : List (Addr × Obj)), Zc cls d oe → (∃ vs, oe.data = .fields vs) → PSs (X.suite a ((a, oe) :: pn)) (b₀ :: suite) (ts a cls d)) (r : HdsMix X hds l) :
      HdsMix X (.ExceptHandler (some (.Name x np)) (some n) (b₀ :: suite) pos' :: hds) (.as_ c i ts :: l)
theorem flying_keeps {base h h' : Heap} {l : List Env} {e : Addr} {Z : Obj → Prop} (k : ∀ b o, h.get? b = some o → h'.get? b = some o) (x : HandSPX.FlyingZ base l e Z h) : HandSPX.FlyingZ base l e Z h' := by
  obtain ⟨x1, x2, x3, oe, vs, T, oT, ts, y1, y2, y3, y4, y5, y6, y7, y8, y9⟩ := x
  exact ⟨fun b o q => k _ _ (x1 b o q), x2, x3.of_keeps fun b o q _ => ⟨o, k _ _ q, rfl⟩, oe, vs, T, oT, ts, k _ _ y1, y2, y3, y4, y5, y6, k _ _ y7, y8, y9⟩
section
variable {X : Cx} {body : List Stmt} {h₀ : ExceptHandler} {hds : List ExceptHandler} {l : List Hx} {pos : Pos} {tb : WX → TS} {Wout : WX}
theorem ps_try_mix (hs : X.stack = X.env :: X.outer) (hf : X.env.frame = some X.env.locals) (tk : Takes X Wout)
    (hb : ∀ (W : WX) (pn : List (Addr × Obj)) (xe : Value → Shared → Prop), Takes (X.tr pn xe) W → PassesOwn (model X.prog X.w) X.A X.env xe → PSs (X.tr pn xe) body (tb W))
    (hh : HdsMix X (h₀ :: hds) l) : PS X (.Try body (h₀ :: hds) [] [] pos) (fun D σ H => tb (wMix X.K Wout D l) D σ H) := by
  refine ⟨fun pins s σ H D I h => ?_⟩
  have ok := I.ok
  have hfr : X.A.frames = some (X.env :: X.outer) := by rw [ok.frames, hs]
  refine wpAny_Try_except ?_
  refine wpAny_mono ((hb (wMix X.K Wout D l) (X.pn ++ pins) (fun e s₁ => wpAny (model X.prog X.w) X.A (noteFrame e X.env) (fun _ s₂ => wpAny (model X.prog X.w) X.A (setFlight e none) (fun _ s₃ =>
    wpAny (model X.prog X.w) X.A (handleBy e X.env (h₀ :: hds)) (SP X pins D) X.xe s₃) X.xe s₂) X.xe s₁) (fun u s' xx => ?_) PassesOwn.looking).run [] s σ H D (I.toTry _) h) (fun f s1 hsp => ?_) (fun e s1 he => he)
  · -- the catch
    obtain ⟨a, B, sI, pins', σ', H', cls, d, rfl, J', nb, up, sky, na, os, ag, w⟩ := xx
    have J : Inv X pins σ' H' sI := J'.ofTry ok
    have sky' : Sky B (X.env :: X.outer) a (Zc cls d) X.env.locals s'.heap := by rw [← hs]; exact sky
    show wpAny (model X.prog X.w) X.A (noteFrame (.ref a) X.env) _ _ _
    refine Sky.land Zc.steady hfr hf sky' fun h3 fl3 up3 => ?_
    have notFr : ∀ {h : Heap} {o : Obj} {vs : Array Value}, h.FunFrames B (X.env :: X.outer) → h.get? a = some o → o.data = .fields vs → a ∉ frs (X.env :: X.outer) := fun {h o vs} ff e dd hm => by
      obtain ⟨_, o', e', hnf⟩ := ff.mem hm
      rw [e] at e'; cases e'
      exact hnf _ dd
    have nfr : a ∉ frs (X.env :: X.outer) := by
      obtain ⟨oe3, vs3, he3, hz3, hd3⟩ := fl3.there
      exact notFr fl3.2.2.1 he3 hd3
    have nL : a ≠ X.env.locals := fun z => nfr (List.mem_filterMap.mpr ⟨X.env, List.mem_cons_self, by rw [hf, z]⟩)
    have nF : a ∉ X.fs := fun hm => by
      obtain ⟨e, he, q⟩ := List.mem_filterMap.mp hm
      exact nfr (List.mem_filterMap.mpr ⟨e, List.mem_cons_of_mem _ he, q⟩)
    have go : ∀ {hds' : List ExceptHandler} {l' : List Hx}, HdsMix X hds' l' → ∀ h3, HandSPX.FlyingZ B (X.env :: X.outer) a (Zc cls d) h3 → sI.heap.UpToSlots h3 → wMix X.K Wout D l' cls d σ' H' →
        wpAny (model X.prog X.w) X.A (handleBy (.ref a) X.env hds') (SP X pins D) X.xe { s' with heap := h3 } := by
      intro hds' l' hk
      induction hk with
      | nil =>
        intro h3 fl3 up3 w
        refine wpAny_handleBy_nil ?_
        obtain ⟨k1, k2, k3, oe, vs, T, oT, ts', he, hz, hd, h1, hr⟩ := id fl3
        unfold PySem.passOn
        refine wpAny_bind (wpAny_field he hd h1 ?_)
        rw [if_neg (show ¬ ((Value.ref T == Value.none) = true) from by simp)]
        have fin : wpAny (model X.prog X.w) X.A (setFlight (.ref a) X.env.frame) (fun _ s4 => wpAny (model X.prog X.w) X.A (throw (.ref a) : Sem Flow) (SP X pins D) X.xe s4) X.xe { s' with heap := h3 } := by
          rw [hf]
          refine HandSPX.setFlight_upZ fl3 fun h4 hh4 up4 => wpAny_throw (tk _ _ ?_)
          exact ⟨a, B, sI, pins, σ', H', cls, d, rfl, J, nb, up3.trans up4, .inr (.inr (by rw [hs]; exact hh4)), na, os, ag, w⟩
        first
          | exact wpAny_bind (wpAny_pure (wpAny_bind fin))
          | exact wpAny_bind fin
      | @one x c ts b₀ suite np pos' hds2 l2 hc hsu r ih =>
        intro h3 fl3 up3 w
        obtain ⟨b, hb1, hyes, hno⟩ := w
        have J3 : Inv X pins σ' H' { s' with heap := h3 } := J.landed nb fl3.1 up3 os ag
        obtain ⟨oe3, vs3, he3, hz3, hd3⟩ := fl3.there
        have S3 := J3.suite he3 hd3 na nL nF
        refine wpAny_handleBy_cons (codeAny_handlers_test ?_) (by intro q; cases q)
        have LT : PySem.W.Looks (model X.prog X.w) h3 (typeOf (.ref a)) cls := fun A Q E s k q => wpAny_typeOf_ref (k _ _ he3) (by rw [hz3.1]; exact q)
        have LM := PySem.W.exm_one (M := model X.prog X.w) (J3.kIn) LT hb1
        have test : ∀ {Q : Value → Shared → Prop} {E : Value → Shared → Prop}, Q c { s' with heap := h3 } → wpAny (model X.prog X.w) (X.A.mark (some (.ref a))) (eval (.Name x np) X.env) Q E { s' with heap := h3 } := fun {Q E} q => by
          obtain ⟨hg, hdbg, hm | ⟨hm, hv, hnn⟩⟩ := hc
          · exact ld_glob (X := X.suite a ((a, oe3) :: (X.pn ++ pins))) S3 hg hm q hdbg
          · exact ld_blt (X := X.suite a ((a, oe3) :: (X.pn ++ pins))) S3 hg hm hv q hnn hdbg
        refine test (LM.here ?_)
        cases b with
        | true =>
          refine codeAny_handlers_suite ?_
          refine HandSPX.lands_againZ fl3 fun h4 fl4 up4 => ?_
          have J4 : Inv X pins σ' H' { s' with heap := h4 } := J.landed nb fl4.1 (up3.trans up4) os ag
          obtain ⟨oe4, vs4, he4, hz4, hd4⟩ := fl4.there
          have S4 := J4.suite he4 hd4 na nL nF
          refine wpAny_mono ((hsu a oe4 cls d (X.pn ++ pins) hz4 ⟨_, hd4⟩).run [] _ _ H' _ S4 (hyes rfl a na)) (fun f s6 hsp => ?_) (fun _ _ z => False.elim z)
          cases f with
          | next =>
            obtain ⟨σ6, H6, S6, q6⟩ := hsp
            exact ⟨_, _, S6.unsuite ok, q6⟩
          | brk =>
            obtain ⟨σ6, H6, S6, q6⟩ := hsp
            exact ⟨_, _, S6.unsuite ok, q6⟩
          | cont =>
            obtain ⟨σ6, H6, S6, q6⟩ := hsp
            exact ⟨_, _, S6.unsuite ok, q6⟩
          | ret u =>
            obtain ⟨v6, σ6, H6, S6, r6, q6⟩ := hsp
            exact ⟨_, _, _, S6.unsuite ok, r6, q6⟩
        | false =>
          show wpAny _ X.A (handleBy (.ref a) X.env hds2) _ _ _
          exact ih h3 fl3 up3 (hno rfl)
      | @two x1 x2 c1 c2 ts b₀ suite p1 p2 np pos' kk hds2 l2 hc1 hc2 hsu r ih =>
        intro h3 fl3 up3 w
        obtain ⟨b, hb1, hyes, hno⟩ := w
        have J3 : Inv X pins σ' H' { s' with heap := h3 } := J.landed nb fl3.1 up3 os ag
        obtain ⟨oe3, vs3, he3, hz3, hd3⟩ := fl3.there
        have S3 := J3.suite he3 hd3 na nL nF
        refine wpAny_handleBy_cons (codeAny_handlers_test ?_) (by intro q; cases q)
        have LT : PySem.W.Looks (model X.prog X.w) h3 (typeOf (.ref a)) cls := fun A Q E s k q => wpAny_typeOf_ref (k _ _ he3) (by rw [hz3.1]; exact q)
        have test : ∀ {x : Str} {c : Value} {np : Pos} {Q : Value → Shared → Prop} {E : Value → Shared → Prop}, Names X x c → Q c { s' with heap := h3 } → wpAny (model X.prog X.w) (X.A.mark (some (.ref a))) (eval (.Name x np) X.env) Q E { s' with heap := h3 } := fun {x c np Q E} hc q => by
          obtain ⟨hg, hdbg, hm | ⟨hm, hv, hnn⟩⟩ := hc
          · exact ld_glob (X := X.suite a ((a, oe3) :: (X.pn ++ pins))) S3 hg hm q hdbg
          · exact ld_blt (X := X.suite a ((a, oe3) :: (X.pn ++ pins))) S3 hg hm hv q hnn hdbg
        refine wpAny_Tuple ?_
        refine wpAny_items_cons (test hc1 ?_)
        refine wpAny_items_cons (test hc2 ?_)
        refine wpAny_items_nil ⟨by size_fits, ?_⟩
        have kp : ∀ q o, h3.get? q = some o → (h3.push { cls := .type "tuple", data := .seq [c1, c2].toArray }).get? q = some o := fun _ _ z => Heap.get?_push_of_some _ z
        refine (PySem.W.exm_tup2 (J3.kIn.keeps kp) (LT.keeps kp) (Heap.get?_push_size h3 rfl) hb1).here ?_
        have fl3' := flying_keeps kp fl3
        have up3' := up3.trans (Heap.UpToSlots.of_keeps kp)
        generalize h3.push { cls := .type "tuple", data := .seq [c1, c2].toArray } = h5 at *
        cases b with
        | true =>
          refine codeAny_handlers_suite ?_
          refine HandSPX.lands_againZ (s := { s' with heap := h5 }) fl3' fun h4 fl4 up4 => ?_
          have J4 : Inv X pins σ' H' { s' with heap := h4 } := J.landed nb fl4.1 (up3'.trans up4) os ag
          obtain ⟨oe4, vs4, he4, hz4, hd4⟩ := fl4.there
          have S4 := J4.suite he4 hd4 na nL nF
          refine wpAny_mono ((hsu a oe4 cls d (X.pn ++ pins) hz4 ⟨_, hd4⟩).run [] _ _ H' _ S4 (hyes rfl a na)) (fun f s6 hsp => ?_) (fun _ _ z => False.elim z)
          cases f with
          | next =>
            obtain ⟨σ6, H6, S6, q6⟩ := hsp
            exact ⟨_, _, S6.unsuite ok, q6⟩
          | brk =>
            obtain ⟨σ6, H6, S6, q6⟩ := hsp
            exact ⟨_, _, S6.unsuite ok, q6⟩
          | cont =>
            obtain ⟨σ6, H6, S6, q6⟩ := hsp
            exact ⟨_, _, S6.unsuite ok, q6⟩
          | ret u =>
            obtain ⟨v6, σ6, H6, S6, r6, q6⟩ := hsp
            exact ⟨_, _, _, S6.unsuite ok, r6, q6⟩
        | false =>
          show wpAny _ X.A (handleBy (.ref a) X.env hds2) _ _ _
          exact ih h5 fl3' up3' (hno rfl)
      | @as_ x n i c ts b₀ suite np pos' hds2 l2 hN hi hln hc hsu r ih =>
        intro h3 fl3 up3 w
        obtain ⟨b, hb1, hyes, hno⟩ := w
        have hloc : Loc X.env.scope n := .inl hln
        have J3 : Inv X pins σ' H' { s' with heap := h3 } := J.landed nb fl3.1 up3 os ag
        obtain ⟨oe3, vs3, he3, hz3, hd3⟩ := fl3.there
        have S3 := J3.suite he3 hd3 na nL nF
        refine wpAny_handleBy_cons (codeAny_handlers_test ?_) (by intro q; cases q)
        have LT : PySem.W.Looks (model X.prog X.w) h3 (typeOf (.ref a)) cls := fun A Q E s k q => wpAny_typeOf_ref (k _ _ he3) (by rw [hz3.1]; exact q)
        have LM := PySem.W.exm_one (M := model X.prog X.w) (J3.kIn) LT hb1
        have test : ∀ {Q : Value → Shared → Prop} {E : Value → Shared → Prop}, Q c { s' with heap := h3 } → wpAny (model X.prog X.w) (X.A.mark (some (.ref a))) (eval (.Name x np) X.env) Q E { s' with heap := h3 } := fun {Q E} q => by
          obtain ⟨hg, hdbg, hm | ⟨hm, hv, hnn⟩⟩ := hc
          · exact ld_glob (X := X.suite a ((a, oe3) :: (X.pn ++ pins))) S3 hg hm q hdbg
          · exact ld_blt (X := X.suite a ((a, oe3) :: (X.pn ++ pins))) S3 hg hm hv q hnn hdbg
        refine test (LM.here ?_)
        cases b with
        | true =>
          refine codeAny_handlers_suite_as ?_
          refine HandSPX.lands_againZ fl3 fun h4 fl4 up4 => ?_
          have J4 : Inv X pins σ' H' { s' with heap := h4 } := J.landed nb fl4.1 (up3.trans up4) os ag
          obtain ⟨oe4, vs4, he4, hz4, hd4⟩ := fl4.there
          have S4 := J4.suite he4 hd4 na nL nF
          refine store_ok (X := X.suite a ((a, oe4) :: (X.pn ++ pins))) (v := .ref a) S4 hN hi hloc rfl (fun s5 S5 => ?_) (.inr hln)
          refine wpAny_mono ((hsu a oe4 cls d (X.pn ++ pins) hz4 ⟨_, hd4⟩).run [] s5 _ H' _ S5 (hyes rfl a na)) (fun f s6 hsp => ?_) (fun _ _ z => False.elim z)
          have end_ : ∀ {σ6 : L2.St} {H6 : Hp} {Q : Shared → Prop}, Inv (X.suite a ((a, oe4) :: (X.pn ++ pins))) [] σ6 H6 s6 → (∀ s7, Inv X pins (σ6.set i none) H6 s7 → Q s7) →
              wpAny (model X.prog X.w) X.A (do bindName X.env n .none; unbindBehindTheSuite X.env n pos') (fun _ s7 => Q s7) X.xe s6 := fun {σ6 H6 Q} S6 hq => gone_ok (S6.unsuite ok) hN hi hln hq
          cases f with
          | next =>
            obtain ⟨σ6, H6, S6, q6⟩ := hsp
            exact end_ S6 fun s7 J7 => ⟨_, _, J7, q6⟩
          | brk =>
            obtain ⟨σ6, H6, S6, q6⟩ := hsp
            exact end_ S6 fun s7 J7 => ⟨_, _, J7, q6⟩
          | cont =>
            obtain ⟨σ6, H6, S6, q6⟩ := hsp
            exact end_ S6 fun s7 J7 => ⟨_, _, J7, q6⟩
          | ret u =>
            obtain ⟨v6, σ6, H6, S6, r6, q6⟩ := hsp
            exact end_ S6 fun s7 J7 => ⟨_, _, _, J7, r6, q6⟩
        | false =>
          show wpAny _ X.A (handleBy (.ref a) X.env hds2) _ _ _
          exact ih h3 fl3 up3 (hno rfl)
    exact go hh h3 fl3 (up.trans up3) w
  · cases f with
    | next =>
      obtain ⟨σ', H', J', q⟩ := hsp
      exact wpAny_execs_nil ⟨σ', H', J'.ofTry ok, q⟩
    | brk =>
      obtain ⟨σ', H', J', q⟩ := hsp
      exact ⟨σ', H', J'.ofTry ok, q⟩
    | cont =>
      obtain ⟨σ', H', J', q⟩ := hsp
      exact ⟨σ', H', J'.ofTry ok, q⟩
    | ret u =>
      obtain ⟨v, σ', H', J', r, q⟩ := hsp
      exact ⟨v, σ', H', J'.ofTry ok, r, q⟩
end
end MD
namespace MD
open PySem PySem.Spec PySem.Calls PyProof.Rows L2
/-! isinstance of a caught error, with or without fields -/
section
open PySem.W
variable {prog : Program} {w : World} {A : Around} {E : Value → Shared → Prop} {s : Shared} {K : Frag} {x D : Addr} {ox : Obj} {od : Option Obj}
theorem find_cls {name : Str} {a g : Value} (hc : (clsIn K D).isSome = true) (ha : findIn K (.ref D) name = some (some a)) (hg : specialIn K a "__get__" = some (some g)) (ht : takesIn K a = some true) : findObj K D od name = some (.bind g a) := by
  obtain ⟨cd, hc⟩ := Option.isSome_iff_exists.mp hc
  unfold findObj
  rw [hc, Option.bind_some, ha, Option.bind_some]
  simp [hg, ht]
theorem cls_of {Q : Option Value → Shared → Prop} (C : L2.ExcC K D)
    (X : K.In s.heap) (I : InstAt s.heap x ox D od) (h : Q (some (.ref D)) { s with toks := s.toks + 1 }) : wpAny (model prog w) A (getAttr? (.ref x) "__class__") Q E s := by
  have hf : findObj K D od "__class__" = some (.bind (.builtin "getset_descriptor.__get__") (.builtin "object.__class__")) := find_cls (by obtain ⟨cd, hc, _⟩ := any_some C.hd; rw [hc]; rfl) C.ha C.hn C.ht
  obtain ⟨hp, g, d, t, os⟩ := s
  have L0 := I.type (M := model prog w)
  have L1 := looks_findIn (M := model prog w) X C.hg
  have L2 := looks_findIn (M := model prog w) X C.hk
  have L3 := looks_find (M := model prog w) X I hf
  have sub : Looks (model prog w) hp (isInstance (.ref x) (.type "BaseException")) true := L0.andThen (looks_subIn X C.hs)
  have hx0 : (false && onTheHeap (Value.builtin "BaseException.__getattribute__")) = false := rfl
  have hx2 : (Value.builtin "BaseException.__getattribute__" == Value.builtin "object.__getattribute__") = false := by decide +kernel
  have hx1 : (onTheHeap (Value.ref D) && Value.builtin "BaseException.__getattribute__" == Value.builtin "object.__getattribute__") = false := by rw [hx2]; rfl
  unfold getAttr? getAttrBy? getAttrBy
  refine wpAny_bind (wpAny_mkText (wpAny_bind (wpAny_attempt (wpAny_holding (wpAny_bind (L0.at (wpAny_bind (L1.at ?_))))))))
  show wpAny _ _ (if (onTheHeap (Value.ref D) && Value.builtin "BaseException.__getattribute__" == Value.builtin "object.__getattribute__") = true then _ else _) _ _ _
  rw [hx1, if_neg Bool.false_ne_true]
  unfold getAttrByItsOwn hookBefore
  refine wpAny_bind ?_
  rw [if_pos (show onTheHeap (Value.ref D) = true from rfl)]
  refine L2.at ?_
  refine wpAny_bind (wpAny_attempt (wpAny_holding ?_))
  unfold callGetattribute
  rw [hx0, if_neg Bool.false_ne_true]
  unfold boundAndCalled
  rw [PySem.F.excAttr_ValueError.ga.bind (.ref x)]
  refine wpAny_bind (wpAny_pure ?_)
  show wpAny _ _ (PySem.call (.builtin "BaseException.__getattribute__") [.ref x, .str "__class__" t]) _ _ _
  refine wpAny_call (codeAny_call_builtin PySem.F.excAttr_ValueError.ga.plain PySem.F.entry_bexc_ga ?_)
  refine @check_slot (model prog w) _ _ ⟨hp, g, d, t + 1, os⟩ "BaseException.__getattribute__" "BaseException" "__getattribute__" (.ref x) [.str "__class__" t] [] _ (by decide +kernel) (by decide +kernel) sub (PySem.F.args_bexc_ga (.ref x) (.str "__class__" t)) ?_
  unfold Builtin.«object.__getattribute__»
  refine wpAny_bind (wpAny_of_eq (a := ((Value.ref x : Value), [Value.str "__class__" t])) (by first | rfl | (simp only [slotArgs]; rfl)) ?_)
  refine wpAny_bind (wpAny_pure (wpAny_bind (L0.at (wpAny_bind (L3.at ?_)))))
  show wpAny _ _ (holding [Value.builtin "object.__class__"] (PySem.call (.builtin "getset_descriptor.__get__") [.builtin "object.__class__", .ref x, .ref D]) >>= ret) _ _ _
  refine wpAny_bind (wpAny_holding (wpAny_call (class_get (s := ⟨hp, g, d, t + 1, os⟩) (ox := ox) (od := od) X I C.hm ?_)))
  refine wpAny_pure ?_
  show wpAny _ _ (handedOut (.ref D)) _ _ _
  rw [handedOut_of (v := .ref D) rfl]
  first
    | exact wpAny_pure (wpAny_pure h)
    | exact wpAny_pure h
    | exact wpAny_pure (wpAny_bind (wpAny_pure (wpAny_pure h)))
theorem kitx_of (C : L2.ExcC K D) : KitX K (.ref x) (.ref D) (fun h => InstAt h x ox D od) where
  ty := fun _ _ _ I => I.type
  it := fun _ _ X _ => by
    obtain ⟨cdD, hcD, _⟩ := any_some C.hd
    unfold clsIn at hcD
    split at hcD
    · rename_i c' d' cd' sl' ho
      intro A' Q' E' s' k q
      unfold isType loadHead
      exact wpAny_bind (wpAny_loadPart (k _ _ (X _ _ ho)) (wpAny_pure q))
    · cases hcD
  ne := fun h tp dd its n sl X htp => by
    obtain ⟨cdD, hcD, _⟩ := any_some C.hd
    refine Bool.eq_false_iff.mpr fun q => ?_
    have e : D = tp := Value.ref.inj (beq_iff_eq.mp q)
    subst e
    unfold clsIn at hcD
    split at hcD
    · rename_i c' d' cd' sl' ho
      have z := (X _ _ ho).symm.trans htp
      cases z
    · cases hcD
  ca := fun X I k => cls_of C X I k
end
/-- isinstance(e, c), e the exception that the suite holds -/
def rIsX (K : PySem.W.Frag) (D a : Addr) (d : Option Addr) : List V → Hp → VK → Prop := fun xs H Q => ∃ (c : V) (cv : Value) (b : Bool), xs = [.ref a, c] ∧ (∀ u, RelV c u → u = cv) ∧ (d = none ∨ ∃ dd fs, d = some dd ∧ H dd = some (.xd fs)) ∧ PySem.W.kitOne K (.ref D) cv = some b ∧ Q (.bl b) H
theorem call_isX {X : Cx} {a D : Addr} {oe : Obj} {d : Option Addr} {pn : List (Addr × Obj)} (C : ExcC X.K D) (hz : Zc (.ref D) d oe) (hf : ∃ vs, oe.data = .fields vs) : CallR (X.suite a ((a, oe) :: pn)) (.builtin "isinstance") (rIsX X.K D a d) := by
  intro pins s σ H xs us Q I r h
  obtain ⟨c, cv, b, rfl, hcv, hd, e, q⟩ := h
  cases r with
  | cons rx rr =>
    cases rr with
    | cons rt rr =>
      cases rr
      cases rx
      have ec := hcv _ rt
      subst ec
      obtain ⟨hget, _⟩ := I.pin (a, oe) (List.mem_append.mpr (.inl List.mem_cons_self))
      obtain ⟨vs, hv⟩ := hf
      have J : ∃ od, PySem.W.InstAt s.heap a oe D od := by
        rcases hd with rfl | ⟨dd, fs, rfl, hx⟩
        · exact ⟨none, hget, hz.1, by unfold PySem.W.notCls; rw [hv] <;> rfl, by rw [hz.2]; trivial⟩
        · have hx : ObjOk X.prog X.w H s.heap dd (.xd fs) := I.hok dd _ hx
          obtain ⟨mA, hns, hr⟩ := hx
          obtain ⟨od, ho, hl⟩ := lookIn_ns hns
          exact ⟨some od, hget, hz.1, by unfold PySem.W.notCls; rw [hv] <;> rfl, by rw [hz.2]; exact ho⟩
      obtain ⟨od, J⟩ := J
      exact PySem.W.kia_one (kitx_of C) I.kIn J e (fun z => nomatch z) fun tk => ⟨.bl b, H, I.kept (t' := tk) fun _ _ z => z, rfl, q⟩
variable {K : PySem.W.Frag} {w w1 w2 : Wd} {X : Cx} {W : WX} {e a b c : Expr} {pos : Pos}
/-! raise -/
abbrev TM' := EnvD → MH → QX → Prop
def MonoK (t : TM') : Prop := ∀ δ M (E E' : QX), (∀ x M, E x M → E' x M) → t δ M E → t δ M E'
structure MMk (X : Cx) (e : Expr) (t : TM') : Prop where
  pmk : PMk X e (fun σ H Q => ∃ (w : Wd) (δ : EnvD), w.H = H ∧ RH X.K w ∧ RepS X.K w δ σ ∧ t δ w.M (PX X.K w Q))
  mono : MonoK t
/-- an own class without __init__ -/
structure OwnX (K : PySem.W.Frag) (mg : Str → Option Value) (n : Str) (C : Addr) : Prop where
  g : mg n = some (.ref C)
  n : PySem.W.nsIn K mainGlobals n = some (some (.ref C))
  ex : PySem.W.excIn K C [.type "ValueError", .type "Exception", .type "BaseException", .type "object"] "ValueError.__new__" = true
  kp : PySem.W.keepIn K (.ref C) = true
  b : PySem.W.subIn K (.ref C) (.type "BaseException") = some true
  t : PySem.W.typeIn K (.ref C) = some (.type "type")
def tMk0' (n : Str) (ta : TA') : TM' := fun δ M E => ta δ M (fun ds M1 => ds.length ≤ sizeLine ∧ E ⟨n, []⟩ M1) (fun _ _ => False)
theorem mmk_own {n : Str} {C : Addr} {p : Pos} {es : List Expr} {ta : TA'} (T : OwnX X.K X.mg n C) (hg : Gl X n) (ha : MA X WF (e :: es) ta) (hdb : (n == ("__debug__" : Str)) = false := by decide)
    (he : starEach (e :: es) X.env = (false, eval e X.env) :: starEach es X.env := by rfl) (hpl : (backTo pos (starEach es X.env)).any (·.1) = false := by rfl) : MMk X (.Call (.Name n p) (e :: es) [] pos) (tMk0' n ta) :=
  ⟨fun pins s σ H Q I ⟨w, δ, eH, rh, rs, h⟩ => by
    subst eH
    refine pmk_ownA PySem.F.excBase_ValueError T.ex T.g T.kp (raises_own T.b T.t) hg ha.pa hdb he hpl pins s σ w.H Q I ?_
    refine upA_go ha.mono rh rs h (fun _ _ z => z.elim) fun ds vs w1 l1 rh1 rs1 rv ⟨hz, q⟩ => ⟨by rw [rv.length]; exact hz, ?_⟩
    exact q (.ref C) none w1 rfl l1 rh1 ⟨.inl T.n, .inl ⟨rfl, rfl⟩⟩,
   fun δ M E E' q h => ha.mono _ _ _ _ _ _ (fun ds M1 ⟨hz, h1⟩ => ⟨hz, q _ _ h1⟩) (fun _ _ z => z) h⟩
def tRaise' (t : TM') : TS' := fun D δ M => t δ M (fun x M1 => D.ex x δ M1)
theorem ms_raise {t : TM'} (hc : X.calm = true) (tk : Takes X W) (he : MMk X e t) : MS X W (.Raise (some e) none pos) (tRaise' t) :=
  ⟨PS.imp (ps_raise hc tk he.pmk) fun D σ H ⟨w, δ, eH, rh, rs, h⟩ => by
    subst eH
    exact ⟨w, δ, rfl, rh, rs, he.mono _ _ _ _ (ex_of rs rh (Ends'.le.refl _)) h⟩,
   fun δ M D D' l h => he.mono _ _ _ _ (fun x M1 h1 => l.ex _ _ _ h1) h⟩
/-! try -/
abbrev Mt := List (Str × Str × Bool)
def mtb (mt : Mt) (n h : Str) : Option Bool := (mt.find? fun p => p.1 == n && p.2.1 == h).map (·.2.2)
theorem mtb_mem {mt : Mt} {n h : Str} {b : Bool} (e : mtb mt n h = some b) : (n, h, b) ∈ mt := by
  unfold mtb at e
  obtain ⟨⟨n', h', b'⟩, h1, rfl⟩ := Option.map_eq_some_iff.mp e
  have h2 := List.find?_some h1
  simp only [Bool.and_eq_true, beq_iff_eq] at h2
  obtain ⟨rfl, rfl⟩ := h2
  exact List.mem_of_find?_eq_some h1
def MtOk (K : PySem.W.Frag) (mt : Mt) : Prop := ∀ n h b, (n, h, b) ∈ mt → ∃ c1 c2, ClsOf K n c1 ∧ ClsOf K h c2 ∧ PySem.W.exmOne K c1 c2 = some b
theorem MtOk.at {mt : Mt} (k : MtOk K mt) {n h : Str} {b : Bool} {c1 c2 : Value} (e : mtb mt n h = some b) (h1 : ClsOf K n c1) (h2 : ClsOf K h c2) : PySem.W.exmOne K c1 c2 = some b := by
  obtain ⟨d1, d2, e1, e2, e3⟩ := k n h b (mtb_mem e)
  rw [h1.one e1, h2.one e2]; exact e3
abbrev COf := Str → Value → Prop
inductive Hd' where
  | one (h : Str) (ts : TS')
  | two (h1 h2 : Str) (ts : TS')
  | as_ (h : Str) (i : Nat) (ts : Xc → Addr → Value → Option Addr → TS')
def asE' (i : Nat) (D : Ends') : Ends' := { nx := fun δ M => D.nx (δ.set i none) M, rt := D.rt, bk := fun δ M => D.bk (δ.set i none) M, ct := fun δ M => D.ct (δ.set i none) M }
def noE (D : Ends') : Ends' := { D with ex := fun _ _ _ => False }
def pick' (CO : COf) (mt : Mt) (D : Ends') : List Hd' → Xc → EnvD → MH → Prop
  | [], x, δ, M => D.ex x δ M
  | .one h ts :: r, x, δ, M => ∃ b, mtb mt x.cls h = some b ∧ (b = true → ts (noE D) δ M) ∧ (b = false → pick' CO mt D r x δ M)
  | .two h1 h2 ts :: r, x, δ, M => ∃ b1 b2, mtb mt x.cls h1 = some b1 ∧ mtb mt x.cls h2 = some b2 ∧ ((b1 || b2) = true → ts (noE D) δ M) ∧ ((b1 || b2) = false → pick' CO mt D r x δ M)
  | .as_ h i ts :: r, x, δ, M => ∃ b, mtb mt x.cls h = some b ∧ (b = true → ∀ a cls d, CO x.cls cls → ts x a cls d (asE' i D) (δ.set i (some (.exc a cls d x.fs))) M) ∧ (b = false → pick' CO mt D r x δ M)
def tTry' (CO : COf) (mt : Mt) (tb : TS') (hs : List Hd') : TS' := fun D δ M => tb { D with ex := fun x δ M => pick' CO mt D hs x δ M } δ M
inductive HdsM (X : Cx) : List ExceptHandler → List Hd' → Prop
  | nil : HdsM X [] []
  | one {x : Str} {c : Value} {ts : TS'} {b₀ : Stmt} {suite : List Stmt} {np pos' : Pos} {hds : List ExceptHandler} {l : List Hd'} (hc : Names X x c) (hn : ClsOf X.K x c)
      (hsu : ∀ (a : Addr) (oe : Obj) (cls : Value) (d : Option Addr) (pn : List (Addr × Obj)), Zc cls d oe → (∃ vs, oe.data = .fields vs) → MSs (X.suite a ((a, oe) :: pn)) WF (b₀ :: suite) ts) (r : HdsM X hds l) :
      HdsM X (.ExceptHandler (some (.Name x np)) none (b₀ :: suite) pos' :: hds) (.one x ts :: l)
  | two {x1 x2 : Str} {c1 c2 : Value} {ts : TS'} {b₀ : Stmt} {suite : List Stmt} {p1 p2 np pos' : Pos} {kk : Nat} {hds : List ExceptHandler} {l : List Hd'} (hc1 : Names X x1 c1) (hn1 : ClsOf X.K x1 c1) (hc2 : Names X x2 c2) (hn2 : ClsOf X.K x2 c2)
      (hsu : ∀ (a : Addr) (oe : Obj) (cls : Value) (d : Option Addr) (pn : List (Addr × Obj)), Zc cls d oe → (∃ vs, oe.data = .fields vs) → MSs (X.suite a ((a, oe) :: pn)) WF (b₀ :: suite) ts) (r : HdsM X hds l) :
      HdsM X (.ExceptHandler (some (.Tuple [.Name x1 p1, .Name x2 p2] kk np)) none (b₀ :: suite) pos' :: hds) (.two x1 x2 ts :: l)
  | as_ {x n : Str} {i : Nat} {c : Value} {ts : Xc → Addr → Value → Option Addr → TS'} {b₀ : Stmt} {suite : List Stmt} {np pos' : Pos} {hds : List ExceptHandler} {l : List Hd'} (hN : X.N.Nodup) (hi : X.N[i]? = some n) (hln : X.env.kindOf n = some .local) (hc : Names X x c) (hn : ClsOf X.K x c)
      (hsu : ∀ (xc : Xc) (a : Addr) (oe : Obj) (cls : Value) (d : Option Addr) (pn : List (Addr × Obj)), ClsOf X.K xc.cls cls → Zc cls d oe → (∃ vs, oe.data = .fields vs) → MSs (X.suite a ((a, oe) :: pn)) WF (b₀ :: suite) (ts xc a cls d)) (r : HdsM X hds l) :
      HdsM X (.ExceptHandler (some (.Name x np)) (some n) (b₀ :: suite) pos' :: hds) (.as_ x i ts :: l)
def anO (cls : Value) (d : Option Addr) : Obj := { cls := cls, dict := d, data := .fields #[] }
theorem noE_le {D D' : Ends'} (l : D.le D') : (noE D).le (noE D') := ⟨l.nx, l.rt, l.bk, l.ct, fun _ _ _ z => z⟩
theorem asE_le {D D' : Ends'} {i : Nat} (l : D.le D') : (asE' i D).le (asE' i D') := ⟨fun _ _ h => l.nx _ _ h, l.rt, fun _ _ h => l.bk _ _ h, fun _ _ h => l.ct _ _ h, fun _ _ _ z => z⟩
theorem mono_pick {mt : Mt} {hds : List ExceptHandler} {l : List Hd'} (h : HdsM X hds l) {D D' : Ends'} (le : D.le D') : ∀ x δ M, pick' (ClsOf X.K) mt D l x δ M → pick' (ClsOf X.K) mt D' l x δ M := by
  induction h with
  | nil => intro x δ M h; exact le.ex _ _ _ h
  | one hc hn hsu r ih =>
    intro x δ M ⟨b, e, h1, h2⟩
    exact ⟨b, e, fun z => (hsu 0 (anO .none none) .none none [] ⟨rfl, rfl⟩ ⟨_, rfl⟩).mono _ _ _ _ (noE_le le) (h1 z), fun z => ih _ _ _ (h2 z)⟩
  | two hc1 hn1 hc2 hn2 hsu r ih =>
    intro x δ M ⟨b1, b2, e1, e2, h1, h2⟩
    exact ⟨b1, b2, e1, e2, fun z => (hsu 0 (anO .none none) .none none [] ⟨rfl, rfl⟩ ⟨_, rfl⟩).mono _ _ _ _ (noE_le le) (h1 z), fun z => ih _ _ _ (h2 z)⟩
  | as_ hN hi hln hc hn hsu r ih =>
    intro x δ M ⟨b, e, h1, h2⟩
    exact ⟨b, e, fun z a cls d hco => (hsu x a (anO cls d) cls d [] hco ⟨rfl, rfl⟩ ⟨_, rfl⟩).mono _ _ _ _ (asE_le le) (h1 z a cls d hco), fun z => ih _ _ _ (h2 z)⟩
theorem exmAny2 {cls c1 c2 : Value} {b1 b2 : Bool} (h1 : PySem.W.exmOne K cls c1 = some b1) (h2 : PySem.W.exmOne K cls c2 = some b2) : PySem.W.exmAny K cls [c1, c2] = some (b1 || b2) := by
  unfold PySem.W.exmAny
  rw [h1]
  unfold PySem.W.exmAny
  rw [h2]
  unfold PySem.W.exmAny
  simp
theorem pick_ok {mt : Mt} (mk : MtOk X.K mt) {hds : List ExceptHandler} {l : List Hd'} (h : HdsM X hds l) : ∃ l', HdsMix X hds l' ∧ ∀ (D : Ends) (w w1 : Wd) (x : Xc) (δ : EnvD) (cls : Value) (dx : Option Addr) (σ : L2.St), RH X.K w → Le w w1 → RH X.K w1 → RepS X.K w1 δ σ → RepX X.K w1 x cls dx →
    pick' (ClsOf X.K) mt (endsD X.K w W D) l x δ w1.M → wMix X.K W D l' cls dx σ w1.H := by
  induction h with
  | nil => exact ⟨[], .nil, fun D w w1 x δ cls dx σ rh l rh1 rs1 rx h => h cls dx σ w1 rfl l rh1 rs1 rx⟩
  | @one xn c ts b₀ suite np pos' hds2 l2 hc hn hsu r ih =>
    obtain ⟨l', hm, hw⟩ := ih
    refine ⟨.one c (fun _ _ _ => upS X.K WF ts) :: l', .one hc (fun a oe cls d pn hz hf => (hsu a oe cls d pn hz hf).ps) hm, fun D w w1 x δ cls dx σ rh l rh1 rs1 rx ⟨b, e, h1, h2⟩ => ?_⟩
    refine ⟨b, mk.at e rx.1 hn, fun z a _ => ?_, fun z => hw D w w1 x δ cls dx σ rh l rh1 rs1 rx (h2 z)⟩
    refine ⟨w1, δ, rfl, rh1, rs1, (hsu 0 (anO .none none) .none none [] ⟨rfl, rfl⟩ ⟨_, rfl⟩).mono _ _ _ _ ?_ (h1 z)⟩
    exact ⟨fun _ _ h => h.le rh rh1 l, fun _ _ h => h.le rh rh1 l, fun _ _ h => h.le rh rh1 l, fun _ _ h => h.le rh rh1 l, fun _ _ _ z => z.elim⟩
  | @two x1 x2 c1 c2 ts b₀ suite p1 p2 np pos' kk hds2 l2 hc1 hn1 hc2 hn2 hsu r ih =>
    obtain ⟨l', hm, hw⟩ := ih
    refine ⟨.two c1 c2 (fun _ _ _ => upS X.K WF ts) :: l', .two hc1 hc2 (fun a oe cls d pn hz hf => (hsu a oe cls d pn hz hf).ps) hm, fun D w w1 x δ cls dx σ rh l rh1 rs1 rx ⟨b1, b2, e1, e2, h1, h2⟩ => ?_⟩
    refine ⟨b1 || b2, exmAny2 (mk.at e1 rx.1 hn1) (mk.at e2 rx.1 hn2), fun z a _ => ?_, fun z => hw D w w1 x δ cls dx σ rh l rh1 rs1 rx (h2 z)⟩
    refine ⟨w1, δ, rfl, rh1, rs1, (hsu 0 (anO .none none) .none none [] ⟨rfl, rfl⟩ ⟨_, rfl⟩).mono _ _ _ _ ?_ (h1 z)⟩
    exact ⟨fun _ _ h => h.le rh rh1 l, fun _ _ h => h.le rh rh1 l, fun _ _ h => h.le rh rh1 l, fun _ _ h => h.le rh rh1 l, fun _ _ _ z => z.elim⟩
  | @as_ xn n i c ts b₀ suite np pos' hds2 l2 hN hi hln hc hn hsu r ih =>
    obtain ⟨l', hm, hw⟩ := ih
    refine ⟨.as_ c i (fun a cls d D σ H => ∃ (xc : Xc) (w : Wd) (δ : EnvD), w.H = H ∧ RH X.K w ∧ RepS X.K w δ σ ∧ ClsOf X.K xc.cls cls ∧ ts xc a cls d (endsD X.K w WF D) δ w.M) :: l',
      .as_ hN hi hln hc (fun a oe cls d pn hz hf => ⟨fun pins s σ H D I ⟨xc, w, δ, e1, e2, e3, e4, e5⟩ => (hsu xc a oe cls d pn e4 hz hf).ps.run pins s σ H D I ⟨w, δ, e1, e2, e3, e5⟩⟩) hm, fun D w w1 x δ cls dx σ rh l rh1 rs1 rx ⟨b, e, h1, h2⟩ => ?_⟩
    refine ⟨b, mk.at e rx.1 hn, fun z a _ => ?_, fun z => hw D w w1 x δ cls dx σ rh l rh1 rs1 rx (h2 z)⟩
    have hr : Rep X.K w1 (.exc a cls dx x.fs) (.ref a) := by
      simp only [Rep]
      refine ⟨trivial, ?_⟩
      rcases rx.2 with h | ⟨dd, e1, e2⟩
      · exact .inl h
      · exact .inr ⟨dd, e1, e2⟩
    refine ⟨x, w1, δ.set i (some (.exc a cls dx x.fs)), rfl, rh1, rs1.set i hr, rx.1, (hsu x a (anO cls dx) cls dx [] rx.1 ⟨rfl, rfl⟩ ⟨_, rfl⟩).mono _ _ _ _ ?_ (h1 z a cls dx rx.1)⟩
    exact ⟨fun δ' M' h σ' w2 e2 l2 r2 s2 => h (σ'.set i none) w2 e2 (l.trans rh rh1 l2) r2 (s2.wipe1 i none), fun _ _ h => h.le rh rh1 l, fun δ' M' h σ' w2 e2 l2 r2 s2 => h (σ'.set i none) w2 e2 (l.trans rh rh1 l2) r2 (s2.wipe1 i none), fun δ' M' h σ' w2 e2 l2 r2 s2 => h (σ'.set i none) w2 e2 (l.trans rh rh1 l2) r2 (s2.wipe1 i none), fun _ _ _ z => z.elim⟩
theorem ms_try {body : List Stmt} {h₀ : ExceptHandler} {hds : List ExceptHandler} {mt : Mt} {tb : TS'} {l : List Hd'} (mk : MtOk X.K mt) (hs : X.stack = X.env :: X.outer) (hf : X.env.frame = some X.env.locals) (tk : Takes X W) (hp : PassesOwn (model X.prog X.w) X.A X.env X.xe)
    (hb : ∀ (W' : WX) (pn : List (Addr × Obj)) (xe : Value → Shared → Prop), Takes (X.tr pn xe) W' → PassesOwn (model X.prog X.w) X.A X.env xe → MSs (X.tr pn xe) W' body tb)
    (hh : HdsM X (h₀ :: hds) l) : MS X W (.Try body (h₀ :: hds) [] [] pos) (tTry' (ClsOf X.K) mt tb l) := by
  obtain ⟨l', hm, hw⟩ := pick_ok (W := W) mk hh
  have mb : MonoS tb := (hb W X.pn X.xe tk hp).mono
  refine ⟨PS.imp (ps_try_mix (tb := fun W' => upS X.K W' tb) hs hf tk (fun W' pn xe tk' pp => (hb W' pn xe tk' pp).ps) hm) fun D σ H ⟨w, δ, eH, rh, rs, h⟩ => ?_, fun δ M D D' le h => ?_⟩
  · subst eH
    refine ⟨w, δ, rfl, rh, rs, mb _ _ _ _ ?_ h⟩
    exact ⟨fun _ _ h => h, fun _ _ h => h, fun _ _ h => h, fun _ _ h => h, fun x δ1 M1 h1 cls dx σ1 w1 e1 l1 r1 s1 rx => by subst e1; exact hw D w w1 x δ1 cls dx σ1 rh l1 r1 s1 rx h1⟩
  · exact mb δ M { D with ex := fun x δ M => pick' (ClsOf X.K) mt D l x δ M } { D' with ex := fun x δ M => pick' (ClsOf X.K) mt D' l x δ M } ⟨le.nx, le.rt, le.bk, le.ct, fun x δ1 M1 h1 => mono_pick hh le x δ1 M1 h1⟩ h
/-! what a suite asks of the exception that it holds -/
def Lit.d : Lit → D
  | .non => .non
  | .bl b => .bl b
  | .int i => .int i
  | .str x => .str x
theorem lit_rep (l : Lit) : Rep K w l.d l.v := by cases l <;> simp [Lit.d, Lit.v, Rep]
def XtOk (K : PySem.W.Frag) (xt : List (Str × Str)) : Prop := ∀ n f, (n, f) ∈ xt → ∃ C, ClsOf K n (.ref C) ∧ XfC K C ∧ PySem.W.findIn K (.ref C) f = some none
theorem fs_lookup {f : Str} : ∀ {fs : List (Str × Lit)} {l : Lit}, fs.lookup f = some l → (fs.map fun p => (p.1, p.2.v)).lookup f = some l.v
  | [], _, h => by cases h
  | (g, m) :: r, l, h => by
    rw [List.lookup_cons] at h
    rw [List.map_cons, List.lookup_cons]
    cases e : f == g with
    | true => rw [e] at h; simp at h ⊢; rw [h]
    | false => rw [e] at h; simp at h ⊢; simpa using fs_lookup h
def tXf' (xt : List (Str × Str)) (xc : Xc) (a : Addr) (cls : Value) (d : Option Addr) (f : Str) (te : TE') : TE' := fun δ M Q E => te δ M (fun y M1 => y = .exc a cls d xc.fs ∧ (xc.cls, f) ∈ xt ∧ ∃ l, xc.fs.lookup f = some l ∧ Q l.d M1) E
theorem me_xf {xt : List (Str × Str)} {xc : Xc} {a : Addr} {oe : Obj} {cls : Value} {d : Option Addr} {pn : List (Addr × Obj)} {te : TE'} {n : Str} (k : XtOk X.K xt) (hco : ClsOf X.K xc.cls cls) (hz : Zc cls d oe) (hf : ∃ vs, oe.data = .fields vs) (hin : (xc.cls, n) ∈ xt → True)
    (he : ME (X.suite a ((a, oe) :: pn)) W e te) (hb : attributeBase e n X.env (eval e X.env) = eval e X.env := by rfl) : ME (X.suite a ((a, oe) :: pn)) W (.Attribute e n pos) (tXf' xt xc a cls d n te) := by
  refine ⟨⟨fun pins s σ H Q I ⟨w, δ, eH, rh, rs, h⟩ => ?_⟩, fun δ M Q Q' E E' q x h => he.mono _ _ _ _ _ _ (fun y M1 ⟨h1, h2, l, h3, h4⟩ => ⟨h1, h2, l, h3, q _ _ h4⟩) x h⟩
  subst eH
  by_cases hx : (xc.cls, n) ∈ xt
  · obtain ⟨C, hC, T, hno⟩ := k _ _ hx
    have ec := hco.one hC
    subst ec
    refine (pe_xf T hno hz hf he.pe hb).run pins s σ w.H Q I ?_
    refine up_go he.mono rh rs h (fun _ _ x => x) fun y v w1 l1 rh1 rs1 rv ⟨ey, _, l, hl, q⟩ => ?_
    subst ey
    simp only [Rep] at rv
    obtain ⟨rfl, rv⟩ := rv
    refine ⟨rfl, rfl, ?_⟩
    rcases rv with ⟨_, e2⟩ | ⟨dd, e1, e2⟩
    · rw [e2] at hl; cases hl
    · exact ⟨dd, _, l.v, e1, e2, fs_lookup hl, q l.v w1 rfl l1 rh1 (lit_rep l)⟩
  · refine attr_of hb (thn (he.pe.run pins s σ w.H (fun _ _ => False) I ?_) fun u s1 ⟨_, _, _, _, z⟩ => z.elim)
    exact up_go he.mono rh rs h (fun _ _ x => x) fun y v w1 l1 rh1 rs1 rv ⟨ey, hy, _⟩ => hx hy
def IsOk (K : PySem.W.Frag) (it : Mt) : Prop := ∀ n h b, (n, h, b) ∈ it → ∃ C c2, ClsOf K n (.ref C) ∧ ClsOf K h c2 ∧ ExcC K C ∧ PySem.W.kitOne K (.ref C) c2 = some b
def tIsE' (it : Mt) (xc : Xc) (a : Addr) (cls : Value) (d : Option Addr) (h : Str) (te : TE') : TE' := fun δ M Q E => te δ M (fun y M1 => y = .exc a cls d xc.fs ∧ ∃ b, mtb it xc.cls h = some b ∧ Q (.bl b) M1) E
theorem me_isE {it : Mt} {xc : Xc} {a : Addr} {oe : Obj} {cls : Value} {d : Option Addr} {pn : List (Addr × Obj)} {te : TE'} {h : Str} {v : V} {c2 : Value} {p ph : Pos} (k : IsOk X.K it) (hco : ClsOf X.K xc.cls cls) (hz : Zc cls d oe) (hf : ∃ vs, oe.data = .fields vs)
    (hg : Gl X "isinstance") (hm : X.mg "isinstance" = none) (he : ME (X.suite a ((a, oe) :: pn)) W e te) (hh : PE (X.suite a ((a, oe) :: pn)) (.Name h ph) (tC v)) (hv : ∀ u, RelV v u → u = c2) (hc2 : ClsOf X.K h c2)
    (hs : starEach [e, .Name h ph] X.env = (false, eval e X.env) :: starEach [.Name h ph] X.env := by rfl) (hs2 : starEach [.Name h ph] X.env = (false, eval (.Name h ph) X.env) :: starEach [] X.env := by rfl) (hpl : (backTo pos (starEach [.Name h ph] X.env)).any (·.1) = false := by rfl) :
    ME (X.suite a ((a, oe) :: pn)) W (.Call (.Name "isinstance" p) [e, .Name h ph] [] pos) (tIsE' it xc a cls d h te) := by
  refine ⟨⟨fun pins s σ H Q I ⟨w, δ, eH, rh, rs, hyp⟩ => ?_⟩, fun δ M Q Q' E E' q x h => he.mono _ _ _ _ _ _ (fun y M1 ⟨h1, b, h3, h4⟩ => ⟨h1, b, h3, q _ _ h4⟩) x h⟩
  subst eH
  cases hb : mtb it xc.cls h with
  | some b =>
    obtain ⟨C, c2', hC, hc2', T, e3⟩ := k _ _ _ (mtb_mem hb)
    have ec := hco.one hC
    subst ec
    have ec2 := hc2.one hc2'
    subst ec2
    have hp := pa_cons he.pe (pa_cons hh pa_nil hs2) hs
    refine (pe_callB (pos := pos) (p := p) (call_isX T hz hf) hg hm (by decide +kernel) hp (by decide) (by decide) hs hpl).run pins s σ w.H Q I ?_
    refine up_go he.mono rh rs hyp (fun _ _ x => x) fun y v' w1 l1 rh1 rs1 rv ⟨ey, b', hb', q⟩ => ?_
    subst ey
    rw [hb] at hb'
    cases hb'
    simp only [Rep] at rv
    obtain ⟨rfl, rv⟩ := rv
    refine ⟨v, c2, b, rfl, hv, ?_, e3, q (.bl b) w1 rfl l1 rh1 rep_mk_bl⟩
    rcases rv with ⟨e1, _⟩ | ⟨dd, e1, e2⟩
    · exact .inl e1
    · exact .inr ⟨dd, _, e1, e2⟩
  | none =>
    have hp := pa_cons he.pe (pa_cons hh pa_nil hs2) hs
    refine (pe_callB (X := X.suite a ((a, oe) :: pn)) (id := "isinstance") (pos := pos) (p := p) (r := fun _ _ _ => False) (fun _ _ _ _ _ _ _ _ _ h => h.elim) hg hm (by decide +kernel) hp (by decide) (by decide) hs hpl).run pins s σ w.H Q I ?_
    refine up_go he.mono rh rs hyp (fun _ _ x => x) fun y v' w1 l1 rh1 rs1 rv ⟨ey, b', hb', q⟩ => ?_
    rw [hb] at hb'; cases hb'
/-! the tables' facts -/
theorem exm_of_sub {C : Addr} {cls : Value} {b : Bool} (h1 : PySem.W.subIn K (.ref C) (.type "BaseException") = some true) (h2 : PySem.W.hasDictIn K C = true) (h3 : PySem.W.typeIn K (.ref C) = some (.type "type")) (h4 : PySem.W.subIn K cls (.ref C) = some b) : PySem.W.exmOne K cls (.ref C) = some b :=
  PySem.W.exm_ref h1 h2 h3 h4
theorem kit_self {t : Value} : PySem.W.kitOne K t t = some true := by
  unfold PySem.W.kitOne
  rw [if_pos (beq_self_eq_true t)]
theorem kit_ref {H : Addr} {t : Value} {b : Bool} (hne : (t == Value.ref H) = false) (hd : PySem.W.hasDictIn K H = true) (ht : PySem.W.typeIn K (.ref H) = some (.type "type")) (hs : PySem.W.subIn K t (.ref H) = some b) : PySem.W.kitOne K t (.ref H) = some b := by
  unfold PySem.W.kitOne
  rw [if_neg (by rw [hne]; decide)]
  obtain ⟨cd, hc, _⟩ := PySem.W.any_some hd
  unfold PySem.W.kitCls
  simp only [hc, ht, Option.isSome_some, Bool.true_and, beq_self_eq_true, if_true]
  exact hs
theorem kit_ty {T : String} {n : Addr} {b : Bool} (hs : PySem.W.subIn K (.ref n) (.type T) = some b) (km : PySem.W.kitMeta T = true := by decide +kernel) : PySem.W.kitOne K (.ref n) (.type T) = some b := by
  unfold PySem.W.kitOne
  rw [if_neg (by intro z; have z := beq_iff_eq.mp z; cases z)]
  unfold PySem.W.kitCls
  simp only [km, if_true]
  exact hs
end MD
/-! own exception classes whose __init__ says super().__init__(p, ..) and self.p = p for each of its parameters. -/
namespace MD
open PySem PySem.Spec PySem.Calls PyProof.Rows L2 NdefX

/-! super().__init__ called: the wrapper -/
section
open PySem.W
variable {prog : Program} {w : World} {A : Around} {E : Value → Shared → Prop} {h : Heap} {g : Array GenState} {d : Drawn} {t : Nat} {os : OsState}
variable {nm q : Str} {C N : Addr} {bs bm : List Value} {hdct : Bool} {sn : List Str} {sub : List Value} {ab : Bool} {col : Option Bool} {dd : Option Addr} {k0 k1 k2 k3 k5 : Option Value}
theorem call_mw {u e t0 : Addr} {dv : Option Addr} {rest : List Value} {Q : Value → Shared → Prop}
    (hC : h.get? C = some (excClassObj nm q C N bs bm hdct sn sub ab col dd k0 k1 k2 k3 k5 "ValueError.__new__")) (he : h.get? e = some ({ cls := .ref C, dict := dv, data := .fields #[.ref t0, .none, .none, .none, .bool false, .none] } : Obj)) (hu : h.get? u = some (kxs_mw "ValueError.__init__" e)) (hrest : rest.length ≤ sizeLine)
    (hq : ∀ h' t1, (∀ b o, b ≠ e → h.get? b = some o → h'.get? b = some o) → h'.get? e = some ({ cls := .ref C, dict := dv, data := .fields #[.ref t1, .none, .none, .none, .bool false, .none] } : Obj) → Q .none ⟨h', g, d, t, os⟩) :
    wpAny (model prog w) A (call (.ref u) rest) Q E ⟨h, g, d, t, os⟩ := by
  refine wpAny_call (codeAny_of_tree ?_)
  show wpAny _ A.in1 (callAny (.ref u) ⟨rest, []⟩) _ _ _
  simp only [callAny]
  refine wpAny_bind (wpAny_load hu ?_)
  simp only [kxs_mw, show (Value.type "method-wrapper" == Value.type "method" || Value.type "method-wrapper" == Value.type "builtin_function_or_method" || Value.type "method-wrapper" == Value.type "method-wrapper") = true by decide, if_true]
  refine W.KFB.if_so (by decide) ?_
  refine wpAny_bind (check_bound_init PySem.F.excBase_ValueError.toExcCallFacts hC he rfl ?_)
  refine wpAny_bind (wpAny_pure (wpAny_pure ?_))
  refine ⟨plainId_quiet PySem.F.excBase_ValueError.init.plain _, codeAny_builtin PySem.F.excBase_ValueError.initEntry ?_⟩
  exact exc_init_tree (cls := .ref C) (t0 := t0) (dv := dv) (c2 := .none) (c3 := .none) (b4 := .bool false) he hrest fun h' k e' _ => hq h' h.objs.size k e'
end

/-- the __init__ of the class at C, as it stands behind the top -/
structure FunI (P : Program) (K : PySem.W.Frag) (C : Addr) (qual : Str) (st : Stmt) (f : Addr) (fd : FuncData) : Prop where
  ex : ∃ (oc : Value) (od : Option Addr) (kV doc pm : Value) (an : Option Addr) (ct : Value) (osl : Array (Option Value)) (cda cc : Addr) (ccl : Value) (cdd : Option Addr) (vs : Array Value) (ccs : Array (Option Value)) (file : Str) (tf : Tok) (cl : Value) (cld : Option Addr) (csl : Array (Option Value)),
    fd = PySem.W.fnX "__init__" qual (defArgs st) (defBody st) (defScope st) [(("__class__" : Str), cc)] .none kV doc pm an (.ref cda) ct ∧ K.lookup f = some ⟨oc, od, .func fd, osl⟩ ∧ PySem.W.codeIn K (.ref cda) qual = true ∧
    K.lookup cda = some ⟨ccl, cdd, .fields vs, ccs⟩ ∧ vs[2]? = some (.str file tf) ∧ ((P.main.file : Str) == file) = true ∧ K.lookup cc = some ⟨cl, cld, .cell (some (.ref C)), csl⟩
/-- the class -/
structure ClsI (P : Program) (K : PySem.W.Frag) (C f : Addr) : Prop where
  ox : OexC K C
  fi : PySem.W.findIn K (.ref C) "__init__" = some (some (.ref f))
  ti : PySem.W.typeIn K (.ref f) = some (.type "function")
  su : PySem.W.ks_superIn K C C "__init__" = some (some (.builtin "ValueError.__init__"))
  sv : PySem.W.subIn K (.ref C) (.type "ValueError") = some true
  ms : PySem.W.mroIn K C (.ref C) = some true
  any : PySem.W.nsIn K PySem.cStatics "thirdparty.any" = some none
  sup : PySem.W.nsIn K mainGlobals "super" = some none
  top : (P.main.scope.names.lookup ("super" : Str)).isSome = false
section
variable {CX : CXT} {P : Program} {w : World} {K : PySem.W.Frag} {mg : Str → Option Value} {base : Heap} {N ps : List Str} {F : NF} {f C cc : Addr} {A : Around} {outer : List Env} {s s1 : Shared} {H : Hp} {E : XK} {σ : L2.St} {a : Addr}
/-- super().__init__(e, ..), as a statement -/
theorem super_step {body : List Stmt} {p0 p1 p2 p3 p4 : Pos} {e : Expr} {es : List Expr} {ta : TA} {fd : FuncData} {oc : Value} {od : Option Addr} {osl : Array (Option Value)} {ccl : Value} {cdd : Option Addr} {vs : Array Value} {ccs : Array (Option Value)} {file : Str} {tf : Tok} {cl : Value} {cld : Option Addr} {csl : Array (Option Value)} {ar : Arg} {m : Str → Option Value}
    (T : ClsI P K C f) (I : Inv (ncx CX P w K mg base N F f A outer s H E) [] σ H s1) (hcl : F.cl = [(("__class__" : Str), cc)])
    (hfd : fd.params = F.params) (lk : K.lookup f = some ⟨oc, od, .func fd, osl⟩) (hcode : K.lookup F.c = some ⟨ccl, cdd, .fields vs, ccs⟩) (hvs : vs[2]? = some (.str file tf)) (hfile : ((P.main.file : Str) == file) = true) (hcell : K.lookup cc = some ⟨cl, cld, .cell (some (.ref C)), csl⟩)
    (hp : (F.params.posonlyargs ++ F.params.args).head? = some ar) (hns : s1.heap.Ns s.heap.objs.size m) (hv : m ar.arg = some (.ref a)) (ha : H a = some (exo a C none))
    (hks : F.scope.names.lookup ("super" : Str) = some .globalImplicit) (hkc : F.scope.names.lookup ("__class__" : Str) = some .free) (hka : F.scope.names.lookup ar.arg = some .local) (hk : F.scope.kind = .function)
    (hpa : PA (ncx CX P w K mg base N F f A outer s H E) (e :: es) ta) (hta : ta σ H (fun xs H1 => xs.length ≤ 1000 ∧ H1 = H))
    (he : starEach (e :: es) (envF F f s.heap.objs.size) = (false, eval e (envF F f s.heap.objs.size)) :: starEach es (envF F f s.heap.objs.size)) (hpl : (backTo p3 (starEach es (envF F f s.heap.objs.size))).any (·.1) = false)
    (hi : interactive (envF F f s.heap.objs.size) = false) (hs : swapsWith (.Call (.Attribute (.Call (.Name "super" p0) [] [] p1) "__init__" p2) (e :: es) [] p3) none p4.line (envF F f s.heap.objs.size) = pure false)
    {pl : Sem Bool}
    (hcall : eval (.Call (.Attribute (.Call (.Name "super" p0) [] [] p1) "__init__" p2) (e :: es) [] p3) (envF F f s.heap.objs.size) = (do
        let ov ← attributeBase (.Call (.Name "super" p0) [] [] p1) "__init__" (envF F f s.heap.objs.size) (eval (.Call (.Name "super" p0) [] [] p1) (envF F f s.heap.objs.size))
        standAt p2.atName
        let (fm, first) ← holding [ov] (getMethod ov "__init__" pl)
        callWith p3 fm first (backTo p3 (starEach (e :: es) (envF F f s.heap.objs.size))) [])) :
    _root_.PySem.wpAt (model P w) (A.deeper (envF F f s.heap.objs.size)) (.func body (envF F f s.heap.objs.size)) (exec (.Expr (.Call (.Attribute (.Call (.Name "super" p0) [] [] p1) "__init__" p2) (e :: es) [] p3) p4) (envF F f s.heap.objs.size))
      (fun fl s' => fl = .next ∧ Inv (ncx CX P w K mg base N F f A outer s H E) [] σ H s') (ncx CX P w K mg base N F f A outer s H E).xe s1 := by
  obtain ⟨nm, qn, N', bs, bm, sn, sub, ab, col, dd, k0, k1, k2, k3, k5, hC, hbm⟩ := T.ox.cls
  have hclC : PySem.W.clsIn K C = some { name := nm, bases := bs, mro := .ref C :: bm, ns := N', qualname := qn, hasDict := true, slotNames := sn, subclasses := sub, abstract := ab, collection := col, hasDel := false } := by unfold PySem.W.clsIn; rw [hC] <;> rfl
  have X : K.In s1.heap := I.kIn
  obtain ⟨t1, ho⟩ := exo_at I.hok ha
  refine PySem.ks_wpAt_Expr_any ?_ hi hs
  refine PySem.ks_wpAt_MethodCall (pl := pl) ?_ hcall
  refine PySem.ks_wpAt_super_base (env := envF F f s.heap.objs.size) hks hkc (by decide) rfl (X _ _ lk) rfl (by rw [hfd]; exact hp) rfl (X _ _ hcode) rfl hvs hfile T.top ?_
  obtain ⟨mb, b1, b2⟩ := I.mod.blt
  refine PySem.W.ks_loadName_global hk hks (loadGlobal_builtin (env := envF F f s.heap.objs.size) (I.mod.glob.keeps I.bk) (PySem.W.mg_none_of I.mod.kin I.mod.glob T.sup) (b1.keeps I.bk) ((b2 _ (by decide)).trans (by decide +kernel : bootBuiltins "super" = some (.type "super"))) ⟨rfl, ?_⟩)
  have hcellH : s1.heap.IsCell cc (some (.ref C)) := ⟨_, X _ _ hcell, rfl⟩
  refine wpAny_loadName_free (env := envF F f s.heap.objs.size) (c := cc) hk hkc (by show F.cl.lookup _ = _; rw [hcl]; simp) hcellH ?_
  refine wpAny_loadName_local (env := envF F f s.heap.objs.size) hk hka hns hv ?_
  obtain ⟨hh, g, d, t, os⟩ := s1
  refine PySem.ks_wpAny_isType_cls (X _ _ hC) rfl ⟨rfl, ?_⟩
  refine PySem.ks_wpAny_call_super (X _ _ hC) rfl ho rfl (fun c e => by cases e) (PySem.W.looks_mroIn X T.ms) (fun h' e1 k1 => ?_)
  have I2 : Inv (ncx CX P w K mg base N F f A outer s H E) [] σ H ⟨h', g, d, t, os⟩ := I.kept (t' := t) k1
  have X2 : K.In h' := I2.kIn
  have ho2 := k1 _ _ ho
  have hIv : PySem.W.Looks (model P w) h' (isInstance (.ref a) (.type "ValueError")) true := by
    have IA : PySem.W.InstAt h' a _ C none := ⟨ho2, rfl, rfl, trivial⟩
    exact IA.type.andThen (PySem.W.looks_subIn X2 T.sv)
  have hsu := T.su
  unfold PySem.W.ks_superIn at hsu
  rw [hclC] at hsu
  have hax : a ≠ C := fun z => by
    have q := X _ _ hC
    rw [← z, ho] at q
    cases q
  refine PySem.W.kxs_getMethod PySem.W.kxs_ValueError e1 (PySem.W.looks_opaque X2 T.any) (l₀ := .ref C :: bm) (fun A Q E s k q => wpAny_bind ((PySem.W.looks_clsIn X2 hclC) A _ E s k (wpAny_pure q))) rfl X2 hsu hIv hax (by decide) ?_
  have k3 : ∀ b o, h'.get? b = some o → (h'.push (PySem.W.kxs_mw "ValueError.__init__" a)).get? b = some o := fun b o e => Heap.get?_push_of_some _ e
  have J3 : Inv (ncx CX P w K mg base N F f A outer s H E) [] σ H ⟨h'.push (PySem.W.kxs_mw "ValueError.__init__" a), g, d, t + 1, os⟩ := I2.kept (t' := t + 1) k3
  have hu3 : (h'.push (PySem.W.kxs_mw "ValueError.__init__" a)).get? h'.objs.size = some (PySem.W.kxs_mw "ValueError.__init__" a) := Heap.get?_push_at rfl rfl
  have I3 : Inv (ncx CX P w K mg base N F f A outer s H E) [(h'.objs.size, PySem.W.kxs_mw "ValueError.__init__" a)] σ H ⟨h'.push (PySem.W.kxs_mw "ValueError.__init__" a), g, d, t + 1, os⟩ := J3.pins_of fun p hp => by
    obtain rfl := List.mem_singleton.mp hp
    refine ⟨hu3, I2.hok.fresh (Nat.le_refl _), fun z => ?_, fun z => ?_, fun v z => by cases z⟩
    · obtain ⟨m2, hn2, _⟩ := I2.loc
      obtain ⟨o2, _, _, e2, _⟩ := hn2
      exact absurd (Heap.lt_size e2) (by rw [show (ncx CX P w K mg base N F f A outer s H E).env.locals = h'.objs.size from z.symm]; exact Nat.lt_irrefl _)
    · have z2 : (h'.objs.size : Addr) ∈ (ncx CX P w K mg base N F f A outer s H E).fs := z
      obtain ⟨_, o2, e2, _⟩ := I2.ok.funs.mem z2
      obtain ⟨o3, e3⟩ := I2.base.there _ o2 e2 (fun q => absurd (show (h'.objs.size : Addr) ∈ ([] : List Addr) from q) (by simp))
      exact absurd (Heap.lt_size e3) (Nat.lt_irrefl _)
  refine PySem.W.kxs_callWith (i := "ValueError.__init__") (x := a) (by rw [he]; show (false || (backTo p3 (starEach es (envF F f s.heap.objs.size))).any (·.1)) = false; rw [hpl]; rfl) ?_
  rw [he]
  refine evalArgs_plain ?_
  have hr := hpa.run p3 [(h'.objs.size, PySem.W.kxs_mw "ValueError.__init__" a)] _ σ H _ I3 hta
  rw [show starEach (e :: es) (ncx CX P w K mg base N F f A outer s H E).env = _ from he] at hr
  refine thn hr fun us s4 ⟨xs, H1, I4, r4, hxl, eH⟩ => ?_
  subst eH
  have hu4 := (I4.pin (h'.objs.size, PySem.W.kxs_mw "ValueError.__init__" a) (List.mem_append_right _ List.mem_cons_self)).1
  refine ⟨hu4, ?_⟩
  obtain ⟨t4, ho4⟩ := exo_at I4.hok ha
  obtain ⟨h4, g4, d4, tk4, os4⟩ := s4
  have hlen : us.length ≤ sizeLine := by
    rw [← Paired.length r4, sizeLine_eq]
    omega
  refine call_mw (I4.kIn _ _ hC) ho4 hu4 hlen fun h5 t5 k5 e5 => ⟨rfl, ?_⟩
  have I4' : Inv (ncx CX P w K mg base N F f A outer s H1 E) [] σ H1 ⟨h4, g4, d4, tk4, os4⟩ := I4.pins_of fun p hp => absurd hp (by simp)
  have J := I4'.write (t' := tk4) (x := a) (e := a) (o := exo a C none) (by rw [ha]; exact True.intro) (.inl rfl) k5 ⟨_, e5⟩ (exo_ok e5)
  have eu : upd H1 a (exo a C none) = H1 := by
    funext b
    by_cases hb : b = a
    · rw [hb, upd_same, ha]
    · rw [upd_ne hb]
  rw [eu] at J
  exact J
end

/-- what the __init__ promises: the fields fs hold what is handed in -/
def spI (C : Addr) (fs : List Str) : Sp := fun vs H Q _ => ∃ (a : Addr) (ws : List V), vs = .ref a :: ws ∧ ws.length = fs.length ∧ ws.length ≤ 900 ∧ H a = some (exo a C none) ∧ ∀ d, H d = none → d ≠ a → Q .non (upd (upd H d (exd d (fs.zip ws).reverse)) a (exo a C (some d)))
section
variable {CX : CXT} {P : Program} {w : World} {K : PySem.W.Frag} {mg : Str → Option Value} {base : Heap} {N fs : List Str} {f C : Addr} {st : Stmt} {qual : Str} {fd : FuncData} {k : Nat}
theorem initx_core {p0 p1 p2 p3 p4 : Pos} {e : Expr} {es : List Expr} {rest : List Stmt} {ta : TA} {t : TS} {ar : Arg} (FI : FunI P K C qual st f fd) (T : ClsI P K C f)
    (S : NScope N ("self" :: fs) ["__class__"] (defScope st)) (hN : N = ("self" : Str) :: (fs ++ [("__class__" : Str)]))
    (hbd : defBody st = .Expr (.Call (.Attribute (.Call (.Name "super" p0) [] [] p1) "__init__" p2) (e :: es) [] p3) p4 :: rest)
    (hp : ((defArgs st).posonlyargs ++ (defArgs st).args).head? = some ar) (har : ar.arg = "self")
    (hks : (defScope st).names.lookup ("super" : Str) = some .globalImplicit) (hkc : (defScope st).names.lookup ("__class__" : Str) = some .free)
    (hargs : ∀ (F : NF) (A : Around) (outer : List Env) (s : Shared) (H : Hp) (E : XK), F.scope = defScope st → PA (ncx CX P w K mg base N F f A outer s H E) (e :: es) ta)
    (hta : ∀ (a : Addr) (ws : List V) (H : Hp), ws.length = fs.length → ws.length ≤ 900 → ta (startF N (.ref a :: ws) [some (.ref C)]) H (fun xs H1 => xs.length ≤ 1000 ∧ H1 = H))
    (hrest : ∀ (F : NF) (A : Around) (outer : List Env) (s : Shared) (H : Hp) (E : XK), F.scope = defScope st → PSs (ncx CX P w K mg base N F f A outer s H E) rest t)
    (ht : ∀ (a : Addr) (ws : List V) (H : Hp) (Q : VK), ws.length = fs.length → ws.length ≤ 900 → H a = some (exo a C none) → (∀ d, H d = none → d ≠ a → Q .non (upd (upd H d (exd d (fs.zip ws).reverse)) a (exo a C (some d)))) →
      t { nx := fun _ H' => Q .non H', rt := Q } (startF N (.ref a :: ws) [some (.ref C)]) H)
    (he : ∀ env : Env, starEach (e :: es) env = (false, eval e env) :: starEach es env) (hpl : ∀ env : Env, (backTo p3 (starEach es env)).any (·.1) = false)
    (hi : ∀ (F : NF) (L : Addr), F.scope = defScope st → interactive (envF F f L) = false)
    (hs : ∀ (F : NF) (L : Addr), swapsWith (.Call (.Attribute (.Call (.Name "super" p0) [] [] p1) "__init__" p2) (e :: es) [] p3) none p4.line (envF F f L) = pure false)
    (hcall : ∀ (F : NF) (L : Addr), ∃ pl : Sem Bool, eval (.Call (.Attribute (.Call (.Name "super" p0) [] [] p1) "__init__" p2) (e :: es) [] p3) (envF F f L) = (do
        let ov ← attributeBase (.Call (.Name "super" p0) [] [] p1) "__init__" (envF F f L) (eval (.Call (.Name "super" p0) [] [] p1) (envF F f L))
        standAt p2.atName
        let (fm, first) ← holding [ov] (getMethod ov "__init__" pl)
        callWith p3 fm first (backTo p3 (starEach (e :: es) (envF F f L))) [])) : FnOk P w K mg base CX (k + 1) f fd ("self" :: fs) (spI C fs) := by
  obtain ⟨oc, od, kV, doc, pm, an, ct, osl, cda, cc, ccl, cdd, cvs, ccs, file, tf, cl, cld, csl, rfl, lk, hcd, hcode, hvs, hfile, hcell⟩ := FI.ex
  refine ⟨fun vs H Q E ⟨a, ws, e1, e2, _⟩ => by rw [e1]; simp [e2], fun A outer s H args us vs Q E hr e0 hb r hsp => ?_⟩
  obtain ⟨a, ws, rfl, hwl, hw9, ha, hq⟩ := hsp
  have KX : K.In s.heap := e0.mod.kin.keeps fun b o e => (e0.bs b o e).1
  have lim : s.heap.NoLimit := e0.mod.nolimit.keeps fun b o e => (e0.bs b o e).1
  refine codeAny_call_function hr.depth (KX _ _ lk) rfl S.co S.gen rfl (PySem.W.codeRec_of KX hcd) (hb _ _ _ _ ?_)
  refine wpAny_newFunctionEnv S.nocell (fun ⟨n, _⟩ hy => S.par n (List.of_mem_zip hy).1) (fun h₁ hns hsb => ⟨lim.fresh _ hsb, ?_⟩) S.kind
  let F : NF := ⟨"__init__", qual, defArgs st, defBody st, defScope st, [(("__class__" : Str), cc)], cda⟩
  show codeAny _ _ (.func F.body (envF F f s.heap.objs.size)) _ _
  refine PySem.ks_codeAny_funcAt ?_
  have kp : ∀ b o, s.heap.get? b = some o → h₁.get? b = some o := fun b o e => hsb.extBut b o (Nat.ne_of_lt (Heap.lt_size e)) (Heap.get?_push_of_some _ e)
  have Ce : CellsAt F.cl ["__class__"] [some (.ref C)] s.heap H := by
    have lkc : ∀ {y : Str} {c : Addr}, F.cl.lookup y = some c → y = "__class__" ∧ c = cc := fun {y c} z => by
      have z : List.lookup y [(("__class__" : Str), cc)] = some c := z
      rw [List.lookup_cons] at z
      cases q : y == ("__class__" : Str) with
      | true => rw [q] at z; exact ⟨by simpa using q, (Option.some.inj z).symm⟩
      | false => rw [q] at z; cases z
    have hbs := e0.bs cc _ (e0.mod.kin _ _ hcell)
    refine ⟨rfl, fun y c z => ?_, fun x y c z1 z2 => by rw [(lkc z1).1, (lkc z2).1], fun i y z => ?_⟩
    · obtain ⟨_, rfl⟩ := lkc z
      exact ⟨hbs.2, _, _, hbs.1, rfl⟩
    · match i, z with
      | 0, z =>
        obtain rfl := (Option.some.inj z : ("__class__" : Str) = y)
        refine ⟨cc, by show List.lookup _ [(("__class__" : Str), cc)] = _; simp, fun v hv => ?_⟩
        obtain rfl := (Option.some.inj (Option.some.inj hv) : V.ref C = v)
        exact ⟨.ref C, rfl, _, hbs.1, rfl⟩
      | _ + 1, z => simp at z
  have I : L2.Inv (ncx CX P w K mg base N F f A outer s H E) [] (startF N (.ref a :: ws) [some (.ref C)]) H { s with heap := h₁, toks := s.toks + ((("self" : Str) :: fs).zip us).length } := inv_startN S hr.hd e0 (by simp [hwl]) r Ce hns kp
  obtain ⟨u0, us', rfl, ru⟩ : ∃ u0 us', us = u0 :: us' ∧ u0 = .ref a := by
    cases r with
    | cons ra _ => exact ⟨_, _, rfl, ra⟩
  subst ru
  have nd : (("self" : Str) :: fs).Nodup := by
    have q := S.nd
    rw [hN] at q
    have q2 : ((("self" : Str) :: fs) ++ [("__class__" : Str)]).Nodup := q
    exact (List.nodup_append.mp q2).1
  obtain ⟨pl, hcl⟩ := hcall F s.heap.objs.size
  show _root_.PySem.wpAt _ _ _ (execs (defBody st) (envF F f s.heap.objs.size)) _ _ _
  rw [hbd]
  refine PySem.ks_wpAt_execs_cons ?_
  have B := super_step (body := F.body) (p0 := p0) (p1 := p1) (p2 := p2) (p3 := p3) (p4 := p4) (cc := cc) (fd := PySem.W.fnX "__init__" qual (defArgs st) (defBody st) (defScope st) [(("__class__" : Str), cc)] .none kV doc pm an (.ref cda) ct)
    (file := file) (tf := tf) (m := fun y => ((("self" : Str) :: fs).zip (Value.ref a :: us')).reverse.lookup y) (ar := ar) T I rfl rfl lk hcode hvs hfile hcell hp hns (by rw [har]; exact zip_look (ps := ("self" : Str) :: fs) (us := Value.ref a :: us') (i := 0) nd rfl rfl) ha hks hkc (by rw [har]; exact S.par _ List.mem_cons_self) S.kind
    (hargs F A outer s H E rfl) (hta a ws H hwl hw9) (he _) (hpl _) (hi F _ rfl) (hs F _) (pl := pl) hcl
  refine PySem.ks_wpAt_mono B (fun fl s' hfl => ?_) fun e s' z => z
  obtain ⟨rfl, J⟩ := hfl
  show _root_.PySem.wpAt _ _ _ (execs rest _) _ _ _
  refine wpAt_of_wpAny ?_
  refine wpAny_mono ((hrest F A outer s H E rfl).run [] _ _ H _ J (ht a ws H Q hwl hw9 ha hq)) (fun fl s2 hs2 => ?_) fun e s' z => z
  have fin : ∀ {σ' : L2.St} {H' : Hp} {v : V} {u : Value}, Inv (ncx CX P w K mg base N F f A outer s H E) [] σ' H' s2 → L2.RelV v u → Q v H' → CE outer P w H s Q u s2 :=
    fun {σ' H' v u} J rv q => ⟨v, H', J.os, J.bare, J.base, J.hok, rv, q⟩
  cases fl with
  | ret u =>
    obtain ⟨v, σ', H', J, rv, q⟩ := hs2
    exact fin J rv q
  | next =>
    obtain ⟨σ', H', J, q⟩ := hs2
    exact fin (v := V.non) (u := Value.none) J rfl q
  | brk =>
    obtain ⟨_, _, _, q⟩ := hs2
    exact False.elim q
  | cont =>
    obtain ⟨_, _, _, q⟩ := hs2
    exact False.elim q
end

theorem hcall_of {o : Expr} {nm : Str} {p2 p3 : Pos} {args : List Expr} {env : Env} (hl : (p2.endLine == p3.line) = true) (hf : methodCallForm (args.length + ([] : List Keyword).length) (backTo p3 (starEach args env)) (backToKw p3 (keywordEach [] env)) = true) :
   eval (.Call (.Attribute o nm p2) args [] p3) env = (do
        let ov ← attributeBase o nm env (eval o env)
        standAt p2.atName
        let (fm, first) ← holding [ov] (getMethod ov nm (do return (← importBound o env).getD true))
        callWith p3 fm first (backTo p3 (starEach args env)) []) := by
  have hpos : methodCallPos true o env p2 p3 = pure p3 := by unfold methodCallPos; simp [hl]
  rw [show eval (.Call (.Attribute o nm p2) args [] p3) env = (do
        let ov ← attributeBase o nm env (eval o env)
        standAt p2.atName
        methodCall o nm p2 p3 env ov (args.length + ([] : List Keyword).length) (backTo p3 (starEach args env)) (backToKw p3 (keywordEach [] env))) from rfl]
  unfold methodCall
  rw [hf, hpos]
  unfold calleeOf
  simp only [if_true, pure_bind]
  rfl
theorem upd_swap {H : Hp} {a b : Addr} {o u : HO} (h : a ≠ b) : upd (upd H a o) b u = upd (upd H b u) a o := by
  funext c
  by_cases h1 : c = a
  · subst h1; rw [upd_ne h, upd_same, upd_same]
  · by_cases h2 : c = b
    · subst h2; rw [upd_same, upd_ne h1, upd_same]
    · rw [upd_ne h2, upd_ne h1, upd_ne h1, upd_ne h2]
section
variable {CX : CXT} {P : Program} {w : World} {K : PySem.W.Frag} {mg : Str → Option Value} {base : Heap} {N fs : List Str} {f C : Addr} {st : Stmt} {qual : Str} {fd : FuncData} {k : Nat}
theorem initx1 {n : Str} {p0 p1 p2 p3 p4 q1 r0 r1 r2 r3 : Pos} {ar : Arg} (FI : FunI P K C qual st f fd) (T : ClsI P K C f)
    (hbd : defBody st = [.Expr (.Call (.Attribute (.Call (.Name "super" p0) [] [] p1) "__init__" p2) [.Name n q1] [] p3) p4, .Assign [.Attribute (.Name "self" r0) n r1] (.Name n r2) r3])
    (S : NScope ["self", n, "__class__"] ["self", n] ["__class__"] (defScope st)) (hn1 : (n == ("__debug__" : Str)) = false) (hn2 : (n == ("__classdict__" : Str)) = false)
    (hp : ((defArgs st).posonlyargs ++ (defArgs st).args).head? = some ar) (har : ar.arg = "self") (hno : PySem.W.findIn K (.ref C) n = some none)
    (hl : (p2.endLine == p3.line) = true) (hks : (defScope st).names.lookup ("super" : Str) = some .globalImplicit) (hkc : (defScope st).names.lookup ("__class__" : Str) = some .free) : FnOk P w K mg base CX (k + 1) f fd ["self", n] (spI C [n]) := by
  refine initx_core (fs := [n]) (ta := tCons (tVar 1) tNil) (t := tOst K n (tVar 0) (tVar 1)) FI T S rfl hbd hp har hks hkc (fun F A outer s H E hF => ?_) (fun a ws H h1 h2 => ?_) (fun F A outer s H E hF => ?_) (fun a ws H Q h1 h2 ha hq => ?_) (fun _ => rfl) (fun _ => rfl) (fun F L hF => by unfold interactive; show (F.scope.kind == _ && _) = false; rw [hF, S.kind]; rfl) (fun _ _ => rfl) (fun F L => ⟨_, hcall_of hl rfl⟩)
  · exact pa_cons (pe_var rfl (.inl (by show F.scope.names.lookup n = _; rw [hF]; exact S.par _ (by simp))) hn1 hn2) pa_nil
  · match ws, h1 with
    | [y], _ => exact ⟨y, rfl, (by decide : 1 ≤ 1000), rfl⟩
  · exact pss_one (ps_ost (pe_var (i := 0) rfl (.inl (by show F.scope.names.lookup _ = _; rw [hF]; exact S.par _ (by simp))) (by decide) (by decide)) (pe_var (i := 1) rfl (.inl (by show F.scope.names.lookup n = _; rw [hF]; exact S.par _ (by simp))) hn1 hn2))
  · match ws, h1 with
    | [y], _ => exact ⟨y, rfl, .ref a, rfl, a, C, rfl, T.ox, hno, .inl ⟨ha, fun dx e1 e2 => hq dx e1 e2⟩⟩
theorem initx2 {n m : Str} {p0 p1 p2 p3 p4 q1 q2 r0 r1 r2 r3 t0 t1 t2 t3 : Pos} {ar : Arg} (FI : FunI P K C qual st f fd) (T : ClsI P K C f)
    (hbd : defBody st = [.Expr (.Call (.Attribute (.Call (.Name "super" p0) [] [] p1) "__init__" p2) [.Name n q1, .Name m q2] [] p3) p4, .Assign [.Attribute (.Name "self" r0) n r1] (.Name n r2) r3, .Assign [.Attribute (.Name "self" t0) m t1] (.Name m t2) t3])
    (S : NScope ["self", n, m, "__class__"] ["self", n, m] ["__class__"] (defScope st)) (hn1 : (n == ("__debug__" : Str)) = false) (hn2 : (n == ("__classdict__" : Str)) = false) (hm1 : (m == ("__debug__" : Str)) = false) (hm2 : (m == ("__classdict__" : Str)) = false)
    (hp : ((defArgs st).posonlyargs ++ (defArgs st).args).head? = some ar) (har : ar.arg = "self") (hno : PySem.W.findIn K (.ref C) n = some none) (hmo : PySem.W.findIn K (.ref C) m = some none)
    (hl : (p2.endLine == p3.line) = true) (hks : (defScope st).names.lookup ("super" : Str) = some .globalImplicit) (hkc : (defScope st).names.lookup ("__class__" : Str) = some .free) : FnOk P w K mg base CX (k + 1) f fd ["self", n, m] (spI C [n, m]) := by
  refine initx_core (fs := [n, m]) (ta := tCons (tVar 1) (tCons (tVar 2) tNil)) (t := tSeq (tOst K n (tVar 0) (tVar 1)) (tOst K m (tVar 0) (tVar 2))) FI T S rfl hbd hp har hks hkc (fun F A outer s H E hF => ?_) (fun a ws H h1 h2 => ?_) (fun F A outer s H E hF => ?_) (fun a ws H Q h1 h2 ha hq => ?_) (fun _ => rfl) (fun _ => rfl) (fun F L hF => by unfold interactive; show (F.scope.kind == _ && _) = false; rw [hF, S.kind]; rfl) (fun _ _ => rfl) (fun F L => ⟨_, hcall_of hl rfl⟩)
  · exact pa_cons (pe_var rfl (.inl (by show F.scope.names.lookup n = _; rw [hF]; exact S.par _ (by simp))) hn1 hn2) (pa_cons (pe_var rfl (.inl (by show F.scope.names.lookup m = _; rw [hF]; exact S.par _ (by simp))) hm1 hm2) pa_nil)
  · match ws, h1 with
    | [y, z], _ => exact ⟨y, rfl, z, rfl, (by decide : 2 ≤ 1000), rfl⟩
  · exact pss_cons (ps_ost (pe_var (i := 0) rfl (.inl (by show F.scope.names.lookup _ = _; rw [hF]; exact S.par _ (by simp))) (by decide) (by decide)) (pe_var (i := 1) rfl (.inl (by show F.scope.names.lookup n = _; rw [hF]; exact S.par _ (by simp))) hn1 hn2))
      (pss_one (ps_ost (pe_var (i := 0) rfl (.inl (by show F.scope.names.lookup _ = _; rw [hF]; exact S.par _ (by simp))) (by decide) (by decide)) (pe_var (i := 2) rfl (.inl (by show F.scope.names.lookup m = _; rw [hF]; exact S.par _ (by simp))) hm1 hm2)))
  · match ws, h1 with
    | [y, z], _ =>
      refine ⟨y, rfl, .ref a, rfl, a, C, rfl, T.ox, hno, .inl ⟨ha, fun dx e1 e2 => ?_⟩⟩
      refine ⟨z, rfl, .ref a, rfl, a, C, rfl, T.ox, hmo, .inr ⟨dx, [(n, y)], upd_same, by rw [upd_ne e2, upd_same], by simp, ?_⟩⟩
      have q := hq dx e1 e2
      have e : upd (upd (upd H dx (exd dx [(n, y)])) a (exo a C (some dx))) dx (exd dx [(m, z), (n, y)]) = upd (upd H dx (exd dx [(m, z), (n, y)])) a (exo a C (some dx)) := by
        rw [upd_swap (Ne.symm e2), upd_upd]
      show Q .non _
      rw [e]
      exact q
/-- an own class with such an __init__ -/
structure OwnI (P : Program) (K : PySem.W.Frag) (mg : Str → Option Value) (n : Str) (C fI : Addr) (fd : FuncData) (fs : List Str) : Prop where
  g : mg n = some (.ref C)
  n : PySem.W.nsIn K mainGlobals n = some (some (.ref C))
  T : ClsI P K C fI
  F1 : ∀ (wd : World) (base : Heap), FnOk P wd K mg base CX0 1 fI fd ("self" :: fs) (spI C fs)
  hb : Binds K fd ("self" :: fs) []
def tMkI' (n : Str) (fs : List Str) (ta : TA') : TM' := fun δ M E => ta δ M (fun ds M1 => ∃ ls : List Lit, ds = ls.map Lit.d ∧ ls.length = fs.length ∧ ls.length ≤ 900 ∧ E ⟨n, (fs.zip ls).reverse⟩ M1) (fun _ _ => False)
theorem lits_rep {w : Wd} : ∀ {ls : List Lit} {vs : List V}, RepL K w (ls.map Lit.d) vs → vs = ls.map Lit.v
  | [], vs, h => h
  | l :: ls, vs, h => by
    obtain ⟨x, r, rfl, h1, h2⟩ := h
    rw [lits_rep h2]
    cases l <;> · simp only [Lit.d, Rep] at h1; rw [h1]; rfl
theorem zip_lits : ∀ (fs : List Str) (ls : List Lit), fs.zip (ls.map Lit.v) = (fs.zip ls).map fun p => (p.1, p.2.v)
  | [], _ => rfl
  | _ :: _, [] => rfl
  | f :: fs, l :: ls => by simp [zip_lits fs ls]
theorem mmk_init {X : Cx} {n : Str} {C fI : Addr} {fd : FuncData} {fs : List Str} {p pos : Pos} {e : Expr} {es : List Expr} {ta : TA'} (O : OwnI X.prog X.K X.mg n C fI fd fs) (hr : Room 2 X.A) (hg : Gl X n) (ha : MA X WF (e :: es) ta) (hdb : (n == ("__debug__" : Str)) = false := by decide)
    (he : starEach (e :: es) X.env = (false, eval e X.env) :: starEach es X.env := by rfl) (hpl : (backTo pos (starEach es X.env)).any (·.1) = false := by rfl) : MMk X (.Call (.Name n p) (e :: es) [] pos) (tMkI' n fs ta) :=
  ⟨fun pins s σ H Q I ⟨w, δ, eH, rh, rs, h⟩ => by
    subst eH
    refine pmk_oex (k := 1) (dvs := []) O.T.ox O.T.fi O.T.ti (O.F1 X.w X.base) hr O.hb .nil pass0 hg O.g ha.pa hdb he hpl pins s σ w.H Q I ?_
    refine upA_go ha.mono rh rs h (fun _ _ z => z.elim) fun ds vs w1 l1 rh1 rs1 rv ⟨ls, e1, e2, e3, q⟩ => ?_
    subst e1
    have ev := lits_rep rv
    subst ev
    refine ⟨by simp; omega, fun a hna => ⟨a, ls.map Lit.v, by simp, by simp [e2], by simpa using e3, upd_same, fun d hd hda => ⟨rfl, d, _, upd_same, by rw [upd_ne hda, upd_same], ?_, ?_⟩⟩⟩
    · rw [upd_ne hda] at hd; exact hd
    · have hd1 : w1.H d = none := by rw [upd_ne hda] at hd; exact hd
      have eH : upd (del (upd (upd (upd w1.H a (exo a C none)) d (exd d (fs.zip (ls.map Lit.v)).reverse)) a (exo a C (some d))) a) d (.xd (fs.zip (ls.map Lit.v)).reverse) = (w1.new d (.xd (fs.zip (ls.map Lit.v)).reverse)).H := by
        funext b
        show _ = upd w1.H d _ b
        by_cases hb : b = d
        · subst hb; rw [upd_same, upd_same]
        · rw [upd_ne hb, upd_ne hb]
          by_cases hb2 : b = a
          · subst hb2; rw [del_same, hna]
          · rw [del_ne hb2, upd_ne hb2, upd_ne hb, upd_ne hb2]
      rw [eH]
      refine q (.ref C) (some d) (w1.new d (.xd (fs.zip (ls.map Lit.v)).reverse)) rfl (l1.trans rh rh1 (Le.new hd1)) (rh1.new hd1) ⟨.inl O.n, .inr ⟨d, rfl, ?_⟩⟩
      show upd w1.H d _ d = _
      rw [upd_same]
      congr 2
      unfold fsV
      rw [zip_lits, List.map_reverse],
   fun δ M E E' q h => ha.mono _ _ _ _ _ _ (fun ds M1 ⟨ls, e1, e2, e3, h1⟩ => ⟨ls, e1, e2, e3, q _ _ h1⟩) (fun _ _ z => z) h⟩
end

def initOf (s : Stmt) : Stmt := match s with
  | .ClassDef _ _ _ (d :: _) _ _ _ _ _ _ _ => d
  | _ => .Pass ⟨0, 0, 0, 0⟩
section
variable {P : Program} {K : PySem.W.Frag} {mg : Str → Option Value}
variable {n qual : Str} {st : Stmt} {C fI cda cc : Addr} {oc : Value} {od : Option Addr} {kV doc pm : Value} {an : Option Addr} {ct : Value} {osl : Array (Option Value)} {ccl : Value} {cdd : Option Addr} {vs : Array Value} {ccs : Array (Option Value)} {file : Str} {tf : Tok} {cl : Value} {cld : Option Addr} {csl : Array (Option Value)}
variable {nm q : Str} {N : Addr} {bs bm : List Value} {sn : List Str} {sub : List Value} {ab : Bool} {col : Option Bool} {dd : Option Addr} {k0 k1 k2 k3 k5 : Option Value}
theorem clsI_mk (cx : K.lookup C = some (excClassObj nm q C N bs bm true sn sub ab col dd k0 k1 k2 k3 k5 "ValueError.__new__")) (rv : PySem.HandSPX.refsVE bm = true) (sa : PySem.W.findIn K (.ref C) "__setattr__" = some (some (.builtin "object.__setattr__")))
    (sb : PySem.W.subIn K (.ref C) (.type "BaseException") = some true) (ty : PySem.W.typeIn K (.ref C) = some (.type "type")) (kp : PySem.W.keepIn K (.ref C) = true)
    (fi : PySem.W.findIn K (.ref C) "__init__" = some (some (.ref fI))) (ti : PySem.W.typeIn K (.ref fI) = some (.type "function")) (al : PySem.W.alongIn K "__init__" (((Value.ref C :: bm).dropWhile (· != .ref C)).drop 1) = some (some (.builtin "ValueError.__init__")))
    (sv : PySem.W.subIn K (.ref C) (.type "ValueError") = some true) (ms : PySem.W.mroIn K C (.ref C) = some true) (any : PySem.W.nsIn K PySem.cStatics "thirdparty.any" = some none) (sup : PySem.W.nsIn K mainGlobals "super" = some none)
    (top : (P.main.scope.names.lookup ("super" : Str)).isSome = false) : ClsI P K C fI := by
  refine ⟨⟨⟨nm, q, N, bs, bm, sn, sub, ab, col, dd, k0, k1, k2, k3, k5, cx, rv⟩, sa, sb, ty, kp⟩, fi, ti, ?_, sv, ms, any, sup, top⟩
  unfold PySem.W.ks_superIn
  rw [show PySem.W.clsIn K C = some { name := nm, bases := bs, mro := .ref C :: bm, ns := N, qualname := q, hasDict := true, slotNames := sn, subclasses := sub, abstract := ab, collection := col, hasDel := false } from by unfold PySem.W.clsIn; rw [cx] <;> rfl]
  exact al
abbrev fdI (qual : Str) (st : Stmt) (cc : Addr) (kV doc pm : Value) (an : Option Addr) (cda : Addr) (ct : Value) : FuncData := PySem.W.fnX "__init__" qual (defArgs st) (defBody st) (defScope st) [(("__class__" : Str), cc)] .none kV doc pm an (.ref cda) ct
theorem funI_mk (lk : K.lookup fI = some ⟨oc, od, .func (fdI qual st cc kV doc pm an cda ct), osl⟩) (cd : PySem.W.codeIn K (.ref cda) qual = true) (lc : K.lookup cda = some ⟨ccl, cdd, .fields vs, ccs⟩) (hv : vs[2]? = some (.str file tf)) (fl : ((P.main.file : Str) == file) = true)
    (ce : K.lookup cc = some ⟨cl, cld, .cell (some (.ref C)), csl⟩) : FunI P K C qual st fI (fdI qual st cc kV doc pm an cda ct) :=
  ⟨⟨oc, od, kV, doc, pm, an, ct, osl, cda, cc, ccl, cdd, vs, ccs, file, tf, cl, cld, csl, rfl, lk, cd, lc, hv, fl, ce⟩⟩
end
end MD
/-! list(text). -/
namespace MD
open PySem PySem.Spec PyProof.Rows L2
variable {K : PySem.W.Frag} {w w1 w2 : Wd} {X : Cx} {W : WX} {e a b c : Expr} {pos : Pos}
def signV (x : Str) : List V := x.cps.toList.map fun c => V.str ⟨#[c]⟩
theorem cr_listS (hc : X.calm = true) : CallR X (.type "list") (fun xs H Q => ∃ x, xs = [.str x] ∧ x.length ≤ sizeLine ∧ ∀ l, H l = none → Q (.ref l) (upd H l (.lst (signV x)))) := by
  intro pins s σ H xs us Q I r h
  obtain ⟨x, rfl, hl, q⟩ := h
  obtain ⟨u, rfl, t, rfl⟩ := vals1 r
  refine call_list_str (I.ok.hd hc) x t (hn := hl) fun h' tk acc' c' hk hS' hacc => ?_
  have hz : (signV x).length = x.length := by unfold signV; rw [List.length_map]; exact Array.length_toList
  refine ⟨.ref s.heap.objs.size, _, I.laid (t' := tk) hk (Nat.le_refl _) (show ObjOk X.prog X.w _ h' _ (.lst (signV x)) from ⟨by rw [hz]; exact hl, acc'.toList, c', ?_, by simpa using hS'⟩), rfl, q _ (I.hok.fresh (Nat.le_refl _))⟩
  have h1 := hacc.1
  have h2 := hacc.2
  have key : ∀ (l : List Nat) (us : List Value), us.length = l.length → (∀ (j : Nat) (v : Value), us[j]? = some v → ∃ (c : Nat) (u : Tok), l[j]? = some c ∧ v = Value.str ⟨#[c]⟩ u) → Vals (l.map fun c => V.str ⟨#[c]⟩) us := by
    intro l
    induction l with
    | nil => intro us hu _; have : us = [] := List.length_eq_zero_iff.mp hu; subst this; exact .nil
    | cons c l ih =>
      intro us hu hj
      cases us with
      | nil => simp at hu
      | cons v us =>
        obtain ⟨c', u, e1, e2⟩ := hj 0 v rfl
        simp at e1
        subst e1
        exact .cons ⟨u, e2⟩ (ih us (by simpa using hu) fun j v' hv => by simpa using hj (j + 1) v' (by simpa using hv))
  refine key x.cps.toList acc'.toList (by rw [Array.length_toList, Array.length_toList]; exact h1) fun j v hv => ?_
  obtain ⟨c, u, e1, e2⟩ := h2 j v (by simpa using hv)
  exact ⟨c, u, by simpa using e1, e2⟩
def cListS (cell : Bool) : RA' := fun ds M Q => ∃ x, ds = [.str x] ∧ x.length ≤ sizeLine ∧ newL cell (x.cps.toList.map fun c => D.str ⟨#[c]⟩) M Q
theorem mr_listS {cell : Bool} : MonoR (cListS cell) := fun ds M Q Q' q ⟨x, e, e1, h⟩ => ⟨x, e, e1, h.mono q⟩
theorem repL_signs {w : Wd} : ∀ l : List Nat, RepL K w (l.map fun c => D.str ⟨#[c]⟩) (l.map fun c => V.str ⟨#[c]⟩)
  | [] => rfl
  | c :: l => ⟨_, _, rfl, by simp [Rep], repL_signs l⟩
theorem la_listS {cell : Bool} : LiftA K (fun xs H Q => ∃ x, xs = [.str x] ∧ x.length ≤ sizeLine ∧ ∀ l, H l = none → Q (.ref l) (upd H l (.lst (signV x)))) (cListS cell) := by
  intro w xs ds Q rh r ⟨x, e, e1, q⟩
  subst e
  obtain ⟨v, rfl, rv⟩ := rep1 r
  simp only [Rep] at rv
  subst rv
  exact ⟨x, rfl, e1, newL.lift rh (repL_signs _) q⟩
@[simp] theorem u_listS {c : Bool} {ds : List D} {M : MH} {Q : QE} : cListS c ds M Q ↔ ∃ x, ds = [.str x] ∧ x.length ≤ sizeLine ∧ newL c (x.cps.toList.map fun c => D.str ⟨#[c]⟩) M Q := Iff.rfl
end MD
/-! rules for simp: raise, try. -/
namespace MD
open PySem PySem.Spec PyProof.Rows L2
def litOf : D → Option Lit
  | .non => some .non
  | .bl b => some (.bl b)
  | .int i => some (.int i)
  | .str x => some (.str x)
  | _ => none
def onL (o : Option Lit) (P : Lit → Prop) : Prop := match o with
  | some c => P c
  | none => False
@[simp] theorem onL_some {c : Lit} {P : Lit → Prop} : onL (some c) P ↔ P c := Iff.rfl
@[simp] theorem litOf_non : litOf .non = some .non := rfl
@[simp] theorem litOf_bl {b : Bool} : litOf (.bl b) = some (.bl b) := rfl
@[simp] theorem litOf_int {b : Int} : litOf (.int b) = some (.int b) := rfl
@[simp] theorem litOf_str {b : Str} : litOf (.str b) = some (.str b) := rfl
theorem litOf_d {d : D} {l : Lit} (h : litOf d = some l) : d = l.d := by
  cases d <;> simp [litOf] at h <;> subst h <;> rfl
theorem litOf_back (l : Lit) : litOf l.d = some l := by cases l <;> rfl
def mk1 (n f : Str) (E : QX) (ds : List D) (M : MH) : Prop := match ds with
  | [d] => onL (litOf d) fun l => E ⟨n, [(f, l)]⟩ M
  | _ => False
def mk2 (n f g : Str) (E : QX) (ds : List D) (M : MH) : Prop := match ds with
  | [d, e] => onL (litOf d) fun l => onL (litOf e) fun m => E ⟨n, [(g, m), (f, l)]⟩ M
  | _ => False
@[simp] theorem mk1_one {n f : Str} {E : QX} {d : D} {M : MH} : mk1 n f E [d] M ↔ onL (litOf d) fun l => E ⟨n, [(f, l)]⟩ M := Iff.rfl
@[simp] theorem mk2_two {n f g : Str} {E : QX} {d e : D} {M : MH} : mk2 n f g E [d, e] M ↔ onL (litOf d) fun l => onL (litOf e) fun m => E ⟨n, [(g, m), (f, l)]⟩ M := Iff.rfl
theorem onL_iff {o : Option Lit} {P : Lit → Prop} : onL o P ↔ ∃ l, o = some l ∧ P l := by
  cases o <;> simp [onL]
theorem mk1_iff {n f : Str} {E : QX} {ds : List D} {M : MH} : (∃ ls : List Lit, ds = ls.map Lit.d ∧ ls.length = [f].length ∧ ls.length ≤ 900 ∧ E ⟨n, ([f].zip ls).reverse⟩ M) ↔ mk1 n f E ds M := by
  constructor
  · rintro ⟨ls, rfl, h1, _, h⟩
    match ls, h1 with
    | [l], _ =>
      show onL (litOf l.d) _
      rw [litOf_back]
      exact h
  · intro h
    match ds, h with
    | [d], h =>
      obtain ⟨l, e, h⟩ := onL_iff.mp h
      exact ⟨[l], by rw [litOf_d e]; rfl, rfl, by simp, h⟩
theorem mk2_iff {n f g : Str} {E : QX} {ds : List D} {M : MH} : (∃ ls : List Lit, ds = ls.map Lit.d ∧ ls.length = [f, g].length ∧ ls.length ≤ 900 ∧ E ⟨n, ([f, g].zip ls).reverse⟩ M) ↔ mk2 n f g E ds M := by
  constructor
  · rintro ⟨ls, rfl, h1, _, h⟩
    match ls, h1 with
    | [l, m], _ =>
      show onL (litOf l.d) fun l => onL (litOf m.d) _
      rw [litOf_back, litOf_back]
      exact h
  · intro h
    match ds, h with
    | [d, e], h =>
      obtain ⟨l, e1, h⟩ := onL_iff.mp h
      obtain ⟨m, e2, h⟩ := onL_iff.mp h
      exact ⟨[l, m], by rw [litOf_d e1, litOf_d e2]; rfl, rfl, by simp, h⟩
@[simp] theorem u_mkI1 {n f : Str} {ta : TA'} {δ : EnvD} {M : MH} {E : QX} : tMkI' n [f] ta δ M E ↔ ta δ M (fun ds M1 => mk1 n f E ds M1) (fun _ _ => False) := by
  unfold tMkI'; simp only [mk1_iff]
@[simp] theorem u_mkI2 {n f g : Str} {ta : TA'} {δ : EnvD} {M : MH} {E : QX} : tMkI' n [f, g] ta δ M E ↔ ta δ M (fun ds M1 => mk2 n f g E ds M1) (fun _ _ => False) := by
  unfold tMkI'; simp only [mk2_iff]
@[simp] theorem u_raise {t : TM'} {DD : Ends'} {δ : EnvD} {M : MH} : tRaise' t DD δ M ↔ t δ M (fun x M1 => DD.ex x δ M1) := Iff.rfl
@[simp] theorem u_try {CO : COf} {mt : Mt} {tb : TS'} {hs : List Hd'} {DD : Ends'} {δ : EnvD} {M : MH} : tTry' CO mt tb hs DD δ M ↔ tb { DD with ex := fun x δ M => pick' CO mt DD hs x δ M } δ M := Iff.rfl
@[simp] theorem u_addL {c : Bool} {i : List D} {y : D} {M : MH} {Q : QE} : oAdd c (.lst i) y M Q ↔ ∃ b, lstOf y M = some b ∧ i.length + b.length ≤ sizeLine ∧ newL c (i ++ b) M Q := Iff.rfl
end MD
namespace K03
open MD L2 PySem Kit
/-! what the texts tell, on lists of signs -/
abbrev Sg := List Nat
def figL (l : Sg) : Sg := if l.head? = some 45 then l.tail else l
def isDig (c : Nat) : Bool := hasC c "0123456789"
def valL (l : Sg) : Int := if l.head? = some 45 then -(PySem.NumText.digitsVal (figL l) : Int) else PySem.NumText.digitsVal (figL l)
def wholeP (l : Sg) : Option Int := if (figL l).length = 0 ∨ 30 < (figL l).length ∨ (figL l).all isDig = false then none else if (figL l).head? = some 48 ∧ (1 < (figL l).length ∨ figL l ≠ l) then none else some (valL l)
def numL (l : Sg) : Option Int := if figL l = [] ∨ ((figL l).head? = some 48 ∧ l ≠ [48]) then none else if (figL l).all isDig = false then none else some (valL l)
abbrev Pair := Int × Int
def inB (p : Pair) : Bool := decide ((-1000 ≤ p.1 ∧ p.1 ≤ 1000) ∧ (-1000 ≤ p.2 ∧ p.2 ≤ 1000))
def lim (p : Pair) : Option Pair := if inB p = true then some p else none
def letL : Sg := [67, 68, 69, 70, 71, 65, 66]
def ix (c : Nat) (l : Sg) : Option Nat := l.findIdx? (· == c)
def fif (p : Nat) : Int := ([0, 2, 4, -1, 1, 3, 5] : List Int).getD p 0
def marks (r : Sg) : Nat := match r with
  | [] => 0
  | d :: _ => if d = 35 ∨ d = 98 then (r.takeWhile fun c => c == d).length else 0
def readT (w : Sg → Option Int) (l : Sg) : Option Pair := match l with
  | [] => none
  | c :: r => match ix c letL with
    | none => none
    | some p => match w (r.drop (marks r)) with
      | none => none
      | some oct => lim (fif p + 7 * (if r.head? = some 98 then -(marks r : Int) else marks r), (7 * oct + p - 4 * (fif p + 7 * (if r.head? = some 98 then -(marks r : Int) else marks r))) / 7)
def isQ (c : Nat) : Bool := hasC c "PMmAd"
def quals (l : Sg) : Nat := (l.takeWhile isQ).length
def perfB (p : Nat) : Bool := p == 0 || p == 3 || p == 4
def sgnOf (perf : Bool) (w : Sg) : Option Int := if w = [] then none else if w = List.replicate w.length 65 then some w.length else if w = List.replicate w.length 100 then some (if perf then -(w.length : Int) else -(w.length : Int) - 1)
  else if perf then (if w = [80] then some 0 else none) else if w = [77] then some 0 else if w = [109] then some (-1) else none
def readI (w : Sg → Option Int) (l : Sg) : Option Pair := match w ((figL l).drop (quals (figL l))) with
  | none => none
  | some n => if n < 1 then none else match sgnOf (perfB ((n - 1) % 7).toNat) ((figL l).take (quals (figL l))) with
    | none => none
    | some a => if n = 1 ∧ (a < 0 ∨ (figL l ≠ l ∧ a = 0)) then none else
      (lim (fif ((n - 1) % 7).toNat + 7 * a, (n - 1 - 4 * (fif ((n - 1) % 7).toNat + 7 * a)) / 7)).map fun q => if figL l = l then q else (-q.1, -q.2)
/-! promises -/
def optI : Option Int → D
  | some n => .int n
  | none => .non
def optP : Option Pair → D
  | some p => MD.prD p
  | none => .non
def refX (x : Str) : Xc := ⟨"BadName", [("text", .str x)]⟩
def PairOr (r : Option Pair) (x : Str) (M : MH) (Q : QE) (E : QX) : Prop := match r with
  | some p => Q (MD.prD p) M
  | none => E (refX x) M
theorem PairOr.imp {r : Option Pair} {x : Str} {M : MH} {Q Q' : QE} {E E' : QX} (q : ∀ d M, Q d M → Q' d M) (e : ∀ x M, E x M → E' x M) (h : PairOr r x M Q E) : PairOr r x M Q' E' := by
  cases r with
  | some p => exact q _ _ h
  | none => exact e _ _ h
def sp_opposite : SpD := fun ds M Q _ => ∃ p : Pair, ds = [MD.prD p] ∧ Q (MD.prD (-p.1, -p.2)) M
theorem mono_opposite : MonoP sp_opposite := fun ds M Q Q' E E' q x ⟨s, e, h⟩ => ⟨s, e, q _ _ h⟩
theorem len_opposite (ds M Q E) (h : sp_opposite ds M Q E) : ds.length = 1 := by obtain ⟨_, rfl, _⟩ := h; rfl
def downB (p : Pair) : Bool := decide (4 * p.1 + 7 * p.2 < 0 ∨ (4 * p.1 + 7 * p.2 = 0 ∧ p.1 < 0))
def sp_is_downward : SpD := fun ds M Q _ => ∃ p : Pair, ds = [MD.prD p] ∧ Q (.bl (downB p)) M
theorem mono_is_downward : MonoP sp_is_downward := fun ds M Q Q' E E' q x ⟨s, e, h⟩ => ⟨s, e, q _ _ h⟩
theorem len_is_downward (ds M Q E) (h : sp_is_downward ds M Q E) : ds.length = 1 := by obtain ⟨_, rfl, _⟩ := h; rfl
def sp_whole : SpD := fun ds M Q _ => ∃ x : Str, ds = [.str x] ∧ x.length ≤ 1000 ∧ Q (optI (wholeP x.cps.toList)) M
theorem mono_whole : MonoP sp_whole := fun ds M Q Q' E E' q x ⟨s, e, h1, h⟩ => ⟨s, e, h1, q _ _ h⟩
theorem len_whole (ds M Q E) (h : sp_whole ds M Q E) : ds.length = 1 := by obtain ⟨_, rfl, _⟩ := h; rfl
def sp_within : SpD := fun ds M Q E => ∃ (p : Pair) (x : Str), ds = [MD.prD p, .str x] ∧ PairOr (lim p) x M Q E
theorem mono_within : MonoP sp_within := fun ds M Q Q' E E' q x ⟨p, s, e, h⟩ => ⟨p, s, e, h.imp q x⟩
theorem len_within (ds M Q E) (h : sp_within ds M Q E) : ds.length = 2 := by obtain ⟨_, _, rfl, _⟩ := h; rfl
def sp_read_tone : SpD := fun ds M Q E => ∃ x : Str, ds = [.str x] ∧ x.length ≤ 1000 ∧ PairOr (readT wholeP x.cps.toList) x M Q E
theorem mono_read_tone : MonoP sp_read_tone := fun ds M Q Q' E E' q x ⟨s, e, h1, h⟩ => ⟨s, e, h1, h.imp q x⟩
theorem len_read_tone (ds M Q E) (h : sp_read_tone ds M Q E) : ds.length = 1 := by obtain ⟨_, rfl, _⟩ := h; rfl
def sp_signs_of : SpD := fun ds M Q _ => ∃ (p : Nat) (x : Str), ds = [.int p, .str x] ∧ p < 7 ∧ x.length ≤ 1000 ∧ Q (optI (sgnOf (perfB p) x.cps.toList)) M
theorem mono_signs_of : MonoP sp_signs_of := fun ds M Q Q' E E' q x ⟨p, s, e, h1, h2, h⟩ => ⟨p, s, e, h1, h2, q _ _ h⟩
theorem len_signs_of (ds M Q E) (h : sp_signs_of ds M Q E) : ds.length = 2 := by obtain ⟨_, _, rfl, _⟩ := h; rfl
def sp_read_interval : SpD := fun ds M Q E => ∃ x : Str, ds = [.str x] ∧ x.length ≤ 1000 ∧ PairOr (readI wholeP x.cps.toList) x M Q E
theorem mono_read_interval : MonoP sp_read_interval := fun ds M Q Q' E E' q x ⟨s, e, h1, h⟩ => ⟨s, e, h1, h.imp q x⟩
theorem len_read_interval (ds M Q E) (h : sp_read_interval ds M Q E) : ds.length = 1 := by obtain ⟨_, rfl, _⟩ := h; rfl
def sp__law_letter : SpD := fun ds M Q _ => ∃ f : Int, ds = [.int f] ∧ Q (.tup [.int ((4 * f) % 7), .int ((f + 1) / 7)]) M
theorem mono__law_letter : MonoP sp__law_letter := fun ds M Q Q' E E' q x ⟨f, e, h⟩ => ⟨f, e, q _ _ h⟩
theorem len__law_letter (ds M Q E) (h : sp__law_letter ds M Q E) : ds.length = 1 := by obtain ⟨_, rfl, _⟩ := h; rfl
def Wide (p : Pair) : Prop := (-1010 ≤ p.1 ∧ p.1 ≤ 1010) ∧ (-1010 ≤ p.2 ∧ p.2 ≤ 1010)
/-- some text of at most so many signs -/
def Txt' (n : Nat) (Q : QE) (M : MH) : Prop := ∀ x : Str, x.length ≤ n → Q (.str x) M
def sp__law_tone_text : SpD := fun ds M Q _ => ∃ p : Pair, ds = [MD.prD p] ∧ Wide p ∧ Txt' 400 Q M
theorem mono__law_tone_text : MonoP sp__law_tone_text := fun ds M Q Q' E E' q x ⟨p, e, h1, h⟩ => ⟨p, e, h1, fun y hy => q _ _ (h y hy)⟩
theorem len__law_tone_text (ds M Q E) (h : sp__law_tone_text ds M Q E) : ds.length = 1 := by obtain ⟨_, rfl, _⟩ := h; rfl
def sp__law_quality : SpD := fun ds M Q _ => ∃ p a : Int, ds = [.int p, .int a] ∧ -300 ≤ a ∧ a ≤ 300 ∧ Txt' 301 Q M
theorem mono__law_quality : MonoP sp__law_quality := fun ds M Q Q' E E' q x ⟨p, a, e, h1, h2, h⟩ => ⟨p, a, e, h1, h2, fun y hy => q _ _ (h y hy)⟩
theorem len__law_quality (ds M Q E) (h : sp__law_quality ds M Q E) : ds.length = 2 := by obtain ⟨_, _, rfl, _⟩ := h; rfl
def dnP (p : Pair) : Prop := 4 * p.1 + 7 * p.2 < 0 ∨ (4 * p.1 + 7 * p.2 = 0 ∧ p.1 < 0)
instance (p : Pair) : Decidable (dnP p) := by unfold dnP; infer_instance
def spr__law_interval_text (n : Nat) : SpD := fun ds M Q _ => ∃ p : Pair, ds = [MD.prD p] ∧ Wide p ∧ (n = 1 → ¬ dnP p) ∧ n ≠ 0 ∧ Txt' (if dnP p then 400 else 399) Q M
def sp__law_interval_text : SpD := fun ds M Q _ => ∃ p : Pair, ds = [MD.prD p] ∧ Wide p ∧ Txt' 400 Q M
theorem mono__law_interval_text : MonoP sp__law_interval_text := mono__law_tone_text
theorem monor__law_interval_text (n : Nat) : MonoP (spr__law_interval_text n) := fun ds M Q Q' E E' q x ⟨p, e, h1, h2, h3, h⟩ => ⟨p, e, h1, h2, h3, fun y hy => q _ _ (h y hy)⟩
theorem lenr__law_interval_text (n : Nat) (ds M Q E) (h : spr__law_interval_text n ds M Q E) : ds.length = 1 := by obtain ⟨_, rfl, _⟩ := h; rfl
theorem zero__law_interval_text (ds M Q E) (h : spr__law_interval_text 0 ds M Q E) : False := by obtain ⟨_, _, _, _, h, _⟩ := h; exact h rfl
theorem sub__law_interval_text {ds M Q E} (h : sp__law_interval_text ds M Q E) : spr__law_interval_text 4 ds M Q E := by
  obtain ⟨p, e, h1, h⟩ := h
  exact ⟨p, e, h1, fun z => by omega, by decide, fun y hy => h y (by split at hy <;> omega)⟩
def sp__law_number : SpD := fun ds M Q _ => ∃ x : Str, ds = [.str x] ∧ x.length ≤ 1000 ∧ Q (optI (numL x.cps.toList)) M
theorem mono__law_number : MonoP sp__law_number := fun ds M Q Q' E E' q x ⟨s, e, h1, h⟩ => ⟨s, e, h1, q _ _ h⟩
theorem len__law_number (ds M Q E) (h : sp__law_number ds M Q E) : ds.length = 1 := by obtain ⟨_, rfl, _⟩ := h; rfl
def sp__law_pair : SpD := fun ds M Q _ => ∃ f u : Int, ds = [.int f, .int u] ∧ Q (optP (lim (f, (u - 4 * f) / 7))) M
theorem mono__law_pair : MonoP sp__law_pair := fun ds M Q Q' E E' q x ⟨f, u, e, h⟩ => ⟨f, u, e, q _ _ h⟩
theorem len__law_pair (ds M Q E) (h : sp__law_pair ds M Q E) : ds.length = 2 := by obtain ⟨_, _, rfl, _⟩ := h; rfl
def sp__law_tone_of : SpD := fun ds M Q _ => ∃ x : Str, ds = [.str x] ∧ x.length ≤ 1000 ∧ Q (optP (readT numL x.cps.toList)) M
theorem mono__law_tone_of : MonoP sp__law_tone_of := fun ds M Q Q' E E' q x ⟨s, e, h1, h⟩ => ⟨s, e, h1, q _ _ h⟩
theorem len__law_tone_of (ds M Q E) (h : sp__law_tone_of ds M Q E) : ds.length = 1 := by obtain ⟨_, rfl, _⟩ := h; rfl
def sp__law_signs_of : SpD := sp_signs_of
theorem mono__law_signs_of : MonoP sp__law_signs_of := mono_signs_of
theorem len__law_signs_of (ds M Q E) (h : sp__law_signs_of ds M Q E) : ds.length = 2 := len_signs_of ds M Q E h
def sp__law_interval_of : SpD := fun ds M Q _ => ∃ x : Str, ds = [.str x] ∧ x.length ≤ 1000 ∧ Q (optP (readI numL x.cps.toList)) M
theorem mono__law_interval_of : MonoP sp__law_interval_of := fun ds M Q Q' E E' q x ⟨s, e, h1, h⟩ => ⟨s, e, h1, q _ _ h⟩
theorem len__law_interval_of (ds M Q E) (h : sp__law_interval_of ds M Q E) : ds.length = 1 := by obtain ⟨_, rfl, _⟩ := h; rfl
def sp__law_near : SpD := fun ds M Q _ => ∃ (p : Nat) (x : Str), ds = [.ref p, .str x] ∧ Pool M p ∧ x.length ≤ 400 ∧ ∀ (y : Str) M', y.length ≤ 410 → Step p M M' → Q (.str y) M'
theorem mono__law_near : MonoP sp__law_near := fun ds M Q Q' E E' q x ⟨p, y, e, h1, h2, h⟩ => ⟨p, y, e, h1, h2, fun z M' a b => q _ _ (h z M' a b)⟩
theorem len__law_near (ds M Q E) (h : sp__law_near ds M Q E) : ds.length = 2 := by obtain ⟨_, _, rfl, _⟩ := h; rfl
def sp__law_beyond : SpD := fun ds M Q _ => ∃ p : Nat, ds = [.ref p] ∧ Pool M p ∧ ∀ (y : Pair) M', Wide y → Step p M M' → Q (MD.prD y) M'
theorem mono__law_beyond : MonoP sp__law_beyond := fun ds M Q Q' E E' q x ⟨p, e, h1, h⟩ => ⟨p, e, h1, fun z M' a b => q _ _ (h z M' a b)⟩
theorem len__law_beyond (ds M Q E) (h : sp__law_beyond ds M Q E) : ds.length = 1 := by obtain ⟨_, rfl, _⟩ := h; rfl
def sp__law_some_text : SpD := fun ds M Q _ => ∃ p : Nat, ds = [.ref p] ∧ Pool M p ∧ ∀ (y : Str) M', y.length ≤ 410 → Step p M M' → Q (.str y) M'
theorem mono__law_some_text : MonoP sp__law_some_text := fun ds M Q Q' E E' q x ⟨p, e, h1, h⟩ => ⟨p, e, h1, fun z M' a b => q _ _ (h z M' a b)⟩
theorem len__law_some_text (ds M Q E) (h : sp__law_some_text ds M Q E) : ds.length = 1 := by obtain ⟨_, rfl, _⟩ := h; rfl
def dueP (b : Bool) (l : Sg) : Option Pair := if b then readT numL l else readI numL l
def ansD (r : Option Pair) (x : Str) : D := match r with
  | some p => .tup [.str "told", MD.prD p]
  | none => .tup [.str "refused", .str x, .bl true, .bl true]
def sp__law_reading : SpD := fun ds M Q _ => ∃ (x : Str) (b : Bool), ds = [.str x, .bl b] ∧ x.length ≤ 1000 ∧ Q (ansD (dueP b x.cps.toList) x) M
theorem mono__law_reading : MonoP sp__law_reading := fun ds M Q Q' E E' q x ⟨s, b, e, h1, h⟩ => ⟨s, b, e, h1, q _ _ h⟩
theorem len__law_reading (ds M Q E) (h : sp__law_reading ds M Q E) : ds.length = 2 := by obtain ⟨_, _, rfl, _⟩ := h; rfl
def sp_law : SpD := fun ds M Q _ => ∃ ns : List Int, ds = [.scr ns] ∧ ns.length ≤ 63 ∧ M = [] ∧ ∀ M', Q (.bl true) M'
theorem len_law (ds M Q E) (h : sp_law ds M Q E) : ds.length = 1 := by obtain ⟨_, rfl, _⟩ := h; rfl
theorem law_start (ns : List Int) (h : ns.length ≤ 63) (hb : ∀ z ∈ ns, Builtin.Int.intBits z ≤ 1048576) : ∀ Q E, (∀ M, Q (.bl true) M) → sp_law [.scr ns] [] Q E := fun Q E q => ⟨ns, rfl, h, rfl, q⟩
def xmt : Mt := [("BadName", "BadColumn", false), ("BadName", "BadKey", false), ("BadName", "BadName", true)]
def xit : Mt := [("BadName", "ScoreError", true), ("BadName", "ValueError", true)]
def xxt : List (Str × Str) := [("BadName", "text")]
abbrev N_opposite : List Str := ["interval"]
abbrev N_is_downward : List Str := ["interval", "up"]
abbrev N_whole : List Str := ["text", "figures", "sign"]
abbrev N_within : List Str := ["interval", "text"]
abbrev N_read_tone : List Str := ["text", "at", "octave", "many", "place", "fifths"]
abbrev N_signs_of : List Str := ["place", "word", "many"]
abbrev N_read_interval : List Str := ["text", "upward", "at", "number", "place", "many", "fifths", "found"]
abbrev N__law_letter : List Str := ["fifths", "place", "rest"]
abbrev N__law_tone_text : List Str := ["tone", "marks", "place", "many"]
abbrev N__law_quality : List Str := ["place", "many"]
abbrev N__law_interval_text : List Str := ["interval", "up", "place", "many"]
abbrev N__law_number : List Str := ["text", "figures", "number", "sign"]
abbrev N__law_pair : List Str := ["fifths", "up", "pair"]
abbrev N__law_tone_of : List Str := ["text", "many", "sign", "octave", "place", "signed"]
abbrev N__law_signs_of : List Str := ["place", "word", "pure"]
abbrev N__law_interval_of : List Str := ["text", "upward", "many", "sign", "number", "place", "signed", "pair"]
abbrev N__law_near : List Str := ["pool", "text", "turn", "at", "sign", "kind"]
abbrev N__law_beyond : List Str := ["pool", "pair"]
abbrev N__law_some_text : List Str := ["pool", "kind", "odd", "pair", "text"]
abbrev N__law_reading : List Str := ["text", "is_tone", "found", "e"]
abbrev N_law : List Str := ["script", "pool", "rows", "k", "text", "wanted", "is_tone", "due"]
def r_opposite : TS' := (tRet' (tTup' (tCons' (tUn' oNeg (tOp' oIx (tVar' 0) (tC' (.int 0)))) (tCons' (tUn' oNeg (tOp' oIx (tVar' 0) (tC' (.int 1)))) tNil'))))

def r_is_downward : TS' := (tSeq' (tAsg' (tCall' sp_steps (tCons' (tVar' 0) tNil')) (gName' 1))
    (tRet' (tOrV' (tOp' (oI0 fun i j => .bl (decide (i < j))) (tVar' 1) (tC' (.int 0))) (tAndV' (tOp' (oEq false) (tVar' 1) (tC' (.int 0))) (tOp' (oI0 fun i j => .bl (decide (i < j))) (tOp' oIx (tVar' 0) (tC' (.int 0))) (tC' (.int 0)))))))

def r_whole : TS' := (tSeq' (tAsg' (tIf' (tTru' (tBM' "str" mStarts (tVar' 0) (tCons' (tC' (.str "-")) tNil'))) (tSl' (oSl false) (tVar' 0) (tPart' (tC' (.int 1))) tNoPart') (tVar' 0)) (gName' 1))
    (tSeq' (tIfS' (tOr' (tNot' (tB' (tChain' (oI0 fun i j => .bl (decide (i < j))) (oI0 fun i j => .bl (decide (i ≤ j))) (tC' (.int 0)) (tCB' cLen (tCons' (tVar' 1) tNil')) (tC' (.int 30))))) (tNot' (tTru' (tCB' (cBls fun bs => bs.all id) (tCons' (tLc' false (tIt' (tVar' 1)) (gName' 2) tYes' (tOp' (oInS false) (tVar' 2) (tC' (.str "0123456789"))) [2]) tNil'))))) (tRet' (tC' .non)) tNext')
    (tSeq' (tIfS' (tAnd' (tB' (tOp' (oEq false) (tOp' oIx (tVar' 1) (tC' (.int 0))) (tC' (.str "0")))) (tOr' (tB' (tOp' (oI0 fun i j => .bl (decide (j < i))) (tCB' cLen (tCons' (tVar' 1) tNil')) (tC' (.int 1)))) (tB' (tOp' (oEq true) (tVar' 1) (tVar' 0))))) (tRet' (tC' .non)) tNext')
    (tRet' (tCB' cInt (tCons' (tVar' 0) tNil'))))))

def r_within : TS' := (tSeq' (tIfS' (tB' (tOp' (oI0 fun i j => .bl (decide (j < i))) (tCB' (cI2 fun i j => .int (if j > i then j else i)) (tCons' (tCB' (cI1 fun i => .int (if i < 0 then -i else i)) (tCons' (tOp' oIx (tVar' 0) (tC' (.int 0))) tNil')) (tCons' (tCB' (cI1 fun i => .int (if i < 0 then -i else i)) (tCons' (tOp' oIx (tVar' 0) (tC' (.int 1))) tNil')) tNil'))) (tC' (.int 1000)))) (tRaise' (tMkI' "BadName" ["text"] (tCons' (tVar' 1) tNil'))) tNext')
    (tRet' (tVar' 0)))

def r_read_tone : TS' := (tSeq' (tIfS' (tOr' (tNot' (tTru' (tVar' 0))) (tB' (tOp' (oInS true) (tOp' oIx (tVar' 0) (tC' (.int 0))) (tC' (.str "CDEFGAB"))))) (tRaise' (tMkI' "BadName" ["text"] (tCons' (tVar' 0) tNil'))) tNext')
    (tSeq' (tAsg' (tC' (.int 1)) (gName' 1))
    (tSeq' (tWhile' (tAnd' (tB' (tOp' (oI0 fun i j => .bl (decide (i < j))) (tVar' 1) (tCB' cLen (tCons' (tVar' 0) tNil')))) (tAnd' (tB' (tOp' (oInS false) (tOp' oIx (tVar' 0) (tVar' 1)) (tC' (.str "#b")))) (tB' (tOp' (oEq false) (tOp' oIx (tVar' 0) (tVar' 1)) (tOp' oIx (tVar' 0) (tC' (.int 1))))))) (tAsg' (tOp' (oAdd false) (tVar' 1) (tC' (.int 1))) (gName' 1)))
    (tSeq' (tAsg' (tCall' sp_whole (tCons' (tSl' (oSl false) (tVar' 0) (tPart' (tVar' 1)) tNoPart') tNil')) (gName' 2))
    (tSeq' (tIfS' (tB' (tOp' (oIsN' false) (tVar' 2) (tC' .non))) (tRaise' (tMkI' "BadName" ["text"] (tCons' (tVar' 0) tNil'))) tNext')
    (tSeq' (tAsg' (tOp' oSub (tVar' 1) (tC' (.int 1))) (gName' 3))
    (tSeq' (tIfS' (tAnd' (tB' (tOp' (oI0 fun i j => .bl (decide (j < i))) (tVar' 3) (tC' (.int 0)))) (tB' (tOp' (oEq false) (tOp' oIx (tVar' 0) (tC' (.int 1))) (tC' (.str "b"))))) (tAsg' (tUn' oNeg (tVar' 3)) (gName' 3)) tNext')
    (tSeq' (tAsg' (tBM' "str" mSIndex (tC' (.str "CDEFGAB")) (tCons' (tOp' oIx (tVar' 0) (tC' (.int 0))) tNil')) (gName' 4))
    (tSeq' (tAsg' (tOp' (oAdd false) (tOp' oIx (tC' (.tup [.int 0, .int 2, .int 4, .int (-1), .int 1, .int 3, .int 5])) (tVar' 4)) (tOp' (oMul false) (tC' (.int 7)) (tVar' 3))) (gName' 5))
    (tRet' (tCall' sp_within (tCons' (tTup' (tCons' (tVar' 5) (tCons' (tOp' oFdiv (tOp' oSub (tOp' (oAdd false) (tOp' (oMul false) (tC' (.int 7)) (tVar' 2)) (tVar' 4)) (tOp' (oMul false) (tC' (.int 4)) (tVar' 5))) (tC' (.int 7))) tNil'))) (tCons' (tVar' 0) tNil')))))))))))))

def r_signs_of : TS' := (tSeq' (tAsg' (tCB' cLen (tCons' (tVar' 1) tNil')) (gName' 2))
    (tSeq' (tIfS' (tAnd' (tB' (tOp' (oEq false) (tVar' 1) (tOp' (oMul false) (tC' (.str "A")) (tVar' 2)))) (tB' (tOp' (oI0 fun i j => .bl (decide (j < i))) (tVar' 2) (tC' (.int 0))))) (tRet' (tVar' 2)) tNext')
    (tSeq' (tIfS' (tB' (tOp' (oInT false) (tVar' 0) (tTup' (tCons' (tC' (.int 0)) (tCons' (tC' (.int 3)) (tCons' (tC' (.int 4)) tNil')))))) (tSeq' (tIfS' (tB' (tOp' (oEq false) (tVar' 1) (tC' (.str "P")))) (tRet' (tC' (.int 0))) tNext')
    (tRet' (tIf' (tAnd' (tB' (tOp' (oEq false) (tVar' 1) (tOp' (oMul false) (tC' (.str "d")) (tVar' 2)))) (tB' (tOp' (oI0 fun i j => .bl (decide (j < i))) (tVar' 2) (tC' (.int 0))))) (tUn' oNeg (tVar' 2)) (tC' .non)))) tNext')
    (tSeq' (tIfS' (tOr' (tB' (tOp' (oEq false) (tVar' 1) (tC' (.str "M")))) (tB' (tOp' (oEq false) (tVar' 1) (tC' (.str "m"))))) (tRet' (tIf' (tB' (tOp' (oEq false) (tVar' 1) (tC' (.str "M")))) (tC' (.int 0)) (tUn' oNeg (tC' (.int 1))))) tNext')
    (tRet' (tIf' (tAnd' (tB' (tOp' (oEq false) (tVar' 1) (tOp' (oMul false) (tC' (.str "d")) (tVar' 2)))) (tB' (tOp' (oI0 fun i j => .bl (decide (j < i))) (tVar' 2) (tC' (.int 0))))) (tOp' oSub (tUn' oNeg (tVar' 2)) (tC' (.int 1))) (tC' .non)))))))

def r_read_interval : TS' := (tSeq' (tAsg' (tIf' (tTru' (tBM' "str" mStarts (tVar' 0) (tCons' (tC' (.str "-")) tNil'))) (tSl' (oSl false) (tVar' 0) (tPart' (tC' (.int 1))) tNoPart') (tVar' 0)) (gName' 1))
    (tSeq' (tAsg' (tC' (.int 0)) (gName' 2))
    (tSeq' (tWhile' (tAnd' (tB' (tOp' (oI0 fun i j => .bl (decide (i < j))) (tVar' 2) (tCB' cLen (tCons' (tVar' 1) tNil')))) (tB' (tOp' (oInS false) (tOp' oIx (tVar' 1) (tVar' 2)) (tC' (.str "PMmAd"))))) (tAsg' (tOp' (oAdd false) (tVar' 2) (tC' (.int 1))) (gName' 2)))
    (tSeq' (tAsg' (tCall' sp_whole (tCons' (tSl' (oSl false) (tVar' 1) (tPart' (tVar' 2)) tNoPart') tNil')) (gName' 3))
    (tSeq' (tIfS' (tOr' (tB' (tOp' (oIsN' false) (tVar' 3) (tC' .non))) (tB' (tOp' (oI0 fun i j => .bl (decide (i < j))) (tVar' 3) (tC' (.int 1))))) (tRaise' (tMkI' "BadName" ["text"] (tCons' (tVar' 0) tNil'))) tNext')
    (tSeq' (tAsg' (tOp' oMod (tOp' oSub (tVar' 3) (tC' (.int 1))) (tC' (.int 7))) (gName' 4))
    (tSeq' (tAsg' (tCall' sp_signs_of (tCons' (tVar' 4) (tCons' (tSl' (oSl false) (tVar' 1) tNoPart' (tPart' (tVar' 2))) tNil'))) (gName' 5))
    (tSeq' (tIfS' (tB' (tOp' (oIsN' false) (tVar' 5) (tC' .non))) (tRaise' (tMkI' "BadName" ["text"] (tCons' (tVar' 0) tNil'))) tNext')
    (tSeq' (tAsg' (tOp' (oAdd false) (tOp' oIx (tC' (.tup [.int 0, .int 2, .int 4, .int (-1), .int 1, .int 3, .int 5])) (tVar' 4)) (tOp' (oMul false) (tC' (.int 7)) (tVar' 5))) (gName' 6))
    (tSeq' (tAsg' (tTup' (tCons' (tVar' 6) (tCons' (tOp' oFdiv (tOp' oSub (tOp' oSub (tVar' 3) (tC' (.int 1))) (tOp' (oMul false) (tC' (.int 4)) (tVar' 6))) (tC' (.int 7))) tNil'))) (gName' 7))
    (tSeq' (tIfS' (tOr' (tTru' (tCall' sp_is_downward (tCons' (tVar' 7) tNil'))) (tAnd' (tB' (tOp' (oEq true) (tVar' 1) (tVar' 0))) (tB' (tOp' (oEq false) (tVar' 7) (tTup' (tCons' (tC' (.int 0)) (tCons' (tC' (.int 0)) tNil'))))))) (tRaise' (tMkI' "BadName" ["text"] (tCons' (tVar' 0) tNil'))) tNext')
    (tRet' (tCall' sp_within (tCons' (tIf' (tB' (tOp' (oEq false) (tVar' 1) (tVar' 0))) (tVar' 7) (tCall' sp_opposite (tCons' (tVar' 7) tNil'))) (tCons' (tVar' 0) tNil')))))))))))))))

def r__law_letter : TS' := (tSeq' (tFor' (tRng1' (tCons' (tC' (.int 7)) tNil')) (gName' 1) (tSeq' (tAsg' (tOp' oSub (tVar' 0) (tOp' oIx (tLst' false (tCons' (tC' (.int 0)) (tCons' (tC' (.int 2)) (tCons' (tC' (.int 4)) (tCons' (tUn' oNeg (tC' (.int 1))) (tCons' (tC' (.int 1)) (tCons' (tC' (.int 3)) (tCons' (tC' (.int 5)) tNil')))))))) (tVar' 1))) (gName' 2))
    (tIfS' (tB' (tOp' (oEq false) (tOp' oMod (tCB' cInt (tCons' (tVar' 2) tNil')) (tC' (.int 7))) (tC' (.int 0)))) (tRet' (tTup' (tCons' (tVar' 1) (tCons' (tCB' cInt (tCons' (tOp' oFdiv (tVar' 2) (tC' (.int 7))) tNil')) tNil')))) tNext')))
    (tRet' (tTup' (tCons' (tC' (.int 0)) (tCons' (tC' (.int 0)) tNil')))))

def r__law_tone_text : TS' := (tSeq' (tAsg' (tCall' sp__law_letter (tCons' (tOp' oIx (tVar' 0) (tC' (.int 0))) tNil')) (gTup' 2 [(gName' 2), (gName' 3)]))
    (tSeq' (tAsg' (tIf' (tB' (tOp' (oI0 fun i j => .bl (decide (j < i))) (tVar' 3) (tC' (.int 0)))) (tOp' (oMul false) (tC' (.str "#")) (tVar' 3)) (tOp' (oMul false) (tC' (.str "b")) (tUn' oNeg (tVar' 3)))) (gName' 1))
    (tRet' (tOp' (oAdd false) (tOp' (oAdd false) (tOp' oIx (tC' (.str "CDEFGAB")) (tVar' 2)) (tVar' 1)) (tCB' cStr (tCons' (tCB' cInt (tCons' (tOp' oFdiv (tOp' oSub (tOp' (oAdd false) (tOp' (oMul false) (tC' (.int 4)) (tOp' oIx (tVar' 0) (tC' (.int 0)))) (tOp' (oMul false) (tC' (.int 7)) (tOp' oIx (tVar' 0) (tC' (.int 1))))) (tVar' 2)) (tC' (.int 7))) tNil')) tNil'))))))

def r__law_quality : TS' := (tSeq' (tIfS' (tB' (tOp' (oI0 fun i j => .bl (decide (j < i))) (tVar' 1) (tC' (.int 0)))) (tRet' (tOp' (oMul false) (tC' (.str "A")) (tVar' 1))) tNext')
    (tSeq' (tIfS' (tOr' (tB' (tOp' (oEq false) (tVar' 0) (tC' (.int 0)))) (tOr' (tB' (tOp' (oEq false) (tVar' 0) (tC' (.int 3)))) (tB' (tOp' (oEq false) (tVar' 0) (tC' (.int 4)))))) (tRet' (tIf' (tB' (tOp' (oEq false) (tVar' 1) (tC' (.int 0)))) (tC' (.str "P")) (tOp' (oMul false) (tC' (.str "d")) (tUn' oNeg (tVar' 1))))) tNext')
    (tSeq' (tIfS' (tB' (tOp' (oI0 fun i j => .bl (decide (j < i))) (tVar' 1) (tUn' oNeg (tC' (.int 2))))) (tRet' (tIf' (tB' (tOp' (oEq false) (tVar' 1) (tC' (.int 0)))) (tC' (.str "M")) (tC' (.str "m")))) tNext')
    (tRet' (tOp' (oMul false) (tC' (.str "d")) (tOp' oSub (tUn' oNeg (tVar' 1)) (tC' (.int 1))))))))

def r__law_number : TS' := (tSeq' (tAsg' (tIf' (tB' (tOp' (oEq false) (tSl' (oSl false) (tVar' 0) tNoPart' (tPart' (tC' (.int 1)))) (tC' (.str "-")))) (tSl' (oSl false) (tVar' 0) (tPart' (tC' (.int 1))) tNoPart') (tVar' 0)) (gName' 1))
    (tSeq' (tIfS' (tOr' (tB' (tOp' (oEq false) (tVar' 1) (tC' (.str "")))) (tAnd' (tB' (tOp' (oEq false) (tOp' oIx (tVar' 1) (tC' (.int 0))) (tC' (.str "0")))) (tB' (tOp' (oEq true) (tVar' 0) (tC' (.str "0")))))) (tRet' (tC' .non)) tNext')
    (tSeq' (tAsg' (tC' (.int 0)) (gName' 2))
    (tSeq' (tFor' (tIt' (tVar' 1)) (gName' 3) (tSeq' (tIfS' (tB' (tOp' (oInS true) (tVar' 3) (tC' (.str "0123456789")))) (tRet' (tC' .non)) tNext')
    (tAsg' (tOp' (oAdd false) (tOp' (oMul false) (tVar' 2) (tC' (.int 10))) (tBM' "str" mSIndex (tC' (.str "0123456789")) (tCons' (tVar' 3) tNil'))) (gName' 2))))
    (tRet' (tIf' (tB' (tOp' (oEq false) (tSl' (oSl false) (tVar' 0) tNoPart' (tPart' (tC' (.int 1)))) (tC' (.str "-")))) (tUn' oNeg (tVar' 2)) (tVar' 2)))))))

def r__law_pair : TS' := (tSeq' (tAsg' (tTup' (tCons' (tVar' 0) (tCons' (tCB' cInt (tCons' (tOp' oFdiv (tOp' oSub (tVar' 1) (tOp' (oMul false) (tC' (.int 4)) (tVar' 0))) (tC' (.int 7))) tNil')) tNil'))) (gName' 2))
    (tRet' (tIf' (tB' (tOp' (oI0 fun i j => .bl (decide (i ≤ j))) (tCB' (cI2 fun i j => .int (if j > i then j else i)) (tCons' (tCB' (cI1 fun i => .int (if i < 0 then -i else i)) (tCons' (tOp' oIx (tVar' 2) (tC' (.int 0))) tNil')) (tCons' (tCB' (cI1 fun i => .int (if i < 0 then -i else i)) (tCons' (tOp' oIx (tVar' 2) (tC' (.int 1))) tNil')) tNil'))) (tC' (.int 1000)))) (tVar' 2) (tC' .non))))

def r__law_tone_of : TS' := (tSeq' (tIfS' (tOr' (tB' (tOp' (oEq false) (tVar' 0) (tC' (.str "")))) (tB' (tOp' (oInS true) (tOp' oIx (tVar' 0) (tC' (.int 0))) (tC' (.str "CDEFGAB"))))) (tRet' (tC' .non)) tNext')
    (tSeq' (tAsg' (tC' (.int 0)) (gName' 1))
    (tSeq' (tFor' (tIt' (tSl' (oSl false) (tVar' 0) (tPart' (tC' (.int 1))) tNoPart')) (gName' 2) (tSeq' (tIfS' (tOr' (tB' (tOp' (oInS true) (tVar' 2) (tC' (.str "#b")))) (tB' (tOp' (oEq true) (tVar' 2) (tOp' oIx (tVar' 0) (tC' (.int 1)))))) tBreak' tNext')
    (tAsg' (tOp' (oAdd false) (tVar' 1) (tC' (.int 1))) (gName' 1))))
    (tSeq' (tAsg' (tCall' sp__law_number (tCons' (tSl' (oSl false) (tVar' 0) (tPart' (tOp' (oAdd false) (tC' (.int 1)) (tVar' 1))) tNoPart') tNil')) (gName' 3))
    (tSeq' (tIfS' (tB' (tOp' (oIsN' false) (tVar' 3) (tC' .non))) (tRet' (tC' .non)) tNext')
    (tSeq' (tAsg' (tBM' "str" mSIndex (tC' (.str "CDEFGAB")) (tCons' (tOp' oIx (tVar' 0) (tC' (.int 0))) tNil')) (gName' 4))
    (tSeq' (tAsg' (tIf' (tB' (tOp' (oEq false) (tOp' oIx (tVar' 0) (tC' (.int 1))) (tC' (.str "b")))) (tUn' oNeg (tVar' 1)) (tVar' 1)) (gName' 5))
    (tRet' (tCall' sp__law_pair (tCons' (tOp' (oAdd false) (tOp' oIx (tLst' false (tCons' (tC' (.int 0)) (tCons' (tC' (.int 2)) (tCons' (tC' (.int 4)) (tCons' (tUn' oNeg (tC' (.int 1))) (tCons' (tC' (.int 1)) (tCons' (tC' (.int 3)) (tCons' (tC' (.int 5)) tNil')))))))) (tVar' 4)) (tOp' (oMul false) (tC' (.int 7)) (tVar' 5))) (tCons' (tOp' (oAdd false) (tOp' (oMul false) (tC' (.int 7)) (tVar' 3)) (tVar' 4)) tNil')))))))))))

def r__law_signs_of : TS' := (tSeq' (tAsg' (tOrV' (tOp' (oEq false) (tVar' 0) (tC' (.int 0))) (tOrV' (tOp' (oEq false) (tVar' 0) (tC' (.int 3))) (tOp' (oEq false) (tVar' 0) (tC' (.int 4))))) (gName' 2))
    (tSeq' (tIfS' (tB' (tOp' (oEq false) (tVar' 1) (tC' (.str "")))) (tRet' (tC' .non)) tNext')
    (tSeq' (tIfS' (tB' (tOp' (oEq false) (tVar' 1) (tOp' (oMul false) (tC' (.str "A")) (tCB' cLen (tCons' (tVar' 1) tNil'))))) (tRet' (tCB' cLen (tCons' (tVar' 1) tNil'))) tNext')
    (tSeq' (tIfS' (tB' (tOp' (oEq false) (tVar' 1) (tOp' (oMul false) (tC' (.str "d")) (tCB' cLen (tCons' (tVar' 1) tNil'))))) (tRet' (tIf' (tTru' (tVar' 2)) (tUn' oNeg (tCB' cLen (tCons' (tVar' 1) tNil'))) (tOp' oSub (tUn' oNeg (tCB' cLen (tCons' (tVar' 1) tNil'))) (tC' (.int 1))))) tNext')
    (tSeq' (tIfS' (tAnd' (tB' (tOp' (oEq false) (tVar' 1) (tC' (.str "P")))) (tTru' (tVar' 2))) (tRet' (tC' (.int 0))) tNext')
    (tSeq' (tIfS' (tAnd' (tOr' (tB' (tOp' (oEq false) (tVar' 1) (tC' (.str "M")))) (tB' (tOp' (oEq false) (tVar' 1) (tC' (.str "m"))))) (tNot' (tTru' (tVar' 2)))) (tRet' (tIf' (tB' (tOp' (oEq false) (tVar' 1) (tC' (.str "M")))) (tC' (.int 0)) (tUn' oNeg (tC' (.int 1))))) tNext')
    (tRet' (tC' .non))))))))

def r__law_interval_of : TS' := (tSeq' (tAsg' (tIf' (tB' (tOp' (oEq false) (tSl' (oSl false) (tVar' 0) tNoPart' (tPart' (tC' (.int 1)))) (tC' (.str "-")))) (tSl' (oSl false) (tVar' 0) (tPart' (tC' (.int 1))) tNoPart') (tVar' 0)) (gName' 1))
    (tSeq' (tAsg' (tC' (.int 0)) (gName' 2))
    (tSeq' (tFor' (tIt' (tVar' 1)) (gName' 3) (tSeq' (tIfS' (tB' (tOp' (oInS true) (tVar' 3) (tC' (.str "PMmAd")))) tBreak' tNext')
    (tAsg' (tOp' (oAdd false) (tVar' 2) (tC' (.int 1))) (gName' 2))))
    (tSeq' (tAsg' (tCall' sp__law_number (tCons' (tSl' (oSl false) (tVar' 1) (tPart' (tVar' 2)) tNoPart') tNil')) (gName' 4))
    (tSeq' (tIfS' (tOr' (tB' (tOp' (oIsN' false) (tVar' 4) (tC' .non))) (tB' (tOp' (oI0 fun i j => .bl (decide (i < j))) (tVar' 4) (tC' (.int 1))))) (tRet' (tC' .non)) tNext')
    (tSeq' (tAsg' (tOp' oMod (tCB' cInt (tCons' (tOp' oSub (tVar' 4) (tC' (.int 1))) tNil')) (tC' (.int 7))) (gName' 5))
    (tSeq' (tAsg' (tCall' sp__law_signs_of (tCons' (tVar' 5) (tCons' (tSl' (oSl false) (tVar' 1) tNoPart' (tPart' (tVar' 2))) tNil'))) (gName' 6))
    (tSeq' (tIfS' (tOr' (tB' (tOp' (oIsN' false) (tVar' 6) (tC' .non))) (tOr' (tAnd' (tB' (tOp' (oEq false) (tVar' 4) (tC' (.int 1)))) (tB' (tOp' (oI0 fun i j => .bl (decide (i < j))) (tVar' 6) (tC' (.int 0))))) (tAnd' (tB' (tOp' (oEq true) (tVar' 0) (tVar' 1))) (tAnd' (tB' (tOp' (oEq false) (tVar' 4) (tC' (.int 1)))) (tB' (tOp' (oEq false) (tVar' 6) (tC' (.int 0)))))))) (tRet' (tC' .non)) tNext')
    (tSeq' (tAsg' (tCall' sp__law_pair (tCons' (tOp' (oAdd false) (tOp' oIx (tLst' false (tCons' (tC' (.int 0)) (tCons' (tC' (.int 2)) (tCons' (tC' (.int 4)) (tCons' (tUn' oNeg (tC' (.int 1))) (tCons' (tC' (.int 1)) (tCons' (tC' (.int 3)) (tCons' (tC' (.int 5)) tNil')))))))) (tVar' 5)) (tOp' (oMul false) (tC' (.int 7)) (tVar' 6))) (tCons' (tOp' oSub (tVar' 4) (tC' (.int 1))) tNil'))) (gName' 7))
    (tSeq' (tIfS' (tOr' (tB' (tOp' (oIsN' false) (tVar' 7) (tC' .non))) (tB' (tOp' (oEq false) (tVar' 0) (tVar' 1)))) (tRet' (tVar' 7)) tNext')
    (tRet' (tTup' (tCons' (tUn' oNeg (tOp' oIx (tVar' 7) (tC' (.int 0)))) (tCons' (tUn' oNeg (tOp' oIx (tVar' 7) (tC' (.int 1)))) tNil'))))))))))))))

def r__law_near : TS' := (tSeq' (tFor' (tRng1' (tCons' (tOp' (oAdd false) (tC' (.int 1)) (tCall' sp__law_take (tCons' (tVar' 0) (tCons' (tC' (.int 2)) tNil')))) tNil')) (gName' 2) (tSeq' (tAsg' (tCall' sp__law_take (tCons' (tVar' 0) (tCons' (tOp' (oAdd false) (tCB' cLen (tCons' (tVar' 1) tNil')) (tC' (.int 1))) tNil'))) (gName' 3))
    (tSeq' (tAsg' (tCall' sp__law_pick (tCons' (tVar' 0) (tCons' (tCB' (cListS false) (tCons' (tC' (.str "CBFH#b-01479PMmAdx +~c|")) tNil')) tNil'))) (gName' 4))
    (tSeq' (tAsg' (tCall' sp__law_take (tCons' (tVar' 0) (tCons' (tC' (.int 3)) tNil'))) (gName' 5))
    (tAsg' (tOp' (oAdd false) (tOp' (oAdd false) (tSl' (oSl false) (tVar' 1) tNoPart' (tPart' (tVar' 3))) (tIf' (tB' (tOp' (oEq false) (tVar' 5) (tC' (.int 2)))) (tC' (.str "")) (tVar' 4))) (tSl' (oSl false) (tVar' 1) (tPart' (tIf' (tB' (tOp' (oEq false) (tVar' 5) (tC' (.int 0)))) (tVar' 3) (tOp' (oAdd false) (tVar' 3) (tC' (.int 1))))) tNoPart')) (gName' 1))))))
    (tRet' (tVar' 1)))

def r__law_beyond : TS' := (tSeq' (tAsg' (tLst' true (tCons' (tOp' oSub (tCall' sp__law_take (tCons' (tVar' 0) (tCons' (tC' (.int 2001)) tNil'))) (tC' (.int 1000))) (tCons' (tOp' oSub (tCall' sp__law_take (tCons' (tVar' 0) (tCons' (tC' (.int 2001)) tNil'))) (tC' (.int 1000))) tNil'))) (gName' 1))
    (tSeq' (tAsg' (tCall' sp__law_pick (tCons' (tVar' 0) (tCons' (tLst' false (tCons' (tC' (.int 1001)) (tCons' (tUn' oNeg (tC' (.int 1001))) (tCons' (tC' (.int 1002)) (tCons' (tUn' oNeg (tC' (.int 1007))) (tCons' (tC' (.int 1000)) (tCons' (tUn' oNeg (tC' (.int 1000))) tNil'))))))) tNil'))) (gSub' (tVar' 1) (tCall' sp__law_take (tCons' (tVar' 0) (tCons' (tC' (.int 2)) tNil'))) oSetL))
    (tRet' (tTup' (tCons' (tOp' oIx (tVar' 1) (tC' (.int 0))) (tCons' (tOp' oIx (tVar' 1) (tC' (.int 1))) tNil'))))))

def r__law_some_text : TS' := (tSeq' (tAsg' (tCall' sp__law_take (tCons' (tVar' 0) (tCons' (tC' (.int 7)) tNil'))) (gName' 1))
    (tSeq' (tAsg' (tLst' false (tCons' (tC' (.str "")) (tCons' (tC' (.str "C")) (tCons' (tC' (.str "4")) (tCons' (tC' (.str "-")) (tCons' (tC' (.str "C-0")) (tCons' (tC' (.str "C00")) (tCons' (tC' (.str "C-01")) (tCons' (tC' (.str "-P1")) (tCons' (tC' (.str "P1")) (tCons' (tC' (.str "d1")) (tCons' (tC' (.str "-d1")) (tCons' (tC' (.str "A1")) (tCons' (tC' (.str "-A1")) (tCons' (tC' (.str "AA1")) (tCons' (tC' (.str "P2")) (tCons' (tC' (.str "M1")) (tCons' (tC' (.str "m5")) (tCons' (tC' (.str "PP1")) (tCons' (tC' (.str "AP4")) (tCons' (tC' (.str "Am3")) tNil'))))))))))))))))))))) (gName' 2))
    (tSeq' (tAsg' (tOp' (oAdd false) (tVar' 2) (tLst' false (tCons' (tC' (.str "C#b4")) (tCons' (tC' (.str "c4")) (tCons' (tC' (.str "H4")) (tCons' (tC' (.str "C+4")) (tCons' (tC' (.str " C4")) (tCons' (tC' (.str "C4 ")) (tCons' (tC' (.str "--M2")) (tCons' (tC' (.str "P0")) (tCons' (tC' (.str "P")) (tCons' (tC' (.str "M")) (tCons' (tC' (.str "P-1")) (tCons' (tC' (.str "C4#")) (tCons' (tC' (.str "Cx4")) (tCons' (tC' (.str "dd1")) (tCons' (tC' (.str "MM2")) (tCons' (tC' (.str "mm2")) (tCons' (tC' (.str "d2")) (tCons' (tC' (.str "-d2")) (tCons' (tC' (.str "C99999999")) tNil'))))))))))))))))))))) (gName' 2))
    (tSeq' (tIfS' (tB' (tOp' (oEq false) (tVar' 1) (tC' (.int 0)))) (tRet' (tCall' sp__law_pick (tCons' (tVar' 0) (tCons' (tVar' 2) tNil')))) tNext')
    (tSeq' (tAsg' (tIf' (tB' (tOp' (oEq false) (tVar' 1) (tC' (.int 1)))) (tCall' sp__law_beyond (tCons' (tVar' 0) tNil')) (tCall' sp__law_far_pair (tCons' (tVar' 0) tNil'))) (gName' 3))
    (tSeq' (tAsg' (tIf' (tB' (tOp' (oEq false) (tCall' sp__law_take (tCons' (tVar' 0) (tCons' (tC' (.int 2)) tNil'))) (tC' (.int 0)))) (tCall' sp__law_tone_text (tCons' (tVar' 3) tNil')) (tCall' sp__law_interval_text (tCons' (tVar' 3) tNil'))) (gName' 4))
    (tRet' (tIf' (tB' (tOp' (oI0 fun i j => .bl (decide (i < j))) (tVar' 1) (tC' (.int 4)))) (tVar' 4) (tCall' sp__law_near (tCons' (tVar' 0) (tCons' (tVar' 4) tNil')))))))))))

def r__law_reading (CO : COf) : TS' := (tSeq' (tTry' CO xmt (tIfS' (tTru' (tVar' 1)) (tAsg' (tCall' sp_read_tone (tCons' (tVar' 0) tNil')) (gName' 2)) (tAsg' (tCall' sp_read_interval (tCons' (tVar' 0) tNil')) (gName' 2))) [.two "BadKey" "BadColumn" (tRet' (tTup' (tCons' (tC' (.str "another")) tNil'))), .as_ "BadName" 3 (fun xc a cls d => (tRet' (tTup' (tCons' (tC' (.str "refused")) (tCons' (tXf' xxt xc a cls d "text" (tVar' 3)) (tCons' (tIsE' xit xc a cls d "ScoreError" (tVar' 3)) (tCons' (tIsE' xit xc a cls d "ValueError" (tVar' 3)) tNil')))))))])
    (tRet' (tTup' (tCons' (tC' (.str "told")) (tCons' (tVar' 2) tNil')))))

def r_law : TS' := (tSeq' (tAsg' (tCall' sp__law_pool (tCons' (tVar' 0) tNil')) (gName' 1))
    (tSeq' (tAsg' (tLst' true tNil') (gName' 2))
    (tSeq' (tFor' (tRng1' (tCons' (tC' (.int 24)) tNil')) (gName' 3) (tSeq' (tAsg' (tCall' sp__law_some_text (tCons' (tVar' 1) tNil')) (gName' 4))
    (tSeq' (tDrop' (tBM' "list" mAppend (tVar' 2) (tCons' (tTup' (tCons' (tVar' 4) (tCons' (tC' (.bl true)) (tCons' (tCall' sp__law_tone_of (tCons' (tVar' 4) tNil')) tNil')))) tNil')))
    (tDrop' (tBM' "list" mAppend (tVar' 2) (tCons' (tTup' (tCons' (tVar' 4) (tCons' (tC' (.bl false)) (tCons' (tCall' sp__law_interval_of (tCons' (tVar' 4) tNil')) tNil')))) tNil'))))))
    (tSeq' (tFor' (tIt' (tCall' sp__law_order (tCons' (tVar' 1) (tCons' (tCB' cLen (tCons' (tVar' 2) tNil')) tNil')))) (gName' 3) (tSeq' (tAsg' (tOp' oIx (tVar' 2) (tVar' 3)) (gTup' 3 [(gName' 4), (gName' 6), (gName' 7)]))
    (tSeq' (tAsg' (tTup' (tCons' (tC' (.str "told")) (tCons' (tVar' 7) tNil'))) (gName' 5))
    (tSeq' (tIfS' (tB' (tOp' (oIsN' false) (tVar' 7) (tC' .non))) (tAsg' (tTup' (tCons' (tC' (.str "refused")) (tCons' (tVar' 4) (tCons' (tC' (.bl true)) (tCons' (tC' (.bl true)) tNil'))))) (gName' 5)) tNext')
    (tIfS' (tNot' (tTru' (tCall' sp__law_same (tCons' (tCall' sp__law_reading (tCons' (tVar' 4) (tCons' (tVar' 6) tNil'))) (tCons' (tVar' 5) tNil'))))) (tRet' (tC' (.bl false))) tNext')))))
    (tRet' (tC' (.bl true)))))))
def rr__law_interval_text (i : Nat) : TS' := (tSeq' (tAsg' (tOp' (oAdd false) (tOp' (oMul false) (tC' (.int 4)) (tOp' oIx (tVar' 0) (tC' (.int 0)))) (tOp' (oMul false) (tC' (.int 7)) (tOp' oIx (tVar' 0) (tC' (.int 1))))) (gName' 1))
    (tSeq' (tIfS' (tOr' (tB' (tOp' (oI0 fun i j => .bl (decide (i < j))) (tVar' 1) (tC' (.int 0)))) (tAnd' (tB' (tOp' (oEq false) (tVar' 1) (tC' (.int 0)))) (tB' (tOp' (oI0 fun i j => .bl (decide (i < j))) (tOp' oIx (tVar' 0) (tC' (.int 0))) (tC' (.int 0)))))) (tRet' (tOp' (oAdd false) (tC' (.str "-")) (tCall' (spr__law_interval_text i) (tCons' (tTup' (tCons' (tUn' oNeg (tOp' oIx (tVar' 0) (tC' (.int 0)))) (tCons' (tUn' oNeg (tOp' oIx (tVar' 0) (tC' (.int 1)))) tNil'))) tNil')))) tNext')
    (tSeq' (tAsg' (tOp' oMod (tCB' cInt (tCons' (tVar' 1) tNil')) (tC' (.int 7))) (gName' 2))
    (tSeq' (tAsg' (tCB' cInt (tCons' (tOp' oFdiv (tOp' oSub (tOp' oIx (tVar' 0) (tC' (.int 0))) (tOp' oIx (tLst' false (tCons' (tC' (.int 0)) (tCons' (tC' (.int 2)) (tCons' (tC' (.int 4)) (tCons' (tUn' oNeg (tC' (.int 1))) (tCons' (tC' (.int 1)) (tCons' (tC' (.int 3)) (tCons' (tC' (.int 5)) tNil')))))))) (tVar' 2))) (tC' (.int 7))) tNil')) (gName' 3))
    (tRet' (tOp' (oAdd false) (tCall' sp__law_quality (tCons' (tVar' 2) (tCons' (tVar' 3) tNil'))) (tCB' cStr (tCons' (tOp' (oAdd false) (tVar' 1) (tC' (.int 1))) tNil'))))))))

end K03
namespace K03
open MD L2 PySem Kit
theorem hz : (sizeLine : Nat) = 16777216 := by decide
theorem math_opposite (ds M Q E) (hM : WFM M) (hb : D.belL M.length ds = true) (h : sp_opposite ds M Q E) : r_opposite (retE M.length Q E) (startD N_opposite ds) M := by
  obtain ⟨p, rfl, q⟩ := h
  simp [r_opposite, startD, MD.prD]
  refine ⟨by rw [hz]; decide, ?_⟩
  rw [popM_same (Nat.le_refl _)]
  exact q
theorem math_is_downward (ds M Q E) (hM : WFM M) (hb : D.belL M.length ds = true) (h : sp_is_downward ds M Q E) : r_is_downward (retE M.length Q E) (startD N_is_downward ds) M := by
  obtain ⟨p, rfl, q⟩ := h
  simp [r_is_downward, startD, MD.prD]
  refine ⟨_, p.1, p.2, rfl, .inl rfl, ?_⟩
  simp
  unfold downB at q
  by_cases h1 : 4 * p.1 + 7 * p.2 < 0
  · simpa [h1, popM_same] using q
  · by_cases h2 : 4 * p.1 + 7 * p.2 = 0
    · simpa [h1, h2, popM_same] using q
    · simpa [h1, h2, popM_same] using q
theorem bound_max (a b : Int) : ((if (if a < 0 then -a else a) < (if b < 0 then -b else b) then (if b < 0 then -b else b) else (if a < 0 then -a else a)) ≤ 1000) ↔ ((-1000 ≤ a ∧ a ≤ 1000) ∧ (-1000 ≤ b ∧ b ≤ 1000)) := by
  split <;> split <;> split <;> omega
theorem math_within (ds M Q E) (hM : WFM M) (hb : D.belL M.length ds = true) (h : sp_within ds M Q E) : r_within (retE M.length Q E) (startD N_within ds) M := by
  obtain ⟨p, x, rfl, q⟩ := h
  unfold r_within
  refine seq_step fun S hS => ?_
  simp [startD, MD.prD]
  refine ⟨_, _, ⟨rfl, rfl⟩, ?_⟩
  have hbm := bound_max p.1 p.2
  by_cases hp : inB p = true
  · have e : lim p = some p := by unfold lim; rw [if_pos hp]
    rw [e] at q
    unfold inB at hp
    have hle := hbm.mpr (of_decide_eq_true hp)
    rw [if_neg (by omega)]
    subst hS
    simp [popM_same]
    exact q
  · have e : lim p = none := by unfold lim; rw [if_neg hp]
    rw [e] at q
    unfold inB at hp
    have hgt : ¬ _ := fun z => hp (decide_eq_true (hbm.mp z))
    rw [if_pos (by omega)]
    show E _ (popX _ _ _)
    rw [popX_same (Nat.le_refl _)]
    exact q
theorem math__law_pair (ds M Q E) (hM : WFM M) (hb : D.belL M.length ds = true) (h : sp__law_pair ds M Q E) : r__law_pair (retE M.length Q E) (startD N__law_pair ds) M := by
  obtain ⟨f, u, rfl, q⟩ := h
  unfold r__law_pair
  refine seq_step fun S hS => ?_
  simp [startD, e_fdiv]
  refine ⟨mulOk_l (by decide), divOk_of (by decide) (by decide), by rw [hz]; decide, ?_⟩
  subst hS
  simp
  refine ⟨_, _, ⟨rfl, rfl⟩, ?_⟩
  have hbm := bound_max f ((u - 4 * f) / 7)
  rw [popM_same (Nat.le_refl _), popM_same (Nat.le_refl _)]
  by_cases hp : inB (f, (u - 4 * f) / 7) = true
  · have e : lim (f, (u - 4 * f) / 7) = some (f, (u - 4 * f) / 7) := by unfold lim; rw [if_pos hp]
    rw [e] at q
    unfold inB at hp
    rw [if_pos (hbm.mpr (of_decide_eq_true hp))]
    exact q
  · have e : lim (f, (u - 4 * f) / 7) = none := by unfold lim; rw [if_neg hp]
    rw [e] at q
    unfold inB at hp
    rw [if_neg fun z => hp (decide_eq_true (hbm.mp z))]
    exact q
theorem math__law_letter (ds M Q E) (hM : WFM M) (hb : D.belL M.length ds = true) (h : sp__law_letter ds M Q E) : r__law_letter (retE M.length Q E) (startD N__law_letter ds) M := by
  obtain ⟨f, rfl, q⟩ := h
  unfold r__law_letter
  refine seq_step fun S hS => ?_
  simp [startD]
  refine forR_ind (fun i δ M' => M' = M ∧ (i : Int) ≤ (4 * f) % 7 ∧ ∃ a b, δ = [some (.int f), a, b]) ?_ ?_ ⟨rfl, by omega, _, _, rfl⟩
  · rintro δ M' ⟨_, h, _⟩
    omega
  · rintro i δ M' F hi ⟨rfl, hp, a, b, rfl⟩ hF
    refine ⟨trivial, ?_⟩
    have h5 : ∀ v : Int, ([0, 2, 4, -1, 1, 3, 5] : List Int)[i]? = some v → atI ([.int 0, .int 2, .int 4, .int (-1), .int 1, .int 3, .int 5] : List D) ((i : Nat) : Int) = some (.int v) := by
      intro v hv
      refine at_nat ?_
      rw [show ([.int 0, .int 2, .int 4, .int (-1), .int 1, .int 3, .int 5] : List D) = ([0, 2, 4, -1, 1, 3, 5] : List Int).map D.int from rfl, List.getElem?_map, hv]
      rfl
    have key : ∃ v : Int, ([0, 2, 4, -1, 1, 3, 5] : List Int)[i]? = some v ∧ ((f - v) % 7 = 0 → (i : Int) = (4 * f) % 7 ∧ (f - v) / 7 = (f + 1) / 7) ∧ ((f - v) % 7 ≠ 0 → (i : Int) + 1 ≤ (4 * f) % 7) := by
      have : i = 0 ∨ i = 1 ∨ i = 2 ∨ i = 3 ∨ i = 4 ∨ i = 5 ∨ i = 6 := by omega
      rcases this with rfl | rfl | rfl | rfl | rfl | rfl | rfl <;> exact ⟨_, rfl, fun h => by omega, fun h => by omega⟩
    obtain ⟨v, hv, k1, k2⟩ := key
    have hv' := h5 v hv
    simp [hv', e_fmod]
    refine ⟨by decide, ?_⟩
    by_cases h0 : (f - v) % 7 = 0
    · obtain ⟨e1, e2⟩ := k1 h0
      rw [if_pos h0]
      simp [e_fdiv]
      refine ⟨divOk_of (by decide) (by decide), by decide, ?_⟩
      rw [popM_same (Nat.le_refl _), e1, e2]
      exact q
    · rw [if_neg h0]
      exact hF _ _ ⟨rfl, by have := k2 h0; omega, _, _, rfl⟩
theorem rep_ok {a : Int} (h1 : -310 ≤ a) (h2 : a ≤ 310) : -4611686018427387904 < a ∧ a < 4611686018427387904 ∧ ∀ z : Str, z.length = 1 → z.length * a.toNat ≤ sizeLine := ⟨by omega, by omega, fun z hl => by rw [hl, hz]; omega⟩
theorem rep_len (c : Nat) (n : Int) : (strRep ⟨#[c]⟩ n).length = n.toNat := by rw [len_cps, rep_one, List.length_replicate]
theorem math__law_quality (ds M Q E) (hM : WFM M) (hb : D.belL M.length ds = true) (h : sp__law_quality ds M Q E) : r__law_quality (retE M.length Q E) (startD N__law_quality ds) M := by
  obtain ⟨p, a, rfl, h1, h2, q⟩ := h
  have rp : ∀ (c : Nat) (n : Int), n ≤ 301 → Q (.str (strRep ⟨#[c]⟩ n)) M := fun c n hn => q _ (by rw [rep_len]; omega)
  have one : ∀ c : Nat, Q (.str ⟨#[c]⟩) M := fun c => q _ (by show 1 ≤ 301; decide)
  unfold r__law_quality
  refine seq_step fun S hS => ?_
  simp [startD]
  obtain ⟨a1, a2, a3⟩ := rep_ok (a := a) (by omega) (by omega)
  obtain ⟨b1, b2, b3⟩ := rep_ok (a := -a) (by omega) (by omega)
  obtain ⟨c1, c2, c3⟩ := rep_ok (a := -a - 1) (by omega) (by omega)
  have e65 : (Str.ofString "A") = ⟨#[65]⟩ := rfl
  have e100 : (Str.ofString "d") = ⟨#[100]⟩ := rfl
  have e80 : (Str.ofString "P") = ⟨#[80]⟩ := rfl
  have e77 : (Str.ofString "M") = ⟨#[77]⟩ := rfl
  have e109 : (Str.ofString "m") = ⟨#[109]⟩ := rfl
  simp only [e65, popM_same (Nat.le_refl M.length)]
  split
  · exact ⟨⟨a1, a2, a3 _ rfl⟩, rp _ _ (by omega)⟩
  subst hS
  refine seq_step fun S hS => ?_
  simp [e80, e100, e77, e109, popM_same]
  have pf : (if a = 0 then Q (.str ⟨#[80]⟩) M else (a < 4611686018427387904 ∧ -a < 4611686018427387904 ∧ (⟨#[100]⟩ : Str).length * (-a).toNat ≤ sizeLine) ∧ Q (.str (strRep ⟨#[100]⟩ (-a))) M) := by
    split
    · exact one _
    · exact ⟨⟨by omega, b2, b3 _ rfl⟩, rp _ _ (by omega)⟩
  have np : S (retE M.length Q E) [some (.int p), some (.int a)] M := by
    subst hS
    refine seq_step fun S hS => ?_
    simp [e77, e109, popM_same]
    split
    · split <;> exact one _
    · subst hS
      simp [e100, popM_same]
      exact ⟨⟨by omega, by omega, by show 1 * ((-a).toNat - 1) ≤ _; rw [hz]; omega⟩, rp _ _ (by omega)⟩
  split
  · exact pf
  · split
    · exact pf
    · split
      · exact pf
      · exact np
theorem pow1920 {a : Nat} (h : a < 2 ^ 64) : a < 2 ^ 1920 := Nat.lt_of_lt_of_le h (Nat.pow_le_pow_right (by decide) (by decide))
theorem math__law_tone_text (ds M Q E) (hM : WFM M) (hb : D.belL M.length ds = true) (h : sp__law_tone_text ds M Q E) : r__law_tone_text (retE M.length Q E) (startD N__law_tone_text ds) M := by
  obtain ⟨⟨f, o⟩, rfl, ⟨⟨w1, w2⟩, w3, w4⟩, q⟩ := h
  simp only at w1 w2 w3 w4
  unfold r__law_tone_text
  refine seq_step fun S hS => ?_
  simp [startD, MD.prD]
  refine ⟨f, rfl, ?_⟩
  simp
  subst hS
  refine seq_step fun S hS => ?_
  have key : ∀ z : Str, z.length ≤ 310 → S (retE M.length Q E) [some (.tup [.int f, .int o]), some (.str z), some (.int ((4 * f) % 7)), some (.int ((f + 1) / 7))] M := by
    intro z hzl
    subst hS
    have hc : ∃ c, atI (Str.cps "CDEFGAB").toList (4 * f % 7) = some c := by
      have hi : (4 * f % 7).toNat < 7 := by omega
      exact ⟨_, atI_n (by omega) (List.getElem?_eq_getElem (show (4 * f % 7).toNat < (Str.cps "CDEFGAB").toList.length from hi))⟩
    obtain ⟨c, hc⟩ := hc
    simp [e_fdiv]
    refine ⟨by rw [hz]; decide, c, hc, ?_, ?_⟩
    · show 1 + z.length ≤ sizeLine
      rw [hz]; omega
    refine ⟨mulOk_l (by decide), mulOk_l (by decide), divOk_of (by decide) (by decide), ?_, ?_, ?_⟩
    · exact pow1920 (by omega)
    · have hn : (Str.ofString (Int.repr ((4 * f + 7 * o - 4 * f % 7) / 7))).length ≤ 8 := num_len (n := (4 * f + 7 * o - 4 * f % 7) / 7) (by omega)
      have : ((⟨#[c]⟩ : Str) ++ z).length = 1 + z.length := str_len_app _ _
      rw [hz]; omega
    · rw [popM_same (Nat.le_refl _)]
      have hn : (Str.ofString (Int.repr ((4 * f + 7 * o - 4 * f % 7) / 7))).length ≤ 8 := num_len (n := (4 * f + 7 * o - 4 * f % 7) / 7) (by omega)
      refine q _ ?_
      rw [str_len_app, str_len_app]
      have : (⟨#[c]⟩ : Str).length = 1 := rfl
      omega
  obtain ⟨a1, a2, a3⟩ := rep_ok (a := (f + 1) / 7) (by omega) (by omega)
  obtain ⟨b1, b2, b3⟩ := rep_ok (a := -((f + 1) / 7)) (by omega) (by omega)
  have e35 : (Str.ofString "#") = ⟨#[35]⟩ := rfl
  have e98 : (Str.ofString "b") = ⟨#[98]⟩ := rfl
  simp [e35, e98]
  split
  · exact ⟨⟨a1, a2, a3 _ rfl⟩, key _ (by rw [rep_len]; omega)⟩
  · exact ⟨⟨by omega, by omega, b3 _ rfl⟩, key _ (by rw [rep_len]; omega)⟩
end K03
namespace K03
open MD L2 PySem Kit
theorem fifth_D (f : Int) : atI ([.int 0, .int 2, .int 4, .int (-1), .int 1, .int 3, .int 5] : List D) ((4 * f) % 7) = some (.int (f - 7 * ((f + 1) / 7))) := by
  refine atI_n (by omega) ?_
  rw [show ([.int 0, .int 2, .int 4, .int (-1), .int 1, .int 3, .int 5] : List D) = ([0, 2, 4, -1, 1, 3, 5] : List Int).map D.int from rfl, List.getElem?_map, fifth_of]
  rfl
theorem mathr__law_interval_text (n : Nat) (ds M Q E) (hM : WFM M) (hb : D.belL M.length ds = true) (h : spr__law_interval_text (n + 1) ds M Q E) : rr__law_interval_text n (retE M.length Q E) (startD N__law_interval_text ds) M := by
  obtain ⟨⟨f, o⟩, rfl, ⟨⟨w1, w2⟩, w3, w4⟩, hd, _, q⟩ := h
  simp only at w1 w2 w3 w4
  unfold rr__law_interval_text
  refine seq_step fun S hS => ?_
  simp [startD, MD.prD]
  refine ⟨mulOk_l (by decide), mulOk_l (by decide), ?_⟩
  subst hS
  refine seq_step fun S hS => ?_
  have hyes : dnP (f, o) → (2 ≤ sizeLine ∧ spr__law_interval_text n [D.tup [D.int (-f), D.int (-o)]] M (fun x M1 => oAdd false (D.str (Str.ofString "-")) x M1 (retE (List.length M) Q E).rt) fun x M1 => E x (popX (List.length M) x M1)) := by
    intro hdn
    have hdn' : 4 * f + 7 * o < 0 ∨ (4 * f + 7 * o = 0 ∧ f < 0) := hdn
    have hnn : ¬ dnP (-f, -o) := by
      show ¬ (4 * -f + 7 * -o < 0 ∨ (4 * -f + 7 * -o = 0 ∧ -f < 0))
      omega
    rw [if_pos hdn] at q
    refine ⟨by decide, (-f, -o), rfl, ⟨⟨by show _ ≤ -f; omega, by show -f ≤ _; omega⟩, by show _ ≤ -o; omega, by show -o ≤ _; omega⟩, fun _ => hnn, fun z => by subst z; exact hd rfl hdn, fun y hy => ?_⟩
    rw [if_neg hnn] at hy
    simp
    refine ⟨by show 1 + _ ≤ sizeLine; have := hz; omega, ?_⟩
    rw [popM_same (Nat.le_refl _)]
    refine q _ ?_
    rw [str_len_app]
    have : (Str.ofString "-").length = 1 := rfl
    omega
  have hno : ¬ dnP (f, o) → S (retE M.length Q E) [some (.tup [.int f, .int o]), some (.int (4 * f + 7 * o)), none, none] M := by
    intro hdn
    subst hS
    refine seq_step fun S hS => ?_
    have e7 : (4 * f + 7 * o) % 7 = (4 * f) % 7 := by omega
    simp [e_fmod, e7]
    subst hS
    refine seq_step fun S hS => ?_
    simp [fifth_D, e_fdiv]
    refine ⟨by rw [hz]; decide, divOk_of (by decide) (by decide), ?_⟩
    rw [show (f - (f - 7 * ((f + 1) / 7))) / 7 = (f + 1) / 7 by omega]
    subst hS
    simp
    refine ⟨_, _, rfl, by omega, by omega, fun y hy => ?_⟩
    simp
    rw [if_neg hdn] at q
    have hn : (Str.ofString (Int.repr (4 * f + 7 * o + 1))).length ≤ 8 := num_len (n := 4 * f + 7 * o + 1) (by omega)
    refine ⟨pow1920 (by omega), by rw [hz]; omega, ?_⟩
    rw [popM_same (Nat.le_refl _)]
    refine q _ ?_
    rw [str_len_app]
    omega
  simp
  unfold dnP at hyes hno
  by_cases hl : 4 * f + 7 * o < 0
  · rw [if_pos hl]; exact hyes (.inl hl)
  · rw [if_neg hl]
    by_cases h0 : 4 * f + 7 * o = 0
    · rw [if_pos h0]
      by_cases hf : f < 0
      · rw [if_pos hf]; exact hyes (.inr ⟨h0, hf⟩)
      · rw [if_neg hf]; exact hno (by show ¬ (4 * f + 7 * o < 0 ∨ (4 * f + 7 * o = 0 ∧ f < 0)); omega)
    · rw [if_neg h0]; exact hno (by show ¬ (4 * f + 7 * o < 0 ∨ (4 * f + 7 * o = 0 ∧ f < 0)); omega)
theorem pop_own {p : Nat} {M M4 : MH} {d : D} (hM : WFM M) (st : Step p M (M4.take M.length)) (hd : d.bel M.length = true) : popM M.length d M4 = M4.take M.length := by
  have w := st.wf hM
  have l := st.length
  refine popM_pop hd (fun c hc => ?_) rfl
  have := w c hc
  rwa [l] at this
theorem math__law_beyond (ds M Q E) (hM : WFM M) (hb : D.belL M.length ds = true) (h : sp__law_beyond ds M Q E) : r__law_beyond (retE M.length Q E) (startD N__law_beyond ds) M := by
  obtain ⟨p, rfl, hP, q⟩ := h
  unfold r__law_beyond
  refine seq_step fun S hS => ?_
  simp [startD]
  refine ⟨p, 2001, rfl, by decide, by decide, hP, fun r1 M1 a1 b1 s1 => ?_⟩
  simp
  refine ⟨p, 2001, rfl, by decide, by decide, s1.2, fun r2 M2 a2 b2 s2 => ?_⟩
  simp
  refine ⟨by rw [hz]; decide, ?_⟩
  have s12 := s1.trans s2
  have hl := s12.length
  have hpl := hP.lt
  subst hS
  refine seq_step fun S hS => ?_
  simp
  have hP2 : Pool (M2 ++ [.lst [.int (r1 - 1000), .int (r2 - 1000)]]) p := s12.2.of_eq (List.getElem?_append_left (by omega))
  refine ⟨by rw [hz]; decide, ⟨p, _, _, rfl, hP2, nofun, rfl, fun _ _ => rfl, by simp, by decide, fun d M3 hd s3 => ?_⟩⟩
  simp
  refine ⟨p, 2, rfl, by decide, by decide, s3.2, fun k M4 k0 k1 s4 => ?_⟩
  have s34 := s3.trans s4
  have e4 : M4[M2.length]? = some (.lst [.int (r1 - 1000), .int (r2 - 1000)]) := by rw [s34.other (by omega)]; simp
  obtain ⟨v, rfl, hv⟩ : ∃ v : Int, d = .int v ∧ (-1010 ≤ v ∧ v ≤ 1010) := by
    simp at hd
    rcases hd with rfl | rfl | rfl | rfl | rfl | rfl <;> exact ⟨_, rfl, by decide⟩
  simp [e4]
  have hk : k = 0 ∨ k = 1 := by omega
  refine ⟨k.toNat, by rcases hk with rfl | rfl <;> rfl, ?_⟩
  have hlt : M2.length < M4.length := (List.getElem?_eq_some_iff.mp e4).1
  have fin : ∀ (y : Pair) (c : Cell), Wide y → Q (MD.prD y) (popM M.length (MD.prD y) (M4.set M2.length c)) := by
    intro y c hy
    have e : (M4.set M2.length c).take M.length = M4.take M.length := by rw [hl]; exact List.take_set_of_le (Nat.le_refl _)
    have st : Step p M (M4.take M.length) := by
      refine s12.trans ?_
      have := s34.cut (n := M2.length) (by omega)
      rwa [List.take_left', hl] at this
      rfl
    rw [pop_own hM (by rw [e]; exact st) rfl, e]
    exact q y _ hy st
  subst hS
  have ge : ∀ c : Cell, (M4.set M2.length c)[M2.length]? = some c := fun c => List.getElem?_set_self hlt
  rcases hk with rfl | rfl
  · simp [lstOf_ref (ge _)]
    exact ⟨by rw [hz]; decide, fin (v, r2 - 1000) _ ⟨hv, by show _ ≤ r2 - 1000; omega, by show r2 - 1000 ≤ _; omega⟩⟩
  · simp [lstOf_ref (ge _)]
    exact ⟨by rw [hz]; decide, fin (r1 - 1000, v) _ ⟨⟨by show _ ≤ r1 - 1000; omega, by show r1 - 1000 ≤ _; omega⟩, hv⟩⟩
end K03
namespace K03
open MD L2 PySem Kit
theorem cut_from' (x : Str) (k : Nat) : cutS x (some (k : Int)) none = ⟨(x.cps.toList.drop k).toArray⟩ := by
  by_cases h : k ≤ x.length
  · exact cut_from x k h
  unfold cutS
  rw [HT.sIx_nat, HT.sIx_none]
  have e : min k x.length = x.length := by omega
  rw [e]
  have e1 : x.cps.toList.drop k = [] := List.drop_eq_nil_of_le (by rw [← len_cps]; omega)
  have e2 : x.cps.toList.drop x.length = [] := List.drop_eq_nil_of_le (by rw [← len_cps]; exact Nat.le_refl _)
  rw [e1, e2]
  simp
theorem mk_len (l : Sg) : (⟨l.toArray⟩ : Str).length = l.length := by rw [len_cps]
theorem math__law_near (ds M Q E) (hM : WFM M) (hb : D.belL M.length ds = true) (h : sp__law_near ds M Q E) : r__law_near (retE M.length Q E) (startD N__law_near ds) M := by
  obtain ⟨p, x, rfl, hP, hx, q⟩ := h
  unfold r__law_near
  refine seq_step fun S hS => ?_
  simp [startD]
  refine ⟨p, 2, rfl, by decide, by decide, hP, fun r M1 r0 r1 s1 => ?_⟩
  simp
  refine ⟨by omega, by omega, ?_⟩
  refine forR_ind (fun i δ M' => Step p M M' ∧ ∃ y a b c d, δ = [some (.ref p), some (.str y), a, b, c, d] ∧ y.length ≤ 400 + i) ?_ ?_ ⟨s1, x, _, _, _, _, rfl, by omega⟩
  · rintro δ M' ⟨st, y, a, b, c, d, rfl, hy⟩
    refine ⟨trivial, ?_⟩
    show S _ _ _
    subst hS
    simp
    rw [popM_same (by rw [st.length]; exact Nat.le_refl _)]
    exact q y M' (by omega) st
  · rintro i δ M' F hi ⟨st, y, a, b, c, d, rfl, hy⟩ hF
    refine ⟨trivial, ?_⟩
    have hi2 : i < 2 := by omega
    simp
    refine ⟨by rw [hz]; omega, p, _, rfl, by omega, by omega, st.2, fun at' M2 t0 t1 s2 => ?_⟩
    simp
    refine ⟨by decide, p, _, _, rfl, s2.2, nofun, rfl, fun _ _ => rfl, by decide, by decide, fun dd M3 hd s3 => ?_⟩
    obtain ⟨cc, _, rfl⟩ := List.mem_map.mp hd
    refine ⟨p, 3, rfl, by decide, by decide, s3.2, fun k M4 k0 k1 s4 => ?_⟩
    have st4 := ((st.trans s2).trans s3).trans s4
    obtain ⟨n, rfl⟩ : ∃ n : Nat, at' = (n : Int) := ⟨at'.toNat, by omega⟩
    have hn : n ≤ y.length := by omega
    have l1 : (cutS y none (some (n : Int))).length = n := by rw [cut_to y n hn, mk_len, List.length_take, ← len_cps]; omega
    have l2 : (cutS y (some (n : Int)) none).length = y.length - n := by rw [cut_from' y n, mk_len, List.length_drop, ← len_cps]
    have l3 : (cutS y (some (n + 1 : Int)) none).length = y.length - (n + 1) := by
      rw [show ((n : Int) + 1) = ((n + 1 : Nat) : Int) by omega, cut_from' y (n + 1), mk_len, List.length_drop, ← len_cps]
    have one : (⟨#[cc]⟩ : Str).length = 1 := rfl
    have nul : (Str.ofString "").length = 0 := rfl
    have lk : ∀ (u v w : Str), (u ++ v ++ w).length = u.length + v.length + w.length := fun u v w => by rw [str_len_app, str_len_app]
    have lk2 : ∀ (u v : Str), (u ++ v).length = u.length + v.length := fun u v => by rw [str_len_app]
    have go : ∀ z : Str, z.length ≤ y.length + 1 → F [some (.ref p), some (.str z), some (.int i), some (.int n), some (.str ⟨#[cc]⟩), some (.int k)] M4 := fun z hl => hF _ _ ⟨st4, z, _, _, _, _, rfl, by omega⟩
    simp [oSl]
    have : k = 0 ∨ k = 1 ∨ k = 2 := by omega
    rcases this with rfl | rfl | rfl
    · simp [lk, lk2, l1, l2, l3, one, nul]
      exact ⟨by rw [hz]; omega, by rw [hz]; omega, by rw [hz]; omega, by rw [hz]; omega, go _ (by rw [lk, l1, l2, one]; omega)⟩
    · simp [lk, lk2, l1, l2, l3, one, nul]
      exact ⟨by rw [hz]; omega, by rw [hz]; omega, by rw [hz]; omega, by rw [hz]; omega, go _ (by rw [lk, l1, l3, one]; omega)⟩
    · simp [lk, lk2, l1, l2, l3, one, nul]
      exact ⟨by rw [hz]; omega, by rw [hz]; omega, by rw [hz]; omega, by rw [hz]; omega, go _ (by rw [lk, l1, l3, nul]; omega)⟩
def oddS : List Str := [("" : Str), ("C" : Str), ("4" : Str), ("-" : Str), ("C-0" : Str), ("C00" : Str), ("C-01" : Str), ("-P1" : Str), ("P1" : Str), ("d1" : Str), ("-d1" : Str), ("A1" : Str), ("-A1" : Str), ("AA1" : Str), ("P2" : Str), ("M1" : Str), ("m5" : Str), ("PP1" : Str), ("AP4" : Str), ("Am3" : Str), ("C#b4" : Str), ("c4" : Str), ("H4" : Str), ("C+4" : Str), (" C4" : Str), ("C4 " : Str), ("--M2" : Str), ("P0" : Str), ("P" : Str), ("M" : Str), ("P-1" : Str), ("C4#" : Str), ("Cx4" : Str), ("dd1" : Str), ("MM2" : Str), ("mm2" : Str), ("d2" : Str), ("-d2" : Str), ("C99999999" : Str)]
def oddL : List D := oddS.map D.str
def isTx (d : D) : Bool := match d with
  | .str x => decide (x.length ≤ 410)
  | _ => false
theorem odd_ok : oddL.all isTx = true := by kernel_rfl
theorem math__law_some_text (ds M Q E) (hM : WFM M) (hb : D.belL M.length ds = true) (h : sp__law_some_text ds M Q E) : r__law_some_text (retE M.length Q E) (startD N__law_some_text ds) M := by
  obtain ⟨p, rfl, hP, q⟩ := h
  unfold r__law_some_text
  refine seq_step fun S hS => ?_
  simp [startD]
  refine ⟨p, 7, rfl, by decide, by decide, hP, fun k M1 k0 k1 s1 => ?_⟩
  simp
  subst hS
  refine seq_step fun S hS => ?_
  simp
  refine ⟨by rw [hz]; decide, ?_⟩
  subst hS
  refine seq_step fun S hS => ?_
  simp
  refine ⟨by rw [hz]; decide, by rw [hz]; decide, ?_⟩
  subst hS
  refine seq_step fun S hS => ?_
  simp
  by_cases h0 : k = 0
  · rw [if_pos h0]
    refine ⟨p, _, _, rfl, s1.2, nofun, rfl, fun _ _ => rfl, by simp, by decide, fun dd M2 hd s2 => ?_⟩
    have key : ∀ d ∈ oddL, ∃ y : Str, d = .str y ∧ y.length ≤ 410 := by
      intro d hd
      have := List.all_eq_true.mp odd_ok d hd
      unfold isTx at this
      split at this
      · exact ⟨_, rfl, of_decide_eq_true this⟩
      · cases this
    obtain ⟨y, rfl, hy⟩ := key dd hd
    show Q _ (popM _ _ _)
    have st := s1.trans s2
    rw [popM_same (by rw [st.length]; exact Nat.le_refl _)]
    exact q y M2 hy st
  rw [if_neg h0]
  subst hS
  refine seq_step fun S hS => ?_
  have h1 : ∀ (pr : Pair) (M2 : MH), Wide pr → Step p M M2 → S (retE M.length Q E) [some (.ref p), some (.int k), some (.lst oddL), some (MD.prD pr), none] M2 := by
    intro pr M2 hw st
    subst hS
    refine seq_step fun S hS => ?_
    have h2 : ∀ (y : Str) (M3 : MH), y.length ≤ 400 → Step p M M3 → S (retE M.length Q E) [some (.ref p), some (.int k), some (.lst oddL), some (MD.prD pr), some (.str y)] M3 := by
      intro y M3 hy st3
      subst hS
      simp
      split
      · rw [popM_same (by rw [st3.length]; exact Nat.le_refl _)]
        exact q y M3 (by omega) st3
      · refine ⟨p, y, rfl, st3.2, hy, fun z M4 hz4 s4 => ?_⟩
        show Q _ (popM _ _ _)
        have st4 := st3.trans s4
        rw [popM_same (by rw [st4.length]; exact Nat.le_refl _)]
        exact q z M4 hz4 st4
    simp
    refine ⟨p, 2, rfl, by decide, by decide, st.2, fun j M3 j0 j1 s3 => ?_⟩
    have st3 := st.trans s3
    simp
    split
    · exact ⟨pr, rfl, hw, fun y hy => h2 y M3 hy st3⟩
    · exact ⟨pr, rfl, hw, fun y hy => h2 y M3 hy st3⟩
  simp
  split
  · exact ⟨p, rfl, s1.2, fun y M2 hw s2 => h1 y M2 hw (s1.trans s2)⟩
  · refine ⟨p, rfl, s1.2, fun f o M2 hf ho s2 => h1 (f, o) M2 ⟨⟨?_, ?_⟩, ?_, ?_⟩ (s1.trans s2)⟩ <;> unfold Far at hf ho <;> simp <;> omega
end K03
namespace K03
open MD L2 PySem Kit
theorem lc_signs {it : ItD} {te : TE'} {i : Nat} {vs : List Nat} {δ : EnvD} {M : MH} {Q : List D → MH → Prop} (f : Nat → D) (hst : it.still M) :
    ∀ (x : Sg) (acc : List D), (∀ c ∈ x, ∀ Q' : QE, Q' (f c) M → te ((wipeD δ vs).set i (some (.str ⟨#[c]⟩))) M Q' (fun _ _ => False)) → acc.length + x.length ≤ sizeLine → Q (acc ++ x.map f) M → lcL it (gName' i) tYes' te vs δ Q (x.map fun c => D.str ⟨#[c]⟩) acc M
  | [], acc, _, _, q => ⟨hst, by simpa using q⟩
  | c :: r, acc, h, hl, q => ⟨hst, by
    show te ((wipeD δ vs).set i (some (.str ⟨#[c]⟩))) M _ _
    refine h c List.mem_cons_self _ ⟨by simp at hl; omega, ?_⟩
    refine lc_signs f hst r (acc ++ [f c]) (fun e he => h e (List.mem_cons_of_mem _ he)) (by simp at hl ⊢; omega) ?_
    simpa using q⟩
theorem dig_iff (c : Nat) : isDig c = true ↔ 48 ≤ c ∧ c ≤ 57 := by
  have : ("0123456789" : Str).cps.toList = [48, 49, 50, 51, 52, 53, 54, 55, 56, 57] := rfl
  unfold isDig hasC
  rw [this, decide_eq_true_iff]
  simp
  omega
theorem st45 (x : Str) : PySem.Txt.startswith x (Str.ofString "-") = decide (x.cps.toList.head? = some 45) := by
  have e : (Str.ofString "-") = ⟨#[45]⟩ := rfl
  rw [e, starts1, Bool.eq_iff_iff]
  simp
/-- the text behind a minus -/
def figS (x : Str) : Str := ⟨(figL x.cps.toList).toArray⟩
theorem figS_cps (x : Str) : (figS x).cps.toList = figL x.cps.toList := rfl
theorem figS_neg {x : Str} (h : x.cps.toList.head? = some 45) : cutS x (some 1) none = figS x := by
  rw [show (some (1 : Int)) = some (((1 : Nat) : Int)) from rfl, cut_from' x 1]
  unfold figS figL
  rw [if_pos h, List.drop_one]
theorem figS_pos {x : Str} (h : ¬ x.cps.toList.head? = some 45) : x = figS x := by
  refine str_ext ?_
  rw [figS_cps]
  unfold figL
  rw [if_neg h]
theorem figS_len (x : Str) : (figS x).length ≤ x.length := by
  rw [len_cps, len_cps x, figS_cps]
  unfold figL
  split
  · simp
  · exact Nat.le_refl _
theorem figS_ne (x : Str) : figS x = x ↔ figL x.cps.toList = x.cps.toList := by
  constructor
  · intro h
    have := congrArg (fun y : Str => y.cps.toList) h
    exact this
  · intro h
    exact str_ext h
theorem head_eq {l : Sg} {c d : Nat} {r : Sg} (h : l = c :: r) : ((⟨#[c]⟩ : Str) = ⟨#[d]⟩) ↔ l.head? = some d := by
  subst h
  constructor
  · intro e
    have : (#[c] : Array Nat) = #[d] := congrArg Str.cps e
    simpa using this
  · intro e
    simp at e
    rw [e]
theorem figL_len (x : Str) : x.length ≤ (figL x.cps.toList).length + 1 := by
  rw [len_cps]
  unfold figL
  split
  · rw [List.length_tail]; omega
  · omega
theorem valL_text {x : Str} (h0 : figL x.cps.toList ≠ []) (h1 : ∀ c ∈ figL x.cps.toList, 48 ≤ c ∧ c ≤ 57) (h2 : (figL x.cps.toList).length ≤ 30) : PySem.intText? x = some (valL x.cps.toList) := by
  have hlx := figL_len x
  by_cases h : x.cps.toList.head? = some 45
  · have e : x.cps.toList = 45 :: figL x.cps.toList := by
      unfold figL
      rw [if_pos h]
      cases hl : x.cps.toList with
      | nil => rw [hl] at h; cases h
      | cons c r => rw [hl] at h; simp at h; rw [h]; rfl
    have := PySem.intText_neg (x := x) e h1 h0 (by omega)
    rw [this]
    unfold valL
    rw [if_pos h]
  · have e : figL x.cps.toList = x.cps.toList := by unfold figL; rw [if_neg h]
    rw [e] at h0 h1 h2 hlx
    have := PySem.intText_digits (x := x) h1 h0 (by omega)
    rw [this]
    unfold valL
    rw [if_neg h, e]
theorem math_whole (ds M Q E) (hM : WFM M) (hb : D.belL M.length ds = true) (h : sp_whole ds M Q E) : r_whole (retE M.length Q E) (startD N_whole ds) M := by
  obtain ⟨x, rfl, hx, q⟩ := h
  have hfl := figS_len x
  have hlx := figL_len x
  have hlen : (figL x.cps.toList).length = (figS x).length := by rw [len_cps]; rfl
  unfold r_whole
  refine seq_step fun S hS => ?_
  have key : S (retE M.length Q E) [some (.str x), some (.str (figS x)), none] M := by
    subst hS
    refine seq_step fun S hS => ?_
    simp
    refine ⟨by rw [hz]; omega, ?_⟩
    by_cases hbad : (figS x).length = 0 ∨ 30 < (figS x).length
    · have e : wholeP x.cps.toList = none := by unfold wholeP; rw [if_pos (by rw [hlen]; rcases hbad with h | h; exact .inl h; exact .inr (.inl h))]
      rw [e] at q
      have q' : Q .non (popM M.length .non M) := by rw [popM_same (Nat.le_refl _)]; exact q
      by_cases hp : 0 < (figS x).length
      · have : ¬ ((figS x).length : Int) ≤ 30 := by omega
        simp [hp, this]
        exact q'
      · simp [hp]
        exact q'
    have hp : 0 < (figS x).length := by omega
    have h30 : ((figS x).length : Int) ≤ 30 := by omega
    simp [hp, h30]
    rw [figS_cps]
    refine lc_signs (fun c => .bl (isDig c)) (by exact trivial) _ [] (fun c _ Q' q' => ?_) (by rw [hlen, hz]; simp; omega) ?_
    · simp [wipeD]
      exact q'
    · rw [List.nil_append]
      refine ⟨(figL x.cps.toList).map isDig, by rw [show (figL x.cps.toList).map (fun c => D.bl (isDig c)) = ((figL x.cps.toList).map isDig).map D.bl from by rw [List.map_map]; rfl]; exact blsD_bl _, ?_⟩
      by_cases hall : (figL x.cps.toList).all isDig = true
      · have hd : ∀ c ∈ figL x.cps.toList, 48 ≤ c ∧ c ≤ 57 := fun c hc => (dig_iff c).mp (List.all_eq_true.mp hall c hc)
        rw [if_neg (by
          intro hb
          obtain ⟨c, hc, e⟩ := List.mem_map.mp hb
          rw [List.all_eq_true.mp hall c hc] at e
          cases e)]
        subst hS
        refine seq_step fun S hS => ?_
        cases hf : figL x.cps.toList with
        | nil => rw [hf] at hlen; simp at hlen; omega
        | cons c r =>
          have hc0 : atI (figS x).cps.toList 0 = some c := by rw [figS_cps, hf]; exact atI_0
          have h48 : ((⟨#[c]⟩ : Str) = Str.ofString "0") ↔ (figL x.cps.toList).head? = some 48 := head_eq hf
          have hint := valL_text (x := x) (by rw [hf]; simp) hd (by rw [hlen]; omega)
          have fin : wholeP x.cps.toList = some (valL x.cps.toList) → S (retE M.length Q E) [some (.str x), some (.str (figS x)), none] M := by
            intro e
            rw [e] at q
            subst hS
            simp
            exact .inr (.inr ⟨x, _, rfl, hint, by omega, by rw [u_rt, popM_same (Nat.le_refl _)]; exact q⟩)
          have fail : wholeP x.cps.toList = none → (retE M.length Q E).rt .non M := by
            intro e
            rw [e] at q
            show Q _ (popM _ _ _)
            rw [popM_same (Nat.le_refl _)]
            exact q
          have e0 : ¬ ((figL x.cps.toList).length = 0 ∨ 30 < (figL x.cps.toList).length ∨ (figL x.cps.toList).all isDig = false) := by
            rw [hlen, hall]
            simp
            omega
          simp [hc0, h48]
          refine ⟨by rw [hz]; omega, ?_⟩
          by_cases hh : (figL x.cps.toList).head? = some 48
          · rw [if_pos hh]
            refine ⟨by rw [hz]; omega, ?_⟩
            by_cases h1 : 1 < (figS x).length
            · rw [if_pos (by omega)]
              exact fail (by unfold wholeP; rw [if_neg e0, if_pos ⟨hh, .inl (by rw [hlen]; exact h1)⟩])
            · rw [if_neg (by omega)]
              by_cases hne : figS x = x
              · rw [if_pos hne]
                exact fin (by unfold wholeP; rw [if_neg e0, if_neg (by rintro ⟨_, h | h⟩; rw [hlen] at h; exact h1 h; exact h ((figS_ne x).mp hne))])
              · rw [if_neg hne]
                exact fail (by unfold wholeP; rw [if_neg e0, if_pos ⟨hh, .inr fun z => hne ((figS_ne x).mpr z)⟩])
          · rw [if_neg hh]
            exact fin (by unfold wholeP; rw [if_neg e0, if_neg (fun z => hh z.1)])
      · rw [if_pos (by
          rw [Bool.not_eq_true, List.all_eq_false] at hall
          obtain ⟨c, hc, e⟩ := hall
          exact List.mem_map.mpr ⟨c, hc, by simpa using e⟩)]
        have e : wholeP x.cps.toList = none := by unfold wholeP; rw [if_pos (.inr (.inr (by simpa using hall)))]
        rw [e] at q
        show Q _ (popM _ _ _)
        rw [popM_same (Nat.le_refl _)]
        exact q
  simp [startD, st45]
  by_cases h : x.cps.toList.head? = some 45
  · simp [h, oSl]
    rw [figS_neg h]
    exact ⟨by rw [hz]; omega, key⟩
  · simp [h]
    rw [← figS_pos h] at key
    exact key
end K03
namespace K03
open MD L2 PySem Kit
theorem cut1 (x : Str) : (cutS x none (some 1) = Str.ofString "-") ↔ x.cps.toList.head? = some 45 := by
  have e : cutS x none (some 1) = ⟨(x.cps.toList.take 1).toArray⟩ := by
    rw [show (some (1 : Int)) = some (((1 : Nat) : Int)) from rfl]
    unfold cutS
    rw [HT.sIx_nat, HT.sIx_none]
    by_cases h : 1 ≤ x.length
    · rw [show min 1 x.length = 1 by omega]; rfl
    · have hl : x.cps.toList = [] := List.length_eq_zero_iff.mp (by rw [← len_cps]; omega)
      rw [hl]; simp
  rw [e]
  cases hl : x.cps.toList with
  | nil => simp; decide
  | cons c r =>
    constructor
    · intro h
      have := congrArg (fun y : Str => y.cps.toList) h
      have h2 : [c] = [45] := this
      simpa using h2
    · intro h
      simp at h
      subst h
      rfl
theorem digit_index (c : Nat) (h : 48 ≤ c ∧ c ≤ 57) : Builtin.Str.occurrences (Str.ofString "0123456789") ⟨#[c]⟩ 0 (Str.ofString "0123456789").length 1 = [c - 48] := by
  have : ∀ i : Fin 10, Builtin.Str.occurrences (Str.ofString "0123456789") ⟨#[i.val + 48]⟩ 0 (Str.ofString "0123456789").length 1 = [i.val] := by decide +kernel
  have := this ⟨c - 48, by omega⟩
  rw [show (⟨c - 48, by omega⟩ : Fin 10).val + 48 = c by simp; omega] at this
  exact this
theorem digits_snoc (l : Sg) (c : Nat) : PySem.NumText.digitsVal (l ++ [c]) = PySem.NumText.digitsVal l * 10 + (c - 48) := by
  unfold PySem.NumText.digitsVal
  rw [List.foldl_append]
  rfl
theorem math__law_number (ds M Q E) (hM : WFM M) (hb : D.belL M.length ds = true) (h : sp__law_number ds M Q E) : r__law_number (retE M.length Q E) (startD N__law_number ds) M := by
  obtain ⟨x, rfl, hx, q⟩ := h
  have hfl := figS_len x
  have hlen : (figL x.cps.toList).length = (figS x).length := by rw [len_cps]; rfl
  unfold r__law_number
  refine seq_step fun S hS => ?_
  have key : S (retE M.length Q E) [some (.str x), some (.str (figS x)), none, none] M := by
    subst hS
    refine seq_step fun S hS => ?_
    have enil : (figS x = Str.ofString "") ↔ figL x.cps.toList = [] := by
      constructor
      · intro h
        have := congrArg (fun y : Str => y.cps.toList) h
        exact this
      · intro h
        exact str_ext h
    simp [enil]
    have fail : numL x.cps.toList = none → (retE M.length Q E).rt .non M := by
      intro e
      rw [e] at q
      show Q _ (popM _ _ _)
      rw [popM_same (Nat.le_refl _)]
      exact q
    cases hf : figL x.cps.toList with
    | nil =>
      rw [if_pos rfl]
      exact fail (by unfold numL; rw [if_pos (.inl hf)])
    | cons c r =>
      rw [if_neg (by simp)]
      have hc0 : atI (figS x).cps.toList 0 = some c := by rw [figS_cps, hf]; exact atI_0
      have h48 : ((⟨#[c]⟩ : Str) = Str.ofString "0") ↔ (figL x.cps.toList).head? = some 48 := head_eq hf
      have hx48 : (x = Str.ofString "0") ↔ x.cps.toList = [48] := by
        constructor
        · rintro rfl; rfl
        · intro h; exact str_ext h
      have rest : ¬ ((figL x.cps.toList).head? = some 48 ∧ x.cps.toList ≠ [48]) → S (retE M.length Q E) [some (.str x), some (.str (figS x)), none, none] M := by
        intro hok
        have e0 : ¬ (figL x.cps.toList = [] ∨ ((figL x.cps.toList).head? = some 48 ∧ x.cps.toList ≠ [48])) := by
          rintro (h | h)
          · rw [hf] at h; cases h
          · exact hok h
        subst hS
        refine seq_step fun S hS => ?_
        simp
        subst hS
        refine seq_step fun S hS => ?_
        simp
        rw [figS_cps]
        refine forI_from (fun i δ M' => M' = M ∧ (∀ c ∈ (figL x.cps.toList).take i, isDig c = true) ∧ ∃ a, δ = [some (.str x), some (.str (figS x)), some (.int (PySem.NumText.digitsVal ((figL x.cps.toList).take i) : Nat)), a]) ?_ ?_ ⟨rfl, by simp, _, rfl⟩
        · rintro δ M' ⟨rfl, hd, a, rfl⟩
          refine ⟨trivial, ?_⟩
          show S _ _ _
          rw [List.length_map, List.take_length] at hd ⊢
          have e : numL x.cps.toList = some (valL x.cps.toList) := by
            unfold numL
            rw [if_neg e0, if_neg (by rw [Bool.eq_false_iff]; simpa using hd)]
          rw [e] at q
          subst hS
          simp [oSl, cut1, popM_same]
          unfold valL at q
          refine ⟨by rw [hz]; omega, ?_⟩
          by_cases hm : x.cps.toList.head? = some 45
          · rw [if_pos hm] at q ⊢
            exact q
          · rw [if_neg hm] at q ⊢
            exact q
        · rintro i d δ M' F hd ⟨rfl, hdg, a, rfl⟩ hF
          refine ⟨trivial, ?_⟩
          rw [List.getElem?_map] at hd
          obtain ⟨c, hc, rfl⟩ := Option.map_eq_some_iff.mp hd
          have hcd : hasC c (Str.ofString "0123456789") = isDig c := rfl
          simp [hcd]
          by_cases hdc : isDig c = true
          · have hr := (dig_iff c).mp hdc
            simp [hdc, digit_index c hr]
            have ev : ((PySem.NumText.digitsVal ((figL x.cps.toList).take (i + 1)) : Nat) : Int) = (PySem.NumText.digitsVal ((figL x.cps.toList).take i) : Nat) * 10 + ((c - 48 : Nat) : Int) := by
              rw [List.take_add_one, hc]
              have e := digits_snoc ((figL x.cps.toList).take i) c
              simp only [Option.toList]
              rw [e]
              omega
            refine ⟨mulOk_r (by decide), hF _ _ ⟨rfl, ?_, some (.str ⟨#[c]⟩), by rw [ev]⟩⟩
            rw [List.take_add_one, hc]
            intro c' hc'
            rcases List.mem_append.mp hc' with h | h
            · exact hdg c' h
            · simp at h; rw [h]; exact hdc
          · simp [hdc]
            refine fail ?_
            unfold numL
            rw [if_neg e0, if_pos]
            rw [List.all_eq_false]
            exact ⟨c, List.mem_of_getElem? hc, hdc⟩
      simp [hc0, h48, hx48]
      refine ⟨by rw [hz]; omega, ?_⟩
      by_cases hh : (figL x.cps.toList).head? = some 48
      · rw [if_pos hh]
        by_cases hx1 : x.cps.toList = [48]
        · rw [if_pos hx1]
          exact rest (fun z => z.2 hx1)
        · rw [if_neg hx1]
          exact fail (by unfold numL; rw [if_pos (.inr ⟨hh, hx1⟩)])
      · rw [if_neg hh]
        exact rest (fun z => hh z.1)
  simp [startD, oSl, cut1]
  refine ⟨by rw [hz]; omega, ?_⟩
  by_cases h : x.cps.toList.head? = some 45
  · simp [h]
    rw [figS_neg h]
    exact ⟨by rw [hz]; omega, key⟩
  · simp [h]
    rw [← figS_pos h] at key
    exact key
end K03
namespace K03
open MD L2 PySem Kit
theorem repEq (x : Str) (c : Nat) : (x = strRep ⟨#[c]⟩ (x.length : Int)) ↔ x.cps.toList = List.replicate x.length c := by
  rw [len_cps]
  constructor
  · intro h
    have := congrArg (fun y : Str => y.cps.toList) h
    simp only [rep_one] at this
    simpa using this
  · intro h
    refine str_ext ?_
    rw [rep_one, h]
    simp
theorem oneEq (x : Str) (c : Nat) : (x = ⟨#[c]⟩) ↔ x.cps.toList = [c] := by
  constructor
  · rintro rfl; rfl
  · intro h; exact str_ext h
theorem rep_cong {w : Sg} {c d : Nat} (h : w = List.replicate w.length c) (k : w = List.replicate w.length d) (hn : w ≠ []) : c = d := by
  have hl : 0 < w.length := List.length_pos_iff.mpr hn
  have e : List.replicate w.length c = List.replicate w.length d := h.symm.trans k
  have := List.replicate_inj.mp e
  omega
theorem sgn_eq (perf : Bool) (x : Str) : sgnOf perf x.cps.toList = if 0 < x.length then (if x.cps.toList = List.replicate x.length 65 then some (x.length : Int) else if x.cps.toList = List.replicate x.length 100 then some (if perf then -(x.length : Int) else -(x.length : Int) - 1)
    else if perf then (if x.cps.toList = [80] then some 0 else none) else if x.cps.toList = [77] then some 0 else if x.cps.toList = [109] then some (-1) else none) else none := by
  have hl : x.cps.toList.length = x.length := (len_cps x).symm
  unfold sgnOf
  rw [hl]
  by_cases h : 0 < x.length
  · rw [if_pos h, if_neg (by rw [← hl] at h; exact List.length_pos_iff.mp h)]
  · rw [if_neg h, if_pos (by rw [← hl] at h; exact List.length_eq_zero_iff.mp (by omega))]
theorem perf_in (p : Nat) (h : p < 7) : inD (.int (p : Int)) [.int 0, .int 3, .int 4] = perfB p := by
  have : p = 0 ∨ p = 1 ∨ p = 2 ∨ p = 3 ∨ p = 4 ∨ p = 5 ∨ p = 6 := by omega
  rcases this with rfl | rfl | rfl | rfl | rfl | rfl | rfl <;> rfl
theorem math_signs_of (ds M Q E) (hM : WFM M) (hb : D.belL M.length ds = true) (h : sp_signs_of ds M Q E) : r_signs_of (retE M.length Q E) (startD N_signs_of ds) M := by
  obtain ⟨p, x, rfl, hp, hx, q⟩ := h
  have sA : (Str.ofString "A") = ⟨#[65]⟩ := rfl
  have sD : (Str.ofString "d") = ⟨#[100]⟩ := rfl
  have sP : (Str.ofString "P") = ⟨#[80]⟩ := rfl
  have sM : (Str.ofString "M") = ⟨#[77]⟩ := rfl
  have sm : (Str.ofString "m") = ⟨#[109]⟩ := rfl
  have one1 : ∀ c : Nat, (⟨#[c]⟩ : Str).length = 1 := fun _ => rfl
  have hl : x.cps.toList.length = x.length := (len_cps x).symm
  have q' : (retE M.length Q E).rt (optI (sgnOf (perfB p) x.cps.toList)) M := by
    show Q _ (popM _ _ _)
    rw [popM_same (Nat.le_refl _)]
    exact q
  unfold r_signs_of
  refine seq_step fun S hS => ?_
  simp [startD]
  refine ⟨by rw [hz]; omega, ?_⟩
  subst hS
  refine seq_step fun S hS => ?_
  simp [sA, one1, repEq]
  refine ⟨⟨by omega, by omega, by rw [hz]; omega⟩, ?_⟩
  rw [sgn_eq] at q'
  have tail : ¬ (x.cps.toList = List.replicate x.length 65 ∧ 0 < x.length) → S (retE M.length Q E) [some (.int p), some (.str x), some (.int x.length)] M := by
    intro hA
    subst hS
    refine seq_step fun S hS => ?_
    simp
    refine ⟨by rw [hz]; decide, ⟨rfl, rfl, rfl⟩, ?_⟩
    rw [perf_in p hp]
    by_cases hpf : perfB p = true
    · rw [if_pos hpf]
      rw [if_pos hpf] at q'
      simp only [hpf, if_true] at q'
      simp [sP, sD, oneEq, repEq, one1]
      by_cases h80 : x.cps.toList = [80]
      · rw [if_pos h80]
        have h1 : x.length = 1 := by rw [← hl, h80]; rfl
        rw [h80, h1] at q'
        exact q'
      · rw [if_neg h80]
        refine ⟨⟨by omega, by omega, by rw [hz]; omega⟩, ?_⟩
        by_cases h0 : 0 < x.length
        · rw [if_pos h0, if_neg (fun z => hA ⟨z, h0⟩), if_neg h80] at q'
          split
          · rename_i h
            rw [if_pos h] at q'
            first
              | exact q'
              | (rw [if_pos h0]; exact q')
          · rename_i h
            rw [if_neg h] at q'
            exact q'
        · rw [if_neg h0] at q'
          simp [h0]
          exact q'
    · rw [if_neg hpf]
      rw [Bool.not_eq_true] at hpf
      simp only [hpf, Bool.false_eq_true, if_false] at q'
      subst hS
      refine seq_step fun S hS => ?_
      simp [sM, sm, oneEq]
      by_cases h77 : x.cps.toList = [77]
      · rw [if_pos h77, if_pos h77]
        have h1 : x.length = 1 := by rw [← hl, h77]; rfl
        rw [h77, h1] at q'
        exact q'
      rw [if_neg h77]
      by_cases h109 : x.cps.toList = [109]
      · rw [if_pos h109, if_neg h77]
        have h1 : x.length = 1 := by rw [← hl, h109]; rfl
        rw [h109, h1] at q'
        exact q'
      rw [if_neg h109]
      subst hS
      simp [sD, repEq, one1]
      refine ⟨⟨by omega, by omega, by rw [hz]; omega⟩, ?_⟩
      by_cases h0 : 0 < x.length
      · rw [if_pos h0, if_neg (fun z => hA ⟨z, h0⟩), if_neg h77, if_neg h109] at q'
        split
        · rename_i h
          rw [if_pos h] at q'
          first
            | exact q'
            | (rw [if_pos h0]; exact q')
        · rename_i h
          rw [if_neg h] at q'
          exact q'
      · rw [if_neg h0] at q'
        simp [h0]
        exact q'
  by_cases hA : x.cps.toList = List.replicate x.length 65
  · rw [if_pos hA]
    by_cases h0 : 0 < x.length
    · rw [if_pos h0]
      rw [if_pos h0, if_pos hA] at q'
      exact q'
    · rw [if_neg h0]
      exact tail (fun z => h0 z.2)
  · rw [if_neg hA]
    exact tail (fun z => hA z.1)
theorem math__law_signs_of (ds M Q E) (hM : WFM M) (hb : D.belL M.length ds = true) (h : sp__law_signs_of ds M Q E) : r__law_signs_of (retE M.length Q E) (startD N__law_signs_of ds) M := by
  obtain ⟨p, x, rfl, hp, hx, q⟩ := h
  have sA : (Str.ofString "A") = ⟨#[65]⟩ := rfl
  have sD : (Str.ofString "d") = ⟨#[100]⟩ := rfl
  have sP : (Str.ofString "P") = ⟨#[80]⟩ := rfl
  have sM : (Str.ofString "M") = ⟨#[77]⟩ := rfl
  have sm : (Str.ofString "m") = ⟨#[109]⟩ := rfl
  have one1 : ∀ c : Nat, (⟨#[c]⟩ : Str).length = 1 := fun _ => rfl
  have hl : x.cps.toList.length = x.length := (len_cps x).symm
  have q' : (retE M.length Q E).rt (optI (sgnOf (perfB p) x.cps.toList)) M := by
    show Q _ (popM _ _ _)
    rw [popM_same (Nat.le_refl _)]
    exact q
  rw [sgn_eq] at q'
  have hnil : (x = Str.ofString "") ↔ ¬ 0 < x.length := by
    constructor
    · rintro rfl; decide
    · intro h
      refine str_ext ?_
      rw [show x.cps.toList = [] from List.length_eq_zero_iff.mp (by omega)]
      rfl
  unfold r__law_signs_of
  refine seq_step fun S hS => ?_
  have key : S (retE M.length Q E) [some (.int p), some (.str x), some (.bl (perfB p))] M := by
    subst hS
    refine seq_step fun S hS => ?_
    simp [hnil]
    by_cases h0 : x.length = 0
    · rw [if_pos h0]
      rw [if_neg (by omega)] at q'
      exact q'
    rw [if_neg h0]
    rw [if_pos (by omega)] at q'
    subst hS
    refine seq_step fun S hS => ?_
    simp [sA, one1, repEq]
    refine ⟨by rw [hz]; omega, ⟨by omega, by omega, by rw [hz]; omega⟩, ?_⟩
    by_cases hA : x.cps.toList = List.replicate x.length 65
    · rw [if_pos hA] at q' ⊢
      exact ⟨by rw [hz]; omega, q'⟩
    rw [if_neg hA] at q' ⊢
    subst hS
    refine seq_step fun S hS => ?_
    simp [sD, one1, repEq]
    refine ⟨by rw [hz]; omega, ⟨by omega, by omega, by rw [hz]; omega⟩, ?_⟩
    by_cases hD : x.cps.toList = List.replicate x.length 100
    · rw [if_pos hD] at q' ⊢
      by_cases hpf : perfB p = true
      · rw [if_pos hpf] at q' ⊢
        exact ⟨by rw [hz]; omega, q'⟩
      · rw [if_neg hpf] at q' ⊢
        exact ⟨by rw [hz]; omega, q'⟩
    rw [if_neg hD] at q' ⊢
    subst hS
    refine seq_step fun S hS => ?_
    simp [sP, oneEq]
    by_cases hpf : perfB p = true
    · rw [if_pos hpf] at q'
      simp only [hpf, if_true]
      by_cases h80 : x.cps.toList = [80]
      · rw [if_pos h80] at q' ⊢
        exact q'
      · rw [if_neg h80] at q' ⊢
        subst hS
        refine seq_step fun S hS => ?_
        simp [sM, sm, oneEq, hpf]
        subst hS
        have fin : tRet' (tC' D.non) (retE M.length Q E) [some (.int p), some (.str x), some (.bl (perfB p))] M := q'
        rw [hpf] at fin
        exact fin
    · rw [if_neg hpf] at q'
      rw [Bool.not_eq_true] at hpf
      simp only [hpf, Bool.false_eq_true, if_false]
      have nx : S (retE M.length Q E) [some (.int p), some (.str x), some (.bl false)] M := by
        subst hS
        refine seq_step fun S hS => ?_
        simp [sM, sm, oneEq]
        by_cases h77 : x.cps.toList = [77]
        · rw [if_pos h77, if_pos h77]
          rw [if_pos h77] at q'
          exact q'
        rw [if_neg h77]
        rw [if_neg h77] at q'
        by_cases h109 : x.cps.toList = [109]
        · rw [if_pos h109, if_neg h77]
          rw [if_pos h109] at q'
          exact q'
        rw [if_neg h109]
        rw [if_neg h109] at q'
        subst hS
        exact q'
      split <;> exact nx
  have : p = 0 ∨ p = 1 ∨ p = 2 ∨ p = 3 ∨ p = 4 ∨ p = 5 ∨ p = 6 := by omega
  rcases this with rfl | rfl | rfl | rfl | rfl | rfl | rfl <;> simp [startD] <;> exact key
end K03
namespace K03
open MD L2 PySem Kit
theorem let_in (c : Nat) : hasC c (Str.ofString "CDEFGAB") = (ix c letL).isSome := by
  unfold hasC ix letL
  rw [show (Str.ofString "CDEFGAB").cps.toList = [67, 68, 69, 70, 71, 65, 66] from rfl, Bool.eq_iff_iff]
  rw [List.findIdx?_isSome, List.any_eq_true]
  simp
theorem let_ix {c p : Nat} (h : ix c letL = some p) : p < 7 ∧ Builtin.Str.occurrences (Str.ofString "CDEFGAB") ⟨#[c]⟩ 0 (Str.ofString "CDEFGAB").length 1 = [p] := by
  have hc : hasC c (Str.ofString "CDEFGAB") = true := by rw [let_in, h]; rfl
  have hm : c ∈ ([67, 68, 69, 70, 71, 65, 66] : List Nat) := of_decide_eq_true hc
  simp at hm
  rcases hm with rfl | rfl | rfl | rfl | rfl | rfl | rfl <;> (obtain rfl := Option.some.inj h; exact ⟨by decide, by decide +kernel⟩)
theorem fif_at {p : Nat} (h : p < 7) : atI ([.int 0, .int 2, .int 4, .int (-1), .int 1, .int 3, .int 5] : List D) (p : Int) = some (.int (fif p)) := by
  have : p = 0 ∨ p = 1 ∨ p = 2 ∨ p = 3 ∨ p = 4 ∨ p = 5 ∨ p = 6 := by omega
  rcases this with rfl | rfl | rfl | rfl | rfl | rfl | rfl <;> rfl
theorem mark_in (c : Nat) : hasC c (Str.ofString "#b") = decide (c = 35 ∨ c = 98) := by
  unfold hasC
  rw [show (Str.ofString "#b").cps.toList = [35, 98] from rfl]
  simp
theorem run_in (p : Nat → Bool) : ∀ (l : Sg) (i : Nat), i < (l.takeWhile p).length → ∃ c, l[i]? = some c ∧ p c = true
  | [], i, h => absurd h (Nat.not_lt_zero _)
  | c :: l, i, h => by
    rw [List.takeWhile_cons] at h
    by_cases hc : p c = true
    · rw [if_pos hc] at h
      cases i with
      | zero => exact ⟨c, rfl, hc⟩
      | succ i => exact run_in p l i (by simpa using h)
    · rw [if_neg hc] at h
      exact absurd h (Nat.not_lt_zero _)
theorem run_end (p : Nat → Bool) : ∀ (l : Sg) (c : Nat), l[(l.takeWhile p).length]? = some c → p c = false
  | [], c, h => by simp at h
  | d :: l, c, h => by
    rw [List.takeWhile_cons] at h
    by_cases hd : p d = true
    · rw [if_pos hd] at h
      exact run_end p l c (by simpa using h)
    · rw [if_neg hd] at h
      simp at h
      subst h
      simpa using hd
/-- a place within the run of marks, or its end -/
theorem marks_run {r : Sg} {d : Nat} (hr : r.head? = some d) : (∀ i, i < marks r → r[i]? = some d ∧ (d = 35 ∨ d = 98)) ∧ (∀ c, r[marks r]? = some c → ¬ ((c = 35 ∨ c = 98) ∧ c = d)) := by
  cases r with
  | nil => cases hr
  | cons e r =>
    simp at hr
    subst hr
    show (∀ i, i < (if e = 35 ∨ e = 98 then _ else 0) → _) ∧ (∀ c, (e :: r)[if e = 35 ∨ e = 98 then _ else 0]? = some c → _)
    by_cases hm : e = 35 ∨ e = 98
    · rw [if_pos hm]
      constructor
      · intro i hi
        obtain ⟨c, h1, h2⟩ := run_in _ _ i hi
        have : c = e := by simpa using h2
        rw [this] at h1
        exact ⟨h1, hm⟩
      · intro c hc ⟨_, hce⟩
        have := run_end _ _ c hc
        rw [hce] at this
        simp at this
    · rw [if_neg hm]
      exact ⟨fun i hi => absurd hi (Nat.not_lt_zero _), fun c hc ⟨h1, h2⟩ => by simp at hc; subst hc; exact hm h1⟩
theorem marks_le (r : Sg) : marks r ≤ r.length := by
  unfold marks
  split
  · exact Nat.zero_le _
  · split
    · exact (List.takeWhile_prefix _).length_le
    · exact Nat.zero_le _
end K03
namespace K03
open MD L2 PySem Kit
theorem one_eq (c d : Nat) : ((⟨#[c]⟩ : Str) = ⟨#[d]⟩) ↔ c = d := by
  constructor
  · intro h
    have : (#[c] : Array Nat) = #[d] := congrArg Str.cps h
    simpa using this
  · rintro rfl; rfl
theorem PairOr.ret {r : Option Pair} {x : Str} {M : MH} {Q : QE} {E : QX} (h : PairOr r x M Q E) : PairOr r x M (retE M.length Q E).rt (fun x M1 => E x (popX M.length x M1)) := by
  cases r with
  | some p => show Q _ (popM _ _ _); rw [popM_same (Nat.le_refl _)]; exact h
  | none => show E _ (popX _ _ _); rw [popX_same (Nat.le_refl _)]; exact h
theorem readT_two (w : Sg → Option Int) (c : Nat) (r : Sg) : readT w (c :: r) = match ix c letL with
    | none => none
    | some p => match w (r.drop (marks r)) with
      | none => none
      | some oct => lim (fif p + 7 * (if r.head? = some 98 then -(marks r : Int) else marks r), (7 * oct + p - 4 * (fif p + 7 * (if r.head? = some 98 then -(marks r : Int) else marks r))) / 7) := rfl
theorem math_read_tone (ds M Q E) (hM : WFM M) (hb : D.belL M.length ds = true) (h : sp_read_tone ds M Q E) : r_read_tone (retE M.length Q E) (startD N_read_tone ds) M := by
  obtain ⟨x, rfl, hx, q⟩ := h
  have hl : x.cps.toList.length = x.length := (len_cps x).symm
  have fail : readT wholeP x.cps.toList = none → (retE M.length Q E).ex (refX x) [] M := by
    intro e
    rw [e] at q
    show E _ (popX _ _ _)
    rw [popX_same (Nat.le_refl _)]
    exact q
  unfold r_read_tone
  refine seq_step fun S hS => ?_
  simp [startD]
  refine ⟨by rw [hz]; omega, ?_⟩
  cases hc : x.cps.toList with
  | nil =>
    have h0 : x.length = 0 := by rw [← hl, hc]; rfl
    rw [if_pos h0]
    exact fail (by rw [hc]; rfl)
  | cons c r =>
    have hlr : x.length = r.length + 1 := by rw [← hl, hc]; rfl
    rw [if_neg (by omega)]
    have h0 : atI x.cps.toList 0 = some c := by rw [hc]; exact atI_0
    rw [hc] at h0
    rw [hc, readT_two] at fail q
    refine ⟨by rw [hz]; omega, c, h0, ?_⟩
    simp [let_in]
    cases hp : ix c letL with
    | none =>
      simp
      rw [hp] at fail
      exact fail rfl
    | some p =>
      simp
      rw [hp] at fail q
      simp only at fail q
      obtain ⟨hp7, hidx⟩ := let_ix hp
      subst hS
      refine seq_step fun S hS => ?_
      simp
      subst hS
      refine seq_step fun S hS => ?_
      have at1 : ∀ i : Nat, ∀ d, r[i]? = some d → atI x.cps.toList (1 + (i : Int)) = some d := by
        intro i d hd
        rw [hc]
        refine atI_n (by omega) ?_
        rw [show (1 + (i : Int)).toNat = i + 1 by omega, List.getElem?_cons_succ]
        exact hd
      have after : S (retE M.length Q E) [some (.str x), some (.int (1 + (marks r : Nat))), none, none, none, none] M := by
        subst hS
        refine seq_step fun S hS => ?_
        simp [oSl]
        have ec : cutS x (some (1 + (marks r : Int))) none = ⟨(r.drop (marks r)).toArray⟩ := by
          rw [show (1 + (marks r : Int)) = ((1 + marks r : Nat) : Int) by omega, cut_from', hc, Nat.add_comm, List.drop_succ_cons]
        rw [ec]
        refine ⟨by rw [hz]; omega, _, rfl, by rw [mk_len, List.length_drop]; omega, ?_⟩
        rw [cps_mk]
        subst hS
        refine seq_step fun S hS => ?_
        cases hw : wholeP (r.drop (marks r)) with
        | none =>
          simp [optI]
          exact fail (by rw [hw])
        | some oct =>
          simp [optI]
          rw [hw] at q
          simp only at q
          subst hS
          refine seq_step fun S hS => ?_
          simp
          subst hS
          refine seq_step fun S hS => ?_
          have fin : ∀ a : Int, a = (if r.head? = some 98 then -(marks r : Int) else marks r) → S (retE M.length Q E) [some (.str x), some (.int (1 + (marks r : Nat))), some (.int oct), some (.int a), none, none] M := by
            rintro a rfl
            generalize (if r.head? = some 98 then -(marks r : Int) else (marks r : Int)) = a at q ⊢
            subst hS
            refine seq_step fun S hS => ?_
            simp
            rw [hc]
            refine ⟨by rw [hz]; omega, c, by exact atI_0, ?_⟩
            simp [hidx]
            subst hS
            refine seq_step fun S hS => ?_
            simp [fif_at hp7]
            refine ⟨mulOk_l (by decide), ?_⟩
            subst hS
            simp [e_fdiv]
            refine ⟨mulOk_l (by decide), mulOk_l (by decide), divOk_of (by decide) (by decide), by rw [hz]; decide, ?_⟩
            exact ⟨(fif p + 7 * a, (7 * oct + p - 4 * (fif p + 7 * a)) / 7), x, rfl, q.ret⟩
          simp
          rw [show (1 + (marks r : Int) - 1) = marks r by omega]
          by_cases hm : 0 < marks r
          · rw [if_pos (by omega)]
            obtain ⟨d, hd⟩ : ∃ d, r.head? = some d := by
              cases hr : r with
              | nil => rw [hr] at hm; exact absurd hm (Nat.not_lt_zero _)
              | cons d r' => exact ⟨d, rfl⟩
            have h1 : atI x.cps.toList 1 = some d := at1 0 d (by rw [← List.head?_eq_getElem?]; exact hd)
            simp [h1, show (Str.ofString "b") = ⟨#[98]⟩ from rfl, one_eq]
            refine ⟨by rw [hz]; omega, ?_⟩
            by_cases h98 : d = 98
            · rw [if_pos h98]
              exact fin _ (by rw [hd, h98]; simp)
            · rw [if_neg h98]
              exact fin _ (by rw [hd]; simp [h98])
          · rw [if_neg (by omega)]
            exact fin _ (by have : marks r = 0 := by omega
                            rw [this]; simp)
      refine while_ind (fun δ M' => M' = M ∧ ∃ i : Nat, i ≤ marks r ∧ δ = [some (.str x), some (.int (1 + (i : Nat))), none, none, none, none]) (fun δ _ => match δ with | [_, some (.int n), _, _, _, _] => x.length + 1 - n.toNat | _ => 0) ?_ ⟨rfl, 0, Nat.zero_le _, rfl⟩
      rintro δ M' F ⟨rfl, i, hi, rfl⟩ hF
      simp
      have stop : i = marks r → S (retE M'.length Q E) [some (.str x), some (.int (1 + (i : Nat))), none, none, none, none] M' := by
        rintro rfl
        exact after
      refine ⟨by rw [hz]; omega, ?_⟩
      by_cases hil : i < r.length
      · rw [if_pos (by omega)]
        have hri : r[i]? = some r[i] := List.getElem?_eq_getElem hil
        obtain ⟨d, hd⟩ : ∃ d, r.head? = some d := by
          cases hr : r with
          | nil => rw [hr] at hil; exact absurd hil (Nat.not_lt_zero _)
          | cons d r' => exact ⟨d, rfl⟩
        have hd0 : atI x.cps.toList 1 = some d := at1 0 d (by rw [← List.head?_eq_getElem?]; exact hd)
        obtain ⟨k1, k2⟩ := marks_run hd
        simp [at1 i _ hri, mark_in]
        refine ⟨by rw [hz]; omega, ?_⟩
        by_cases hlt : i < marks r
        · obtain ⟨e1, e2⟩ := k1 i hlt
          rw [hri] at e1
          have e1 := Option.some.inj e1
          rw [e1]
          rw [if_pos e2]
          simp [hd0]
          refine ⟨by rw [hz]; omega, ?_⟩
          refine hF _ _ ⟨rfl, i + 1, hlt, ?_⟩ ?_
          · rw [show (1 + (i : Int) + 1) = (1 + ((i + 1 : Nat) : Int)) by omega]
          · show x.length + 1 - (1 + (i : Int) + 1).toNat < x.length + 1 - (1 + (i : Int)).toNat
            omega
        · have him : i = marks r := by omega
          by_cases hmk : r[i] = 35 ∨ r[i] = 98
          · rw [if_pos hmk]
            simp [hd0, one_eq]
            refine ⟨by rw [hz]; omega, ?_⟩
            rw [if_neg (fun z => k2 r[i] (by rw [← him]; exact hri) ⟨hmk, z⟩)]
            exact stop him
          · rw [if_neg hmk]
            exact stop him
      · rw [if_neg (by omega)]
        exact stop (by have := marks_le r; omega)
end K03
namespace Kit
open MD L2 PySem
/-! fractions in lowest terms, as the program and as a law makes them -/
/-- fewer than k bits -/
def Bg (k : Nat) (x : Int) : Prop := x.natAbs < 2 ^ k
/-- a fraction in lowest terms -/
def fr (n d : Int) : Int × Int := if d < 0 then (-n / (Int.gcd n d : Int), -d / (Int.gcd n d : Int)) else (n / (Int.gcd n d : Int), d / (Int.gcd n d : Int))
/-- of two fractions -/
def Two (N : Nat) (f : Int → Int → Int → Int → D) : SpD := fun ds M Q _ => ∃ s t a b c d, ds = [s, t] ∧ Pr s a b ∧ Pr t c d ∧ 0 < b ∧ 0 < d ∧ (∃ j k, j + k + 1 ≤ N ∧ Bg j a ∧ Bg j b ∧ Bg k c ∧ Bg k d) ∧ Q (f a b c d) M
theorem mono_Two {N f} : MonoP (Two N f) := fun ds M Q Q' E E' q x ⟨s, t, a, b, c, d, e, h1, h2, h3, h4, h5, h⟩ => ⟨s, t, a, b, c, d, e, h1, h2, h3, h4, h5, q _ _ h⟩
theorem len_Two {N f} (ds M Q E) (h : Two N f ds M Q E) : ds.length = 2 := by obtain ⟨_, _, _, _, _, _, rfl, _⟩ := h; rfl
def sumD (a b c d : Int) : D := MD.prD (fr (a * d + c * b) (b * d))
def difD (a b c d : Int) : D := MD.prD (fr (a * d - c * b) (b * d))
def mulD (a b c d : Int) : D := MD.prD (fr (a * c) (b * d))
def lesD (a b c d : Int) : D := .bl (decide (a * d < c * b))
abbrev N_fraction : List Str := ["n", "d", "common"]
def sp_fraction : SpD := fun ds M Q _ => ∃ n d : Int, ds = [.int n, .int d] ∧ d ≠ 0 ∧ Bg 8000 n ∧ Bg 8000 d ∧ Q (MD.prD (fr n d)) M
theorem mono_fraction : MonoP sp_fraction := fun ds M Q Q' E E' q x ⟨n, d, e, h1, h2, h3, h⟩ => ⟨n, d, e, h1, h2, h3, q _ _ h⟩
theorem len_fraction (ds M Q E) (h : sp_fraction ds M Q E) : ds.length = 2 := by obtain ⟨_, _, rfl, _⟩ := h; rfl
def r_fraction : TS' := (tSeq' (tAsg' (tCB' (cI2 fun i j => .int ((Nat.gcd i.natAbs j.natAbs : Nat) : Int)) (tCons' (tVar' 0) (tCons' (tVar' 1) tNil'))) (gName' 2))
    (tSeq' (tIfS' (tB' (tOp' (oI0 fun i j => .bl (decide (i < j))) (tVar' 1) (tC' (.int 0)))) (tAsg' (tUn' oNeg (tVar' 2)) (gName' 2)) tNext')
    (tRet' (tTup' (tCons' (tOp' oFdiv (tVar' 0) (tVar' 2)) (tCons' (tOp' oFdiv (tVar' 1) (tVar' 2)) tNil'))))))
abbrev N_sum_of : List Str := ["one", "other"]
def sp_sum_of : SpD := Two 8000 sumD
theorem mono_sum_of : MonoP sp_sum_of := mono_Two
theorem len_sum_of (ds M Q E) (h : sp_sum_of ds M Q E) : ds.length = 2 := len_Two ds M Q E h
def r_sum_of : TS' := (tRet' (tCall' sp_fraction (tCons' (tOp' (oAdd false) (tOp' (oMul false) (tOp' oIx (tVar' 0) (tC' (.int 0))) (tOp' oIx (tVar' 1) (tC' (.int 1)))) (tOp' (oMul false) (tOp' oIx (tVar' 1) (tC' (.int 0))) (tOp' oIx (tVar' 0) (tC' (.int 1))))) (tCons' (tOp' (oMul false) (tOp' oIx (tVar' 0) (tC' (.int 1))) (tOp' oIx (tVar' 1) (tC' (.int 1)))) tNil'))))
abbrev N_difference : List Str := ["one", "other"]
def sp_difference : SpD := Two 8000 difD
theorem mono_difference : MonoP sp_difference := mono_Two
theorem len_difference (ds M Q E) (h : sp_difference ds M Q E) : ds.length = 2 := len_Two ds M Q E h
def r_difference : TS' := (tRet' (tCall' sp_fraction (tCons' (tOp' oSub (tOp' (oMul false) (tOp' oIx (tVar' 0) (tC' (.int 0))) (tOp' oIx (tVar' 1) (tC' (.int 1)))) (tOp' (oMul false) (tOp' oIx (tVar' 1) (tC' (.int 0))) (tOp' oIx (tVar' 0) (tC' (.int 1))))) (tCons' (tOp' (oMul false) (tOp' oIx (tVar' 0) (tC' (.int 1))) (tOp' oIx (tVar' 1) (tC' (.int 1)))) tNil'))))
abbrev N_product : List Str := ["one", "other"]
def sp_product : SpD := Two 8000 mulD
theorem mono_product : MonoP sp_product := mono_Two
theorem len_product (ds M Q E) (h : sp_product ds M Q E) : ds.length = 2 := len_Two ds M Q E h
def r_product : TS' := (tRet' (tCall' sp_fraction (tCons' (tOp' (oMul false) (tOp' oIx (tVar' 0) (tC' (.int 0))) (tOp' oIx (tVar' 1) (tC' (.int 0)))) (tCons' (tOp' (oMul false) (tOp' oIx (tVar' 0) (tC' (.int 1))) (tOp' oIx (tVar' 1) (tC' (.int 1)))) tNil'))))
abbrev N_is_less : List Str := ["one", "other"]
def sp_is_less : SpD := Two 8000 lesD
theorem mono_is_less : MonoP sp_is_less := mono_Two
theorem len_is_less (ds M Q E) (h : sp_is_less ds M Q E) : ds.length = 2 := len_Two ds M Q E h
def r_is_less : TS' := (tRet' (tOp' (oI0 fun i j => .bl (decide (i < j))) (tOp' (oMul false) (tOp' oIx (tVar' 0) (tC' (.int 0))) (tOp' oIx (tVar' 1) (tC' (.int 1)))) (tOp' (oMul false) (tOp' oIx (tVar' 1) (tC' (.int 0))) (tOp' oIx (tVar' 0) (tC' (.int 1))))))
abbrev N__law_below : List Str := ["pool", "many", "found", "turn"]
def sp__law_below : SpD := fun ds M Q _ => ∃ (p : Nat) (many : Int), ds = [.ref p, .int many] ∧ 0 < many ∧ Pool M p ∧ ∀ r M', 0 ≤ r → r < many → Step p M M' → Q (.int r) M'
theorem mono__law_below : MonoP sp__law_below := fun ds M Q Q' E E' q x ⟨p, m, e, h1, h3, h⟩ => ⟨p, m, e, h1, h3, fun r M' a b c => q _ _ (h r M' a b c)⟩
theorem len__law_below (ds M Q E) (h : sp__law_below ds M Q E) : ds.length = 2 := by obtain ⟨_, _, rfl, _⟩ := h; rfl
def r__law_below : TS' := (tSeq' (tAsg' (tC' (.int 0)) (gName' 2))
    (tSeq' (tFor' (tRng1' (tCons' (tC' (.int 5)) tNil')) (gName' 3) (tAsg' (tOp' (oAdd false) (tOp' (oMul false) (tVar' 2) (tOp' oPow (tC' (.int 10)) (tC' (.int 6)))) (tCall' sp__law_take (tCons' (tVar' 0) (tCons' (tOp' oPow (tC' (.int 10)) (tC' (.int 6))) tNil')))) (gName' 2)))
    (tRet' (tOp' oMod (tCB' cInt (tCons' (tVar' 2) tNil')) (tVar' 1)))))
abbrev N__law_lowest : List Str := ["n", "d", "turn", "one", "other"]
def sp__law_lowest : SpD := fun ds M Q _ => ∃ n d : Int, ds = [.int n, .int d] ∧ 0 < d ∧ Bg 8000 n ∧ Bg 8000 d ∧ (Bg 990 n ∨ Bg 990 d) ∧ Q (MD.prD (fr n d)) M
theorem mono__law_lowest : MonoP sp__law_lowest := fun ds M Q Q' E E' q x ⟨n, d, e, h1, h2, h3, h4, h⟩ => ⟨n, d, e, h1, h2, h3, h4, q _ _ h⟩
theorem len__law_lowest (ds M Q E) (h : sp__law_lowest ds M Q E) : ds.length = 2 := by obtain ⟨_, _, rfl, _⟩ := h; rfl
def r__law_lowest : TS' := (tSeq' (tPar' 3 4 (tCons' (tCB' (cI1 fun i => .int (if i < 0 then -i else i)) (tCons' (tVar' 0) tNil')) (tCons' (tVar' 1) tNil')))
    (tSeq' (tFor' (tRng1' (tCons' (tC' (.int 2000)) tNil')) (gName' 2) (tSeq' (tIfS' (tB' (tOp' (oEq false) (tVar' 4) (tC' (.int 0)))) tBreak' tNext')
    (tPar' 3 4 (tCons' (tVar' 4) (tCons' (tOp' oSub (tVar' 3) (tOp' (oMul false) (tVar' 4) (tCB' cInt (tCons' (tOp' oFdiv (tVar' 3) (tVar' 4)) tNil')))) tNil')))))
    (tRet' (tTup' (tCons' (tOp' oFdiv (tVar' 0) (tVar' 3)) (tCons' (tOp' oFdiv (tVar' 1) (tVar' 3)) tNil'))))))
abbrev N__law_sum : List Str := ["one", "other"]
def sp__law_sum : SpD := Two 990 sumD
theorem mono__law_sum : MonoP sp__law_sum := mono_Two
theorem len__law_sum (ds M Q E) (h : sp__law_sum ds M Q E) : ds.length = 2 := len_Two ds M Q E h
def r__law_sum : TS' := (tRet' (tCall' sp__law_lowest (tCons' (tOp' (oAdd false) (tOp' (oMul false) (tOp' oIx (tVar' 0) (tC' (.int 0))) (tOp' oIx (tVar' 1) (tC' (.int 1)))) (tOp' (oMul false) (tOp' oIx (tVar' 1) (tC' (.int 0))) (tOp' oIx (tVar' 0) (tC' (.int 1))))) (tCons' (tOp' (oMul false) (tOp' oIx (tVar' 0) (tC' (.int 1))) (tOp' oIx (tVar' 1) (tC' (.int 1)))) tNil'))))
abbrev N__law_times : List Str := ["one", "other"]
def sp__law_times : SpD := Two 990 mulD
theorem mono__law_times : MonoP sp__law_times := mono_Two
theorem len__law_times (ds M Q E) (h : sp__law_times ds M Q E) : ds.length = 2 := len_Two ds M Q E h
def r__law_times : TS' := (tRet' (tCall' sp__law_lowest (tCons' (tOp' (oMul false) (tOp' oIx (tVar' 0) (tC' (.int 0))) (tOp' oIx (tVar' 1) (tC' (.int 0)))) (tCons' (tOp' (oMul false) (tOp' oIx (tVar' 0) (tC' (.int 1))) (tOp' oIx (tVar' 1) (tC' (.int 1)))) tNil'))))
abbrev N__law_common : List Str := ["one", "other", "turn"]
def sp__law_common : SpD := fun ds M Q _ => ∃ a b : Nat, ds = [.int a, .int b] ∧ Bg 8000 a ∧ Bg 8000 b ∧ (Bg 990 a ∨ Bg 990 b) ∧ Q (.int (Nat.gcd a b : Nat)) M
theorem mono__law_common : MonoP sp__law_common := fun ds M Q Q' E E' q x ⟨a, b, e, h1, h2, h3, h⟩ => ⟨a, b, e, h1, h2, h3, q _ _ h⟩
theorem len__law_common (ds M Q E) (h : sp__law_common ds M Q E) : ds.length = 2 := by obtain ⟨_, _, rfl, _⟩ := h; rfl
def r_common (N : Int) : TS' := (tSeq' (tFor' (tRng1' (tCons' (tC' (.int N)) tNil')) (gName' 2) (tSeq' (tIfS' (tB' (tOp' (oEq false) (tVar' 1) (tC' (.int 0)))) tBreak' tNext')
    (tPar' 0 1 (tCons' (tVar' 1) (tCons' (tOp' oSub (tVar' 0) (tOp' (oMul false) (tVar' 1) (tCB' cInt (tCons' (tOp' oFdiv (tVar' 0) (tVar' 1)) tNil')))) tNil')))))
    (tRet' (tVar' 0)))
theorem Bg.mono {j k : Nat} {x : Int} (h : Bg j x) (l : j ≤ k) : Bg k x := Nat.lt_of_lt_of_le h (Nat.pow_le_pow_right (by decide) l)
theorem Bg.mul {j k : Nat} {x y : Int} (h : Bg j x) (h2 : Bg k y) : Bg (j + k) (x * y) := by
  unfold Bg at *
  rw [Int.natAbs_mul, Nat.pow_add]
  exact Nat.mul_lt_mul'' h h2
theorem Bg.add {k : Nat} {x y : Int} (h : Bg k x) (h2 : Bg k y) : Bg (k + 1) (x + y) := by
  unfold Bg at *
  rw [Nat.pow_succ]
  have := Int.natAbs_add_le x y
  omega
theorem Bg.neg {k : Nat} {x : Int} (h : Bg k x) : Bg k (-x) := by unfold Bg at *; rwa [Int.natAbs_neg]
theorem Bg.sub {k : Nat} {x y : Int} (h : Bg k x) (h2 : Bg k y) : Bg (k + 1) (x - y) := by rw [Int.sub_eq_add_neg]; exact h.add h2.neg
theorem Bg.of {x : Int} (h : -(2 ^ 64) < x ∧ x < 2 ^ 64) : Bg 64 x := by unfold Bg; omega
theorem Bg.div {k : Nat} {x : Int} (h : Bg k x) (g : Nat) : Bg k (x / (g : Int)) := by
  unfold Bg at *
  have := Int.natAbs_ediv_le_natAbs x (g : Int)
  omega
theorem mulBg {j k : Nat} {x y : Int} (h : Bg j x) (h2 : Bg k y) (l : j + k ≤ 134217728) : MD.MulOk x y := .inr (mulx_ok h h2 l)
theorem divBg {k : Nat} {x : Int} (h : Bg k x) (h0 : x ≠ 0) (l : k ≤ 9000) : DivOk x := ⟨h0, h.mono l⟩
theorem fr_pos {n d : Int} (h : 0 < d) : fr n d = (n / (Int.gcd n d : Int), d / (Int.gcd n d : Int)) := by unfold fr; rw [if_neg (by omega)]
theorem fr_neg (n d : Int) (h : d ≠ 0) : fr (-n) (-d) = fr n d := by
  unfold fr
  rw [Int.neg_gcd, Int.gcd_neg]
  by_cases hd : d < 0
  · rw [if_neg (by omega), if_pos hd]
  · rw [if_pos (by omega), if_neg hd, Int.neg_neg, Int.neg_neg]
theorem fr_scale {n d k : Int} (hk : 0 < k) (h : d ≠ 0) : fr (n * k) (d * k) = fr n d := by
  have hg : (Int.gcd (n * k) (d * k) : Int) = Int.gcd n d * k := by
    rw [Int.gcd_mul_right]
    have : (k.natAbs : Int) = k := by omega
    rw [Int.natCast_mul, this]
  have e : ∀ x : Int, x * k / ((Int.gcd n d : Int) * k) = x / (Int.gcd n d : Int) := fun x => Int.mul_ediv_mul_of_pos_left _ _ hk
  unfold fr
  rw [hg]
  by_cases hd : d < 0
  · have hdk : d * k < 0 := Int.mul_neg_of_neg_of_pos hd hk
    rw [if_pos hdk, if_pos hd, ← Int.neg_mul, ← Int.neg_mul, e, e]
  · have hdk : ¬ d * k < 0 := by
      have : 0 < d * k := Int.mul_pos (by omega) hk
      omega
    rw [if_neg hdk, if_neg hd, e, e]
theorem fr_cross {n d n' d' : Int} (h : 0 < d) (h' : 0 < d') (e : n * d' = n' * d) : fr n d = fr n' d' := by
  rw [← fr_scale (n := n) (d := d) h' (by omega), ← fr_scale (n := n') (d := d') h (by omega), e, Int.mul_comm d d']
theorem gcd_pos {n d : Int} (h : d ≠ 0) : 0 < Int.gcd n d := Int.gcd_pos_iff.mpr (.inr h)
theorem gcd_dvd_l (n d : Int) : (Int.gcd n d : Int) ∣ n := Int.gcd_dvd_left ..
theorem gcd_dvd_r (n d : Int) : (Int.gcd n d : Int) ∣ d := Int.gcd_dvd_right ..
theorem fr_den {n d : Int} (h : d ≠ 0) : 0 < (fr n d).2 := by
  have hg := gcd_pos (n := n) h
  unfold fr
  split
  · show 0 < -d / (Int.gcd n d : Int)
    have : (Int.gcd n d : Int) ∣ -d := (Int.dvd_neg).mpr (gcd_dvd_r n d)
    exact Int.ediv_pos_of_pos_of_dvd (by omega) (by omega) this
  · show 0 < d / (Int.gcd n d : Int)
    exact Int.ediv_pos_of_pos_of_dvd (by omega) (by omega) (gcd_dvd_r n d)
theorem fr_bg {k : Nat} {n d : Int} (h1 : Bg k n) (h2 : Bg k d) : Bg k (fr n d).1 ∧ Bg k (fr n d).2 := by
  unfold fr
  split
  · exact ⟨h1.neg.div _, h2.neg.div _⟩
  · exact ⟨h1.div _, h2.div _⟩
/-- a lowest fraction and the one it came from -/
theorem fr_mul {n d : Int} (h : 0 < d) : (fr n d).1 * d = n * (fr n d).2 := by
  rw [fr_pos h]
  have hn := Int.ediv_mul_cancel (gcd_dvd_l n d)
  have hd := Int.ediv_mul_cancel (gcd_dvd_r n d)
  show n / (Int.gcd n d : Int) * d = n * (d / (Int.gcd n d : Int))
  generalize (Int.gcd n d : Int) = g at *
  conv => lhs; rw [← hd]
  conv => rhs; rw [← hn]
  rw [Int.mul_comm (d / g) g, Int.mul_assoc]
theorem fdiv_negg {n : Int} {g : Nat} (hg : 0 < g) (h : (g : Int) ∣ n) : n.fdiv (-(g : Int)) = -n / (g : Int) := by
  obtain ⟨q, rfl⟩ := h
  rw [show (g : Int) * q = (-(g : Int)) * (-q) by rw [Int.neg_mul_neg], Int.mul_fdiv_cancel_left _ (by omega), Int.neg_mul_neg, ← Int.mul_neg, Int.mul_ediv_cancel_left _ (by omega)]
theorem gcd_bg {k : Nat} {n d : Int} (h : d ≠ 0) (hb : Bg k d) : Bg k (Int.gcd n d : Int) := by
  unfold Bg at *
  have : Int.gcd n d ≤ d.natAbs := Nat.le_of_dvd (by omega) (Nat.gcd_dvd_right _ _)
  rw [Int.natAbs_natCast]
  omega
theorem math_fraction (ds M Q E) (hM : WFM M) (hb : D.belL M.length ds = true) (h : sp_fraction ds M Q E) : r_fraction (retE M.length Q E) (startD N_fraction ds) M := by
  obtain ⟨n, d, rfl, h0, h1, h2, q⟩ := h
  have hg := gcd_pos (n := n) h0
  have hgb := gcd_bg (n := n) h0 h2
  unfold r_fraction
  refine seq_step fun S hS => ?_
  simp only [startD, u_asg, u_CB, u_cons, u_nil, u_var, u_I2, u_gname]
  refine ⟨_, rfl, _, rfl, n, d, rfl, ?_⟩
  rw [show ((Nat.gcd n.natAbs d.natAbs : Nat) : Int) = (Int.gcd n d : Int) from rfl]
  subst hS
  refine seq_step fun S hS => ?_
  unfold fr at q
  by_cases hd : d < 0
  · rw [if_pos hd] at q
    simp [hd]
    subst hS
    simp
    refine ⟨divBg hgb.neg (by omega) (by decide), by decide, ?_⟩
    rw [popM_same (Nat.le_refl _), fdiv_negg hg (gcd_dvd_l n d), fdiv_negg hg (gcd_dvd_r n d)]
    exact q
  · rw [if_neg hd] at q
    simp [hd]
    subst hS
    simp
    refine ⟨divBg hgb (by omega) (by decide), by decide, ?_⟩
    rw [popM_same (Nat.le_refl _), e_fdiv (by omega), e_fdiv (by omega)]
    exact q
structure EI (G i a b : Nat) : Prop where
  g : Nat.gcd a b = G
  la : a < 2 ^ 8000
  lb : b < 2 ^ 8000
  le : 0 < i → b ≤ a
  sm : i = 0 → a < 2 ^ 990 ∨ b < 2 ^ 990
  s1 : i = 1 → b < 2 ^ 990
  pr : 2 ≤ i → a * b * 2 ^ (i - 2) < 2 ^ 1980
theorem EI.step {G i a b : Nat} (h : EI G i a b) (hb : b ≠ 0) : EI G (i + 1) b (a % b) := by
  have hm : a % b < b := Nat.mod_lt _ (by omega)
  refine ⟨?_, h.lb, Nat.lt_trans hm h.lb, fun _ => Nat.le_of_lt hm, fun z => absurd z (by omega), fun z => ?_, fun z => ?_⟩
  · rw [← h.g, Nat.gcd_comm a b, Nat.gcd_rec b a, Nat.gcd_comm]
  · rcases h.sm (by omega) with q | q
    · exact Nat.lt_of_le_of_lt (Nat.mod_le _ _) q
    · exact Nat.lt_trans hm q
  · rw [show i + 1 - 2 = i - 1 by omega]
    by_cases hi : i = 1
    · have hb1 := h.s1 hi
      subst hi
      have h1 : b * (a % b) < 2 ^ 990 * 2 ^ 990 := Nat.mul_lt_mul'' hb1 (Nat.lt_trans hm hb1)
      rw [← Nat.pow_add] at h1
      rw [Nat.sub_self, Nat.pow_zero, Nat.mul_one]
      exact h1
    · have hle := h.le (by omega)
      have h1 : 2 * (a % b) ≤ a := by
        have := Nat.div_add_mod a b
        have h2 : 1 ≤ a / b := (Nat.le_div_iff_mul_le (by omega)).mpr (by omega)
        have h3 : b ≤ b * (a / b) := Nat.le_mul_of_pos_right b h2
        omega
      have h2 : b * (a % b) * 2 ^ (i - 1) ≤ a * b * 2 ^ (i - 2) := by
        rw [show i - 1 = (i - 2) + 1 by omega, Nat.pow_succ, ← Nat.mul_assoc, Nat.mul_right_comm]
        refine Nat.mul_le_mul_right _ ?_
        calc b * (a % b) * 2 = b * (2 * (a % b)) := by rw [Nat.mul_assoc, Nat.mul_comm (a % b) 2]
          _ ≤ b * a := Nat.mul_le_mul_left b h1
          _ = a * b := Nat.mul_comm b a
      exact Nat.lt_of_le_of_lt h2 (h.pr (by omega))
theorem EI.last {G i a b : Nat} (h : EI G i a b) (hi : 1982 ≤ i) : b = 0 := by
  have h1 := h.pr (by omega)
  have h2 := h.le (by omega)
  rcases Nat.eq_zero_or_pos b with z | z
  · exact z
  · have h3 : 1 ≤ a * b := Nat.mul_pos (by omega) z
    have h4 : 2 ^ (i - 2) ≤ a * b * 2 ^ (i - 2) := Nat.le_mul_of_pos_left _ h3
    have h5 : 2 ^ 1980 ≤ 2 ^ (i - 2) := Nat.pow_le_pow_right (by decide) (by omega)
    exact absurd (Nat.lt_of_le_of_lt h4 h1) (Nat.not_lt.mpr h5)
theorem EI.zero {G i a : Nat} (h : EI G i a 0) : a = G := by have := h.g; rwa [Nat.gcd_zero_right] at this
theorem bgN {k a : Nat} (h : a < 2 ^ k) : Bg k (a : Int) := by unfold Bg; rwa [Int.natAbs_natCast]
theorem mod_form (a b : Nat) : (a : Int) - (b : Int) * (a / b : Int) = ((a % b : Nat) : Int) := by
  have := Int.mul_ediv_add_emod (a : Int) (b : Int)
  rw [Int.natCast_emod]
  omega
theorem math__law_lowest (ds M Q E) (hM : WFM M) (hb : D.belL M.length ds = true) (h : sp__law_lowest ds M Q E) : r__law_lowest (retE M.length Q E) (startD N__law_lowest ds) M := by
  obtain ⟨n, d, rfl, h0, h1, h2, h3, q⟩ := h
  have hg := gcd_pos (n := n) (show d ≠ 0 by omega)
  have hgb := gcd_bg (n := n) (show d ≠ 0 by omega) h2
  rw [fr_pos h0] at q
  unfold r__law_lowest
  refine seq_step fun S hS => ?_
  simp [startD]
  refine ⟨_, _, ⟨rfl, rfl⟩, ?_⟩
  subst hS
  refine seq_step fun S hS => ?_
  have fin : ∀ (t : Option D) (b : D), S (retE M.length Q E) [some (.int n), some (.int d), t, some (.int (Int.gcd n d : Int)), some b] M := by
    intro t b
    subst hS
    simp
    refine ⟨divBg hgb (by omega) (by decide), by decide, ?_⟩
    rw [popM_same (Nat.le_refl _), e_fdiv (by omega), e_fdiv (by omega)]
    exact q
  clear hS
  simp
  have ha : (if n < 0 then -n else n) = (n.natAbs : Int) := by split <;> omega
  have hd : d = (d.natAbs : Int) := by omega
  rw [ha]
  refine forR_ind (fun i δ M' => M' = M ∧ ∃ (a b : Nat) (t : Option D), EI (Int.gcd n d) i a b ∧ δ = [some (.int n), some (.int d), t, some (.int (a : Int)), some (.int (b : Int))]) ?_ ?_ ⟨rfl, n.natAbs, d.natAbs, none, ⟨rfl, h1, h2, fun z => absurd z (by decide), fun _ => h3, fun z => absurd z (by decide), fun z => absurd z (by decide)⟩, by rw [← hd]⟩
  · rintro δ M' ⟨rfl, a, b, t, he, rfl⟩
    refine ⟨trivial, ?_⟩
    have hb0 := he.last (by decide)
    subst hb0
    rw [he.zero]
    exact fin _ _
  · rintro i δ M' F hi ⟨rfl, a, b, t, he, rfl⟩ hF
    refine ⟨trivial, ?_⟩
    refine seq_step fun S2 hS2 => ?_
    simp
    by_cases hb0 : b = 0
    · subst hb0
      rw [if_pos rfl, he.zero]
      exact fin _ _
    · rw [if_neg (by omega)]
      subst hS2
      simp
      refine ⟨divBg (bgN he.lb) (by omega) (by decide), ?_, ?_⟩
      · rw [e_fdiv (by omega)]
        exact mulBg (bgN he.lb) ((bgN he.la).div b) (by decide)
      refine ⟨_, _, ⟨rfl, rfl⟩, ?_⟩
      rw [e_fdiv (by omega), mod_form]
      exact hF _ _ ⟨rfl, b, a % b, _, he.step hb0, rfl⟩
theorem math_common (N : Int) (hN : 1982 ≤ N) (hN2 : N ≤ 1000000) (ds M Q E) (hM : WFM M) (hb : D.belL M.length ds = true) (h : sp__law_common ds M Q E) : r_common N (retE M.length Q E) (startD N__law_common ds) M := by
  obtain ⟨a0, b0, rfl, h1, h2, h3, q⟩ := h
  unfold r_common
  refine seq_step fun S hS => ?_
  have fin : ∀ (t : Option D) (b : D), S (retE M.length Q E) [some (.int (Nat.gcd a0 b0 : Nat)), some b, t] M := by
    intro t b
    subst hS
    simp
    rw [popM_same (Nat.le_refl _)]
    exact q
  clear hS
  simp [startD]
  unfold Bg at h1 h2 h3
  rw [Int.natAbs_natCast] at h1 h2
  rw [Int.natAbs_natCast, Int.natAbs_natCast] at h3
  refine ⟨by omega, by omega, ?_⟩
  refine forR_ind (fun i δ M' => M' = M ∧ ∃ (a b : Nat) (t : Option D), EI (Nat.gcd a0 b0) i a b ∧ δ = [some (.int (a : Int)), some (.int (b : Int)), t]) ?_ ?_ ⟨rfl, a0, b0, none, ⟨rfl, h1, h2, fun z => absurd z (by decide), fun _ => h3, fun z => absurd z (by decide), fun z => absurd z (by decide)⟩, rfl⟩
  · rintro δ M' ⟨rfl, a, b, t, he, rfl⟩
    refine ⟨trivial, ?_⟩
    have hb0 := he.last (by omega)
    subst hb0
    rw [he.zero]
    exact fin _ _
  · rintro i δ M' F hi ⟨rfl, a, b, t, he, rfl⟩ hF
    refine ⟨trivial, ?_⟩
    refine seq_step fun S2 hS2 => ?_
    simp
    by_cases hb0 : b = 0
    · subst hb0
      rw [if_pos rfl, he.zero]
      exact fin _ _
    · rw [if_neg (by omega)]
      subst hS2
      simp
      refine ⟨divBg (bgN he.lb) (by omega) (by decide), ?_, ?_⟩
      · rw [e_fdiv (by omega)]
        exact mulBg (bgN he.lb) ((bgN he.la).div b) (by decide)
      refine ⟨_, _, ⟨rfl, rfl⟩, ?_⟩
      rw [e_fdiv (by omega), mod_form]
      exact hF _ _ ⟨rfl, b, a % b, _, he.step hb0, rfl⟩
theorem pr_sq {s : D} {f o : Int} {M : MH} (h : Pr s f o) : seqOf s M = some [.int f, .int o] := by rcases h with rfl | rfl <;> rfl
theorem pr_ns {s : D} {f o : Int} (h : Pr s f o) : ∀ z : Str, s ≠ .str z := by rcases h with rfl | rfl <;> exact nofun
theorem ne_mul {b d : Int} (h : 0 < b) (h2 : 0 < d) : b * d ≠ 0 := by have := Int.mul_pos h h2; omega
theorem math_sum_of (ds M Q E) (hM : WFM M) (hb : D.belL M.length ds = true) (h : sp_sum_of ds M Q E) : r_sum_of (retE M.length Q E) (startD N_sum_of ds) M := by
  obtain ⟨s, t, a, b, c, d, rfl, hs, ht, hb0, hd0, ⟨j, k, hjk, ga, gb, gc, gd⟩, q⟩ := h
  simp [r_sum_of, startD, pr_sq hs, pr_sq ht, pr_ns hs, pr_ns ht]
  refine ⟨mulBg ga gd (by omega), mulBg gc gb (by omega), mulBg gb gd (by omega), ?_⟩
  refine ⟨_, _, rfl, ne_mul hb0 hd0, ((ga.mul gd).add ((gc.mul gb).mono (by omega))).mono (by omega), (gb.mul gd).mono (by omega), ?_⟩
  show Q _ (popM _ _ _)
  rw [popM_same (Nat.le_refl _)]; exact q
theorem math_difference (ds M Q E) (hM : WFM M) (hb : D.belL M.length ds = true) (h : sp_difference ds M Q E) : r_difference (retE M.length Q E) (startD N_difference ds) M := by
  obtain ⟨s, t, a, b, c, d, rfl, hs, ht, hb0, hd0, ⟨j, k, hjk, ga, gb, gc, gd⟩, q⟩ := h
  simp [r_difference, startD, pr_sq hs, pr_sq ht, pr_ns hs, pr_ns ht]
  refine ⟨mulBg ga gd (by omega), mulBg gc gb (by omega), mulBg gb gd (by omega), ?_⟩
  refine ⟨_, _, rfl, ne_mul hb0 hd0, ((ga.mul gd).sub ((gc.mul gb).mono (by omega))).mono (by omega), (gb.mul gd).mono (by omega), ?_⟩
  show Q _ (popM _ _ _)
  rw [popM_same (Nat.le_refl _)]; exact q
theorem math_product (ds M Q E) (hM : WFM M) (hb : D.belL M.length ds = true) (h : sp_product ds M Q E) : r_product (retE M.length Q E) (startD N_product ds) M := by
  obtain ⟨s, t, a, b, c, d, rfl, hs, ht, hb0, hd0, ⟨j, k, hjk, ga, gb, gc, gd⟩, q⟩ := h
  simp [r_product, startD, pr_sq hs, pr_sq ht, pr_ns hs, pr_ns ht]
  refine ⟨mulBg ga gc (by omega), mulBg gb gd (by omega), ?_⟩
  refine ⟨_, _, rfl, ne_mul hb0 hd0, (ga.mul gc).mono (by omega), (gb.mul gd).mono (by omega), ?_⟩
  show Q _ (popM _ _ _)
  rw [popM_same (Nat.le_refl _)]; exact q
theorem math_is_less (ds M Q E) (hM : WFM M) (hb : D.belL M.length ds = true) (h : sp_is_less ds M Q E) : r_is_less (retE M.length Q E) (startD N_is_less ds) M := by
  obtain ⟨s, t, a, b, c, d, rfl, hs, ht, hb0, hd0, ⟨j, k, hjk, ga, gb, gc, gd⟩, q⟩ := h
  simp [r_is_less, startD, pr_sq hs, pr_sq ht, pr_ns hs, pr_ns ht]
  refine ⟨mulBg ga gd (by omega), mulBg gc gb (by omega), ?_⟩
  rw [popM_same (Nat.le_refl _)]; exact q
theorem math__law_below (ds M Q E) (hM : WFM M) (hb : D.belL M.length ds = true) (h : sp__law_below ds M Q E) : r__law_below (retE M.length Q E) (startD N__law_below ds) M := by
  obtain ⟨p, many, rfl, h1, hp, q⟩ := h
  have cp : CPow 10 6 := ⟨by decide, by decide, by decide⟩
  have st0 : Step p M M := ⟨⟨M[p]'hp.lt, by simp⟩, hp⟩
  unfold r__law_below
  refine seq_step fun S hS => ?_
  simp [startD]
  subst hS
  refine seq_step fun S hS => ?_
  simp
  refine forR_ind (fun i δ M' => Step p M M' ∧ ∃ (x : Int) (t : Option D), δ = [some (.ref p), some (.int many), some (.int x), t]) ?_ ?_ ⟨st0, 0, none, rfl⟩
  · rintro δ M' ⟨hs, x, t, rfl⟩
    refine ⟨trivial, ?_⟩
    show S _ _ _
    subst hS
    simp
    refine ⟨by omega, ?_⟩
    rw [popM_same (by rw [hs.length]; simp), e_fmod h1]
    exact q _ _ (Int.emod_nonneg _ (by omega)) (Int.emod_lt_of_pos _ h1) hs
  · rintro i δ M' F hi ⟨hs, x, t, rfl⟩ hF
    refine ⟨trivial, ?_⟩
    simp [cp]
    refine ⟨mulOk_r (by decide), p, _, rfl, by decide, by decide, hs.2, fun r M2 a2 b2 c2 => ?_⟩
    simp
    exact hF _ _ ⟨hs.trans c2, _, _, rfl⟩
theorem math__law_sum (ds M Q E) (hM : WFM M) (hb : D.belL M.length ds = true) (h : sp__law_sum ds M Q E) : r__law_sum (retE M.length Q E) (startD N__law_sum ds) M := by
  obtain ⟨s, t, a, b, c, d, rfl, hs, ht, hb0, hd0, ⟨j, k, hjk, ga, gb, gc, gd⟩, q⟩ := h
  simp [r__law_sum, startD, pr_sq hs, pr_sq ht, pr_ns hs, pr_ns ht]
  refine ⟨mulBg ga gd (by omega), mulBg gc gb (by omega), mulBg gb gd (by omega), ?_⟩
  refine ⟨_, _, rfl, Int.mul_pos hb0 hd0, ((ga.mul gd).add ((gc.mul gb).mono (by omega))).mono (by omega), (gb.mul gd).mono (by omega), .inr ((gb.mul gd).mono (by omega)), ?_⟩
  show Q _ (popM _ _ _)
  rw [popM_same (Nat.le_refl _)]; exact q
theorem math__law_times (ds M Q E) (hM : WFM M) (hb : D.belL M.length ds = true) (h : sp__law_times ds M Q E) : r__law_times (retE M.length Q E) (startD N__law_times ds) M := by
  obtain ⟨s, t, a, b, c, d, rfl, hs, ht, hb0, hd0, ⟨j, k, hjk, ga, gb, gc, gd⟩, q⟩ := h
  simp [r__law_times, startD, pr_sq hs, pr_sq ht, pr_ns hs, pr_ns ht]
  refine ⟨mulBg ga gc (by omega), mulBg gb gd (by omega), ?_⟩
  refine ⟨_, _, rfl, Int.mul_pos hb0 hd0, (ga.mul gc).mono (by omega), (gb.mul gd).mono (by omega), .inr ((gb.mul gd).mono (by omega)), ?_⟩
  show Q _ (popM _ _ _)
  rw [popM_same (Nat.le_refl _)]; exact q
theorem bg64 {x : Int} {k : Nat} (h : -(2 ^ 64) < x ∧ x < 2 ^ 64) (l : 64 ≤ k) : Bg k x := (Bg.of h).mono l
theorem fr_fr {n d : Int} (h : 0 < d) : fr (fr n d).1 (fr n d).2 = fr n d := fr_cross (fr_den (by omega)) h (fr_mul h)
theorem gcd_bg2 {k : Nat} {x y : Int} (h1 : Bg k x) (h2 : Bg k y) : Bg k (Int.gcd x y : Int) := by
  by_cases h : y = 0
  · subst h
    rw [Int.gcd_zero_right]
    unfold Bg at *
    rwa [Int.natAbs_natCast]
  · exact gcd_bg h h2
theorem textFrom_le {L : Nat} : ∀ (ts : List Str) (k : Nat) (acc : Str), (∀ t ∈ ts, t.length ≤ L) → (textFrom k acc ts).length ≤ acc.length + ts.length * (L + 2)
  | [], k, acc, _ => by show acc.length ≤ _; simp
  | t :: r, k, acc, h => by
    have h1 := h t List.mem_cons_self
    have h2 := textFrom_le r (k + 1) (acc ++ ((if k > 0 then ", " else "" : String) : Str) ++ t) (fun x hx => h x (List.mem_cons_of_mem _ hx))
    have e : textFrom k acc (t :: r) = textFrom (k + 1) (acc ++ ((if k > 0 then ", " else "" : String) : Str) ++ t) r := rfl
    rw [e]
    refine Nat.le_trans h2 ?_
    rw [str_len_app, str_len_app, List.length_cons, Nat.add_mul]
    have h3 : (((if k > 0 then ", " else "" : String) : Str)).length ≤ 2 := by split <;> decide
    omega
theorem list_le {L : Nat} (ts : List Str) (h : ∀ t ∈ ts, t.length ≤ L) : (listText ts).length ≤ 2 + ts.length * (L + 2) := by
  unfold listText
  rw [str_len_app]
  have := textFrom_le ts 0 "[" h
  have e1 : ("[" : Str).length = 1 := rfl
  have e2 : ("]" : Str).length = 1 := rfl
  omega
theorem join_le {L : Nat} : ∀ ts : List Str, (∀ t ∈ ts, t.length ≤ L) → (Str.join ", " ts).length ≤ ts.length * (L + 2)
  | [], _ => by show (0 : Nat) ≤ _; omega
  | [x], h => by
    have := h x List.mem_cons_self
    show x.length ≤ 1 * (L + 2)
    omega
  | x :: y :: r, h => by
    rw [PyProof.Rows.join_cons_cons, str_len_app, str_len_app]
    have h1 := h x List.mem_cons_self
    have h2 := join_le (y :: r) (fun z hz => h z (List.mem_cons_of_mem _ hz))
    have e : (", " : Str).length = 2 := rfl
    rw [List.length_cons, Nat.add_mul]
    omega
theorem tuple_le {L : Nat} (ts : List Str) (h : ∀ t ∈ ts, t.length ≤ L) : (tupleText ts).length ≤ 3 + ts.length * (L + 2) := by
  unfold tupleText
  rw [str_len_app, str_len_app]
  have := join_le ts h
  have e1 : ("(" : Str).length = 1 := rfl
  have e2 : ((if ts.length == 1 then ",)" else ")" : String) : Str).length ≤ 2 := by split <;> decide
  omega
end Kit
namespace Kit
open MD L2 PySem
/-! columns of bars -/
abbrev Tone := Int × Int
abbrev Ent := Option (Tone × Bool)
structure Col where
  dur : Int × Int
  acc : Int
  es : List Ent
def entD : Ent → D
  | none => .non
  | some (t, b) => .tup [MD.prD t, .bl b]
def colD (c : Col) : D := .tup [MD.prD c.dur, .int c.acc, .tup (c.es.map entD)]
/-- the same items, one by one -/
def RelL {α β : Type} (R : α → β → Prop) : List α → List β → Prop
  | [], [] => True
  | x :: xs, y :: ys => R x y ∧ RelL R xs ys
  | _, _ => False
theorem RelL.length {α β : Type} {R : α → β → Prop} : ∀ {xs : List α} {ys : List β}, RelL R xs ys → xs.length = ys.length
  | [], [], _ => rfl
  | x :: xs, y :: ys, h => by rw [List.length_cons, List.length_cons, RelL.length h.2]
theorem RelL.at {α β : Type} {R : α → β → Prop} : ∀ {xs : List α} {ys : List β} {i : Nat} {x : α}, RelL R xs ys → xs[i]? = some x → ∃ y, ys[i]? = some y ∧ R x y
  | x :: xs, y :: ys, 0, _, h, e => by cases e; exact ⟨y, rfl, h.1⟩
  | x :: xs, y :: ys, i + 1, _, h, e => RelL.at (xs := xs) (ys := ys) h.2 (by simpa using e)
theorem RelL.map {α β : Type} {R : α → β → Prop} (f : β → α) (h : ∀ y, R (f y) y) : ∀ ys : List β, RelL R (ys.map f) ys
  | [] => trivial
  | y :: ys => ⟨h y, RelL.map f h ys⟩
/-- an entry, its pairs as tuples or lists -/
def EntL (d : D) : Ent → Prop
  | none => d = .non
  | some (t, b) => ∃ x, Pr x t.1 t.2 ∧ (d = .tup [x, .bl b] ∨ d = .lst [x, .bl b])
def ColL (d : D) (c : Col) : Prop := ∃ x y es, Pr x c.dur.1 c.dur.2 ∧ RelL EntL es c.es ∧ (y = .tup es ∨ y = .lst es) ∧ (d = .tup [x, .int c.acc, y] ∨ d = .lst [x, .int c.acc, y])
theorem entL_entD (e : Ent) : EntL (entD e) e := by
  cases e with
  | none => rfl
  | some p => exact ⟨_, .inl rfl, .inl rfl⟩
theorem colL_colD (c : Col) : ColL (colD c) c := ⟨_, _, _, .inl rfl, RelL.map entD entL_entD c.es, .inl rfl, .inl rfl⟩
/-! settled -/
abbrev N_settled_entry : List Str := ["entry"]
abbrev N_settled : List Str := ["column", "entry"]
def sp_settled_entry : SpD := fun ds M Q _ => ∃ d e, ds = [d] ∧ EntL d e ∧ Q (entD e) M
theorem mono_settled_entry : MonoP sp_settled_entry := fun ds M Q Q' E E' q x ⟨d, e, h1, h2, h⟩ => ⟨d, e, h1, h2, q _ _ h⟩
theorem len_settled_entry (ds M Q E) (h : sp_settled_entry ds M Q E) : ds.length = 1 := by obtain ⟨_, _, rfl, _⟩ := h; rfl
def sp_settled : SpD := fun ds M Q _ => ∃ d c, ds = [d] ∧ ColL d c ∧ c.es.length ≤ sizeLine ∧ Q (colD c) M
theorem mono_settled : MonoP sp_settled := fun ds M Q Q' E E' q x ⟨d, e, h1, h2, h3, h⟩ => ⟨d, e, h1, h2, h3, q _ _ h⟩
theorem len_settled (ds M Q E) (h : sp_settled ds M Q E) : ds.length = 1 := by obtain ⟨_, _, rfl, _⟩ := h; rfl
def r_settled_entry : TS' := (tRet' (tIf' (tB' (tOp' (oIsN' false) (tVar' 0) (tC' .non))) (tC' .non) (tTup' (tCons' (tCB' cTuple (tCons' (tOp' oIx (tVar' 0) (tC' (.int 0))) tNil')) (tCons' (tOp' oIx (tVar' 0) (tC' (.int 1))) tNil')))))
def r_settled : TS' := (tRet' (tTup' (tCons' (tCB' cTuple (tCons' (tOp' oIx (tVar' 0) (tC' (.int 0))) tNil')) (tCons' (tOp' oIx (tVar' 0) (tC' (.int 1))) (tCons' (tCB' cTuple (tCons' (tLc' false (tIt' (tOp' oIx (tVar' 0) (tC' (.int 2)))) (gName' 1) tYes' (tCall' sp_settled_entry (tCons' (tVar' 1) tNil')) [1]) tNil')) tNil')))))
theorem math_settled_entry (ds M Q E) (hM : WFM M) (hb : D.belL M.length ds = true) (h : sp_settled_entry ds M Q E) : r_settled_entry (retE M.length Q E) (startD N_settled_entry ds) M := by
  obtain ⟨d, e, rfl, he, q⟩ := h
  cases e with
  | none =>
    have he : d = .non := he
    subst he
    simp [r_settled_entry, startD, popM_same]
    exact q
  | some p =>
    obtain ⟨⟨f, o⟩, b⟩ := p
    obtain ⟨x, hx, hd⟩ := he
    have hsx := pr_sq (M := M) hx
    rcases hd with rfl | rfl <;> simp [r_settled_entry, startD, hsx, popM_same] <;> exact ⟨by decide, q⟩
/-- a comprehension of one name over items that stand in a relation to others -/
theorem lcL_rel {α : Type} {R : D → α → Prop} {it : ItD} {te : TE'} {i : Nat} {vs : List Nat} {δ : EnvD} {M : MH} {Q : List D → MH → Prop} (g : α → D) (hst : it.still M) :
    ∀ (ds : List D) (ys : List α) (acc : List D), RelL R ds ys → (∀ d y, y ∈ ys → R d y → ∀ Q' : QE, Q' (g y) M → te ((wipeD δ vs).set i (some d)) M Q' (fun _ _ => False)) → acc.length + ds.length ≤ sizeLine →
      Q (acc ++ ys.map g) M → lcL it (gName' i) tYes' te vs δ Q ds acc M
  | [], [], acc, _, _, _, q => ⟨hst, by simpa using q⟩
  | d :: r, y :: ys, acc, hr, h, hl, q => ⟨hst, by
    show te ((wipeD δ vs).set i (some d)) M _ _
    refine h d y List.mem_cons_self hr.1 _ ⟨by simp at hl; omega, ?_⟩
    refine lcL_rel g hst r ys (acc ++ [g y]) hr.2 (fun d y hy => h d y (List.mem_cons_of_mem _ hy)) (by simp at hl ⊢; omega) ?_
    simpa using q⟩
theorem math_settled (ds M Q E) (hM : WFM M) (hb : D.belL M.length ds = true) (h : sp_settled ds M Q E) : r_settled (retE M.length Q E) (startD N_settled ds) M := by
  obtain ⟨d, c, rfl, ⟨x, y, es, hx, hes, hy, hd⟩, hl, q⟩ := h
  have hsq : seqOf d M = some [x, .int c.acc, y] := by rcases hd with rfl | rfl <;> rfl
  have hns : ∀ z : Str, d ≠ .str z := by rcases hd with rfl | rfl <;> exact nofun
  have hsx := pr_sq (M := M) hx
  have hel := hes.length
  have hit : ∀ R : ItD → MH → Prop, R ⟨es, none⟩ M → seqD y M R := by rcases hy with rfl | rfl <;> exact fun R h => h
  simp [r_settled, startD, hsq, hns, hsx]
  refine hit _ ?_
  refine lcL_rel (R := EntL) entD (by exact trivial) _ c.es _ hes ?_ (by simp; omega) ?_
  · intro d e _ hde Q' q'
    simp [wipeD]
    exact ⟨d, e, rfl, hde, q'⟩
  · refine ⟨by decide, ?_⟩
    rw [popM_same (Nat.le_refl _)]
    exact q
end Kit
namespace Kit
open MD L2 PySem
/-! bars that a law draws -/
def okDur (p : Int × Int) : Prop := 0 < p.1 ∧ 0 < p.2 ∧ Bg 64 p.1 ∧ Bg 64 p.2 ∧ fr p.1 p.2 = p
theorem fr_okDur {n d : Int} (h1 : 0 < n) (h2 : 0 < d) (b1 : Bg 64 n) (b2 : Bg 64 d) : okDur (fr n d) := by
  obtain ⟨c1, c2⟩ := fr_bg b1 b2
  refine ⟨?_, fr_den (by omega), c1, c2, fr_fr h2⟩
  rw [fr_pos h2]
  have := gcd_pos (n := n) (d := d) (by omega)
  exact Int.ediv_pos_of_pos_of_dvd (by omega) (by omega) (gcd_dvd_l _ _)
/-- small numbers -/
def sml (p : Int × Int) : Prop := p.1 ≤ 1000 ∧ p.2 ≤ 1000
theorem fr_le {n d : Int} (h1 : 0 ≤ n) (h2 : 0 < d) : (fr n d).1 ≤ n ∧ (fr n d).2 ≤ d := by
  rw [fr_pos h2]
  exact ⟨Int.ediv_le_self _ h1, Int.ediv_le_self _ (by omega)⟩
theorem sml_fr {n d : Int} (h1 : 0 < n) (h2 : 0 < d) (b1 : n ≤ 1000) (b2 : d ≤ 1000) : sml (fr n d) := by
  obtain ⟨c1, c2⟩ := fr_le (n := n) (d := d) (by omega) h2
  exact ⟨by omega, by omega⟩
def okEnt (T : Tone → Prop) (e : Ent) : Prop := ∀ t b, e = some (t, b) → T t
def okCol (T : Tone → Prop) (v : Nat) (c : Col) : Prop := okDur c.dur ∧ 0 ≤ c.acc ∧ c.acc ≤ 9 ∧ c.es.length = v ∧ ∀ e ∈ c.es, okEnt T e
abbrev N__law_duration : List Str := ["pool"]
def sp__law_duration : SpD := fun ds M Q _ => ∃ p, ds = [.ref p] ∧ Pool M p ∧ ∀ dur M', okDur dur → sml dur → Step p M M' → Q (MD.prD dur) M'
theorem mono__law_duration : MonoP sp__law_duration := fun ds M Q Q' E E' q x ⟨p, e, h1, h⟩ => ⟨p, e, h1, fun a M' b c d => q _ _ (h a M' b c d)⟩
theorem len__law_duration (ds M Q E) (h : sp__law_duration ds M Q E) : ds.length = 1 := by obtain ⟨_, rfl, _⟩ := h; rfl
def r__law_duration : TS' := (tSeq' (tIfS' (tB' (tOp' (oEq false) (tCall' sp__law_take (tCons' (tVar' 0) (tCons' (tC' (.int 12)) tNil'))) (tC' (.int 0)))) (tRet' (tCall' sp__law_lowest (tCons' (tOp' (oAdd false) (tC' (.int 1)) (tCall' sp__law_take (tCons' (tVar' 0) (tCons' (tC' (.int 1000)) tNil')))) (tCons' (tOp' (oAdd false) (tC' (.int 1)) (tCall' sp__law_take (tCons' (tVar' 0) (tCons' (tC' (.int 1000)) tNil')))) tNil')))) tNext')
    (tRet' (tCall' sp__law_lowest (tCons' (tOp' (oAdd false) (tC' (.int 1)) (tCall' sp__law_take (tCons' (tVar' 0) (tCons' (tC' (.int 6)) tNil')))) (tCons' (tCall' sp__law_pick (tCons' (tVar' 0) (tCons' (tLst' false (tCons' (tC' (.int 1)) (tCons' (tC' (.int 2)) (tCons' (tC' (.int 3)) (tCons' (tC' (.int 4)) (tCons' (tC' (.int 5)) (tCons' (tC' (.int 8)) (tCons' (tC' (.int 12)) (tCons' (tC' (.int 16)) tNil'))))))))) tNil'))) tNil')))))
theorem math__law_duration (ds M Q E) (hM : WFM M) (hb : D.belL M.length ds = true) (h : sp__law_duration ds M Q E) : r__law_duration (retE M.length Q E) (startD N__law_duration ds) M := by
  obtain ⟨p, rfl, hp, q⟩ := h
  have fin : ∀ (n d : Int) M', 0 < n → n ≤ 1000 → 0 < d → d ≤ 1000 → Step p M M' → sp__law_lowest [.int n, .int d] M' (retE M.length Q E).rt fun x M1 => E x (popX M.length x M1) := by
    intro n d M' h1 h2 h3 h4 c
    have bn : Bg 64 n := bg64 (by omega) (by decide)
    have bd : Bg 64 d := bg64 (by omega) (by decide)
    refine ⟨n, d, rfl, h3, bn.mono (by decide), bd.mono (by decide), .inl (bn.mono (by decide)), ?_⟩
    simp
    rw [popM_same (by rw [c.length]; simp)]
    exact q _ _ (fr_okDur h1 h3 bn bd) (sml_fr h1 h3 h2 h4) c
  unfold r__law_duration
  refine seq_step fun S hS => ?_
  simp [startD]
  refine ⟨p, 12, rfl, by decide, by decide, hp, fun k M1 a1 b1 c1 => ?_⟩
  simp
  by_cases k0 : k = 0
  · rw [if_pos k0]
    refine ⟨p, 1000, rfl, by decide, by decide, c1.2, fun r M2 a2 b2 c2 => ?_⟩
    simp
    refine ⟨p, 1000, rfl, by decide, by decide, c2.2, fun r3 M3 a3 b3 c3 => ?_⟩
    simp
    exact fin _ _ _ (by omega) (by omega) (by omega) (by omega) ((c1.trans c2).trans c3)
  · rw [if_neg k0]
    subst hS
    simp
    refine ⟨p, 6, rfl, by decide, by decide, c1.2, fun r M2 a2 b2 c2 => ?_⟩
    simp
    refine ⟨by decide, p, _, _, rfl, c2.2, nofun, rfl, fun _ _ => rfl, by simp, by decide, fun d M3 hd c3 => ?_⟩
    have : ∃ z : Int, d = .int z ∧ 0 < z ∧ z ≤ 16 := by
      simp at hd
      rcases hd with rfl | rfl | rfl | rfl | rfl | rfl | rfl | rfl <;> exact ⟨_, rfl, by omega, by omega⟩
    obtain ⟨z, rfl, z1, z2⟩ := this
    exact fin _ _ _ (by omega) (by omega) (by omega) (by omega) ((c1.trans c2).trans c3)
/-! a column -/
abbrev N__law_column : List Str := ["pool", "voices", "before", "some", "entries", "voice", "kind", "entry", "held", "tone"]
def sp__law_column : SpD := fun ds M Q _ => ∃ (T : Tone → Prop) (p v : Nat) (before sm : D) (xs : List Tone), ds = [.ref p, .int v, before, sm] ∧ Pool M p ∧ v ≤ 1000 ∧ (before = .non ∨ ∃ c, before = colD c ∧ okCol T v c) ∧
  sm = .lst (xs.map MD.prD) ∧ xs ≠ [] ∧ xs.length ≤ 1000000 ∧ (∀ t ∈ xs, T t) ∧ ∀ c M', okCol T v c → sml c.dur → Step p M M' → Q (colD c) M'
theorem mono__law_column : MonoP sp__law_column := fun ds M Q Q' E E' q x ⟨T, p, v, b, s, xs, e, h1, h2, h3, h4, h5, h6, h7, h⟩ => ⟨T, p, v, b, s, xs, e, h1, h2, h3, h4, h5, h6, h7, fun c M' a b d => q _ _ (h c M' a b d)⟩
theorem len__law_column (ds M Q E) (h : sp__law_column ds M Q E) : ds.length = 4 := by obtain ⟨_, _, _, _, _, _, rfl, _⟩ := h; rfl
def r__law_column : TS' := (tSeq' (tAsg' (tTup' tNil') (gName' 4))
    (tSeq' (tFor' (tRng1' (tCons' (tVar' 1) tNil')) (gName' 5) (tSeq' (tAsg' (tCall' sp__law_take (tCons' (tVar' 0) (tCons' (tC' (.int 6)) tNil'))) (gName' 6))
    (tSeq' (tAsg' (tTup' (tCons' (tCall' sp__law_pick (tCons' (tVar' 0) (tCons' (tVar' 3) tNil'))) (tCons' (tC' (.bl true)) tNil'))) (gName' 7))
    (tSeq' (tIfS' (tB' (tOp' (oEq false) (tVar' 6) (tC' (.int 0)))) (tAsg' (tC' .non) (gName' 7)) (tIfS' (tB' (tOp' (oI0 fun i j => .bl (decide (i < j))) (tVar' 6) (tC' (.int 3)))) (tSeq' (tAsg' (tIf' (tB' (tOp' (oIsN' false) (tVar' 2) (tC' .non))) (tC' .non) (tOp' oIx (tOp' oIx (tVar' 2) (tC' (.int 2))) (tVar' 5))) (gName' 8))
    (tSeq' (tAsg' (tIf' (tAnd' (tB' (tOp' (oIsN' true) (tVar' 8) (tC' .non))) (tB' (tOp' (oI0 fun i j => .bl (decide (j < i))) (tCall' sp__law_take (tCons' (tVar' 0) (tCons' (tC' (.int 4)) tNil'))) (tC' (.int 0))))) (tOp' oIx (tVar' 8) (tC' (.int 0))) (tOp' oIx (tVar' 7) (tC' (.int 0)))) (gName' 9))
    (tAsg' (tTup' (tCons' (tVar' 9) (tCons' (tC' (.bl false)) tNil'))) (gName' 7)))) tNext'))
    (tAsg' (tOp' (oAdd false) (tVar' 4) (tTup' (tCons' (tVar' 7) tNil'))) (gName' 4))))))
    (tRet' (tTup' (tCons' (tCall' sp__law_duration (tCons' (tVar' 0) tNil')) (tCons' (tIf' (tB' (tOp' (oEq false) (tCall' sp__law_take (tCons' (tVar' 0) (tCons' (tC' (.int 2)) tNil'))) (tC' (.int 0)))) (tCall' sp__law_take (tCons' (tVar' 0) (tCons' (tC' (.int 10)) tNil'))) (tC' (.int 0))) (tCons' (tVar' 4) tNil')))))))

theorem math__law_column (ds M Q E) (hM : WFM M) (hb : D.belL M.length ds = true) (h : sp__law_column ds M Q E) : r__law_column (retE M.length Q E) (startD N__law_column ds) M := by
  obtain ⟨T, p, v, before, sm, xs, rfl, hp, hv, hbe, rfl, hne, hlen, hT, q⟩ := h
  have hz : (sizeLine : Nat) = 16777216 := by decide
  have st0 : Step p M M := ⟨⟨M[p]'hp.lt, by simp⟩, hp⟩
  unfold r__law_column
  refine seq_step fun S hS => ?_
  simp [startD]
  subst hS
  refine seq_step fun S hS => ?_
  simp
  refine ⟨by omega, ?_⟩
  refine forR_ind (fun i δ M' => Step p M M' ∧ ∃ (es : List Ent) (a b c d e : Option D), es.length = i ∧ (∀ e ∈ es, okEnt T e) ∧ δ = [some (.ref p), some (.int v), some before, some (.lst (xs.map MD.prD)), some (.tup (es.map entD)), a, b, c, d, e]) ?_ ?_ ⟨st0, [], none, none, none, none, none, rfl, nofun, rfl⟩
  · rintro δ M' ⟨hs, es, a, b, c, d, e, hl, hes, rfl⟩
    refine ⟨trivial, ?_⟩
    show S _ _ _
    subst hS
    simp
    refine ⟨p, rfl, hs.2, fun dur M1 hdur hsm k1 => ?_⟩
    have k01 := hs.trans k1
    have fin : ∀ (acc : Int) M2, 0 ≤ acc → acc ≤ 9 → Step p M M2 → Q (.tup [MD.prD dur, .int acc, .tup (es.map entD)]) (popM M.length (.tup [MD.prD dur, .int acc, .tup (es.map entD)]) M2) := by
      intro acc M2 h1 h2 k2
      rw [popM_same (by rw [k2.length]; simp)]
      exact q ⟨dur, acc, es⟩ M2 ⟨hdur, h1, h2, hl, hes⟩ hsm k2
    simp
    refine ⟨p, 2, rfl, by decide, by decide, k01.2, fun r2 M2 a2 b2 k2 => ?_⟩
    simp
    split
    · refine ⟨p, 10, rfl, by decide, by decide, k2.2, fun r3 M3 a3 b3 k3 => ?_⟩
      exact ⟨by decide, fin _ _ (by omega) (by omega) ((k01.trans k2).trans k3)⟩
    · exact ⟨by decide, fin _ _ (by omega) (by omega) (k01.trans k2)⟩
  · rintro i δ M' F hi ⟨hs, es, a, b, c, d, e, hl, hes, rfl⟩ hF
    refine ⟨trivial, ?_⟩
    refine seq_step fun S2 hS2 => ?_
    simp
    refine ⟨p, 6, rfl, by decide, by decide, hs.2, fun kind M1 a1 b1 k1 => ?_⟩
    have s1 := hs.trans k1
    simp
    subst hS2
    refine seq_step fun S2 hS2 => ?_
    simp
    refine ⟨p, _, _, rfl, s1.2, nofun, rfl, fun _ _ => rfl, by simpa using hne, by simpa using hlen, fun d2 M2 hd2 k2 => ?_⟩
    obtain ⟨t2, ht2, rfl⟩ := List.mem_map.mp hd2
    have s2 := s1.trans k2
    refine ⟨by decide, ?_⟩
    subst hS2
    refine seq_step fun S2 hS2 => ?_
    have done : ∀ (en : Ent) (x y : Option D) M3, okEnt T en → Step p M M3 → S2 { (retE M.length Q E) with nx := F, ct := F, bk := S (retE M.length Q E) } [some (.ref p), some (.int v), some before, some (.lst (xs.map MD.prD)), some (.tup (es.map entD)), some (.int i), some (.int kind), some (entD en), x, y] M3 := by
      intro en x y M3 hen s3
      subst hS2
      simp
      refine ⟨by decide, by omega, ?_⟩
      rw [show es.map entD ++ [entD en] = (es ++ [en]).map entD by rw [List.map_append]; rfl]
      refine hF _ _ ⟨s3, es ++ [en], some (.int i), some (.int kind), some (entD en), x, y, by simp [hl], ?_, rfl⟩
      intro e he
      rcases List.mem_append.mp he with he | he
      · exact hes e he
      · rw [List.mem_singleton.mp he]; exact hen
    simp
    by_cases k0 : kind = 0
    · rw [if_pos k0]
      exact done none _ _ _ nofun s2
    rw [if_neg k0]
    by_cases k3 : kind < 3
    · rw [if_pos k3]
      have last : ∀ (x : Option D) (t : Tone) M3, T t → Step p M M3 → S2 { (retE M.length Q E) with nx := F, ct := F, bk := S (retE M.length Q E) } [some (.ref p), some (.int v), some before, some (.lst (xs.map MD.prD)), some (.tup (es.map entD)), some (.int i), some (.int kind), some (.tup [MD.prD t, .bl false]), x, some (MD.prD t)] M3 :=
        fun x t M3 ht s3 => done (some (t, false)) x _ M3 (fun u b e => by cases e; exact ht) s3
      rcases hbe with rfl | ⟨c, rfl, hc⟩
      · simp
        exact ⟨by decide, last _ _ _ (hT _ ht2) s2⟩
      · have hci : i < c.es.length := by rw [hc.2.2.2.1]; exact hi
        have hat : atI (c.es.map entD) (i : Int) = some (entD c.es[i]) := by
          refine at_nat ?_
          rw [List.getElem?_map, List.getElem?_eq_getElem hci]; rfl
        have hen := hc.2.2.2.2 _ (List.getElem_mem hci)
        simp [colD, hat]
        generalize c.es[i] = e0 at hen
        cases e0 with
        | none =>
          simp [entD]
          exact ⟨by decide, last _ _ _ (hT _ ht2) s2⟩
        | some tb =>
          obtain ⟨t, bb⟩ := tb
          have ht : T t := hen t bb rfl
          simp [entD]
          refine ⟨p, 4, rfl, by decide, by decide, s2.2, fun r4 M4 a4 b4 k4 => ?_⟩
          simp
          have s4 := s2.trans k4
          split
          · exact ⟨by decide, last _ _ _ ht s4⟩
          · exact ⟨by decide, last _ _ _ (hT _ ht2) s4⟩
    · rw [if_neg k3]
      exact done (some (t2, true)) _ _ _ (fun u b e => by cases e; exact hT _ ht2) s2
/-! a bar -/
theorem last_map {α : Type} (f : α → D) {xs : List α} (h : xs ≠ []) : atI (xs.map f) (-1) = some (f (xs.getLast h)) := by
  have hl : 0 < xs.length := List.length_pos_iff.mpr h
  unfold atI ixN
  rw [if_neg (by decide), if_pos (by rw [List.length_map]; omega), List.length_map]
  show (xs.map f)[((-1 : Int) + xs.length).toNat]? = _
  rw [List.getElem?_map, show ((-1 : Int) + xs.length).toNat = xs.length - 1 by omega, List.getLast_eq_getElem h, List.getElem?_eq_getElem (by omega)]
  rfl
def Near (t : Tone) : Prop := -50 ≤ t.1 ∧ t.1 ≤ 50 ∧ 0 ≤ t.2 + 4 * t.1 / 7 ∧ t.2 + 4 * t.1 / 7 ≤ 6
abbrev N__law_bar : List Str := ["pool", "voices", "most", "some", "found", "k"]
def sp__law_bar : SpD := fun ds M Q _ => ∃ (p v : Nat) (most : Int), ds = [.ref p, .int v, .int most] ∧ Pool M p ∧ v ≤ 1000 ∧ 0 < most ∧ most ≤ 1000 ∧
  ∀ cs M', cs ≠ [] → cs.length ≤ most.toNat → (∀ c ∈ cs, okCol Near v c ∧ sml c.dur) → Step p M M' → Q (.tup (cs.map colD)) M'
theorem mono__law_bar : MonoP sp__law_bar := fun ds M Q Q' E E' q x ⟨p, v, m, e, h1, h2, h3, h4, h⟩ => ⟨p, v, m, e, h1, h2, h3, h4, fun cs M' a b c d => q _ _ (h cs M' a b c d)⟩
theorem len__law_bar (ds M Q E) (h : sp__law_bar ds M Q E) : ds.length = 3 := by obtain ⟨_, _, _, rfl, _⟩ := h; rfl
def r__law_bar : TS' := (tSeq' (tAsg' (tLc' false (tRng1' (tCons' (tOp' (oAdd false) (tC' (.int 1)) (tCall' sp__law_take (tCons' (tVar' 0) (tCons' (tC' (.int 6)) tNil')))) tNil')) (gName' 5) tYes' (tCall' sp__law_tone (tCons' (tVar' 0) tNil')) [5]) (gName' 3))
    (tSeq' (tAsg' (tTup' tNil') (gName' 4))
    (tSeq' (tFor' (tRng1' (tCons' (tOp' (oAdd false) (tC' (.int 1)) (tCall' sp__law_take (tCons' (tVar' 0) (tCons' (tVar' 2) tNil')))) tNil')) (gName' 5) (tAsg' (tOp' (oAdd false) (tVar' 4) (tTup' (tCons' (tCall' sp__law_column (tCons' (tVar' 0) (tCons' (tVar' 1) (tCons' (tIf' (tTru' (tVar' 4)) (tOp' oIx (tVar' 4) (tUn' oNeg (tC' (.int 1)))) (tC' .non)) (tCons' (tVar' 3) tNil'))))) tNil'))) (gName' 4)))
    (tRet' (tVar' 4)))))
/-- columns one behind another -/
theorem cols_loop {T : Tone → Prop} {p v : Nat} {M0 : MH} {N : Nat} {xs : List Tone} {DD : Ends'} {g : EnvD → MH → Prop} (hv : v ≤ 1000) (hN : N ≤ 1000) (hne : xs ≠ []) (hlen : xs.length ≤ 1000000) (hT : ∀ t ∈ xs, T t) : True := trivial
theorem math__law_bar (ds M Q E) (hM : WFM M) (hb : D.belL M.length ds = true) (h : sp__law_bar ds M Q E) : r__law_bar (retE M.length Q E) (startD N__law_bar ds) M := by
  obtain ⟨p, v, most, rfl, hp, hv, hm, hm2, q⟩ := h
  have hz : (sizeLine : Nat) = 16777216 := by decide
  unfold r__law_bar
  refine seq_step fun S hS => ?_
  simp [startD]
  refine ⟨p, 6, rfl, by decide, by decide, hp, fun r1 M1 a1 b1 k1 => ?_⟩
  simp
  refine ⟨by omega, by omega, ?_⟩
  generalize hN : (1 + r1).toNat = N
  refine lcI_from (fun i acc M' => Step p M M' ∧ ∃ xs : List Tone, acc = xs.map MD.prD ∧ xs.length = i ∧ ∀ t ∈ xs, Near t) ?_ ?_ ⟨k1, [], rfl, rfl, nofun⟩
  · rintro acc M2 ⟨s2, xs, rfl, hl, hxs⟩
    rw [rangeD_length] at hl
    refine ⟨trivial, ?_⟩
    show S _ _ _
    have hne : xs ≠ [] := by intro z; rw [z] at hl; simp at hl; omega
    subst hS
    refine seq_step fun S hS => ?_
    simp
    subst hS
    refine seq_step fun S hS => ?_
    simp
    refine ⟨p, most, rfl, hm, by omega, s2.2, fun r3 M3 a3 b3 k3 => ?_⟩
    simp
    refine ⟨by omega, by omega, ?_⟩
    have s3 := s2.trans k3
    generalize hN2 : (1 + r3).toNat = N2
    refine forR_ind (fun i δ M' => Step p M M' ∧ ∃ (cs : List Col) (t : Option D), cs.length = i ∧ (∀ c ∈ cs, okCol Near v c ∧ sml c.dur) ∧ δ = [some (.ref p), some (.int v), some (.int most), some (.lst (xs.map MD.prD)), some (.tup (cs.map colD)), t]) ?_ ?_ ⟨s3, [], none, rfl, nofun, rfl⟩
    · rintro δ M4 ⟨s4, cs, t, hcl, hcs, rfl⟩
      refine ⟨trivial, ?_⟩
      show S _ _ _
      subst hS
      simp
      rw [popM_same (by rw [s4.length]; simp)]
      exact q cs M4 (by intro z; rw [z] at hcl; simp at hcl; omega) (by omega) hcs s4
    · rintro i δ M4 F hi ⟨s4, cs, t, hcl, hcs, rfl⟩ hF
      refine ⟨trivial, ?_⟩
      have go : ∀ before, (before = .non ∨ ∃ c, before = colD c ∧ okCol Near v c) → ∀ E', sp__law_column [.ref p, .int v, before, .lst (xs.map MD.prD)] M4 (fun d M1 => 1 ≤ sizeLine ∧ cs.length + 1 ≤ sizeLine ∧ F [some (.ref p), some (.int v), some (.int most), some (.lst (xs.map MD.prD)), some (.tup (cs.map colD ++ [d])), some (.int i)] M1) E' := by
        intro before hbe E'
        refine ⟨Near, p, v, before, _, xs, rfl, s4.2, hv, hbe, rfl, hne, by omega, hxs, fun c M5 hc hc2 k5 => ?_⟩
        refine ⟨by decide, by omega, ?_⟩
        rw [show cs.map colD ++ [colD c] = (cs ++ [c]).map colD by rw [List.map_append]; rfl]
        refine hF _ _ ⟨s4.trans k5, cs ++ [c], some (.int i), by simp [hcl], ?_, rfl⟩
        intro x hx
        rcases List.mem_append.mp hx with hx | hx
        · exact hcs x hx
        · rw [List.mem_singleton.mp hx]; exact ⟨hc, hc2⟩
      simp
      by_cases he : cs = []
      · rw [if_pos he]
        exact go _ (.inl rfl) _
      · rw [if_neg he]
        simp [last_map colD he]
        exact go _ (.inr ⟨_, rfl, (hcs _ (List.getLast_mem he)).1⟩) _
  · rintro i d acc M2 F hd ⟨s2, xs, rfl, hl, hxs⟩ hF
    have hi : i < N := by have := (List.getElem?_eq_some_iff.mp hd).1; rwa [rangeD_length] at this
    refine ⟨trivial, ?_⟩
    simp [wipeD]
    refine ⟨p, rfl, s2.2, fun f o M3 h1 h2 h3 h4 k3 => ?_⟩
    simp
    refine ⟨by omega, hF _ _ ⟨s2.trans k3, xs ++ [(f, o)], by rw [List.map_append]; rfl, by simp [hl], ?_⟩⟩
    intro t ht
    rcases List.mem_append.mp ht with ht | ht
    · exact hxs t ht
    · rw [List.mem_singleton.mp ht]; exact ⟨h1, h2, h3, h4⟩
/-! raised -/
abbrev N__law_raised : List Str := ["cell", "sign", "tone", "entries", "entry"]
def moveE (sign : Int) (t : Tone) : Ent → Ent := Option.map fun u => ((t.1 + sign * u.1.1, t.2 + sign * u.1.2), u.2)
def moveC (sign : Int) (t : Tone) (c : Col) : Col := ⟨c.dur, c.acc, c.es.map (moveE sign t)⟩
def sp__law_raised : SpD := fun ds M Q _ => ∃ c sign s t, ds = [colD c, .int sign, s] ∧ (-(2 ^ 64) < sign ∧ sign < 2 ^ 64) ∧ Pr s t.1 t.2 ∧ c.es.length < sizeLine ∧ Q (colD (moveC sign t c)) M
theorem mono__law_raised : MonoP sp__law_raised := fun ds M Q Q' E E' q x ⟨c, g, s, t, e, h1, h2, h3, h⟩ => ⟨c, g, s, t, e, h1, h2, h3, q _ _ h⟩
theorem len__law_raised (ds M Q E) (h : sp__law_raised ds M Q E) : ds.length = 3 := by obtain ⟨_, _, _, _, rfl, _⟩ := h; rfl
def r__law_raised : TS' := (tSeq' (tAsg' (tTup' tNil') (gName' 3))
    (tSeq' (tFor' (tIt' (tOp' oIx (tVar' 0) (tC' (.int 2)))) (gName' 4) (tSeq' (tIfS' (tB' (tOp' (oIsN' true) (tVar' 4) (tC' .non))) (tAsg' (tTup' (tCons' (tTup' (tCons' (tOp' (oAdd false) (tOp' oIx (tVar' 2) (tC' (.int 0))) (tOp' (oMul false) (tVar' 1) (tOp' oIx (tOp' oIx (tVar' 4) (tC' (.int 0))) (tC' (.int 0))))) (tCons' (tOp' (oAdd false) (tOp' oIx (tVar' 2) (tC' (.int 1))) (tOp' (oMul false) (tVar' 1) (tOp' oIx (tOp' oIx (tVar' 4) (tC' (.int 0))) (tC' (.int 1))))) tNil'))) (tCons' (tOp' oIx (tVar' 4) (tC' (.int 1))) tNil'))) (gName' 4)) tNext')
    (tAsg' (tOp' (oAdd false) (tVar' 3) (tTup' (tCons' (tVar' 4) tNil'))) (gName' 3))))
    (tRet' (tTup' (tCons' (tOp' oIx (tVar' 0) (tC' (.int 0))) (tCons' (tOp' oIx (tVar' 0) (tC' (.int 1))) (tCons' (tVar' 3) tNil')))))))
theorem math__law_raised (ds M Q E) (hM : WFM M) (hb : D.belL M.length ds = true) (h : sp__law_raised ds M Q E) : r__law_raised (retE M.length Q E) (startD N__law_raised ds) M := by
  obtain ⟨c, sign, s, t, rfl, hsg, hs, hl, q⟩ := h
  have hss := fun M => pr_sq (M := M) hs
  have hsn := pr_ns hs
  unfold r__law_raised
  refine seq_step fun S hS => ?_
  simp [startD]
  subst hS
  refine seq_step fun S hS => ?_
  simp [colD]
  change Q (.tup [MD.prD c.dur, .int c.acc, .tup ((c.es.map (moveE sign t)).map entD)]) M at q
  generalize MD.prD c.dur = dd at *
  obtain ⟨L, hL⟩ : ∃ L, L = (c.es.map (moveE sign t)).map entD := ⟨_, rfl⟩
  rw [← hL] at q
  have hLl : L.length = c.es.length := by rw [hL]; simp
  refine forI_from (fun i δ M' => M' = M ∧ ∃ e, δ = [some (.tup [dd, .int c.acc, .tup (c.es.map entD)]), some (.int sign), some s, some (.tup (L.take i)), e]) ?_ ?_ ⟨rfl, none, rfl⟩
  · rintro δ M' ⟨rfl, e, rfl⟩
    refine ⟨trivial, ?_⟩
    show S _ _ _
    subst hS
    rw [List.length_map, ← hLl, List.take_length]
    simp
    refine ⟨by decide, ?_⟩
    rw [popM_same (Nat.le_refl _)]
    exact q
  · rintro i d δ M' F hd ⟨rfl, e, rfl⟩ hF
    refine ⟨trivial, ?_⟩
    rw [List.getElem?_map] at hd
    obtain ⟨en, hen, rfl⟩ := Option.map_eq_some_iff.mp hd
    have hil := (List.getElem?_eq_some_iff.mp hen).1
    have tk : L.take (i + 1) = L.take i ++ [entD (moveE sign t en)] := by
      rw [List.take_add_one, hL, List.getElem?_map, List.getElem?_map, hen]; rfl
    refine seq_step fun S2 hS2 => ?_
    have fin : S2 { nx := F, rt := (retE M'.length Q E).rt, bk := S (retE M'.length Q E), ct := F, ex := (retE M'.length Q E).ex } [some (.tup [dd, .int c.acc, .tup (c.es.map entD)]), some (.int sign), some s, some (.tup (L.take i)), some (entD (moveE sign t en))] M' := by
      subst hS2
      simp
      refine ⟨by decide, by omega, ?_⟩
      rw [← tk]
      exact hF _ _ ⟨rfl, _, rfl⟩
    cases en with
    | none =>
      simp [entD]
      exact fin
    | some u =>
      obtain ⟨⟨f, o⟩, b⟩ := u
      have hpr : ∀ M, seqOf (MD.prD (f, o)) M = some [.int f, .int o] := fun _ => rfl
      have hpn : ∀ z : Str, MD.prD (f, o) ≠ .str z := nofun
      simp [entD, hss, hsn, hpr, hpn]
      exact ⟨mulOk_l hsg, mulOk_l hsg, by decide, fin⟩
end Kit
namespace Kit
open MD L2 PySem
theorem set_last (M : MH) (c d : Cell) : (M ++ [c]).set M.length d = M ++ [d] := by
  rw [List.set_append_right _ _ (Nat.le_refl _)]
  simp
theorem get_last (M : MH) (c : Cell) : (M ++ [c])[M.length]? = some c := by simp
theorem popM_last {M : MH} (hM : WFM M) {c : Cell} {d : D} (hd : d.bel M.length = true) : popM M.length d (M ++ [c]) = M :=
  popM_pop hd (by rw [List.take_left' rfl]; exact hM) (List.take_left' rfl)
/-- isinstance(x, (tuple, list)) -/
@[simp] theorem isi_tl {d : D} {M : MH} {Q : QE} : cIsiT [d, .tup [.con (.ty "tuple"), .con (.ty "list")]] M Q ↔ onN (tyStr d M) fun n => Q (.bl (subTy n "tuple" || subTy n "list")) M := by
  constructor
  · rintro ⟨d', es, ts, n, e, h1, h2, h3, h⟩
    cases e
    have : ts = ["tuple", "list"] := (Option.some.inj h1).symm
    subst this
    rw [h3]
    simpa using h
  · intro h
    cases hn : tyStr d M with
    | none => rw [hn] at h; exact h.elim
    | some n => rw [hn] at h; exact ⟨d, _, ["tuple", "list"], n, rfl, rfl, rfl, hn, by simpa using h⟩
end Kit
namespace Kit
open MD L2 PySem
/-! tuples made lists -/
mutual
def lis : D → D
  | .tup ds => .lst (lisL ds)
  | .non => .non
  | .bl b => .bl b
  | .int i => .int i
  | .str x => .str x
  | .lst ds => .lst ds
  | .scr ns => .scr ns
  | .ref i => .ref i
  | .con v => .con v
  | .exc a c d fs => .exc a c d fs
  | .dct => .dct
def lisL : List D → List D
  | [] => []
  | d :: ds => lis d :: lisL ds
end
mutual
def tupD (n : Nat) : D → Bool
  | .non => true
  | .bl _ => true
  | .int _ => true
  | .str _ => true
  | .tup ds => decide (0 < n) && decide (ds.length ≤ sizeLine) && tupL (n - 1) ds
  | _ => false
def tupL (n : Nat) : List D → Bool
  | [] => true
  | d :: ds => tupD n d && tupL n ds
end
def spr__law_listed (n : Nat) : SpD := fun ds M Q _ => ∃ d, ds = [d] ∧ n ≠ 0 ∧ tupD (n - 1) d = true ∧ Q (lis d) M
def sp__law_listed : SpD := fun ds M Q _ => ∃ d, ds = [d] ∧ tupD 6 d = true ∧ Q (lis d) M
theorem mono__law_listed : MonoP sp__law_listed := fun ds M Q Q' E E' q x ⟨d, e, h1, h⟩ => ⟨d, e, h1, q _ _ h⟩
theorem monor__law_listed (n : Nat) : MonoP (spr__law_listed n) := fun ds M Q Q' E E' q x ⟨d, e, h0, h1, h⟩ => ⟨d, e, h0, h1, q _ _ h⟩
theorem lenr__law_listed (n : Nat) (ds M Q E) (h : spr__law_listed n ds M Q E) : ds.length = 1 := by obtain ⟨_, rfl, _⟩ := h; rfl
theorem zero__law_listed (ds M Q E) (h : spr__law_listed 0 ds M Q E) : False := by obtain ⟨_, _, h, _⟩ := h; exact h rfl
theorem sub__law_listed {ds M Q E} (h : sp__law_listed ds M Q E) : spr__law_listed 7 ds M Q E := by
  obtain ⟨d, e, h1, h⟩ := h
  exact ⟨d, e, by decide, h1, h⟩
abbrev N__law_listed : List Str := ["thing", "part"]
def rr__law_listed (i : Nat) : TS' := (tSeq' (tIfS' (tTru' (tCB' cIsi (tCons' (tVar' 0) (tCons' (tC' (.con (.ty "tuple"))) tNil')))) (tRet' (tLc' false (tIt' (tVar' 0)) (gName' 1) tYes' (tCall' (spr__law_listed i) (tCons' (tVar' 1) tNil')) [1])) tNext')
    (tRet' (tVar' 0)))
theorem entD_bel (n : Nat) (e : Ent) : (entD e).bel n = true := by
  cases e with
  | none => rfl
  | some u => rfl
theorem colD_bel (n : Nat) (c : Col) : (colD c).bel n = true := by
  show (true && (true && (D.belL n (c.es.map entD) && true))) = true
  have : D.belL n (c.es.map entD) = true := by
    rw [belL_iff]
    intro d hd
    obtain ⟨e, _, rfl⟩ := List.mem_map.mp hd
    exact entD_bel n e
  rw [this]; rfl
theorem bar_it {d : D} {es : List D} (h : d = .tup es ∨ d = .lst es) {M : MH} (R : ItD → MH → Prop) (r : R ⟨es, none⟩ M) : seqD d M R := by rcases h with rfl | rfl <;> exact r
theorem lisL_map : ∀ ds : List D, lisL ds = ds.map lis
  | [] => rfl
  | d :: ds => by
    show lis d :: lisL ds = _
    rw [lisL_map ds]; rfl
theorem tupL_mem {n : Nat} : ∀ {ds : List D} {d : D}, tupL n ds = true → d ∈ ds → tupD n d = true
  | [], _, _, h => nomatch h
  | e :: r, d, hp, h => by
    unfold tupL at hp
    rw [Bool.and_eq_true] at hp
    rcases List.mem_cons.mp h with rfl | h
    · exact hp.1
    · exact tupL_mem hp.2 h
theorem mathr__law_listed (n : Nat) (ds M Q E) (hM : WFM M) (hb : D.belL M.length ds = true) (h : spr__law_listed (n + 1) ds M Q E) : rr__law_listed n (retE M.length Q E) (startD N__law_listed ds) M := by
  obtain ⟨d, rfl, _, hp, q⟩ := h
  have hp : tupD n d = true := hp
  have same : ∀ d', d' = lis d → Q d' (popM M.length d' M) := fun d' e => by rw [popM_same (Nat.le_refl _), e]; exact q
  unfold rr__law_listed
  refine seq_step fun S hS => ?_
  cases d with
  | tup es =>
    unfold tupD at hp
    simp only [Bool.and_eq_true, decide_eq_true_eq] at hp
    obtain ⟨⟨h0, h1⟩, h2⟩ := hp
    simp [startD, tyStr, subTy]
    refine lcL_map lis (by exact trivial) es [] ?_ (by simpa using h1) ?_
    · intro e he Q' q'
      simp [wipeD]
      exact ⟨e, rfl, by omega, tupL_mem h2 he, q'⟩
    · simp
      refine same _ ?_
      unfold lis
      rw [lisL_map]
  | non => simp [startD, tyStr, subTy]; subst hS; simp; exact same _ rfl
  | bl b => simp [startD, tyStr, subTy]; subst hS; simp; exact same _ rfl
  | int b => simp [startD, tyStr, subTy]; subst hS; simp; exact same _ rfl
  | str b => simp [startD, tyStr, subTy]; subst hS; simp; exact same _ rfl
  | _ => unfold tupD at hp; cases hp
theorem cut_butlast {ds : List D} (h : ds ≠ []) : cutD ds none (some (-1)) = ds.dropLast := by
  have hl : 0 < ds.length := List.length_pos_iff.mpr h
  have e : HT.sIx ds.length ds.length (some (-1)) = ds.length - 1 := by
    show (if (-1 : Int) < 0 then ((-1 : Int) + (ds.length : Int)).toNat else min (-1 : Int).toNat ds.length) = _
    rw [if_pos (by decide)]
    omega
  unfold cutD
  rw [HT.sIx_none, e, List.dropLast_eq_take]
  simp
theorem cut_tail (a b c : D) : cutD [a, b, c] (some 1) none = [b, c] := rfl
theorem okCol_mono {T U : Tone → Prop} {v : Nat} {c : Col} (h : okCol T v c) (l : ∀ t, T t → U t) : okCol U v c :=
  ⟨h.1, h.2.1, h.2.2.1, h.2.2.2.1, fun e he t b z => l t (h.2.2.2.2 e he t b z)⟩
def Ok (x : Str) : Prop := ∀ c ∈ x.cps.toList, c < 1114112
theorem ok_app {a b : Str} (h : Ok a) (k : Ok b) : Ok (a ++ b) := fun c hc => by
  rw [cps_app] at hc
  rcases List.mem_append.mp hc with hc | hc
  · exact h c hc
  · exact k c hc
theorem ok_int (i : Int) : Ok ((toString i : String) : Str) := fun c hc => by
  obtain ⟨m, ⟨e, h1⟩ | ⟨_, e, h1⟩⟩ := num_split i
  · rw [h1] at hc
    have := digs_all m c hc
    omega
  · rw [h1] at hc
    rcases List.mem_cons.mp hc with rfl | hc
    · decide
    · have := digs_all m c hc
      omega
theorem ok_textFrom : ∀ (ts : List Str) (k : Nat) (acc : Str), Ok acc → (∀ t ∈ ts, Ok t) → Ok (textFrom k acc ts)
  | [], _, _, h, _ => h
  | t :: r, k, acc, h, ht => by
    show Ok (textFrom (k + 1) (acc ++ ((if k > 0 then ", " else "" : String) : Str) ++ t) r)
    refine ok_textFrom r _ _ (ok_app (ok_app h ?_) (ht t List.mem_cons_self)) (fun x hx => ht x (List.mem_cons_of_mem _ hx))
    split <;> (intro c hc; revert c; decide)
theorem ok_list {ts : List Str} (ht : ∀ t ∈ ts, Ok t) : Ok (listText ts) := by
  unfold listText
  exact ok_app (ok_textFrom ts 0 _ (by intro c hc; revert c; decide) ht) (by intro c hc; revert c; decide)
theorem ok_join : ∀ ts : List Str, (∀ t ∈ ts, Ok t) → Ok (Str.join ", " ts)
  | [], _ => by rw [PyProof.Rows.join_nil]; intro c hc; cases hc
  | [x], h => by rw [PyProof.Rows.join_one]; exact h x List.mem_cons_self
  | x :: y :: r, h => by
    rw [PyProof.Rows.join_cons_cons]
    exact ok_app (ok_app (h x List.mem_cons_self) (by intro c hc; revert c; decide)) (ok_join (y :: r) fun z hz => h z (List.mem_cons_of_mem _ hz))
theorem ok_tuple {ts : List Str} (ht : ∀ t ∈ ts, Ok t) : Ok (tupleText ts) := by
  unfold tupleText
  refine ok_app (ok_app (by intro c hc; revert c; decide) (ok_join ts ht)) ?_
  split <;> (intro c hc; revert c; decide)
/-- may be shown, in so many signs -/
structure Sh (k L : Nat) (d : D) : Prop where
  f : d.flat = true
  s : d.py.showable = true
  h : d.py.hasDict = false
  dep : d.py.depth ≤ k
  l : d.py.shown.length ≤ L
  o : Ok d.py.shown
theorem int_len64 {i : Int} (h : Bg 64 i) : ((toString i : String) : Str).length ≤ 21 := by
  unfold Bg at h
  have hp : (2 : Nat) ^ 64 < 10 ^ 20 := by decide
  have dl : ∀ m : Nat, m < 2 ^ 64 → (digs m).length ≤ 20 := fun m hm => by
    unfold digs
    rw [List.length_map]
    exact (Nat.length_toDigits_le_iff (by decide) (by decide)).mpr (Nat.lt_trans hm hp)
  rw [len_cps]
  obtain ⟨m, ⟨e, h1⟩ | ⟨_, e, h1⟩⟩ := num_split i <;> rw [h1]
  · have := dl m (by rw [e, Int.natAbs_natCast] at h; exact h)
    omega
  · have := dl m (by rw [e, Int.natAbs_neg, Int.natAbs_natCast] at h; exact h)
    rw [List.length_cons]
    omega
theorem int_show64 {i : Int} (h : Bg 64 i) : (PyData.int i).showable = true := by
  unfold PyData.showable
  refine decide_eq_true ?_
  unfold Bg at h
  by_cases h0 : i.natAbs = 0
  · rw [h0]; decide
  · exact Nat.lt_trans ((Nat.log2_lt h0).mpr h) (by decide)
theorem sh_int {i : Int} (h : Bg 64 i) : Sh 0 21 (.int i) := ⟨rfl, int_show64 h, rfl, Nat.le_refl 0, int_len64 h, ok_int i⟩
theorem sh_non : Sh 0 21 .non := ⟨rfl, rfl, rfl, Nat.le_refl 0, by show (4 : Nat) ≤ 21; decide, by intro c hc; revert c; decide⟩
theorem sh_bl (b : Bool) : Sh 0 21 (.bl b) := ⟨rfl, rfl, rfl, Nat.le_refl 0, by cases b <;> decide, by cases b <;> (intro c hc; revert c; decide)⟩
theorem Sh.mono {k L k' L' : Nat} {d : D} (h : Sh k L d) (l1 : k ≤ k') (l2 : L ≤ L') : Sh k' L' d := ⟨h.f, h.s, h.h, Nat.le_trans h.dep l1, Nat.le_trans h.l l2, h.o⟩
theorem sh_all {k L : Nat} : ∀ es : List D, (∀ e ∈ es, Sh k L e) →
    D.flatL es = true ∧ PyData.showableAll (D.pyL es) = true ∧ PyData.hasDictAll (D.pyL es) = false ∧ PyData.depthAll (D.pyL es) ≤ k ∧ (∀ t ∈ PyData.shownAll (D.pyL es), t.length ≤ L) ∧ (PyData.shownAll (D.pyL es)).length = es.length ∧ ∀ t ∈ PyData.shownAll (D.pyL es), Ok t
  | [], _ => ⟨rfl, rfl, rfl, Nat.zero_le _, nofun, rfl, nofun⟩
  | e :: r, h => by
    have p := h e List.mem_cons_self
    obtain ⟨q1, q2, q3, q4, q5, q6, q7⟩ := sh_all r (fun x hx => h x (List.mem_cons_of_mem _ hx))
    refine ⟨?_, ?_, ?_, ?_, ?_, ?_, ?_⟩
    · show (D.flat e && D.flatL r) = true
      rw [p.f, q1]; rfl
    · show (PyData.showable e.py && PyData.showableAll (D.pyL r)) = true
      rw [p.s, q2]; rfl
    · show (PyData.hasDict e.py || PyData.hasDictAll (D.pyL r)) = false
      rw [p.h, q3]; rfl
    · show max e.py.depth (PyData.depthAll (D.pyL r)) ≤ k
      have := p.dep
      omega
    · intro t ht
      rcases List.mem_cons.mp ht with rfl | ht
      · exact p.l
      · exact q5 t ht
    · show (PyData.shownAll (D.pyL r)).length + 1 = r.length + 1
      rw [q6]
    · intro t ht
      rcases List.mem_cons.mp ht with rfl | ht
      · exact p.o
      · exact q7 t ht
theorem sh_seq {k L n : Nat} {d : D} {es : List D} (hd : d = .tup es ∨ d = .lst es) (h : ∀ e ∈ es, Sh k L e) (hl : es.length ≤ n) : Sh (k + 1) (3 + n * (L + 2)) d := by
  obtain ⟨q1, q2, q3, q4, q5, q6, q7⟩ := sh_all es h
  have hm : (PyData.shownAll (D.pyL es)).length * (L + 2) ≤ n * (L + 2) := Nat.mul_le_mul (by omega) (Nat.le_refl _)
  rcases hd with rfl | rfl
  · refine ⟨q1, q2, q3, ?_, ?_, ok_tuple q7⟩
    · show PyData.depthAll (D.pyL es) + 1 ≤ k + 1
      omega
    · have := tuple_le _ q5
      show (tupleText (PyData.shownAll (D.pyL es))).length ≤ _
      omega
  · refine ⟨q1, q2, q3, ?_, ?_, ok_list q7⟩
    · show PyData.depthAll (D.pyL es) + 1 ≤ k + 1
      omega
    · have := list_le _ q5
      show (listText (PyData.shownAll (D.pyL es))).length ≤ _
      omega
theorem sh_pr {x : D} {a b : Int} (h : Pr x a b) (ha : Bg 64 a) (hb : Bg 64 b) : Sh 1 49 x :=
  sh_seq (n := 2) h (fun e he => by
    simp only [List.mem_cons, List.not_mem_nil, or_false] at he
    rcases he with rfl | rfl
    · exact sh_int ha
    · exact sh_int hb) (Nat.le_refl 2)
/-- tones of 64 bits -/
def T64 (t : Tone) : Prop := Bg 64 t.1 ∧ Bg 64 t.2
theorem near_64 {t : Tone} (h : Near t) : T64 t := by
  unfold Near at h
  exact ⟨bg64 (by omega) (by decide), bg64 (by omega) (by decide)⟩
theorem sh_ent {d : D} {e : Ent} (h : EntL d e) (ok : okEnt T64 e) : Sh 2 105 d := by
  cases e with
  | none =>
    have h : d = .non := h
    subst h
    exact sh_non.mono (by decide) (by decide)
  | some u =>
    obtain ⟨t, b⟩ := u
    obtain ⟨x, hx, hd⟩ := h
    obtain ⟨b1, b2⟩ := ok t b rfl
    exact sh_seq (n := 2) hd (fun e he => by
      simp only [List.mem_cons, List.not_mem_nil, or_false] at he
      rcases he with rfl | rfl
      · exact sh_pr hx b1 b2
      · exact (sh_bl b).mono (by decide) (by decide)) (Nat.le_refl 2)
theorem RelL.mem {α β : Type} {R : α → β → Prop} : ∀ {xs : List α} {ys : List β} {x : α}, RelL R xs ys → x ∈ xs → ∃ y ∈ ys, R x y
  | x :: xs, y :: ys, z, h, hz => by
    rcases List.mem_cons.mp hz with rfl | hz
    · exact ⟨y, List.mem_cons_self, h.1⟩
    · obtain ⟨w, hw, r⟩ := RelL.mem h.2 hz
      exact ⟨w, List.mem_cons_of_mem _ hw, r⟩
theorem sh_col {d : D} {c : Col} {v : Nat} (h : ColL d c) (ok : okCol T64 v c) (hv : v ≤ 4) : Sh 4 1305 d := by
  obtain ⟨x, y, es, hx, hes, hy, hd⟩ := h
  obtain ⟨⟨_, _, b1, b2, _⟩, a1, a2, hl, hen⟩ := ok
  have hel := hes.length
  have hys : Sh 3 431 y := sh_seq (n := 4) hy (fun e he => by
    obtain ⟨en, h1, h2⟩ := RelL.mem hes he
    exact sh_ent h2 (hen en h1)) (by omega)
  exact (sh_seq (k := 3) (L := 431) (n := 3) hd (fun e he => by
    simp only [List.mem_cons, List.not_mem_nil, or_false] at he
    rcases he with rfl | rfl | rfl
    · exact (sh_pr hx b1 b2).mono (by decide) (by decide)
    · exact (sh_int (bg64 (by omega) (by decide))).mono (by decide) (by decide)
    · exact hys) (Nat.le_refl 3)).mono (by decide) (by decide)
/-- a bar that is handed in: its columns loosely -/
def BarL (d : D) (cs : List Col) : Prop := ∃ es, (d = .tup es ∨ d = .lst es) ∧ RelL ColL es cs
def barD (cs : List Col) : D := .tup (cs.map colD)
def okBar (v : Nat) (cs : List Col) : Prop := cs.length ≤ 1000 ∧ ∀ c ∈ cs, okCol T64 v c
theorem barD_bel (n : Nat) (cs : List Col) : (barD cs).bel n = true := by
  show D.belL n (cs.map colD) = true
  rw [belL_iff]
  intro d hd
  obtain ⟨c, _, rfl⟩ := List.mem_map.mp hd
  exact colD_bel n c
theorem sh_bar {d : D} {cs : List Col} {v : Nat} (h : BarL d cs) (ok : okBar v cs) (hv : v ≤ 4) : Sh 5 1307003 d := by
  obtain ⟨es, hd, hes⟩ := h
  have hel := hes.length
  exact sh_seq (n := 1000) hd (fun e he => by
    obtain ⟨c, h1, h2⟩ := RelL.mem hes he
    exact sh_col h2 (ok.2 c h1) hv) (by have := ok.1; omega)
/-! lists all through -/
theorem lis_ent (e : Ent) : EntL (lis (entD e)) e := by
  cases e with
  | none => rfl
  | some u => exact ⟨_, .inr rfl, .inr rfl⟩
theorem lis_col (c : Col) : ColL (lis (colD c)) c := by
  refine ⟨.lst [.int c.dur.1, .int c.dur.2], .lst (c.es.map fun e => lis (entD e)), c.es.map fun e => lis (entD e), .inr rfl, RelL.map _ lis_ent c.es, .inr rfl, .inr ?_⟩
  show D.lst [lis (MD.prD c.dur), .int c.acc, .lst (lisL (c.es.map entD))] = _
  rw [lisL_map, List.map_map]
  rfl
theorem lis_bar (cs : List Col) : BarL (lis (barD cs)) cs := by
  refine ⟨cs.map fun c => lis (colD c), .inr ?_, RelL.map _ lis_col cs⟩
  show D.lst (lisL (cs.map colD)) = _
  rw [lisL_map, List.map_map]
  rfl
theorem bar_bar (cs : List Col) : BarL (barD cs) cs := ⟨_, .inl rfl, RelL.map _ colL_colD cs⟩
theorem tupL_of {n : Nat} : ∀ ds : List D, (∀ d ∈ ds, tupD n d = true) → tupL n ds = true
  | [], _ => rfl
  | d :: r, h => by
    show (tupD n d && tupL n r) = true
    rw [h d List.mem_cons_self, tupL_of r fun x hx => h x (List.mem_cons_of_mem _ hx)]; rfl
theorem tup_ent (e : Ent) : tupD 2 (entD e) = true := by
  cases e with
  | none => rfl
  | some u => rfl
theorem tup_col {c : Col} (h : c.es.length ≤ sizeLine) : tupD 4 (colD c) = true := by
  show (true && (true && (true && (((decide (0 < 3) && decide ((c.es.map entD).length ≤ sizeLine)) && tupL 2 (c.es.map entD)) && true)))) = true
  rw [tupL_of (c.es.map entD) fun d hd => by
    obtain ⟨e, _, rfl⟩ := List.mem_map.mp hd
    exact tup_ent e, List.length_map, decide_eq_true h]
  rfl
theorem plainL_of {n : Nat} : ∀ ds : List D, (∀ d ∈ ds, plainD n d = true) → plainL n ds = true
  | [], _ => rfl
  | d :: r, h => by
    show (plainD n d && plainL n r) = true
    rw [h d List.mem_cons_self, plainL_of r fun x hx => h x (List.mem_cons_of_mem _ hx)]; rfl
theorem plain_ent (e : Ent) : plainD 2 (entD e) = true := by
  cases e with
  | none => rfl
  | some u => rfl
theorem plain_col {c : Col} (h : c.es.length ≤ sizeLine) : plainD 4 (colD c) = true := by
  show (true && (true && (true && (((decide (0 < 3) && decide ((c.es.map entD).length ≤ sizeLine)) && plainL 2 (c.es.map entD)) && true)))) = true
  rw [plainL_of (c.es.map entD) fun d hd => by
    obtain ⟨e, _, rfl⟩ := List.mem_map.mp hd
    exact plain_ent e, List.length_map, decide_eq_true h]
  rfl
theorem plain_bar {cs : List Col} (h1 : cs.length ≤ sizeLine) (h : ∀ c ∈ cs, c.es.length ≤ sizeLine) : plainD 5 (barD cs) = true := by
  show ((decide (0 < 5) && decide ((cs.map colD).length ≤ sizeLine)) && plainL 4 (cs.map colD)) = true
  rw [plainL_of (cs.map colD) fun d hd => by
    obtain ⟨c, hc, rfl⟩ := List.mem_map.mp hd
    exact plain_col (h c hc), List.length_map, decide_eq_true h1]
  rfl
theorem tup_bar {cs : List Col} (h1 : cs.length ≤ sizeLine) (h : ∀ c ∈ cs, c.es.length ≤ sizeLine) : tupD 6 (barD cs) = true := by
  have up : ∀ c ∈ cs, tupD 5 (colD c) = true := fun c hc => by
    show (true && (true && (true && (((decide (0 < 4) && decide ((c.es.map entD).length ≤ sizeLine)) && tupL 3 (c.es.map entD)) && true)))) = true
    rw [tupL_of (c.es.map entD) fun d hd => by
      obtain ⟨e, _, rfl⟩ := List.mem_map.mp hd
      cases e <;> rfl, List.length_map, decide_eq_true (h c hc)]
    rfl
  show ((decide (0 < 6) && decide ((cs.map colD).length ≤ sizeLine)) && tupL 5 (cs.map colD)) = true
  rw [tupL_of (cs.map colD) fun d hd => by
    obtain ⟨c, hc, rfl⟩ := List.mem_map.mp hd
    exact up c hc, List.length_map, decide_eq_true h1]
  rfl
theorem Sh.rep {k L : Nat} {d : D} {es : List D} (h : Sh k L d) (hd : d = .tup es ∨ d = .lst es) (hk : k ≤ 64) (hL : L ≤ sizeLine) {M : MH} {Q : QE} (q : Q (.str d.py.shown) M) : cRepr [d] M Q :=
  ⟨d, rfl, h.f, ⟨es, hd⟩, h.s, h.h, Nat.le_trans h.dep hk, Nat.le_trans h.l hL, q⟩
theorem two_eqOk {a b : Str} (h : Ok a) (k : Ok b) : eqOk (.tup [.str a, .str b]) := by
  have e : ∀ x : Str, Ok x → PyData.strOk x = true := fun x hx => by
    unfold PyData.strOk
    rw [← Array.all_toList, List.all_eq_true]
    intro c hc
    exact decide_eq_true (hx c hc)
  refine ⟨rfl, ?_⟩
  simp [SeqAt.shaped, D.py, D.pyL, PyData.canLay0, PyData.canLayAll0, PyData.depth, PyData.depthAll, e a h, e b k]
theorem two_deq (a b : Str) : deq (.tup [.str a, .str b]) (.tup [.str a, .str b]) = true := by simp [deq, D.py, D.pyL, PyData.eqv, PyData.eqvAll]
theorem blsD_rep : ∀ n : Nat, blsD (List.replicate n (D.bl true)) = some (List.replicate n true)
  | 0 => rfl
  | n + 1 => by
    rw [List.replicate_succ, List.replicate_succ]
    show (blsD (List.replicate n (D.bl true))).map (true :: ·) = _
    rw [blsD_rep n]; rfl
theorem strOk_of {x : Str} (hx : Ok x) : PyData.strOk x = true := by
  unfold PyData.strOk
  rw [← Array.all_toList, List.all_eq_true]
  intro c hc
  exact decide_eq_true (hx c hc)
end Kit
namespace K12
open MD L2 PySem Kit K03
abbrev Sg := List Nat
abbrev tl (x : Str) : Sg := x.cps.toList
abbrev N_whole : List Str := K03.N_whole
abbrev N_within : List Str := K03.N_within
abbrev sp_whole : SpD := K03.sp_whole
abbrev sp_within : SpD := K03.sp_within
theorem mono_whole : MonoP sp_whole := K03.mono_whole
theorem mono_within : MonoP sp_within := K03.mono_within
theorem len_whole (ds M Q E) (h : sp_whole ds M Q E) : ds.length = 1 := K03.len_whole ds M Q E h
theorem len_within (ds M Q E) (h : sp_within ds M Q E) : ds.length = 2 := K03.len_within ds M Q E h
abbrev r_whole : TS' := K03.r_whole
abbrev r_within : TS' := K03.r_within
theorem math_whole (ds M Q E) (hM : WFM M) (hb : D.belL M.length ds = true) (h : sp_whole ds M Q E) : r_whole (retE M.length Q E) (startD N_whole ds) M := K03.math_whole ds M Q E hM hb h
theorem math_within (ds M Q E) (hM : WFM M) (hb : D.belL M.length ds = true) (h : sp_within ds M Q E) : r_within (retE M.length Q E) (startD N_within ds) M := K03.math_within ds M Q E hM hb h
def sp__law_same : SpD := fun ds M Q _ => ∃ d, ds = [d, d] ∧ plainD 6 d = true ∧ Q (.bl true) M
theorem mono__law_same : MonoP sp__law_same := fun ds M Q Q' E E' q x ⟨d, e, h1, h⟩ => ⟨d, e, h1, q _ _ h⟩
theorem len__law_same (ds M Q E) (h : sp__law_same ds M Q E) : ds.length = 2 := by obtain ⟨_, rfl, _⟩ := h; rfl
theorem sub__law_same {ds M Q E} (h : sp__law_same ds M Q E) : spr__law_same 7 ds M Q E := by
  obtain ⟨d, e, h1, h⟩ := h
  exact ⟨d, e, by decide, h1, h⟩
/-! what the texts tell, on lists of signs -/
def durOf (l : Sg) : Option (Int × Int) := match cuts 47 l with
  | [a] => (match wholeP a with
    | some n => if 0 < n then some (n, 1) else none
    | none => none)
  | [a, b] => (match wholeP a, wholeP b with
    | some n, some d => if 2 ≤ d ∧ Int.gcd n d = 1 ∧ 0 < n then some (n, d) else none
    | _, _ => none)
  | _ => none
def durP (l : Sg) : Option (Int × Int) := match durOf l with
  | some p => if p.1 ≤ 1000 ∧ p.2 ≤ 1000 then some p else none
  | none => none
/-- none: no entry -/
def entP (l : Sg) : Option Ent := if l = [45] then some none else if l.head? = some 126 then (readT wholeP l.tail).map fun t => some (t, false) else (readT wholeP l).map fun t => some (t, true)
def entsP : List Sg → Option (List Ent)
  | [] => some []
  | w :: r => match entP w, entsP r with
    | some e, some es => some (e :: es)
    | _, _ => none
def accP : List Sg → Option Int
  | [_] => some 0
  | [_, [c]] => if 49 ≤ c ∧ c ≤ 57 then some ((c : Int) - 48) else none
  | _ => none
def colP (ws : List Sg) : Option Col := if ¬ (2 ≤ ws.length ∧ ws.length ≤ 5) then none else match ws with
  | [] => none
  | w :: r => match durP ((cuts 33 w).headD []), accP (cuts 33 w), entsP r with
    | some d, some a, some es => some ⟨d, a, es⟩
    | _, _, _ => none
def wordsP (l : Sg) : List Sg := (cuts 32 l).filter fun w => !w.isEmpty
/-- where the first wrong part begins, or the columns -/
def barGo : Option Nat → Nat → List Sg → Nat ⊕ List Col
  | _, _, [] => .inr []
  | v, b, p :: r => match colP (wordsP p) with
    | none => .inl (b + lead p)
    | some c => if (match v with | some n => decide (c.es.length ≠ n) | none => false) = true then .inl (b + lead p) else
      match barGo (some (v.getD c.es.length)) (b + p.length + 1) r with
      | .inl a => .inl a
      | .inr cs => .inr (c :: cs)
def barP (l : Sg) : Nat ⊕ List Col := barGo none 0 (cuts 124 l)
/-- no word is too long for a reader -/
def wordsOk (l : Sg) : Prop := ∀ p ∈ cuts 124 l, ∀ w ∈ cuts 32 p, w.length ≤ 1000
def optC : Option Col → D
  | some c => colD c
  | none => .non
def optR : Option (Int × Int) → D
  | some p => MD.prD p
  | none => .non
/-! the law's own words -/
def Far (i : Int) : Prop := -1000 ≤ i ∧ i ≤ 1000
def TF (t : Tone) : Prop := Far t.1 ∧ Far t.2
def T5 (t : Tone) : Prop := (-10000 ≤ t.1 ∧ t.1 ≤ 10000) ∧ -10000 ≤ t.2 ∧ t.2 ≤ 10000
theorem tf_t5 {t : Tone} (h : TF t) : T5 t := by
  obtain ⟨⟨h1, h2⟩, h3, h4⟩ := h
  exact ⟨⟨by omega, by omega⟩, by omega, by omega⟩
def okC (v : Nat) (c : Col) : Prop := okCol TF v c ∧ sml c.dur
def letterOf (f : Int) : Str := ⟨#[("CDEFGAB" : Str).cps.toList.getD ((4 * f) % 7).toNat 0]⟩
def marksOf (f : Int) : Str := if 0 < (f + 1) / 7 then strRep "#" ((f + 1) / 7) else strRep "b" (-((f + 1) / 7))
def toneText (t : Tone) : Str := letterOf t.1 ++ marksOf t.1 ++ (toString ((4 * t.1 + 7 * t.2) / 7) : String)
def firstText (c : Col) : Str := (if c.dur.2 = 1 then ((toString c.dur.1 : String) : Str) else ((toString c.dur.1 : String) : Str) ++ "/" ++ ((toString c.dur.2 : String) : Str)) ++ (if 0 < c.acc then ("!" : Str) ++ ((toString c.acc : String) : Str) else "")
def entText : Ent → Str
  | none => "-"
  | some (t, b) => (if b then ("" : Str) else "~") ++ toneText t
def cellW (c : Col) : List Str := firstText c :: c.es.map entText
/-- a part of a text: no bar in it, no space ahead, no word too long -/
def partOk (x : Str) : Prop := 124 ∉ tl x ∧ (tl x).head? ≠ some 32 ∧ (∀ w ∈ cuts 32 (tl x), w.length ≤ 1000) ∧ x.length ≤ 8000
/-- a row of cells: right ones and wrong ones -/
def rowOk (v : Nat) (k : Nat) (c : Col) (r : Str × Bool) : Prop := partOk r.1 ∧ if r.2 = true then colP (wordsP (tl r.1)) = some c else colP (wordsP (tl r.1)) = none ∨ (0 < k ∧ ∃ d, colP (wordsP (tl r.1)) = some d ∧ d.es.length ≠ v)
def rowD (r : Str × Bool) : D := .tup [.str r.1, .bl r.2]
def rowsOk (v : Nat) (cs : List Col) (rs : List (Str × Bool)) : Prop := rs.length = cs.length ∧ (∀ k c r, cs[k]? = some c → rs[k]? = some r → rowOk v k c r) ∧ ∃ r ∈ rs, r.2 = false
def okB (n v : Nat) (cs : List Col) : Prop := (1 ≤ cs.length ∧ cs.length ≤ n) ∧ (1 ≤ v ∧ v ≤ 4) ∧ ∀ c ∈ cs, okC v c
/-! promises -/
def sp_is_fraction : SpD := fun ds M Q _ => ∃ a b : Int, ds = [.tup [.int a, .int b]] ∧ Q (.bl (decide (0 < b ∧ Int.gcd a b = 1))) M
theorem mono_is_fraction : MonoP sp_is_fraction := fun ds M Q Q' E E' q x ⟨a, b, e, h⟩ => ⟨a, b, e, q _ _ h⟩
theorem len_is_fraction (ds M Q E) (h : sp_is_fraction ds M Q E) : ds.length = 1 := by obtain ⟨_, _, rfl, _⟩ := h; rfl
def sp_is_duration : SpD := fun ds M Q _ => ∃ a b : Int, ds = [.tup [.int a, .int b]] ∧ Q (.bl (decide ((0 < b ∧ Int.gcd a b = 1) ∧ (0 < a ∧ a ≤ 1000) ∧ b ≤ 1000))) M
theorem mono_is_duration : MonoP sp_is_duration := fun ds M Q Q' E E' q x ⟨a, b, e, h⟩ => ⟨a, b, e, q _ _ h⟩
theorem len_is_duration (ds M Q E) (h : sp_is_duration ds M Q E) : ds.length = 1 := by obtain ⟨_, _, rfl, _⟩ := h; rfl
def sp_read_entry : SpD := fun ds M Q E => ∃ x : Str, ds = [.str x] ∧ x.length ≤ 1000 ∧ (match entP (tl x) with
  | some e => Q (entD e) M
  | none => ∀ y, E (refX y) M)
theorem mono_read_entry : MonoP sp_read_entry := fun ds M Q Q' E E' q x ⟨s, e, h1, h⟩ => ⟨s, e, h1, by
  revert h
  cases entP (tl s) with
  | some e => exact fun h => q _ _ h
  | none => exact fun h y => x _ _ (h y)⟩
theorem len_read_entry (ds M Q E) (h : sp_read_entry ds M Q E) : ds.length = 1 := by obtain ⟨_, rfl, _⟩ := h; rfl
def sp_read_duration_of : SpD := fun ds M Q _ => ∃ x : Str, ds = [.str x] ∧ x.length ≤ 1000 ∧ Q (optR (durOf (tl x))) M
theorem mono_read_duration_of : MonoP sp_read_duration_of := fun ds M Q Q' E E' q x ⟨s, e, h1, h⟩ => ⟨s, e, h1, q _ _ h⟩
theorem len_read_duration_of (ds M Q E) (h : sp_read_duration_of ds M Q E) : ds.length = 1 := by obtain ⟨_, rfl, _⟩ := h; rfl
def sp_read_duration : SpD := fun ds M Q _ => ∃ x : Str, ds = [.str x] ∧ x.length ≤ 1000 ∧ Q (optR (durP (tl x))) M
theorem mono_read_duration : MonoP sp_read_duration := fun ds M Q Q' E E' q x ⟨s, e, h1, h⟩ => ⟨s, e, h1, q _ _ h⟩
theorem len_read_duration (ds M Q E) (h : sp_read_duration ds M Q E) : ds.length = 1 := by obtain ⟨_, rfl, _⟩ := h; rfl
def sp_read_column : SpD := fun ds M Q _ => ∃ ws : List Str, ds = [.lst (ws.map D.str)] ∧ ws.length ≤ 3000000 ∧ (∀ w ∈ ws, w.length ≤ 1000) ∧ Q (optC (colP (ws.map tl))) M
theorem mono_read_column : MonoP sp_read_column := fun ds M Q Q' E E' q x ⟨s, e, h1, h2, h⟩ => ⟨s, e, h1, h2, q _ _ h⟩
theorem len_read_column (ds M Q E) (h : sp_read_column ds M Q E) : ds.length = 1 := by obtain ⟨_, rfl, _⟩ := h; rfl
def barAns (r : Nat ⊕ List Col) (M : MH) (Q : QE) (E : QX) : Prop := match r with
  | .inl a => E ⟨"BadText", [("position", .int a)]⟩ M
  | .inr cs => if 64 < cs.length then E ⟨"BadColumn", [("reason", .str "count"), ("number", .non)]⟩ M else Q (barD cs) M
theorem barAns.imp {r : Nat ⊕ List Col} {M : MH} {Q Q' : QE} {E E' : QX} (q : ∀ d M, Q d M → Q' d M) (x : ∀ x M, E x M → E' x M) (h : barAns r M Q E) : barAns r M Q' E' := by
  cases r with
  | inl a => exact x _ _ h
  | inr cs =>
    unfold barAns at h ⊢
    simp only at h ⊢
    split
    · rename_i hc; rw [if_pos hc] at h; exact x _ _ h
    · rename_i hc; rw [if_neg hc] at h; exact q _ _ h
def sp_read_bar : SpD := fun ds M Q E => ∃ x : Str, ds = [.str x] ∧ x.length ≤ 2000000 ∧ wordsOk (tl x) ∧ barAns (barP (tl x)) M Q E
theorem mono_read_bar : MonoP sp_read_bar := fun ds M Q Q' E E' q x ⟨s, e, h1, h2, h⟩ => ⟨s, e, h1, h2, h.imp q x⟩
theorem len_read_bar (ds M Q E) (h : sp_read_bar ds M Q E) : ds.length = 1 := by obtain ⟨_, rfl, _⟩ := h; rfl
def sp__law_letter : SpD := fun ds M Q _ => ∃ f : Int, ds = [.int f] ∧ Q (.tup [.int ((4 * f) % 7), .int ((f + 1) / 7)]) M
theorem mono__law_letter : MonoP sp__law_letter := fun ds M Q Q' E E' q x ⟨f, e, h⟩ => ⟨f, e, q _ _ h⟩
theorem len__law_letter (ds M Q E) (h : sp__law_letter ds M Q E) : ds.length = 1 := by obtain ⟨_, rfl, _⟩ := h; rfl
def sp__law_tone_text : SpD := fun ds M Q _ => ∃ t : Tone, ds = [MD.prD t] ∧ T5 t ∧ Q (.str (toneText t)) M
theorem mono__law_tone_text : MonoP sp__law_tone_text := fun ds M Q Q' E E' q x ⟨t, e, h1, h⟩ => ⟨t, e, h1, q _ _ h⟩
theorem len__law_tone_text (ds M Q E) (h : sp__law_tone_text ds M Q E) : ds.length = 1 := by obtain ⟨_, rfl, _⟩ := h; rfl
def sp__law_cell_words : SpD := fun ds M Q _ => ∃ (c : Col) (v : Nat), ds = [colD c] ∧ v ≤ 4 ∧ okCol T5 v c ∧ Q (.ref M.length) (M ++ [.lst ((cellW c).map D.str)])
theorem mono__law_cell_words : MonoP sp__law_cell_words := fun ds M Q Q' E E' q x ⟨c, v, e, h1, h2, h⟩ => ⟨c, v, e, h1, h2, q _ _ h⟩
theorem len__law_cell_words (ds M Q E) (h : sp__law_cell_words ds M Q E) : ds.length = 1 := by obtain ⟨_, _, rfl, _⟩ := h; rfl
def sp__law_pad : SpD := fun ds M Q _ => ∃ p : Nat, ds = [.ref p] ∧ Pool M p ∧ ∀ (k : Nat) M', k ≤ 5 → Step p M M' → Q (.str (strRep " " k)) M'
theorem mono__law_pad : MonoP sp__law_pad := fun ds M Q Q' E E' q x ⟨p, e, h1, h⟩ => ⟨p, e, h1, fun k M' a b => q _ _ (h k M' a b)⟩
theorem len__law_pad (ds M Q E) (h : sp__law_pad ds M Q E) : ds.length = 1 := by obtain ⟨_, rfl, _⟩ := h; rfl
def sp__law_spaced : SpD := fun ds M Q _ => ∃ (p v : Nat) (cs : List Col), ds = [.ref p, barD cs] ∧ Pool M p ∧ okB 128 v cs ∧ ∀ (x : Str) M', x.length ≤ 2000000 → wordsOk (tl x) → barP (tl x) = .inr cs → Step p M M' → Q (.str x) M'
theorem mono__law_spaced : MonoP sp__law_spaced := fun ds M Q Q' E E' q x ⟨p, v, cs, e, h1, h2, h⟩ => ⟨p, v, cs, e, h1, h2, fun k M' a b c d => q _ _ (h k M' a b c d)⟩
theorem len__law_spaced (ds M Q E) (h : sp__law_spaced ds M Q E) : ds.length = 2 := by obtain ⟨_, _, _, rfl, _⟩ := h; rfl
def sp__law_far_bar : SpD := fun ds M Q _ => ∃ (p v : Nat), ds = [.ref p, .int v] ∧ Pool M p ∧ 1 ≤ v ∧ v ≤ 4 ∧ ∀ cs M', okB 64 v cs → Step p M M' → Q (barD cs) M'
theorem mono__law_far_bar : MonoP sp__law_far_bar := fun ds M Q Q' E E' q x ⟨p, v, e, h1, h2, h3, h⟩ => ⟨p, v, e, h1, h2, h3, fun k M' a b => q _ _ (h k M' a b)⟩
theorem len__law_far_bar (ds M Q E) (h : sp__law_far_bar ds M Q E) : ds.length = 2 := by obtain ⟨_, _, rfl, _⟩ := h; rfl
def sp__law_wrong_text : SpD := fun ds M Q _ => ∃ (p v : Nat) (c : Col), ds = [.ref p, colD c] ∧ Pool M p ∧ 1 ≤ v ∧ v ≤ 4 ∧ okC v c ∧ ∀ (x : Str) M', partOk x → colP (wordsP (tl x)) = none → Step p M M' → Q (.str x) M'
theorem mono__law_wrong_text : MonoP sp__law_wrong_text := fun ds M Q Q' E E' q x ⟨p, v, c, e, h1, h2, h3, h4, h⟩ => ⟨p, v, c, e, h1, h2, h3, h4, fun k M' a b d => q _ _ (h k M' a b d)⟩
theorem len__law_wrong_text (ds M Q E) (h : sp__law_wrong_text ds M Q E) : ds.length = 2 := by obtain ⟨_, _, _, rfl, _⟩ := h; rfl
def sp__law_cells : SpD := fun ds M Q _ => ∃ (p v : Nat) (cs : List Col), ds = [.ref p, barD cs] ∧ Pool M p ∧ okB 64 v cs ∧ ∀ rs M', rowsOk v cs rs → Step p M M' → Q (.lst (rs.map rowD)) M'
theorem mono__law_cells : MonoP sp__law_cells := fun ds M Q Q' E E' q x ⟨p, v, cs, e, h1, h2, h⟩ => ⟨p, v, cs, e, h1, h2, fun k M' a b => q _ _ (h k M' a b)⟩
theorem len__law_cells (ds M Q E) (h : sp__law_cells ds M Q E) : ds.length = 2 := by obtain ⟨_, _, _, rfl, _⟩ := h; rfl
def sp__law_laid : SpD := fun ds M Q _ => ∃ (p v : Nat) (cs : List Col) (rs : List (Str × Bool)) (d : D), ds = [.ref p, d] ∧ Pool M p ∧ d ≠ .ref p ∧ seqOf d M = some (rs.map rowD) ∧ (∀ M', Step p M M' → seqOf d M' = some (rs.map rowD)) ∧ okB 128 v cs ∧ rowsOk v cs rs ∧
  ∀ (x : Str) (a : Nat) M', x.length ≤ 2000000 → wordsOk (tl x) → barP (tl x) = .inl a → Step p M M' → Q (.tup [.str x, .int a]) M'
theorem mono__law_laid : MonoP sp__law_laid := fun ds M Q Q' E E' q x ⟨p, v, cs, rs, d, e, h1, h2, h3, h4, h5, h6, h⟩ => ⟨p, v, cs, rs, d, e, h1, h2, h3, h4, h5, h6, fun k a M' b c d f => q _ _ (h k a M' b c d f)⟩
theorem len__law_laid (ds M Q E) (h : sp__law_laid ds M Q E) : ds.length = 2 := by obtain ⟨_, _, _, _, _, rfl, _⟩ := h; rfl
def toldD : Nat ⊕ List Col → D
  | .inl a => .tup [.str "text", .int a, .bl true, .bl true, .bl false]
  | .inr cs => if 64 < cs.length then .tup [.str "count", .non, .str "count", .bl true, .bl true] else .tup [.str "told", barD cs]
def sp__law_told : SpD := fun ds M Q _ => ∃ x : Str, ds = [.str x] ∧ x.length ≤ 2000000 ∧ wordsOk (tl x) ∧ Q (toldD (barP (tl x))) M
theorem mono__law_told : MonoP sp__law_told := fun ds M Q Q' E E' q x ⟨s, e, h1, h2, h⟩ => ⟨s, e, h1, h2, q _ _ h⟩
theorem len__law_told (ds M Q E) (h : sp__law_told ds M Q E) : ds.length = 1 := by obtain ⟨_, rfl, _⟩ := h; rfl
def sp_law : SpD := fun ds M Q _ => ∃ ns : List Int, ds = [.scr ns] ∧ ns.length ≤ 63 ∧ M = [] ∧ ∀ M', Q (.bl true) M'
theorem len_law (ds M Q E) (h : sp_law ds M Q E) : ds.length = 1 := by obtain ⟨_, rfl, _⟩ := h; rfl
theorem law_start (ns : List Int) (h : ns.length ≤ 63) (hb : ∀ z ∈ ns, Builtin.Int.intBits z ≤ 1048576) : ∀ Q E, (∀ M, Q (.bl true) M) → sp_law [.scr ns] [] Q E := fun Q E q => ⟨ns, rfl, h, rfl, q⟩
def xmt : Mt := [("BadColumn", "BadColumn", true), ("BadColumn", "BadKey", false), ("BadColumn", "BadName", false), ("BadColumn", "BadText", false), ("BadName", "BadColumn", false), ("BadName", "BadKey", false), ("BadName", "BadName", true), ("BadName", "BadText", false), ("BadText", "BadColumn", false), ("BadText", "BadKey", false), ("BadText", "BadName", false), ("BadText", "BadText", true)]
def xit : Mt := [("BadColumn", "BadColumn", true), ("BadColumn", "ScoreError", true), ("BadColumn", "ValueError", true), ("BadName", "BadColumn", false), ("BadName", "ScoreError", true), ("BadName", "ValueError", true), ("BadText", "BadColumn", false), ("BadText", "ScoreError", true), ("BadText", "ValueError", true)]
def xxt : List (Str × Str) := [("BadColumn", "number"), ("BadColumn", "reason"), ("BadText", "position")]
abbrev N_is_fraction : List Str := ["value", "part"]
abbrev N_is_duration : List Str := ["value"]
abbrev N_read_entry : List Str := ["word"]
abbrev N_read_duration_of : List Str := ["word", "parts", "numbers", "found", "part"]
abbrev N_read_duration : List Str := ["word", "found"]
abbrev N_read_column : List Str := ["words", "parts", "duration", "accent", "entries", "word"]
abbrev N_read_bar : List Str := ["text", "found", "begin", "part", "words", "at", "column", "word"]
abbrev N__law_letter : List Str := ["fifths", "place", "rest"]
abbrev N__law_tone_text : List Str := ["tone", "marks", "place", "many"]
abbrev N__law_cell_words : List Str := ["cell", "first", "rows", "entry"]
abbrev N__law_pad : List Str := ["pool"]
abbrev N__law_spaced : List Str := ["pool", "bar", "found", "k", "words", "at"]
abbrev N__law_far_bar : List Str := ["pool", "voices", "some", "found", "k"]
abbrev N__law_wrong_text : List Str := ["pool", "cell", "voices", "words", "first", "entry", "kind", "at"]
abbrev N__law_cells : List Str := ["pool", "bar", "found", "turn", "at", "cell", "other"]
abbrev N__law_laid : List Str := ["pool", "cells", "text", "first", "k", "begin"]
abbrev N__law_told : List Str := ["text", "found", "e"]
abbrev N_law : List Str := ["script", "pool", "turn", "bar", "many", "long_bar", "cells", "text", "first", "cell"]
def r_is_fraction : TS' := (tSeq' (tIfS' (tOr' (tNot' (tTru' (tCB' cIsiT (tCons' (tVar' 0) (tCons' (tTup' (tCons' (tC' (.con (.ty "tuple"))) (tCons' (tC' (.con (.ty "list"))) tNil'))) tNil'))))) (tB' (tOp' (oEq true) (tCB' cLen (tCons' (tVar' 0) tNil')) (tC' (.int 2))))) (tRet' (tC' (.bl false))) tNext')
    (tSeq' (tIfS' (tTru' (tCB' (cBls fun bs => bs.any id) (tCons' (tLc' false (tIt' (tVar' 0)) (gName' 1) tYes' (tOrV' (tCB' cIsi (tCons' (tVar' 1) (tCons' (tC' (.con (.ty "bool"))) tNil'))) (tNotV' (tCB' cIsi (tCons' (tVar' 1) (tCons' (tC' (.con (.ty "int"))) tNil'))))) [1]) tNil'))) (tRet' (tC' (.bl false))) tNext')
    (tRet' (tAndV' (tOp' (oI0 fun i j => .bl (decide (j < i))) (tOp' oIx (tVar' 0) (tC' (.int 1))) (tC' (.int 0))) (tOp' (oEq false) (tCB' (cI2 fun i j => .int ((Nat.gcd i.natAbs j.natAbs : Nat) : Int)) (tCons' (tOp' oIx (tVar' 0) (tC' (.int 0))) (tCons' (tOp' oIx (tVar' 0) (tC' (.int 1))) tNil'))) (tC' (.int 1)))))))

def r_is_duration : TS' := (tRet' (tAndV' (tCall' sp_is_fraction (tCons' (tVar' 0) tNil')) (tAndV' (tChain' (oI0 fun i j => .bl (decide (i < j))) (oI0 fun i j => .bl (decide (i ≤ j))) (tC' (.int 0)) (tOp' oIx (tVar' 0) (tC' (.int 0))) (tC' (.int 1000))) (tOp' (oI0 fun i j => .bl (decide (i ≤ j))) (tOp' oIx (tVar' 0) (tC' (.int 1))) (tC' (.int 1000))))))

def r_read_entry : TS' := (tSeq' (tIfS' (tB' (tOp' (oEq false) (tVar' 0) (tC' (.str "-")))) (tRet' (tC' .non)) tNext')
    (tSeq' (tIfS' (tTru' (tBM' "str" mStarts (tVar' 0) (tCons' (tC' (.str "~")) tNil'))) (tRet' (tTup' (tCons' (tCall' sp_read_tone (tCons' (tSl' (oSl false) (tVar' 0) (tPart' (tC' (.int 1))) tNoPart') tNil')) (tCons' (tC' (.bl false)) tNil')))) tNext')
    (tRet' (tTup' (tCons' (tCall' sp_read_tone (tCons' (tVar' 0) tNil')) (tCons' (tC' (.bl true)) tNil'))))))

def r_read_duration_of : TS' := (tSeq' (tAsg' (tBM' "str" (mSplit false) (tVar' 0) (tCons' (tC' (.str "/")) tNil')) (gName' 1))
    (tSeq' (tIfS' (tB' (tOp' (oI0 fun i j => .bl (decide (j < i))) (tCB' cLen (tCons' (tVar' 1) tNil')) (tC' (.int 2)))) (tRet' (tC' .non)) tNext')
    (tSeq' (tAsg' (tLc' false (tIt' (tVar' 1)) (gName' 4) tYes' (tCall' sp_whole (tCons' (tVar' 4) tNil')) [4]) (gName' 2))
    (tSeq' (tIfS' (tB' (tOp' (oInT false) (tC' .non) (tVar' 2))) (tRet' (tC' .non)) tNext')
    (tSeq' (tIfS' (tAnd' (tB' (tOp' (oEq false) (tCB' cLen (tCons' (tVar' 2) tNil')) (tC' (.int 2)))) (tB' (tOp' (oI0 fun i j => .bl (decide (i < j))) (tOp' oIx (tVar' 2) (tC' (.int 1))) (tC' (.int 2))))) (tRet' (tC' .non)) tNext')
    (tSeq' (tAsg' (tTup' (tCons' (tOp' oIx (tVar' 2) (tC' (.int 0))) (tCons' (tIf' (tB' (tOp' (oEq false) (tCB' cLen (tCons' (tVar' 2) tNil')) (tC' (.int 2)))) (tOp' oIx (tVar' 2) (tC' (.int 1))) (tC' (.int 1))) tNil'))) (gName' 3))
    (tRet' (tIf' (tAnd' (tTru' (tCall' sp_is_fraction (tCons' (tVar' 3) tNil'))) (tB' (tOp' (oI0 fun i j => .bl (decide (j < i))) (tOp' oIx (tVar' 3) (tC' (.int 0))) (tC' (.int 0))))) (tVar' 3) (tC' .non)))))))))

def r_read_duration : TS' := (tSeq' (tAsg' (tCall' sp_read_duration_of (tCons' (tVar' 0) tNil')) (gName' 1))
    (tRet' (tIf' (tAnd' (tB' (tOp' (oIsN' true) (tVar' 1) (tC' .non))) (tTru' (tCall' sp_is_duration (tCons' (tVar' 1) tNil')))) (tVar' 1) (tC' .non))))

def r_read_column (CO : COf) : TS' := (tSeq' (tIfS' (tNot' (tB' (tChain' (oI0 fun i j => .bl (decide (i ≤ j))) (oI0 fun i j => .bl (decide (i ≤ j))) (tC' (.int 2)) (tCB' cLen (tCons' (tVar' 0) tNil')) (tC' (.int 5))))) (tRet' (tC' .non)) tNext')
    (tSeq' (tAsg' (tBM' "str" (mSplit false) (tOp' oIx (tVar' 0) (tC' (.int 0))) (tCons' (tC' (.str "!")) tNil')) (gName' 1))
    (tSeq' (tAsg' (tCall' sp_read_duration (tCons' (tOp' oIx (tVar' 1) (tC' (.int 0))) tNil')) (gName' 2))
    (tSeq' (tAsg' (tC' (.int 0)) (gName' 3))
    (tSeq' (tIfS' (tAnd' (tB' (tOp' (oEq false) (tCB' cLen (tCons' (tVar' 1) tNil')) (tC' (.int 2)))) (tAnd' (tB' (tOp' (oEq false) (tCB' cLen (tCons' (tOp' oIx (tVar' 1) (tC' (.int 1))) tNil')) (tC' (.int 1)))) (tB' (tOp' (oInS false) (tOp' oIx (tVar' 1) (tC' (.int 1))) (tC' (.str "123456789")))))) (tAsg' (tCB' cInt (tCons' (tOp' oIx (tVar' 1) (tC' (.int 1))) tNil')) (gName' 3)) (tIfS' (tB' (tOp' (oI0 fun i j => .bl (decide (j < i))) (tCB' cLen (tCons' (tVar' 1) tNil')) (tC' (.int 1)))) (tRet' (tC' .non)) tNext'))
    (tSeq' (tIfS' (tB' (tOp' (oIsN' false) (tVar' 2) (tC' .non))) (tRet' (tC' .non)) tNext')
    (tSeq' (tTry' CO xmt (tAsg' (tLcX' false (tIt' (tSl' (oSl false) (tVar' 0) (tPart' (tC' (.int 1))) tNoPart')) (gName' 5) tYes' (tCall' sp_read_entry (tCons' (tVar' 5) tNil')) [5]) (gName' 4)) [.one "BadName" (tRet' (tC' .non))])
    (tRet' (tTup' (tCons' (tVar' 2) (tCons' (tVar' 3) (tCons' (tCB' cTuple (tCons' (tVar' 4) tNil')) tNil'))))))))))))

def r_read_bar : TS' := (tSeq' (tAsg' (tLst' true tNil') (gName' 1))
    (tSeq' (tAsg' (tC' (.int 0)) (gName' 2))
    (tSeq' (tFor' (tIt' (tBM' "str" (mSplit false) (tVar' 0) (tCons' (tC' (.str "|")) tNil'))) (gName' 3) (tSeq' (tAsg' (tLc' false (tIt' (tBM' "str" (mSplit false) (tVar' 3) (tCons' (tC' (.str " ")) tNil'))) (gName' 7) (tTru' (tVar' 7)) (tVar' 7) [7]) (gName' 4))
    (tSeq' (tAsg' (tOp' oSub (tOp' (oAdd false) (tVar' 2) (tCB' cLen (tCons' (tVar' 3) tNil'))) (tCB' cLen (tCons' (tBM' "str" mLstrip (tVar' 3) (tCons' (tC' (.str " ")) tNil')) tNil'))) (gName' 5))
    (tSeq' (tAsg' (tCall' sp_read_column (tCons' (tVar' 4) tNil')) (gName' 6))
    (tSeq' (tIfS' (tOr' (tB' (tOp' (oIsN' false) (tVar' 6) (tC' .non))) (tAnd' (tTru' (tVar' 1)) (tB' (tOp' (oEq true) (tCB' cLen (tCons' (tOp' oIx (tVar' 6) (tC' (.int 2))) tNil')) (tCB' cLen (tCons' (tOp' oIx (tOp' oIx (tVar' 1) (tC' (.int 0))) (tC' (.int 2))) tNil')))))) (tRaise' (tMkI' "BadText" ["position"] (tCons' (tVar' 5) tNil'))) tNext')
    (tSeq' (tDrop' (tBM' "list" mAppend (tVar' 1) (tCons' (tVar' 6) tNil')))
    (tAsg' (tOp' (oAdd false) (tOp' (oAdd false) (tVar' 2) (tCB' cLen (tCons' (tVar' 3) tNil'))) (tC' (.int 1))) (gName' 2))))))))
    (tSeq' (tIfS' (tB' (tOp' (oI0 fun i j => .bl (decide (j < i))) (tCB' cLen (tCons' (tVar' 1) tNil')) (tC' (.int 64)))) (tRaise' (tMkI' "BadColumn" ["number", "reason"] (tCons' (tC' .non) (tCons' (tC' (.str "count")) tNil')))) tNext')
    (tRet' (tCB' cTuple (tCons' (tVar' 1) tNil')))))))

def r__law_letter : TS' := (tSeq' (tFor' (tRng1' (tCons' (tC' (.int 7)) tNil')) (gName' 1) (tSeq' (tAsg' (tOp' oSub (tVar' 0) (tOp' oIx (tLst' false (tCons' (tC' (.int 0)) (tCons' (tC' (.int 2)) (tCons' (tC' (.int 4)) (tCons' (tUn' oNeg (tC' (.int 1))) (tCons' (tC' (.int 1)) (tCons' (tC' (.int 3)) (tCons' (tC' (.int 5)) tNil')))))))) (tVar' 1))) (gName' 2))
    (tIfS' (tB' (tOp' (oEq false) (tOp' oMod (tCB' cInt (tCons' (tVar' 2) tNil')) (tC' (.int 7))) (tC' (.int 0)))) (tRet' (tTup' (tCons' (tVar' 1) (tCons' (tCB' cInt (tCons' (tOp' oFdiv (tVar' 2) (tC' (.int 7))) tNil')) tNil')))) tNext')))
    (tRet' (tTup' (tCons' (tC' (.int 0)) (tCons' (tC' (.int 0)) tNil')))))

def r__law_tone_text : TS' := (tSeq' (tAsg' (tCall' sp__law_letter (tCons' (tOp' oIx (tVar' 0) (tC' (.int 0))) tNil')) (gTup' 2 [(gName' 2), (gName' 3)]))
    (tSeq' (tAsg' (tIf' (tB' (tOp' (oI0 fun i j => .bl (decide (j < i))) (tVar' 3) (tC' (.int 0)))) (tOp' (oMul false) (tC' (.str "#")) (tVar' 3)) (tOp' (oMul false) (tC' (.str "b")) (tUn' oNeg (tVar' 3)))) (gName' 1))
    (tRet' (tOp' (oAdd false) (tOp' (oAdd false) (tOp' oIx (tC' (.str "CDEFGAB")) (tVar' 2)) (tVar' 1)) (tCB' cStr (tCons' (tCB' cInt (tCons' (tOp' oFdiv (tOp' oSub (tOp' (oAdd false) (tOp' (oMul false) (tC' (.int 4)) (tOp' oIx (tVar' 0) (tC' (.int 0)))) (tOp' (oMul false) (tC' (.int 7)) (tOp' oIx (tVar' 0) (tC' (.int 1))))) (tVar' 2)) (tC' (.int 7))) tNil')) tNil'))))))

def r__law_cell_words : TS' := (tSeq' (tAsg' (tIf' (tB' (tOp' (oEq false) (tOp' oIx (tOp' oIx (tVar' 0) (tC' (.int 0))) (tC' (.int 1))) (tC' (.int 1)))) (tCB' cStr (tCons' (tOp' oIx (tOp' oIx (tVar' 0) (tC' (.int 0))) (tC' (.int 0))) tNil')) (tOp' (oAdd false) (tOp' (oAdd false) (tCB' cStr (tCons' (tOp' oIx (tOp' oIx (tVar' 0) (tC' (.int 0))) (tC' (.int 0))) tNil')) (tC' (.str "/"))) (tCB' cStr (tCons' (tOp' oIx (tOp' oIx (tVar' 0) (tC' (.int 0))) (tC' (.int 1))) tNil')))) (gName' 1))
    (tSeq' (tAsg' (tLst' true (tCons' (tOp' (oAdd false) (tVar' 1) (tIf' (tB' (tOp' (oI0 fun i j => .bl (decide (j < i))) (tOp' oIx (tVar' 0) (tC' (.int 1))) (tC' (.int 0)))) (tOp' (oAdd false) (tC' (.str "!")) (tCB' cStr (tCons' (tOp' oIx (tVar' 0) (tC' (.int 1))) tNil'))) (tC' (.str "")))) tNil')) (gName' 2))
    (tSeq' (tFor' (tIt' (tOp' oIx (tVar' 0) (tC' (.int 2)))) (gName' 3) (tIfS' (tB' (tOp' (oIsN' false) (tVar' 3) (tC' .non))) (tDrop' (tBM' "list" mAppend (tVar' 2) (tCons' (tC' (.str "-")) tNil'))) (tDrop' (tBM' "list" mAppend (tVar' 2) (tCons' (tOp' (oAdd false) (tIf' (tTru' (tOp' oIx (tVar' 3) (tC' (.int 1)))) (tC' (.str "")) (tC' (.str "~"))) (tCall' sp__law_tone_text (tCons' (tOp' oIx (tVar' 3) (tC' (.int 0))) tNil'))) tNil')))))
    (tRet' (tVar' 2)))))

def r__law_pad : TS' := (tRet' (tOp' (oMul false) (tC' (.str " ")) (tCall' sp__law_pick (tCons' (tVar' 0) (tCons' (tLst' false (tCons' (tC' (.int 0)) (tCons' (tC' (.int 1)) (tCons' (tC' (.int 1)) (tCons' (tC' (.int 2)) (tCons' (tC' (.int 5)) tNil')))))) tNil')))))

def r__law_spaced : TS' := (tSeq' (tAsg' (tC' (.str "")) (gName' 2))
    (tSeq' (tFor' (tRng1' (tCons' (tCB' cLen (tCons' (tVar' 1) tNil')) tNil')) (gName' 3) (tSeq' (tAsg' (tCall' sp__law_cell_words (tCons' (tOp' oIx (tVar' 1) (tVar' 3)) tNil')) (gName' 4))
    (tSeq' (tAsg' (tOp' (oAdd false) (tOp' (oAdd false) (tVar' 2) (tIf' (tB' (tOp' (oI0 fun i j => .bl (decide (j < i))) (tVar' 3) (tC' (.int 0)))) (tC' (.str "|")) (tC' (.str "")))) (tCall' sp__law_pad (tCons' (tVar' 0) tNil'))) (gName' 2))
    (tSeq' (tFor' (tRng1' (tCons' (tCB' cLen (tCons' (tVar' 4) tNil')) tNil')) (gName' 5) (tAsg' (tOp' (oAdd false) (tOp' (oAdd false) (tVar' 2) (tIf' (tB' (tOp' (oI0 fun i j => .bl (decide (j < i))) (tVar' 5) (tC' (.int 0)))) (tOp' (oAdd false) (tC' (.str " ")) (tCall' sp__law_pad (tCons' (tVar' 0) tNil'))) (tC' (.str "")))) (tOp' oIx (tVar' 4) (tVar' 5))) (gName' 2)))
    (tAsg' (tOp' (oAdd false) (tVar' 2) (tCall' sp__law_pad (tCons' (tVar' 0) tNil'))) (gName' 2))))))
    (tRet' (tVar' 2))))

def r__law_far_bar : TS' := (tSeq' (tIfS' (tB' (tOp' (oI0 fun i j => .bl (decide (j < i))) (tCall' sp__law_take (tCons' (tVar' 0) (tCons' (tC' (.int 3)) tNil'))) (tC' (.int 0)))) (tRet' (tCall' sp__law_bar (tCons' (tVar' 0) (tCons' (tVar' 1) (tCons' (tC' (.int 9)) tNil'))))) tNext')
    (tSeq' (tAsg' (tLc' false (tRng1' (tCons' (tC' (.int 5)) tNil')) (gName' 4) tYes' (tCall' sp__law_far_pair (tCons' (tVar' 0) tNil')) [4]) (gName' 2))
    (tSeq' (tAsg' (tTup' tNil') (gName' 3))
    (tSeq' (tFor' (tRng1' (tCons' (tCall' sp__law_pick (tCons' (tVar' 0) (tCons' (tLst' false (tCons' (tC' (.int 1)) (tCons' (tC' (.int 2)) (tCons' (tC' (.int 5)) (tCons' (tC' (.int 63)) (tCons' (tC' (.int 64)) tNil')))))) tNil'))) tNil')) (gName' 4) (tAsg' (tOp' (oAdd false) (tVar' 3) (tTup' (tCons' (tCall' sp__law_column (tCons' (tVar' 0) (tCons' (tVar' 1) (tCons' (tIf' (tTru' (tVar' 3)) (tOp' oIx (tVar' 3) (tUn' oNeg (tC' (.int 1)))) (tC' .non)) (tCons' (tVar' 2) tNil'))))) tNil'))) (gName' 3)))
    (tRet' (tVar' 3))))))

def r__law_wrong_text : TS' := (tSeq' (tAsg' (tCB' cLen (tCons' (tOp' oIx (tVar' 1) (tC' (.int 2))) tNil')) (gName' 2))
    (tSeq' (tAsg' (tCall' sp__law_cell_words (tCons' (tVar' 1) tNil')) (gName' 3))
    (tSeq' (tAsg' (tLst' false (tCons' (tC' (.str "0")) (tCons' (tC' (.str "0/4")) (tCons' (tC' (.str "1/0")) (tCons' (tC' (.str "2/4")) (tCons' (tC' (.str "1/1")) (tCons' (tC' (.str "3/1")) (tCons' (tC' (.str "01")) (tCons' (tC' (.str "1/04")) (tCons' (tC' (.str "-1")) (tCons' (tC' (.str "-1/4")) (tCons' (tC' (.str "+1")) (tCons' (tC' (.str "1//4")) (tCons' (tC' (.str "1/4/2")) (tCons' (tC' (.str "/4")) (tCons' (tC' (.str "1/")) (tCons' (tC' (.str "1!")) (tCons' (tC' (.str "1!0")) (tCons' (tC' (.str "1!10")) (tCons' (tC' (.str "1!01")) tNil')))))))))))))))))))) (gName' 4))
    (tSeq' (tAsg' (tOp' (oAdd false) (tVar' 4) (tLst' false (tCons' (tC' (.str "1!1!2")) (tCons' (tC' (.str "1!x")) (tCons' (tC' (.str "!1")) (tCons' (tC' (.str "1001")) (tCons' (tC' (.str "1/1001")) (tCons' (tC' (.str "1000001")) (tCons' (tC' (.str "1.5")) (tCons' (tC' (.str "C4")) (tCons' (tC' (.str "~1")) (tCons' (tC' (.str "-")) (tCons' (tC' (.str "1/4!-1")) (tCons' (tC' (.str "1,4")) (tCons' (tC' (.str "1! 1")) (tCons' (tC' (.str "1/4\t")) (tCons' (tC' (.str "\t1/4")) (tCons' (tC' (.str "\n1/4")) (tCons' (tC' (.str "1/4\n")) tNil'))))))))))))))))))) (gName' 4))
    (tSeq' (tAsg' (tLst' false (tCons' (tC' (.str "")) (tCons' (tC' (.str "~")) (tCons' (tC' (.str "~-")) (tCons' (tC' (.str "--")) (tCons' (tC' (.str "-~C4")) (tCons' (tC' (.str "~~C4")) (tCons' (tC' (.str "C")) (tCons' (tC' (.str "c4")) (tCons' (tC' (.str "H4")) (tCons' (tC' (.str "C04")) (tCons' (tC' (.str "C-0")) (tCons' (tC' (.str "C#b4")) (tCons' (tC' (.str "4")) (tCons' (tC' (.str "C4!1")) (tCons' (tC' (.str "C4~")) (tCons' (tC' (.str "C4-")) (tCons' (tC' (.str "x")) (tCons' (tC' (.str "C4,")) (tCons' (tC' (.str "C1001")) (tCons' (tC' (.str "C999999")) (tCons' (tC' (.str "C4\t")) (tCons' (tC' (.str "\nC4")) (tCons' (tC' (.str "C\t4")) (tCons' (tC' (.str "-\t-")) tNil'))))))))))))))))))))))))) (gName' 5))
    (tSeq' (tAsg' (tCall' sp__law_take (tCons' (tVar' 0) (tCons' (tC' (.int 6)) tNil'))) (gName' 6))
    (tSeq' (tIfS' (tB' (tOp' (oEq false) (tVar' 6) (tC' (.int 0)))) (tRet' (tBM' "str" mJoin (tC' (.str " ")) (tCons' (tOp' (oAdd false) (tLst' false (tCons' (tCall' sp__law_pick (tCons' (tVar' 0) (tCons' (tVar' 4) tNil'))) tNil')) (tSl' (oSl false) (tVar' 3) (tPart' (tC' (.int 1))) tNoPart')) tNil'))) tNext')
    (tSeq' (tIfS' (tB' (tOp' (oEq false) (tVar' 6) (tC' (.int 1)))) (tSeq' (tAsg' (tOp' (oAdd false) (tC' (.int 1)) (tCall' sp__law_take (tCons' (tVar' 0) (tCons' (tVar' 2) tNil')))) (gName' 7))
    (tSeq' (tAsg' (tCall' sp__law_pick (tCons' (tVar' 0) (tCons' (tSl' (oSl false) (tVar' 5) (tPart' (tC' (.int 1))) tNoPart') tNil'))) (gSub' (tVar' 3) (tVar' 7) oSetL))
    (tRet' (tBM' "str" mJoin (tC' (.str " ")) (tCons' (tVar' 3) tNil'))))) tNext')
    (tSeq' (tIfS' (tB' (tOp' (oEq false) (tVar' 6) (tC' (.int 2)))) (tRet' (tC' (.str ""))) tNext')
    (tSeq' (tIfS' (tB' (tOp' (oEq false) (tVar' 6) (tC' (.int 3)))) (tRet' (tCall' sp__law_pick (tCons' (tVar' 0) (tCons' (tLst' false (tCons' (tOp' oIx (tVar' 3) (tC' (.int 0))) (tCons' (tC' (.str "- - -")) (tCons' (tC' (.str "x")) (tCons' (tC' (.str "1/4!3")) (tCons' (tC' (.str "/")) (tCons' (tC' (.str "!")) (tCons' (tC' (.str "~")) tNil')))))))) tNil')))) tNext')
    (tSeq' (tIfS' (tB' (tOp' (oEq false) (tVar' 6) (tC' (.int 4)))) (tRet' (tBM' "str" mJoin (tC' (.str " ")) (tCons' (tOp' (oAdd false) (tVar' 3) (tOp' (oMul false) (tLst' false (tCons' (tC' (.str "-")) tNil')) (tCall' sp__law_pick (tCons' (tVar' 0) (tCons' (tLst' false (tCons' (tOp' oSub (tC' (.int 5)) (tVar' 2)) (tCons' (tOp' oSub (tC' (.int 6)) (tVar' 2)) tNil'))) tNil'))))) tNil'))) tNext')
    (tRet' (tBM' "str" mJoin (tC' (.str " ")) (tCons' (tSl' (oSl false) (tVar' 3) (tPart' (tC' (.int 1))) tNoPart') tNil'))))))))))))))

def r__law_cells : TS' := (tSeq' (tAsg' (tLc' true (tIt' (tVar' 1)) (gName' 5) tYes' (tTup' (tCons' (tBM' "str" mJoin (tC' (.str " ")) (tCons' (tCall' sp__law_cell_words (tCons' (tVar' 5) tNil')) tNil')) (tCons' (tC' (.bl true)) tNil'))) [5]) (gName' 2))
    (tSeq' (tFor' (tRng1' (tCons' (tOp' (oAdd false) (tC' (.int 1)) (tCall' sp__law_take (tCons' (tVar' 0) (tCons' (tC' (.int 3)) tNil')))) tNil')) (gName' 3) (tSeq' (tAsg' (tCall' sp__law_pick (tCons' (tVar' 0) (tCons' (tLst' false (tCons' (tCall' sp__law_take (tCons' (tVar' 0) (tCons' (tCB' cLen (tCons' (tVar' 1) tNil')) tNil'))) (tCons' (tOp' oSub (tCB' cLen (tCons' (tVar' 1) tNil')) (tC' (.int 1))) (tCons' (tC' (.int 0)) tNil')))) tNil'))) (gName' 4))
    (tIfS' (tAnd' (tB' (tOp' (oI0 fun i j => .bl (decide (j < i))) (tVar' 4) (tC' (.int 0)))) (tB' (tOp' (oEq false) (tCall' sp__law_take (tCons' (tVar' 0) (tCons' (tC' (.int 4)) tNil'))) (tC' (.int 0))))) (tSeq' (tAsg' (tOp' (oAdd false) (tC' (.int 1)) (tOp' oMod (tCB' cInt (tCons' (tOp' (oAdd false) (tCB' cLen (tCons' (tOp' oIx (tOp' oIx (tVar' 1) (tC' (.int 0))) (tC' (.int 2))) tNil')) (tCall' sp__law_take (tCons' (tVar' 0) (tCons' (tC' (.int 3)) tNil')))) tNil')) (tC' (.int 4)))) (gName' 6))
    (tAsg' (tTup' (tCons' (tBM' "str" mJoin (tC' (.str " ")) (tCons' (tOp' (oAdd false) (tLst' false (tCons' (tOp' oIx (tCall' sp__law_cell_words (tCons' (tOp' oIx (tVar' 1) (tVar' 4)) tNil')) (tC' (.int 0))) tNil')) (tOp' (oMul false) (tLst' false (tCons' (tC' (.str "-")) tNil')) (tVar' 6))) tNil')) (tCons' (tC' (.bl false)) tNil'))) (gSub' (tVar' 2) (tVar' 4) oSetL))) (tAsg' (tTup' (tCons' (tCall' sp__law_wrong_text (tCons' (tVar' 0) (tCons' (tOp' oIx (tVar' 1) (tVar' 4)) tNil'))) (tCons' (tC' (.bl false)) tNil'))) (gSub' (tVar' 2) (tVar' 4) oSetL)))))
    (tRet' (tFrz (tVar' 2)))))

def r__law_laid : TS' := (tSeq' (tAsg' (tC' (.str "")) (gName' 2))
    (tSeq' (tAsg' (tC' .non) (gName' 3))
    (tSeq' (tFor' (tRng1' (tCons' (tCB' cLen (tCons' (tVar' 1) tNil')) tNil')) (gName' 4) (tSeq' (tAsg' (tOp' (oAdd false) (tOp' (oAdd false) (tVar' 2) (tIf' (tB' (tOp' (oI0 fun i j => .bl (decide (j < i))) (tVar' 4) (tC' (.int 0)))) (tC' (.str "|")) (tC' (.str "")))) (tCall' sp__law_pad (tCons' (tVar' 0) tNil'))) (gName' 2))
    (tSeq' (tAsg' (tCB' cLen (tCons' (tVar' 2) tNil')) (gName' 5))
    (tSeq' (tAsg' (tOp' (oAdd false) (tOp' (oAdd false) (tVar' 2) (tOp' oIx (tOp' oIx (tVar' 1) (tVar' 4)) (tC' (.int 0)))) (tCall' sp__law_pad (tCons' (tVar' 0) tNil'))) (gName' 2))
    (tIfS' (tAnd' (tB' (tOp' (oIsN' false) (tVar' 3) (tC' .non))) (tNot' (tTru' (tOp' oIx (tOp' oIx (tVar' 1) (tVar' 4)) (tC' (.int 1)))))) (tAsg' (tIf' (tB' (tOp' (oEq true) (tOp' oIx (tOp' oIx (tVar' 1) (tVar' 4)) (tC' (.int 0))) (tC' (.str "")))) (tVar' 5) (tCB' cLen (tCons' (tVar' 2) tNil'))) (gName' 3)) tNext')))))
    (tRet' (tTup' (tCons' (tVar' 2) (tCons' (tVar' 3) tNil')))))))

def r__law_told (CO : COf) : TS' := (tSeq' (tTry' CO xmt (tAsg' (tCall' sp_read_bar (tCons' (tVar' 0) tNil')) (gName' 1)) [.two "BadName" "BadKey" (tRet' (tTup' (tCons' (tC' (.str "another")) tNil'))), .as_ "BadText" 2 (fun xc a cls d => (tRet' (tTup' (tCons' (tC' (.str "text")) (tCons' (tXf' xxt xc a cls d "position" (tVar' 2)) (tCons' (tIsE' xit xc a cls d "ScoreError" (tVar' 2)) (tCons' (tIsE' xit xc a cls d "ValueError" (tVar' 2)) (tCons' (tIsE' xit xc a cls d "BadColumn" (tVar' 2)) tNil')))))))), .as_ "BadColumn" 2 (fun xc a cls d => (tRet' (tTup' (tCons' (tC' (.str "count")) (tCons' (tXf' xxt xc a cls d "number" (tVar' 2)) (tCons' (tXf' xxt xc a cls d "reason" (tVar' 2)) (tCons' (tIsE' xit xc a cls d "ScoreError" (tVar' 2)) (tCons' (tIsE' xit xc a cls d "ValueError" (tVar' 2)) tNil'))))))))])
    (tRet' (tTup' (tCons' (tC' (.str "told")) (tCons' (tVar' 1) tNil')))))

def r_law : TS' := (tSeq' (tAsg' (tCall' sp__law_pool (tCons' (tVar' 0) tNil')) (gName' 1))
    (tSeq' (tFor' (tRng1' (tCons' (tC' (.int 4)) tNil')) (gName' 2) (tSeq' (tAsg' (tCall' sp__law_far_bar (tCons' (tVar' 1) (tCons' (tOp' (oAdd false) (tC' (.int 1)) (tCall' sp__law_take (tCons' (tVar' 1) (tCons' (tC' (.int 4)) tNil')))) tNil'))) (gName' 3))
    (tSeq' (tAsg' (tCall' sp__law_laid (tCons' (tVar' 1) (tCons' (tCall' sp__law_cells (tCons' (tVar' 1) (tCons' (tVar' 3) tNil'))) tNil'))) (gTup' 2 [(gName' 7), (gName' 8)]))
    (tSeq' (tIfS' (tNot' (tTru' (tCall' sp__law_same (tCons' (tCall' sp__law_told (tCons' (tVar' 7) tNil')) (tCons' (tTup' (tCons' (tC' (.str "text")) (tCons' (tVar' 8) (tCons' (tC' (.bl true)) (tCons' (tC' (.bl true)) (tCons' (tC' (.bl false)) tNil')))))) tNil'))))) (tRet' (tC' (.bl false))) tNext')
    (tSeq' (tIfS' (tNot' (tTru' (tCall' sp__law_same (tCons' (tCall' sp__law_told (tCons' (tCall' sp__law_spaced (tCons' (tVar' 1) (tCons' (tVar' 3) tNil'))) tNil')) (tCons' (tTup' (tCons' (tC' (.str "told")) (tCons' (tVar' 3) tNil'))) tNil'))))) (tRet' (tC' (.bl false))) tNext')
    (tSeq' (tAsg' (tCall' sp__law_pick (tCons' (tVar' 1) (tCons' (tLst' false (tCons' (tC' (.int 65)) (tCons' (tC' (.int 66)) (tCons' (tOp' (oAdd false) (tC' (.int 64)) (tCB' cLen (tCons' (tVar' 3) tNil'))) tNil')))) tNil'))) (gName' 4))
    (tSeq' (tAsg' (tSl' (oSl false) (tOp' oMulT (tVar' 3) (tC' (.int 65))) tNoPart' (tPart' (tVar' 4))) (gName' 5))
    (tSeq' (tIfS' (tNot' (tTru' (tCall' sp__law_same (tCons' (tCall' sp__law_told (tCons' (tCall' sp__law_spaced (tCons' (tVar' 1) (tCons' (tVar' 5) tNil'))) tNil')) (tCons' (tTup' (tCons' (tC' (.str "count")) (tCons' (tC' .non) (tCons' (tC' (.str "count")) (tCons' (tC' (.bl true)) (tCons' (tC' (.bl true)) tNil')))))) tNil'))))) (tRet' (tC' (.bl false))) tNext')
    (tSeq' (tAsg' (tLc' true (tIt' (tVar' 5)) (gName' 9) tYes' (tTup' (tCons' (tBM' "str" mJoin (tC' (.str " ")) (tCons' (tCall' sp__law_cell_words (tCons' (tVar' 9) tNil')) tNil')) (tCons' (tC' (.bl true)) tNil'))) [9]) (gName' 6))
    (tSeq' (tAsg' (tTup' (tCons' (tCall' sp__law_wrong_text (tCons' (tVar' 1) (tCons' (tOp' oIx (tVar' 5) (tUn' oNeg (tC' (.int 1)))) tNil'))) (tCons' (tC' (.bl false)) tNil'))) (gSub' (tVar' 6) (tUn' oNeg (tC' (.int 1))) oSetL))
    (tSeq' (tAsg' (tCall' sp__law_laid (tCons' (tVar' 1) (tCons' (tVar' 6) tNil'))) (gTup' 2 [(gName' 7), (gName' 8)]))
    (tIfS' (tNot' (tTru' (tCall' sp__law_same (tCons' (tCall' sp__law_told (tCons' (tVar' 7) tNil')) (tCons' (tTup' (tCons' (tC' (.str "text")) (tCons' (tVar' 8) (tCons' (tC' (.bl true)) (tCons' (tC' (.bl true)) (tCons' (tC' (.bl false)) tNil')))))) tNil'))))) (tRet' (tC' (.bl false))) tNext'))))))))))))
    (tRet' (tC' (.bl true)))))

end K12
namespace K12
open MD L2 PySem Kit K03
theorem hz : (sizeLine : Nat) = 16777216 := by decide
theorem same_pop {M : MH} {Q : QE} {r : D} (q : Q r M) : Q r (popM M.length r M) := by rw [popM_same (Nat.le_refl _)]; exact q
theorem if_gen {c : TT'} {B N : TS'} {D : Ends'} {δ : EnvD} {M : MH} (h : ∀ B', B' = B → tIfS' c B' N D δ M) : tIfS' c B N D δ M := h B rfl
theorem durOf_ok {l : Sg} {a b : Int} (h : durOf l = some (a, b)) : 0 < b ∧ Int.gcd a b = 1 ∧ 0 < a := by
  unfold durOf at h
  split at h
  · split at h
    · split at h
      · cases h
        rename_i hn
        exact ⟨by decide, by simp, hn⟩
      · cases h
    · cases h
  · split at h
    · split at h
      · rename_i hn
        cases h
        exact ⟨by omega, hn.2.1, hn.2.2⟩
      · cases h
    · cases h
  · cases h
theorem math_is_fraction (ds M Q E) (hM : WFM M) (hb : D.belL M.length ds = true) (h : sp_is_fraction ds M Q E) : r_is_fraction (retE M.length Q E) (startD N_is_fraction ds) M := by
  obtain ⟨a, b, rfl, q⟩ := h
  unfold r_is_fraction
  refine seq_step fun S hS => ?_
  simp [startD, tyStr, subTy]
  refine ⟨by rw [hz]; decide, ?_⟩
  subst hS
  refine seq_step fun S hS => ?_
  simp
  refine lcL_map (fun _ => .bl false) (by exact trivial) _ [] (fun d hd Q' q' => ?_) (by rw [hz]; simp) ?_
  · simp only [List.mem_cons, List.not_mem_nil, or_false] at hd
    rcases hd with rfl | rfl <;> (simp [wipeD, tyStr, subTy]; exact q')
  · rw [List.nil_append]
    refine ⟨[false, false], rfl, ?_⟩
    rw [if_neg (by simp)]
    subst hS
    simp
    simp only [popM_same (Nat.le_refl M.length)]
    by_cases h1 : 0 < b
    · rw [if_pos h1]
      refine ⟨_, _, ⟨rfl, rfl⟩, ?_⟩
      rw [show decide (((a.natAbs.gcd b.natAbs : Nat) : Int) = 1) = decide (0 < b ∧ a.gcd b = 1) from decide_eq_decide.mpr ⟨fun z => ⟨h1, by have : a.gcd b = a.natAbs.gcd b.natAbs := rfl; omega⟩, fun z => by have : a.gcd b = a.natAbs.gcd b.natAbs := rfl; omega⟩]
      exact q
    · rw [if_neg h1]
      rw [decide_eq_false (fun z => h1 z.1)] at q
      exact q
theorem math_is_duration (ds M Q E) (hM : WFM M) (hb : D.belL M.length ds = true) (h : sp_is_duration ds M Q E) : r_is_duration (retE M.length Q E) (startD N_is_duration ds) M := by
  obtain ⟨a, b, rfl, q⟩ := h
  unfold r_is_duration
  simp [startD]
  refine ⟨a, b, rfl, ?_⟩
  simp
  simp only [popM_same (Nat.le_refl M.length)]
  by_cases h1 : 0 < b ∧ a.gcd b = 1
  · rw [if_pos h1]
    by_cases h2 : 0 < a
    · rw [if_pos h2]
      by_cases h3 : a ≤ 1000
      · rw [if_pos h3]
        rw [show decide ((0 < b ∧ a.gcd b = 1) ∧ (0 < a ∧ a ≤ 1000) ∧ b ≤ 1000) = decide (b ≤ 1000) from decide_eq_decide.mpr ⟨fun z => z.2.2, fun z => ⟨h1, ⟨h2, h3⟩, z⟩⟩] at q
        exact q
      · rw [if_neg h3]
        rw [decide_eq_false (fun z => h3 z.2.1.2)] at q
        exact q
    · rw [if_neg h2]
      rw [decide_eq_false (fun z => h2 z.2.1.1)] at q
      exact q
  · rw [if_neg h1]
    rw [decide_eq_false (fun z => h1 z.1)] at q
    exact q
theorem math_read_duration (ds M Q E) (hM : WFM M) (hb : D.belL M.length ds = true) (h : sp_read_duration ds M Q E) : r_read_duration (retE M.length Q E) (startD N_read_duration ds) M := by
  obtain ⟨x, rfl, hx, q⟩ := h
  unfold r_read_duration
  refine seq_step fun S hS => ?_
  simp [startD]
  refine ⟨x, rfl, hx, ?_⟩
  show S _ _ _
  subst hS
  unfold durP at q
  cases hd : durOf (tl x) with
  | none =>
    rw [hd] at q
    simp [optR]
    exact same_pop q
  | some p =>
    rw [hd] at q
    obtain ⟨a, b⟩ := p
    have q : Q (optR (if a ≤ 1000 ∧ b ≤ 1000 then some (a, b) else none)) M := q
    have hf : 0 < b ∧ Int.gcd a b = 1 ∧ 0 < a := durOf_ok hd
    simp [optR, MD.prD]
    refine ⟨a, b, rfl, ?_⟩
    simp
    simp only [popM_same (Nat.le_refl M.length)]
    by_cases hc : a ≤ 1000 ∧ b ≤ 1000
    · rw [if_pos hc] at q
      rw [if_pos ⟨⟨hf.1, hf.2.1⟩, ⟨hf.2.2, hc.1⟩, hc.2⟩]
      exact q
    · rw [if_neg hc] at q
      rw [if_neg (fun z => hc ⟨z.2.1.2, z.2.2⟩)]
      exact q
theorem math_read_entry (ds M Q E) (hM : WFM M) (hb : D.belL M.length ds = true) (h : sp_read_entry ds M Q E) : r_read_entry (retE M.length Q E) (startD N_read_entry ds) M := by
  obtain ⟨x, rfl, hx, q⟩ := h
  unfold r_read_entry
  refine seq_step fun S hS => ?_
  simp [startD]
  have e45 : (x = Str.ofString "-") ↔ tl x = [45] := ⟨fun h => by rw [h]; rfl, fun h => TL.ext_tl h⟩
  unfold entP at q
  by_cases h1 : tl x = [45]
  · rw [if_pos (e45.mpr h1)]
    rw [if_pos h1] at q
    exact same_pop q
  rw [if_neg (fun z => h1 (e45.mp z))]
  rw [if_neg h1] at q
  subst hS
  refine seq_step fun S hS => ?_
  simp
  have e126 : Txt.startswith x (Str.ofString "~") = decide ((tl x).head? = some 126) := by
    have e : (Str.ofString "~") = ⟨#[126]⟩ := rfl
    rw [e, starts1, Bool.eq_iff_iff]
    simp
  have pm : ∀ (M' : MH) (d : D), M'.length ≤ M.length → popM M.length d M' = M' := fun M' d h => popM_same h
  rw [e126]
  by_cases h2 : (tl x).head? = some 126
  · rw [if_pos (decide_eq_true h2)]
    rw [if_pos h2] at q
    refine ⟨by rw [hz]; omega, ?_⟩
    have ec : cutS x (some 1) none = ⟨(tl x).tail.toArray⟩ := by
      rw [show (some (1 : Int)) = some (((1 : Nat) : Int)) from rfl, cut_from' x 1, List.drop_one]
    rw [ec]
    refine ⟨_, rfl, ?_, ?_⟩
    · show (tl x).tail.toArray.size ≤ 1000
      have : (tl x).length = x.length := (len_cps x).symm
      rw [List.size_toArray, List.length_tail]
      omega
    · show PairOr (readT wholeP (tl x).tail) _ M _ _
      cases hr : readT wholeP (tl x).tail with
      | none =>
        rw [hr] at q
        show E _ (popX _ _ _)
        rw [popX_same (Nat.le_refl _)]
        exact q _
      | some t =>
        rw [hr] at q
        exact ⟨by rw [hz]; decide, same_pop (r := .tup [MD.prD t, .bl false]) q⟩
  · rw [if_neg (by simpa using h2)]
    rw [if_neg h2] at q
    subst hS
    simp
    refine ⟨x, rfl, hx, ?_⟩
    cases hr : readT wholeP x.cps.toList with
    | none =>
      rw [show readT wholeP (tl x) = none from hr] at q
      show E _ (popX _ _ _)
      rw [popX_same (Nat.le_refl _)]
      exact q _
    | some t =>
      rw [show readT wholeP (tl x) = some t from hr] at q
      exact ⟨by rw [hz]; decide, same_pop (r := .tup [MD.prD t, .bl true]) q⟩
end K12
namespace K12
open MD L2 PySem Kit K03
theorem split1 {c : Nat} (hc : c < 256) (x : Str) : Txt.split x ⟨#[c]⟩ = (cuts c (tl x)).map SX.S := split_cuts hc x
theorem cuts_len (c : Nat) : ∀ l, (cuts c l).length ≤ l.length + 1
  | [] => by simp [cuts]
  | x :: r => by
    have ih := cuts_len c r
    unfold cuts
    split
    · simp; omega
    · cases hc : cuts c r with
      | nil => exact absurd hc (cuts_ne c r)
      | cons q qs => rw [hc] at ih; simp at ih ⊢; omega
theorem cuts_mem_len (c : Nat) : ∀ l, ∀ p ∈ cuts c l, p.length ≤ l.length
  | [], p, h => by simp [cuts] at h; rw [h]; simp
  | x :: r, p, h => by
    have ih := cuts_mem_len c r
    unfold cuts at h
    by_cases hx : x = c
    · rw [if_pos hx] at h
      rcases List.mem_cons.mp h with rfl | h
      · simp
      · have := ih p h; simp; omega
    · rw [if_neg hx] at h
      cases hc : cuts c r with
      | nil => exact absurd hc (cuts_ne c r)
      | cons q qs =>
        rw [hc] at h ih
        rcases List.mem_cons.mp h with rfl | h
        · have := ih q List.mem_cons_self; simp; omega
        · have := ih p (List.mem_cons_of_mem _ h); simp; omega
theorem math_read_duration_of (ds M Q E) (hM : WFM M) (hb : D.belL M.length ds = true) (h : sp_read_duration_of ds M Q E) : r_read_duration_of (retE M.length Q E) (startD N_read_duration_of ds) M := by
  obtain ⟨x, rfl, hx, q⟩ := h
  have hl : (tl x).length ≤ 1000 := by rw [← len_cps x]; exact hx
  have ml := cuts_mem_len 47 (tl x)
  have ll := cuts_len 47 (tl x)
  have e47 : Txt.split x (Str.ofString "/") = (cuts 47 (tl x)).map SX.S := split1 (by decide) x
  unfold r_read_duration_of
  refine seq_step fun S hS => ?_
  simp [startD]
  refine ⟨by decide, by rw [hz]; omega, ?_⟩
  rw [e47]
  unfold durOf at q
  have ne := cuts_ne 47 (tl x)
  generalize cuts 47 (tl x) = ps at q ml ne ⊢
  clear e47 ll
  have wl : ∀ p ∈ ps, (SX.S p).length ≤ 1000 := fun p hp => by
    have := ml p hp
    rw [SX.S_len]; omega
  subst hS
  refine seq_step fun S hS => ?_
  have inn : ∀ a b : Option Int, inD .non [optI a, optI b] = (a.isNone || b.isNone) := fun a b => by cases a <;> cases b <;> rfl
  have in1 : ∀ a : Option Int, inD .non [optI a] = a.isNone := fun a => by cases a <;> rfl
  have flo : ∀ a : Option Int, (optI a).fl = true := fun a => by cases a <;> rfl
  match ps, ne with
  | [a], _ =>
    simp
    subst hS
    refine seq_step fun S hS => ?_
    simp
    refine lcL_rel (R := fun d (p : Sg) => d = .str (SX.S p)) (fun p => optI (wholeP p)) (by exact trivial) _ [a] [] ⟨rfl, trivial⟩ (fun d y hy e Q' q' => ?_) (by rw [hz]; simp) ?_
    · subst e
      simp [wipeD]
      exact ⟨_, rfl, wl _ hy, q'⟩
    rw [List.nil_append]
    show S _ _ _
    rw [show List.map (fun p => optI (wholeP p)) [a] = [optI (wholeP a)] from rfl]
    have q : Q (optR (match wholeP a with | some n => if 0 < n then some (n, 1) else none | none => none)) M := q
    generalize wholeP a = va at q ⊢
    subst hS
    refine seq_step fun S hS => ?_
    simp
    refine ⟨rfl, _, .inr rfl, by simp [flo], ?_⟩
    rw [show (if false = true then !inD .non [optI va] else inD .non [optI va]) = va.isNone from in1 va]
    simp
    cases va with
    | none =>
      rw [if_pos rfl]
      exact same_pop q
    | some n =>
      rw [if_neg (by simp)]
      have q : Q (optR (if 0 < n then some (n, 1) else none)) M := q
      subst hS
      refine seq_step fun S hS => ?_
      simp [optI]
      subst hS
      refine seq_step fun S hS => ?_
      simp
      refine ⟨by rw [hz]; decide, ?_⟩
      subst hS
      simp
      refine ⟨n, 1, rfl, ?_⟩
      simp
      simp only [popM_same (Nat.le_refl M.length)]
      by_cases h0 : 0 < n
      · rw [if_pos h0]
        rw [if_pos h0] at q
        exact q
      · rw [if_neg h0]
        rw [if_neg h0] at q
        exact q
  | [a, b], _ =>
    simp
    subst hS
    refine seq_step fun S hS => ?_
    simp
    refine lcL_rel (R := fun d (p : Sg) => d = .str (SX.S p)) (fun p => optI (wholeP p)) (by exact trivial) _ [a, b] [] ⟨rfl, rfl, trivial⟩ (fun d y hy e Q' q' => ?_) (by rw [hz]; simp) ?_
    · subst e
      simp [wipeD]
      exact ⟨_, rfl, wl _ hy, q'⟩
    rw [List.nil_append]
    show S _ _ _
    rw [show List.map (fun p => optI (wholeP p)) [a, b] = [optI (wholeP a), optI (wholeP b)] from rfl]
    have q : Q (optR (match wholeP a, wholeP b with | some n, some d => if 2 ≤ d ∧ Int.gcd n d = 1 ∧ 0 < n then some (n, d) else none | _, _ => none)) M := q
    generalize wholeP a = va at q ⊢
    generalize wholeP b = vb at q ⊢
    subst hS
    refine seq_step fun S hS => ?_
    simp
    refine ⟨rfl, _, .inr rfl, by simp [flo], ?_⟩
    rw [show (if false = true then !inD .non [optI va, optI vb] else inD .non [optI va, optI vb]) = (va.isNone || vb.isNone) from inn va vb]
    simp
    cases va with
    | none =>
      rw [if_pos (.inl rfl)]
      exact same_pop q
    | some n =>
      cases vb with
      | none =>
        rw [if_pos (.inr rfl)]
        exact same_pop q
      | some d =>
        rw [if_neg (by simp)]
        have q : Q (optR (if 2 ≤ d ∧ Int.gcd n d = 1 ∧ 0 < n then some (n, d) else none)) M := q
        subst hS
        refine seq_step fun S hS => ?_
        simp [optI]
        by_cases h2 : d < 2
        · rw [if_pos h2]
          rw [if_neg (fun z => by omega)] at q
          exact same_pop q
        rw [if_neg h2]
        subst hS
        refine seq_step fun S hS => ?_
        simp
        refine ⟨by rw [hz]; decide, ?_⟩
        subst hS
        simp
        refine ⟨n, d, rfl, ?_⟩
        simp
        simp only [popM_same (Nat.le_refl M.length)]
        by_cases h0 : 0 < d ∧ n.gcd d = 1
        · rw [if_pos h0]
          by_cases h3 : 0 < n
          · rw [if_pos h3]
            rw [if_pos ⟨by omega, h0.2, h3⟩] at q
            exact q
          · rw [if_neg h3]
            rw [if_neg (fun z => h3 z.2.2)] at q
            exact q
        · rw [if_neg h0]
          rw [if_neg (fun z => h0 ⟨by omega, z.2.1⟩)] at q
          exact q
  | a :: b :: c :: r, _ =>
    simp
    rw [if_pos (by omega)]
    exact same_pop q
end K12
namespace K12
open MD L2 PySem Kit K03
/-- the entries of a row of words -/
theorem ents_lc {it : ItD} {te : TE'} {i : Nat} {vs : List Nat} {δ : EnvD} {M : MH} {Q : List D → MH → Prop} {E : QX} (hst : it.still M) :
    ∀ (ws : List Str) (acc : List D), (∀ w ∈ ws, ∀ Q' : QE, (match entP (tl w) with | some e => Q' (entD e) M | none => ∀ y, E (refX y) M) → te ((wipeD δ vs).set i (some (.str w))) M Q' E) → acc.length + ws.length ≤ sizeLine →
      (match entsP (ws.map tl) with | some es => Q (acc ++ es.map entD) M | none => ∀ y, E (refX y) M) → lcLX it (gName' i) tYes' te vs δ Q E (ws.map D.str) acc M
  | [], acc, _, _, q => ⟨hst, by simpa [entsP] using q⟩
  | w :: r, acc, h, hl, q => ⟨hst, by
    show te ((wipeD δ vs).set i (some (.str w))) M _ _
    refine h w List.mem_cons_self _ ?_
    have q : (match entsP (tl w :: r.map tl) with | some es => Q (acc ++ es.map entD) M | none => ∀ y, E (refX y) M) := q
    unfold entsP at q
    cases he : entP (tl w) with
    | none => rw [he] at q; exact q
    | some e =>
      rw [he] at q
      refine ⟨by simp at hl; omega, ents_lc hst r (acc ++ [entD e]) (fun x hx => h x (List.mem_cons_of_mem _ hx)) (by simp at hl ⊢; omega) ?_⟩
      cases hs : entsP (r.map tl) with
      | none => rw [hs] at q; exact q
      | some es => rw [hs] at q; simpa using q⟩
theorem dig_int {c : Nat} (h1 : 49 ≤ c) (h2 : c ≤ 57) : PySem.intText? (⟨#[c]⟩ : Str) = some ((c : Int) - 48) := by
  have : c = 49 ∨ c = 50 ∨ c = 51 ∨ c = 52 ∨ c = 53 ∨ c = 54 ∨ c = 55 ∨ c = 56 ∨ c = 57 := by omega
  rcases this with rfl | rfl | rfl | rfl | rfl | rfl | rfl | rfl | rfl <;> decide +kernel
theorem has19 (c : Nat) : hasC c (Str.ofString "123456789") = decide (49 ≤ c ∧ c ≤ 57) := by
  unfold hasC
  have : (Str.ofString "123456789").cps.toList = [49, 50, 51, 52, 53, 54, 55, 56, 57] := rfl
  rw [this, decide_eq_decide]
  simp
  omega
theorem cutS_tail (w : D) (r : List D) : cutD (w :: r) (some 1) none = r := by
  unfold cutD
  simp [HT.sIx]
theorem math_read_column (CO : COf) (ds M Q E) (hM : WFM M) (hb : D.belL M.length ds = true) (h : sp_read_column ds M Q E) : r_read_column CO (retE M.length Q E) (startD N_read_column ds) M := by
  obtain ⟨ws, rfl, hl, hw, q⟩ := h
  unfold r_read_column
  refine seq_step fun S hS => ?_
  simp [startD]
  have q : Q (optC (if ¬ (2 ≤ ws.length ∧ ws.length ≤ 5) then none else match ws.map tl with
    | [] => none
    | w :: r => match durP ((cuts 33 w).headD []), accP (cuts 33 w), entsP r with
      | some d, some a, some es => some ⟨d, a, es⟩
      | _, _, _ => none)) M := by
    have : colP (ws.map tl) = _ := rfl
    unfold colP at q
    rw [List.length_map] at q
    exact q
  by_cases h2 : 2 ≤ (ws.length : Int)
  rotate_left
  · rw [if_neg h2]
    rw [if_pos (fun z => h2 (by omega))] at q
    exact same_pop q
  rw [if_pos h2]
  by_cases h5 : (ws.length : Int) ≤ 5
  rotate_left
  · rw [if_neg h5]
    rw [if_pos (fun z => h5 (by omega))] at q
    exact same_pop q
  rw [if_pos h5]
  rw [if_neg (fun z => z ⟨by omega, by omega⟩)] at q
  obtain ⟨w, r, rfl⟩ : ∃ w r, ws = w :: r := by
    cases ws with
    | nil => simp at h2
    | cons w r => exact ⟨w, r, rfl⟩
  have q : Q (optC (match durP ((cuts 33 (tl w)).headD []), accP (cuts 33 (tl w)), entsP (r.map tl) with
      | some d, some a, some es => some ⟨d, a, es⟩
      | _, _, _ => none)) M := q
  have hwl := hw w List.mem_cons_self
  have hwl2 : (tl w).length ≤ 1000 := by rw [← len_cps w]; exact hwl
  subst hS
  refine seq_step fun S hS => ?_
  simp
  refine ⟨by decide, by rw [hz]; omega, ?_⟩
  rw [show Txt.split w (Str.ofString "!") = (cuts 33 (tl w)).map SX.S from split1 (by decide) w]
  have ml := cuts_mem_len 33 (tl w)
  have ne := cuts_ne 33 (tl w)
  generalize cuts 33 (tl w) = ps at q ml ne ⊢
  have wl : ∀ p ∈ ps, (SX.S p).length ≤ 1000 := fun p hp => by
    have := ml p hp
    rw [SX.S_len]; omega
  obtain ⟨a, rest, rfl⟩ : ∃ a rest, ps = a :: rest := by
    cases ps with
    | nil => exact absurd rfl ne
    | cons a rest => exact ⟨a, rest, rfl⟩
  have q : Q (optC (match durP a, accP (a :: rest), entsP (r.map tl) with
      | some d, some a, some es => some ⟨d, a, es⟩
      | _, _, _ => none)) M := q
  subst hS
  refine seq_step fun S hS => ?_
  simp
  refine ⟨SX.S a, rfl, wl a List.mem_cons_self, ?_⟩
  show S _ _ _
  rw [show durP (tl (SX.S a)) = durP a from rfl]
  generalize durP a = da at q ⊢
  subst hS
  refine seq_step fun S hS => ?_
  simp
  subst hS
  refine seq_step fun S hS => ?_
  -- behind the accent
  have fin : ∀ acc : Int, accP (a :: rest) = some acc → S (retE M.length Q E) [some (.lst (.str w :: r.map D.str)), some (.lst (((a :: rest).map SX.S).map D.str)), some (optR da), some (.int acc), none, none] M := by
    intro acc hacc
    rw [hacc] at q
    subst hS
    refine seq_step fun S hS => ?_
    cases da with
    | none =>
      simp [optR]
      exact same_pop q
    | some d =>
      subst hS
      simp [optR]
      refine ⟨nofun, ?_⟩
      rw [if_neg (show ¬ nonD (MD.prD d) = true from nofun)]
      refine ⟨_, rfl, ?_⟩
      rw [u_newF]
      show seqD (.lst (cutD (.str w :: r.map D.str) (some 1) none)) M _
      rw [cutS_tail]
      refine ents_lc (it := ⟨r.map D.str, none⟩) trivial r [] (fun x hx Q' q' => ?_) (by simp at h5; rw [hz]; simp; omega) ?_
      · simp [wipeD]
        refine ⟨x, rfl, hw x (List.mem_cons_of_mem _ hx), ?_⟩
        revert q'
        cases entP (tl x) with
        | some e => exact id
        | none => exact id
      · cases he : entsP (r.map tl) with
        | none =>
          rw [he] at q
          intro y
          refine ⟨true, (by decide : mtb xmt "BadName" "BadName" = some true), fun _ => ?_, nofun⟩
          exact same_pop q
        | some es =>
          rw [he] at q
          exact ⟨by rw [hz]; decide, same_pop q⟩
  have none_ : accP (a :: rest) = none → Q D.non M := fun e => by
    rw [e] at q
    cases da <;> exact q
  match rest, fin, none_ with
  | [], fin, none_ =>
    simp
    exact fin 0 rfl
  | [b], fin, none_ =>
    simp
    have hbl : (SX.S b).length = b.length := SX.S_len b
    have hbs : b.length ≤ 1000 := by
      have := ml b (by simp)
      omega
    match b, hbs, hbl with
    | [], hbs, hbl =>
      simp [hbl]
      exact same_pop (none_ rfl)
    | [c], hbs, hbl =>
      simp [hbl]
      refine ⟨by rw [hz]; decide, ?_⟩
      rw [has19]
      by_cases hc : 49 ≤ c ∧ c ≤ 57
      · rw [if_pos (decide_eq_true hc)]
        refine .inr (.inr ⟨⟨#[c]⟩, (c : Int) - 48, rfl, dig_int hc.1 hc.2, by show 1 ≤ 640; decide, ?_⟩)
        exact fin _ (by show (if 49 ≤ c ∧ c ≤ 57 then some ((c : Int) - 48) else none) = _; rw [if_pos hc])
      · rw [if_neg (by simpa using hc)]
        exact same_pop (none_ (by show (if 49 ≤ c ∧ c ≤ 57 then some ((c : Int) - 48) else none) = _; rw [if_neg hc]))
    | c :: c2 :: b, hbs, hbl =>
      simp [hbl]
      simp at hbs
      refine ⟨by rw [hz]; omega, ?_⟩
      rw [if_neg (by omega)]
      exact same_pop (none_ rfl)
  | b :: c :: b2, fin, none_ =>
    simp
    rw [if_neg (by omega), if_pos (by omega)]
    exact same_pop (none_ (by unfold accP; split <;> first | rfl | (rename_i h; simp at h)))
end K12
namespace K12
open MD L2 PySem Kit K03
/-- [word for word in words if word] -/
theorem words_lc {it : ItD} {i : Nat} {vs : List Nat} {δ : EnvD} {M : MH} {Q : List D → MH → Prop} (hst : it.still M) (hi : i < δ.length) (hv : vs = [i]) :
    ∀ (ws : List Sg) (acc : List D), (∀ w ∈ ws, w.length ≤ 1000) → acc.length + ws.length ≤ sizeLine → Q (acc ++ (ws.filter fun w => !w.isEmpty).map fun w => D.str (SX.S w)) M →
      lcL it (gName' i) (tTru' (tVar' i)) (tVar' i) vs δ Q (ws.map fun w => D.str (SX.S w)) acc M
  | [], acc, _, _, q => ⟨hst, by simpa using q⟩
  | w :: r, acc, h, hl, q => ⟨hst, by
    have hw := h w List.mem_cons_self
    have hwl : (SX.S w).length = w.length := SX.S_len w
    subst hv
    show tTru' (tVar' i) ((wipeD δ [i]).set i (some (.str (SX.S w)))) M _ _
    have at_i : ((wipeD δ [i]).set i (some (D.str (SX.S w))))[i]? = some (some (.str (SX.S w))) := List.getElem?_set_self (by simp [wipeD]; exact hi)
    simp [at_i]
    rw [hwl]
    refine ⟨by rw [hz]; omega, ?_⟩
    by_cases he : w = []
    · subst he
      rw [if_pos (show ([] : Sg).length = 0 from rfl)]
      refine words_lc hst hi rfl r acc (fun x hx => h x (List.mem_cons_of_mem _ hx)) (by simp at hl ⊢; omega) ?_
      simpa using q
    · rw [if_neg (by simpa using he)]
      refine ⟨by simp at hl; omega, ?_⟩
      refine words_lc hst hi rfl r (acc ++ [.str (SX.S w)]) (fun x hx => h x (List.mem_cons_of_mem _ hx)) (by simp at hl ⊢; omega) ?_
      have : (w :: r).filter (fun w => !w.isEmpty) = w :: r.filter fun w => !w.isEmpty := by
        rw [List.filter_cons, if_pos]
        cases w with
        | nil => exact absurd rfl he
        | cons c w => rfl
      rw [this] at q
      simpa using q⟩
theorem lead_le (l : Sg) : lead l ≤ l.length := by
  unfold lead
  exact (List.takeWhile_sublist _).length_le
/-- what stands ahead, and what comes behind -/
def join2 (cs : List Col) : Nat ⊕ List Col → Nat ⊕ List Col
  | .inl a => .inl a
  | .inr ds => .inr (cs ++ ds)
theorem math_read_bar (ds M Q E) (hM : WFM M) (hb : D.belL M.length ds = true) (h : sp_read_bar ds M Q E) : r_read_bar (retE M.length Q E) (startD N_read_bar ds) M := by
  obtain ⟨x, rfl, hl, hw, q⟩ := h
  have hxl : (tl x).length ≤ 2000000 := by rw [← len_cps x]; exact hl
  have ml := cuts_mem_len 124 (tl x)
  have ll := cuts_len 124 (tl x)
  unfold r_read_bar
  refine seq_step fun S hS => ?_
  simp [startD]
  subst hS
  refine seq_step fun S hS => ?_
  simp
  subst hS
  refine seq_step fun S hS => ?_
  simp
  refine ⟨by decide, by rw [hz]; omega, ?_⟩
  rw [show Txt.split x (Str.ofString "|") = (cuts 124 (tl x)).map SX.S from split1 (by decide) x]
  have ne0 := cuts_ne 124 (tl x)
  unfold barP at q
  have hw : ∀ p ∈ cuts 124 (tl x), p.length ≤ 2000000 ∧ ∀ w ∈ cuts 32 p, w.length ≤ 1000 := fun p hp => ⟨by have := ml p hp; omega, hw p hp⟩
  generalize cuts 124 (tl x) = ps0 at q hw ll ne0 ⊢
  have pX : ∀ (xx : Xc) (L : List D), popX M.length xx (M ++ [Cell.lst L]) = M := fun xx L => by
    unfold popX
    rw [List.take_left' rfl]
    exact if_pos hM
  have pT : ∀ (cs : List Col) (L : List D), popM M.length (barD cs) (M ++ [Cell.lst L]) = M := fun cs L => popM_last hM (barD_bel _ cs)
  refine forL_ind (fun ds δ M' => ∃ (ps : List Sg) (cs : List Col) (b : Nat) (a3 a4 a5 a6 a7 : Option D), ds = ps.map (fun p => D.str (SX.S p)) ∧ δ = [some (.str x), some (.ref M.length), some (.int (b : Int)), a3, a4, a5, a6, a7] ∧
    M' = M ++ [.lst (cs.map colD)] ∧ (∀ p ∈ ps, p.length ≤ 2000000 ∧ ∀ w ∈ cuts 32 p, w.length ≤ 1000) ∧ cs.length + ps.length ≤ 3000000 ∧ barAns (join2 cs (barGo (cs.head?.map fun c => c.es.length) b ps)) M Q E) ?_ ?_ _ _ _
    ⟨ps0, [], 0, none, none, none, none, none, by rw [List.map_map]; rfl, rfl, rfl, hw, by simp; omega, ?_⟩
  · rintro δ M' ⟨ps, cs, b, a3, a4, a5, a6, a7, e, rfl, rfl, hp, hc, q⟩
    have : ps = [] := by
      cases ps with
      | nil => rfl
      | cons p r => cases e
    subst this
    refine ⟨trivial, ?_⟩
    show S _ _ _
    have q : barAns (.inr cs) M Q E := by
      have e : join2 cs (barGo (cs.head?.map fun c => c.es.length) b []) = .inr cs := by unfold barGo join2; simp
      rwa [e] at q
    unfold barAns at q
    simp only at q
    subst hS
    refine seq_step fun S hS => ?_
    simp [lstOf_ref (get_last M _)]
    by_cases h64 : 64 < cs.length
    · rw [if_pos (by omega)]
      rw [if_pos h64] at q
      rw [pX]
      exact q
    · rw [if_neg (by omega)]
      rw [if_neg h64] at q
      subst hS
      simp [lstOf_ref (get_last M _)]
      have := pT cs (cs.map colD)
      unfold barD at this
      rw [this]
      exact q
  · rintro d r δ M' F ⟨ps, cs, b, a3, a4, a5, a6, a7, e, rfl, rfl, hp, hc, q⟩ hF
    obtain ⟨p, ps, rfl⟩ : ∃ p ps2, ps = p :: ps2 := by
      cases ps with
      | nil => cases e
      | cons p r => exact ⟨p, r, rfl⟩
    rw [List.map_cons] at e
    cases e
    obtain ⟨hpl, hpw⟩ := hp p List.mem_cons_self
    have hSl : (SX.S p).length = p.length := SX.S_len p
    refine ⟨trivial, ?_⟩
    refine seq_step fun S2 hS2 => ?_
    simp
    refine ⟨by decide, by rw [hz]; omega, ?_⟩
    rw [show Txt.split (SX.S p) (Str.ofString " ") = (cuts 32 p).map SX.S from split1 (by decide) (SX.S p)]
    have cl := cuts_len 32 p
    rw [List.map_map]
    refine words_lc (it := ⟨_, none⟩) trivial (by simp) rfl (cuts 32 p) [] hpw (by rw [hz]; simp; omega) ?_
    rw [List.nil_append, show ((cuts 32 p).filter fun w => !w.isEmpty) = wordsP p from rfl]
    have wl : (wordsP p).length ≤ (cuts 32 p).length := List.length_filter_le _ _
    have wm : ∀ w ∈ wordsP p, w.length ≤ 1000 := fun w hw => hpw w (List.mem_filter.mp hw).1
    subst hS2
    refine seq_step fun S2 hS2 => ?_
    simp
    have hls : (Txt.lstripChars (SX.S p) (Str.ofString " ")).length = p.length - lead p := by rw [← hSl]; exact lstrip_len (SX.S p)
    have hle := lead_le p
    rw [hls, hSl]
    refine ⟨by rw [hz]; omega, by rw [hz]; omega, ?_⟩
    rw [show ((b : Int) + (p.length : Int) - ((p.length - lead p : Nat) : Int)) = ((b + lead p : Nat) : Int) by omega]
    subst hS2
    refine seq_step fun S2 hS2 => ?_
    simp
    refine ⟨(wordsP p).map SX.S, by rw [List.map_map]; rfl, by rw [List.length_map]; omega, ?_, ?_⟩
    · intro w hw
      obtain ⟨v, hv, rfl⟩ := List.mem_map.mp hw
      rw [SX.S_len]
      exact wm v hv
    rw [show ((wordsP p).map SX.S).map tl = wordsP p from by
      rw [List.map_map]
      exact List.map_id _]
    unfold barGo at q
    subst hS2
    refine seq_step fun S2 hS2 => ?_
    cases hcp : colP (wordsP p) with
    | none =>
      rw [hcp] at q
      simp [optC]
      rw [pX]
      exact q
    | some c =>
      rw [hcp] at q
      have tr : ∀ L, truD (.ref M.length) (M ++ [Cell.lst L]) = some (!L.isEmpty) := fun L => by
        show (seqOf (.ref M.length) (M ++ [Cell.lst L])).map (fun ds => !ds.isEmpty) = _
        rw [seqOf_ref (get_last M _)]; rfl
      -- the column is taken
      have took : ∀ a7', barAns (join2 (cs ++ [c]) (barGo ((cs ++ [c]).head?.map fun c => c.es.length) (b + p.length + 1) ps)) M Q E →
          S2 { nx := F, rt := (retE M.length Q E).rt, bk := S (retE M.length Q E), ct := F, ex := (retE M.length Q E).ex }
            [some (.str x), some (.ref M.length), some (.int (b : Int)), some (.str (SX.S p)), some (.lst ((wordsP p).map fun w => .str (SX.S w))), some (.int ((b : Int) + (lead p : Int))), some (colD c), a7'] (M ++ [Cell.lst (cs.map colD)]) := by
        intro a7' q2
        subst hS2
        simp [get_last, set_last]
        refine ⟨by rw [hz]; omega, by rw [hSl, hz]; omega, ?_⟩
        rw [hSl, show ((b : Int) + (p.length : Int) + 1) = ((b + p.length + 1 : Nat) : Int) by omega]
        exact hF _ _ ⟨ps, cs ++ [c], b + p.length + 1, _, _, _, _, _, rfl, rfl, by simp, fun p hp' => hp p (List.mem_cons_of_mem _ hp'), by simp at hc ⊢; omega, q2⟩
      cases cs with
      | nil =>
        have q2 : barAns (join2 ([] ++ [c]) (barGo (some c.es.length) (b + p.length + 1) ps)) M Q E := by
          have q3 : barAns (join2 [] (match barGo (some c.es.length) (b + p.length + 1) ps with | .inl a => .inl a | .inr cs => .inr (c :: cs))) M Q E := q
          revert q3
          cases barGo (some c.es.length) (b + p.length + 1) ps <;> exact id
        have tk := took a7 q2
        clear hS2
        simp [tr, optC]
        refine ⟨nofun, ?_⟩
        rw [if_neg (show ¬ nonD (colD c) = true from nofun)]
        exact tk
      | cons c0 cs =>
        have q : barAns (join2 (c0 :: cs) (if decide (c.es.length ≠ c0.es.length) = true then .inl (b + lead p) else match barGo (some c0.es.length) (b + p.length + 1) ps with | .inl a => .inl a | .inr cs => .inr (c :: cs))) M Q E := q
        clear hS2
        have sqc : ∀ M' : MH, seqOf (colD c) M' = some [MD.prD c.dur, .int c.acc, .tup (c.es.map entD)] := fun _ => rfl
        have sqc0 : ∀ M' : MH, seqOf (colD c0) M' = some [MD.prD c0.dur, .int c0.acc, .tup (c0.es.map entD)] := fun _ => rfl
        have nsc : ∀ z : Str, colD c ≠ .str z := nofun
        have nsc0 : ∀ z : Str, colD c0 ≠ .str z := nofun
        simp [tr, optC, sqc, sqc0, nsc, nsc0, seqOf_ref (get_last M _)]
        refine ⟨nofun, ?_⟩
        rw [if_neg (show ¬ nonD (colD c) = true from nofun)]
        by_cases he : (c.es.length : Int) = c0.es.length
        · rw [if_neg (by simp; omega)] at q
          have q2 : barAns (join2 ((c0 :: cs) ++ [c]) (barGo (some c0.es.length) (b + p.length + 1) ps)) M Q E := by
            revert q
            cases barGo (some c0.es.length) (b + p.length + 1) ps with
            | inl a => exact id
            | inr ds => intro q; simpa [join2] using q
          have tk := took a7 q2
          refine ⟨_, lstOf_ref (get_last M _), _, atI_0, .inl ⟨_, sqc0 _, _, atI_2, _, rfl, nofun, ?_⟩⟩
          rw [List.length_map, if_pos he]
          exact tk
        · rw [if_pos (by simp; omega)] at q
          refine ⟨_, lstOf_ref (get_last M _), _, atI_0, .inl ⟨_, sqc0 _, _, atI_2, _, rfl, nofun, ?_⟩⟩
          rw [List.length_map, if_neg he, pX]
          exact q
  · have e : join2 [] (barGo none 0 ps0) = barGo none 0 ps0 := by cases barGo none 0 ps0 <;> rfl
    show barAns (join2 [] (barGo none 0 ps0)) M Q E
    rw [e]
    exact q
end K12
namespace Kit
open MD L2 PySem
/-! what is asked of a bar: raised, turned, paced, exchanged -/
def paceC (p : Int × Int) (c : Col) : Col := ⟨fr (c.dur.1 * p.1) (c.dur.2 * p.2), c.acc, c.es⟩
def pickC (ks : List Nat) (c : Col) : Col := ⟨c.dur, c.acc, ks.map fun k => c.es.getD k none⟩
/-- what is asked for: a kind and its number, pair or order -/
inductive Rule where
  | raise (t : Tone) | turn (t : Tone) | pace (p : Int × Int) | voices (ks : List Nat)
def Rule.word : Rule → Str
  | .raise _ => "raise"
  | .turn _ => "turn"
  | .pace _ => "pace"
  | .voices _ => "voices"
def Rule.kind : Rule → Int
  | .raise _ => 0
  | .turn _ => 1
  | .pace _ => 2
  | .voices _ => 3
def Rule.items : Rule → List D
  | .raise t => [.int t.1, .int t.2]
  | .turn t => [.int t.1, .int t.2]
  | .pace p => [.int p.1, .int p.2]
  | .voices ks => ks.map fun k : Nat => D.int k
def Rule.does : Rule → Col → Col
  | .raise t => moveC 1 t
  | .turn t => moveC (-1) t
  | .pace p => paceC p
  | .voices ks => pickC ks
def Rule.ok (v : Nat) : Rule → Prop
  | .raise t => T64 t
  | .turn t => T64 t
  | .pace p => okDur p
  | .voices ks => ks.Perm (List.range v)
abbrev N__law_done : List Str := ["rule", "cell", "voice"]
def sp__law_done : SpD := fun ds M Q _ => ∃ (r : Rule) (c : Col) (v : Nat), ds = [.tup [.str r.word, .int 0, .tup r.items], colD c] ∧ v ≤ 1000 ∧ c.es.length = v ∧ okDur c.dur ∧ r.ok v ∧ Q (colD (r.does c)) M
theorem mono__law_done : MonoP sp__law_done := fun ds M Q Q' E E' q x ⟨r, c, v, e, h1, h2, h3, h4, h⟩ => ⟨r, c, v, e, h1, h2, h3, h4, q _ _ h⟩
theorem len__law_done (ds M Q E) (h : sp__law_done ds M Q E) : ds.length = 2 := by obtain ⟨_, _, _, rfl, _⟩ := h; rfl
def r__law_done : TS' := (tSeq' (tIfS' (tB' (tOp' (oEq false) (tOp' oIx (tVar' 0) (tC' (.int 0))) (tC' (.str "raise")))) (tRet' (tCall' sp__law_raised (tCons' (tVar' 1) (tCons' (tC' (.int 1)) (tCons' (tOp' oIx (tVar' 0) (tC' (.int 2))) tNil'))))) tNext')
    (tSeq' (tIfS' (tB' (tOp' (oEq false) (tOp' oIx (tVar' 0) (tC' (.int 0))) (tC' (.str "turn")))) (tRet' (tCall' sp__law_raised (tCons' (tVar' 1) (tCons' (tUn' oNeg (tC' (.int 1))) (tCons' (tOp' oIx (tVar' 0) (tC' (.int 2))) tNil'))))) tNext')
    (tSeq' (tIfS' (tB' (tOp' (oEq false) (tOp' oIx (tVar' 0) (tC' (.int 0))) (tC' (.str "pace")))) (tRet' (tTup' (tCons' (tCall' sp__law_times (tCons' (tOp' oIx (tVar' 1) (tC' (.int 0))) (tCons' (tOp' oIx (tVar' 0) (tC' (.int 2))) tNil'))) (tCons' (tOp' oIx (tVar' 1) (tC' (.int 1))) (tCons' (tOp' oIx (tVar' 1) (tC' (.int 2))) tNil'))))) tNext')
    (tSeq' (tIfS' (tB' (tOp' (oEq false) (tOp' oIx (tVar' 0) (tC' (.int 0))) (tC' (.str "voices")))) (tRet' (tTup' (tCons' (tOp' oIx (tVar' 1) (tC' (.int 0))) (tCons' (tOp' oIx (tVar' 1) (tC' (.int 1))) (tCons' (tCB' cTuple (tCons' (tLc' false (tIt' (tOp' oIx (tVar' 0) (tC' (.int 2)))) (gName' 2) tYes' (tOp' oIx (tOp' oIx (tVar' 1) (tC' (.int 2))) (tVar' 2)) [2]) tNil')) tNil'))))) tNext')
    (tRet' (tVar' 1))))))

theorem ks_at {ks : List Nat} {es : List Ent} (h : ∀ k ∈ ks, k < es.length) : ∀ k ∈ ks, atI (es.map entD) (k : Int) = some (entD (es.getD k none)) := by
  intro k hk
  have := h k hk
  refine at_nat ?_
  rw [List.getElem?_map, List.getD_eq_getElem?_getD, List.getElem?_eq_getElem this]; rfl
/-- the entries of an order -/
theorem pick_lc {it : ItD} {te : TE'} {i : Nat} {vs : List Nat} {δ : EnvD} {M : MH} {Q : List D → MH → Prop} (hst : it.still M) {ks : List Nat} {es : List Ent} (h : ∀ k ∈ ks, k < es.length) (hl : ks.length ≤ 1000)
    (hte : ∀ k ∈ ks, ∀ Q' : QE, Q' (entD (es.getD k none)) M → te ((wipeD δ vs).set i (some (.int (k : Int)))) M Q' (fun _ _ => False))
    (q : Q ((ks.map fun k => es.getD k none).map entD) M) : lcL it (gName' i) tYes' te vs δ Q (ks.map fun k : Nat => D.int k) [] M := by
  have hz : (sizeLine : Nat) = 16777216 := by decide
  refine lcL_rel (R := fun d (k : Nat) => d = .int (k : Int)) (fun k => entD (es.getD k none)) hst _ ks _ (RelL.map (R := fun d (k : Nat) => d = D.int (k : Int)) (fun k : Nat => D.int (k : Int)) (fun _ => rfl) ks) ?_ (by simp; omega) ?_
  · rintro d k hk rfl Q' q'
    exact hte k hk Q' q'
  · rw [List.nil_append]
    rw [List.map_map] at q
    exact q
theorem math__law_done (ds M Q E) (hM : WFM M) (hb : D.belL M.length ds = true) (h : sp__law_done ds M Q E) : r__law_done (retE M.length Q E) (startD N__law_done ds) M := by
  obtain ⟨r, c, v, rfl, hv, hcl, hdur, hr, q⟩ := h
  have hz : (sizeLine : Nat) = 16777216 := by decide
  have hq : ∀ d, d = colD (r.does c) → Q d (popM M.length d M) := fun d e => by rw [popM_same (Nat.le_refl _), e]; exact q
  have w1 : ((Str.ofString "turn") = (Str.ofString "raise")) = False := by simp; decide
  have w2 : ((Str.ofString "pace") = (Str.ofString "raise")) = False := by simp; decide
  have w3 : ((Str.ofString "pace") = (Str.ofString "turn")) = False := by simp; decide
  have w4 : ((Str.ofString "voices") = (Str.ofString "raise")) = False := by simp; decide
  have w5 : ((Str.ofString "voices") = (Str.ofString "turn")) = False := by simp; decide
  have w6 : ((Str.ofString "voices") = (Str.ofString "pace")) = False := by simp; decide
  unfold r__law_done
  simp [startD]
  cases r with
  | raise t =>
    simp [Rule.word, Rule.items]
    exact ⟨c, 1, _, t, rfl, by decide, .inl rfl, by omega, hq _ rfl⟩
  | turn t =>
    simp [Rule.word, Rule.items, w1]
    exact ⟨c, -1, _, t, rfl, by decide, .inl rfl, by omega, hq _ rfl⟩
  | pace p =>
    have hr : okDur p := hr
    simp [Rule.word, Rule.items, w2, w3, colD]
    obtain ⟨dp1, dp2, db1, db2, _⟩ := hdur
    refine ⟨_, _, c.dur.1, c.dur.2, p.1, p.2, rfl, .inl rfl, .inl rfl, dp2, hr.2.1, ⟨64, 64, by decide, db1, db2, hr.2.2.1, hr.2.2.2.1⟩, ?_⟩
    exact ⟨by decide, hq _ rfl⟩
  | voices ks =>
    have hr : ks.Perm (List.range v) := hr
    have hkl : ks.length = v := by have := hr.length_eq; rwa [List.length_range] at this
    have hks : ∀ k ∈ ks, k < c.es.length := fun k hk => by rw [hcl]; exact List.mem_range.mp (hr.subset hk)
    simp [Rule.word, Rule.items, w4, w5, w6, colD]
    refine pick_lc (es := c.es) (by exact trivial) hks (by omega) ?_ ?_
    · intro k hkm Q' q'
      simp [wipeD, ks_at hks k hkm]
      exact q'
    · simp
      refine ⟨by decide, hq _ ?_⟩
      simp [Rule.does, colD, pickC]
theorem does_len (r : Rule) {v : Nat} {c : Col} (hr : r.ok v) (hc : c.es.length = v) : (r.does c).es.length = v := by
  cases r with
  | raise t => show (c.es.map _).length = v; rw [List.length_map]; exact hc
  | turn t => show (c.es.map _).length = v; rw [List.length_map]; exact hc
  | pace p => exact hc
  | voices ks =>
    have hr : ks.Perm (List.range v) := hr
    show (ks.map _).length = v
    rw [List.length_map, hr.length_eq, List.length_range]
theorem sh_items {r : Rule} {v : Nat} (hr : r.ok v) (hv : v ≤ 4) : ∀ {d : D}, (d = .tup r.items ∨ d = .lst r.items) → Sh 1 95 d := by
  intro d hd
  have two : ∀ a b : Int, Bg 64 a → Bg 64 b → (∀ e ∈ [D.int a, D.int b], Sh 0 21 e) := fun a b ha hb e he => by
    simp only [List.mem_cons, List.not_mem_nil, or_false] at he
    rcases he with rfl | rfl
    · exact sh_int ha
    · exact sh_int hb
  have fin : ∀ es : List D, (d = .tup es ∨ d = .lst es) → (∀ e ∈ es, Sh 0 21 e) → es.length ≤ 4 → Sh 1 95 d := fun es h1 h2 h3 => sh_seq (k := 0) (L := 21) (n := 4) h1 h2 h3
  cases r with
  | raise t => obtain ⟨b1, b2⟩ := (show T64 t from hr); exact fin _ hd (two _ _ b1 b2) (by show 2 ≤ 4; decide)
  | turn t => obtain ⟨b1, b2⟩ := (show T64 t from hr); exact fin _ hd (two _ _ b1 b2) (by show 2 ≤ 4; decide)
  | pace p =>
    have hr : okDur p := hr
    exact fin _ hd (two _ _ hr.2.2.1 hr.2.2.2.1) (by show 2 ≤ 4; decide)
  | voices ks =>
    have hr : ks.Perm (List.range v) := hr
    have hkl : ks.length = v := by have := hr.length_eq; rwa [List.length_range] at this
    refine fin _ hd (fun e he => ?_) (by show (ks.map _).length ≤ 4; rw [List.length_map]; omega)
    obtain ⟨k, hk, rfl⟩ := List.mem_map.mp he
    have := List.mem_range.mp (hr.subset hk)
    exact sh_int (bg64 (by omega) (by decide))
/-! an interval drawn -/
abbrev N__law_interval : List Str := ["pool"]
def sp__law_interval : SpD := fun ds M Q _ => ∃ p, ds = [.ref p] ∧ Pool M p ∧ ∀ t M', (-100 ≤ t.1 ∧ t.1 ≤ 100 ∧ -100 ≤ t.2 ∧ t.2 ≤ 100) → Step p M M' → Q (MD.prD t) M'
theorem mono__law_interval : MonoP sp__law_interval := fun ds M Q Q' E E' q x ⟨p, e, h1, h⟩ => ⟨p, e, h1, fun a M' b c => q _ _ (h a M' b c)⟩
theorem len__law_interval (ds M Q E) (h : sp__law_interval ds M Q E) : ds.length = 1 := by obtain ⟨_, rfl, _⟩ := h; rfl
def r__law_interval : TS' := (tSeq' (tIfS' (tB' (tOp' (oEq false) (tCall' sp__law_take (tCons' (tVar' 0) (tCons' (tC' (.int 8)) tNil'))) (tC' (.int 0)))) (tRet' (tTup' (tCons' (tOp' oSub (tCall' sp__law_take (tCons' (tVar' 0) (tCons' (tC' (.int 201)) tNil'))) (tC' (.int 100))) (tCons' (tOp' oSub (tCall' sp__law_take (tCons' (tVar' 0) (tCons' (tC' (.int 201)) tNil'))) (tC' (.int 100))) tNil')))) tNext')
    (tRet' (tTup' (tCons' (tOp' oSub (tCall' sp__law_take (tCons' (tVar' 0) (tCons' (tC' (.int 9)) tNil'))) (tC' (.int 4))) (tCons' (tOp' oSub (tCall' sp__law_take (tCons' (tVar' 0) (tCons' (tC' (.int 9)) tNil'))) (tC' (.int 4))) tNil')))))

theorem math__law_interval (ds M Q E) (hM : WFM M) (hb : D.belL M.length ds = true) (h : sp__law_interval ds M Q E) : r__law_interval (retE M.length Q E) (startD N__law_interval ds) M := by
  obtain ⟨p, rfl, hp, q⟩ := h
  unfold r__law_interval
  refine seq_step fun S hS => ?_
  simp [startD]
  refine ⟨p, 8, rfl, by decide, by decide, hp, fun k M1 a1 b1 k1 => ?_⟩
  simp
  split
  · refine ⟨p, 201, rfl, by decide, by decide, k1.2, fun r M2 a2 b2 k2 => ?_⟩
    simp
    refine ⟨p, 201, rfl, by decide, by decide, k2.2, fun r3 M3 a3 b3 k3 => ?_⟩
    simp
    refine ⟨by decide, ?_⟩
    have s3 := (k1.trans k2).trans k3
    rw [popM_same (by rw [s3.length]; simp)]
    exact q (r - 100, r3 - 100) M3 (by simp only; omega) s3
  · subst hS
    simp
    refine ⟨p, 9, rfl, by decide, by decide, k1.2, fun r M2 a2 b2 k2 => ?_⟩
    simp
    refine ⟨p, 9, rfl, by decide, by decide, k2.2, fun r3 M3 a3 b3 k3 => ?_⟩
    simp
    refine ⟨by decide, ?_⟩
    have s3 := (k1.trans k2).trans k3
    rw [popM_same (by rw [s3.length]; simp)]
    exact q (r - 4, r3 - 4) M3 (by simp only; omega) s3
end Kit
namespace K12
open MD L2 PySem Kit K03
theorem math__law_letter (ds M Q E) (hM : WFM M) (hb : D.belL M.length ds = true) (h : sp__law_letter ds M Q E) : r__law_letter (retE M.length Q E) (startD N__law_letter ds) M := K03.math__law_letter ds M Q E hM hb h
theorem pow1920' {a : Nat} (h : a < 2 ^ 100) : a < 2 ^ 1920 := Nat.lt_of_lt_of_le h (Nat.pow_le_pow_right (by decide) (by decide))
theorem bg1920 {i : Int} (h : Bg 64 i) : i.natAbs < 2 ^ 1920 := pow1920' (Nat.lt_of_lt_of_le h (Nat.pow_le_pow_right (by decide) (by decide)))
theorem math__law_tone_text (ds M Q E) (hM : WFM M) (hb : D.belL M.length ds = true) (h : sp__law_tone_text ds M Q E) : r__law_tone_text (retE M.length Q E) (startD N__law_tone_text ds) M := by
  obtain ⟨⟨f, o⟩, rfl, ⟨⟨w1, w2⟩, w3, w4⟩, q⟩ := h
  simp only at w1 w2 w3 w4
  unfold r__law_tone_text
  refine seq_step fun S hS => ?_
  simp [startD, MD.prD]
  refine ⟨f, rfl, ?_⟩
  simp
  subst hS
  refine seq_step fun S hS => ?_
  have hc : atI (Str.cps "CDEFGAB").toList (4 * f % 7) = some (("CDEFGAB" : Str).cps.toList.getD ((4 * f) % 7).toNat 0) := by
    have hi : (4 * f % 7).toNat < 7 := by omega
    refine atI_n (by omega) ?_
    rw [List.getD_eq_getElem?_getD, List.getElem?_eq_getElem (show (4 * f % 7).toNat < (Str.cps "CDEFGAB").toList.length from hi)]
    rfl
  have key : ∀ z : Str, z = marksOf f → S (retE M.length Q E) [some (.tup [.int f, .int o]), some (.str z), some (.int ((4 * f) % 7)), some (.int ((f + 1) / 7))] M := by
    intro z hzm
    have hzl : z.length ≤ 10000 := by
      rw [hzm]; unfold marksOf
      split
      · rw [show ("#" : Str) = ⟨#[35]⟩ from rfl, rep_len]; omega
      · rw [show ("b" : Str) = ⟨#[98]⟩ from rfl, rep_len]; omega
    subst hS
    simp [e_fdiv]
    have ee : (4 * f + 7 * o - 4 * f % 7) / 7 = (4 * f + 7 * o) / 7 := by omega
    have hb : Bg 64 ((4 * f + 7 * o) / 7) := Bg.of (by omega)
    have hn : ((toString ((4 * f + 7 * o) / 7) : String) : Str).length ≤ 21 := int_len64 hb
    have hn : (Str.ofString ((4 * f + 7 * o) / 7).repr).length ≤ 21 := hn
    refine ⟨by rw [hz]; decide, _, hc, ?_, mulOk_l (by decide), mulOk_l (by decide), divOk_of (by decide) (by decide), ?_, ?_, ?_⟩
    · show 1 + z.length ≤ sizeLine
      rw [hz]; omega
    · rw [ee]; exact bg1920 hb
    · rw [ee, str_len_app]
      show 1 + z.length + _ ≤ sizeLine
      rw [hz]; omega
    · rw [ee, hzm]
      exact same_pop q
  have e35 : (Str.ofString "#") = ⟨#[35]⟩ := rfl
  have e98 : (Str.ofString "b") = ⟨#[98]⟩ := rfl
  simp
  have l35 : (Str.ofString "#").length = 1 := rfl
  have l98 : (Str.ofString "b").length = 1 := rfl
  split
  · rename_i hp
    refine ⟨⟨by omega, by omega, by rw [l35, hz]; omega⟩, key _ ?_⟩
    unfold marksOf; rw [if_pos hp]
  · rename_i hp
    refine ⟨⟨by omega, by omega, by rw [l98, hz]; omega⟩, key _ ?_⟩
    unfold marksOf; rw [if_neg hp]
theorem math__law_pad (ds M Q E) (hM : WFM M) (hb : D.belL M.length ds = true) (h : sp__law_pad ds M Q E) : r__law_pad (retE M.length Q E) (startD N__law_pad ds) M := by
  obtain ⟨p, rfl, hp, q⟩ := h
  unfold r__law_pad
  simp [startD]
  refine ⟨by rw [hz]; decide, p, _, _, rfl, hp, nofun, rfl, fun _ _ => rfl, by simp, by decide, fun d M1 hd c1 => ?_⟩
  have fin : ∀ k : Nat, k ≤ 5 → oMul false (.str (Str.ofString " ")) (.int (k : Int)) M1 fun d M2 => Q d (popM M.length d M2) := by
    intro k hk
    have l32 : (Str.ofString " ").length = 1 := rfl
    refine ⟨⟨by omega, by omega, by rw [l32, hz]; omega⟩, ?_⟩
    show Q _ (popM _ _ _)
    rw [popM_same (by rw [c1.length]; exact Nat.le_refl _)]
    exact q k M1 hk c1
  simp only [List.mem_cons, List.not_mem_nil, or_false] at hd
  rcases hd with rfl | rfl | rfl | rfl | rfl
  · exact fin 0 (by omega)
  · exact fin 1 (by omega)
  · exact fin 1 (by omega)
  · exact fin 2 (by omega)
  · exact fin 5 (by omega)
theorem str_nat (n : Nat) : ((n : Nat) : Int) = n := rfl
theorem marks_len {f : Int} (h : -10000 ≤ f ∧ f ≤ 10000) : (marksOf f).length ≤ 10000 := by
  unfold marksOf
  split
  · rw [show ("#" : Str) = ⟨#[35]⟩ from rfl, rep_len]; omega
  · rw [show ("b" : Str) = ⟨#[98]⟩ from rfl, rep_len]; omega
theorem toneText_len {t : Tone} (h : T5 t) : (toneText t).length ≤ 10100 := by
  obtain ⟨h1, h2, h3⟩ := h
  have hm := marks_len h1
  have hn : ((toString ((4 * t.1 + 7 * t.2) / 7) : String) : Str).length ≤ 21 := int_len64 (Bg.of (by omega))
  unfold toneText
  rw [str_len_app, str_len_app]
  show 1 + _ + _ ≤ _
  omega
theorem entText_len {e : Ent} (h : okEnt T5 e) : (entText e).length ≤ 20000 := by
  cases e with
  | none => show 1 ≤ 20000; decide
  | some p =>
    obtain ⟨t, b⟩ := p
    have := toneText_len (h t b rfl)
    show ((if b = true then ("" : Str) else "~") ++ toneText t).length ≤ 20000
    rw [str_len_app]
    cases b with
    | true => show 0 + _ ≤ _; omega
    | false => show 1 + _ ≤ _; omega
theorem popM_cell {n : Nat} {M : MH} : popM n (.ref n) M = M := by
  unfold popM
  rw [if_neg]
  rintro ⟨h, _⟩
  simp [D.bel] at h
theorem math__law_cell_words (ds M Q E) (hM : WFM M) (hb : D.belL M.length ds = true) (h : sp__law_cell_words ds M Q E) : r__law_cell_words (retE M.length Q E) (startD N__law_cell_words ds) M := by
  obtain ⟨c, v, rfl, hv, ⟨hdur, ha1, ha2, hes, hent⟩, q⟩ := h
  obtain ⟨d1, d2, d3, d4, d5⟩ := hdur
  have n1 : (Str.ofString c.dur.1.repr).length ≤ 21 := int_len64 d3
  have n2 : (Str.ofString c.dur.2.repr).length ≤ 21 := int_len64 d4
  have n3 : (Str.ofString c.acc.repr).length ≤ 21 := int_len64 (i := c.acc) (Bg.of (by omega))
  unfold r__law_cell_words
  refine seq_step fun S hS => ?_
  obtain ⟨cd, hcd⟩ : ∃ cd, cd = colD c := ⟨_, rfl⟩
  have sq : ∀ M', seqOf cd M' = some [MD.prD c.dur, .int c.acc, .tup (c.es.map entD)] := fun M' => by rw [hcd]; rfl
  have ns : ∀ z : Str, cd ≠ .str z := by rw [hcd]; exact nofun
  rw [← hcd]
  have first : ∀ z : Str, z = (if c.dur.2 = 1 then ((toString c.dur.1 : String) : Str) else ((toString c.dur.1 : String) : Str) ++ "/" ++ ((toString c.dur.2 : String) : Str)) → S (retE M.length Q E) [some cd, some (.str z), none, none] M := by
    intro z hz0
    have zl : z.length ≤ 43 := by
      rw [hz0]
      split
      · exact Nat.le_trans n1 (by decide)
      · rw [str_len_app, str_len_app]
        show (Str.ofString c.dur.1.repr).length + 1 + (Str.ofString c.dur.2.repr).length ≤ 43
        omega
    subst hS
    refine seq_step fun S hS => ?_
    have second : ∀ y : Str, z ++ y = firstText c → S (retE M.length Q E) [some cd, some (.str z), some (.ref M.length), none] (M ++ [.lst [.str (z ++ y)]]) := by
      intro y hy
      subst hS
      refine seq_step fun S hS => ?_
      simp [sq, ns]
      refine forI_from (fun i δ M' => ∃ a, δ = [some cd, some (.str z), some (.ref M.length), a] ∧ M' = M ++ [.lst (.str (z ++ y) :: ((c.es.take i).map entText).map D.str)]) ?_ ?_ ⟨none, rfl, rfl⟩
      · rintro δ M' ⟨a, rfl, rfl⟩
        refine ⟨trivial, ?_⟩
        show S _ _ _
        subst hS
        simp
        rw [popM_cell, hy]
        unfold cellW at q
        simpa using q
      · rintro i d δ M' F hd ⟨a, rfl, rfl⟩ hF
        refine ⟨trivial, ?_⟩
        rw [List.getElem?_map] at hd
        obtain ⟨e, he, rfl⟩ := Option.map_eq_some_iff.mp hd
        have hil := (List.getElem?_eq_some_iff.mp he).1
        have oke := hent e (List.mem_of_getElem? he)
        have tk : ((c.es.take (i + 1)).map entText).map D.str = ((c.es.take i).map entText).map D.str ++ [.str (entText e)] := by
          rw [List.take_add_one, he]; simp
        have done : ∀ a', F [some cd, some (.str z), some (.ref M.length), a'] (M ++ [.lst (.str (z ++ y) :: ((c.es.take i).map entText).map D.str ++ [.str (entText e)])]) := fun a' =>
          hF _ _ ⟨a', rfl, by rw [tk]; rfl⟩
        cases e with
        | none =>
          simp [entD, get_last, set_last]
          refine ⟨by rw [hz]; omega, ?_⟩
          simpa [entText] using done (some .non)
        | some p =>
          obtain ⟨t, b⟩ := p
          have tl2 := toneText_len (oke t b rfl)
          simp [entD, get_last, set_last]
          have dn := done (some (.tup [MD.prD t, .bl b]))
          cases b with
          | true =>
            rw [if_pos rfl]
            refine ⟨t, rfl, oke t true rfl, ?_⟩
            simp [get_last, set_last]
            refine ⟨?_, by rw [hz]; omega, ?_⟩
            · show 0 + _ ≤ _
              rw [hz]; omega
            · simpa [entText] using dn
          | false =>
            rw [if_neg (by decide)]
            refine ⟨t, rfl, oke t false rfl, ?_⟩
            simp [get_last, set_last]
            refine ⟨?_, by rw [hz]; omega, ?_⟩
            · show 1 + _ ≤ _
              rw [hz]; omega
            · simpa [entText] using dn
    simp [sq, ns]
    have s1 : (Str.ofString "!").length = 1 := rfl
    have s0 : (Str.ofString "").length = 0 := rfl
    split
    · rename_i ha
      refine ⟨bg1920 (Bg.of (by omega)), by rw [s1, hz]; omega, by rw [str_len_app, s1, hz]; omega, by rw [hz]; decide, second _ ?_⟩
      unfold firstText
      rw [if_pos ha, hz0]
      rfl
    · rename_i ha
      refine ⟨by rw [s0, hz]; omega, by rw [hz]; decide, second _ ?_⟩
      unfold firstText
      rw [if_neg ha, hz0]
  simp [startD, sq, ns, MD.prD]
  have sl : (Str.ofString "/").length = 1 := rfl
  split
  · rename_i h1
    exact ⟨bg1920 d3, first _ (by rw [if_pos h1]; rfl)⟩
  · rename_i h1
    exact ⟨bg1920 d3, by rw [sl, hz]; omega, bg1920 d4, by rw [str_len_app, sl, hz]; omega, first _ (by rw [if_neg h1]; rfl)⟩
end K12
namespace K12
open MD L2 PySem Kit K03
/-! texts of columns are read back -/
theorem cuts_cons (c x : Nat) (r : Sg) : cuts c (x :: r) = if x = c then [] :: cuts c r else match cuts c r with
    | p :: ps => (x :: p) :: ps
    | [] => [[x]] := rfl
theorem cuts_app (c : Nat) (b : Sg) : ∀ a : Sg, cuts c (a ++ c :: b) = cuts c a ++ cuts c b
  | [] => by simp [cuts]
  | x :: a => by
    have ih := cuts_app c b a
    rw [List.cons_append, cuts_cons c x (a ++ c :: b), cuts_cons c x a]
    by_cases hx : x = c
    · rw [if_pos hx, if_pos hx, ih]; rfl
    · rw [if_neg hx, if_neg hx, ih]
      cases hc : cuts c a with
      | nil => exact absurd hc (cuts_ne c a)
      | cons p ps => rfl
theorem words_app (a b : Sg) : wordsP (a ++ 32 :: b) = wordsP a ++ wordsP b := by
  unfold wordsP
  rw [cuts_app, List.filter_append]
theorem words_one {w : Sg} (h : w ≠ []) (h2 : 32 ∉ w) : wordsP w = [w] := by
  unfold wordsP
  rw [cuts_none h2, List.filter_cons, if_pos (by cases w with | nil => exact absurd rfl h | cons => rfl)]
  rfl
theorem words_nil : wordsP [] = [] := rfl
theorem words_pad (n : Nat) (l : Sg) : wordsP (List.replicate n 32 ++ l) = wordsP l := by
  induction n with
  | zero => rfl
  | succ n ih =>
    rw [List.replicate_succ, List.cons_append]
    have := words_app [] (List.replicate n 32 ++ l)
    rw [List.nil_append] at this
    rw [this, ih]; rfl
theorem words_behind (n : Nat) (l : Sg) : wordsP (l ++ List.replicate n 32) = wordsP l := by
  cases n with
  | zero => simp
  | succ n =>
    rw [List.replicate_succ, words_app, show List.replicate n 32 = List.replicate n 32 ++ [] by simp, words_pad, words_nil]
    simp
/-- every cut of a part is a word or nothing -/
theorem cut_len {n : Nat} {p : Sg} (h : ∀ w ∈ wordsP p, w.length ≤ n) : ∀ w ∈ cuts 32 p, w.length ≤ n := by
  intro w hw
  cases w with
  | nil => exact Nat.zero_le _
  | cons c r => exact h _ (List.mem_filter.mpr ⟨hw, rfl⟩)
/-! numbers -/
theorem num_tl (n : Int) (h : 0 ≤ n) : tl ((toString n : String) : Str) = digs n.toNat := by
  obtain ⟨m, rfl⟩ := Int.eq_ofNat_of_zero_le h
  exact cps_num m
theorem whole_digs {m : Nat} (h : (digs m).length ≤ 30) : wholeP (digs m) = some (m : Int) := by
  have hne := digs_ne m
  have hall := digs_all m
  have h45 : (digs m).head? ≠ some 45 := by
    intro z
    have := hall 45 (List.mem_of_mem_head? z)
    omega
  have hf : figL (digs m) = digs m := by unfold figL; rw [if_neg h45]
  unfold wholeP valL
  rw [hf, if_neg, if_neg, if_neg h45, digs_val]
  · rintro ⟨z1, z2 | z2⟩
    · by_cases hm : m = 0
      · rw [hm] at z2; exact absurd z2 (by decide)
      · obtain ⟨c, r, e, hc⟩ := digs_head m hm
        rw [e] at z1
        exact hc (by simpa using z1)
    · exact z2 rfl
  · rintro (z | z | z)
    · exact hne (List.length_eq_zero_iff.mp z)
    · omega
    · have : (digs m).all isDig = true := List.all_eq_true.mpr fun c hc => (dig_iff c).mpr (hall c hc)
      rw [this] at z; cases z
theorem whole_num {n : Int} (h : Bg 64 n) : wholeP (tl ((toString n : String) : Str)) = some n := by
  have hl : ((toString n : String) : Str).length ≤ 21 := int_len64 h
  rw [len_cps] at hl
  obtain ⟨m, ⟨e, h1⟩ | ⟨hm, e, h1⟩⟩ := num_split n
  · rw [h1] at hl
    rw [show tl ((toString n : String) : Str) = digs m from h1, whole_digs (by omega), e]
  · rw [h1] at hl
    rw [show tl ((toString n : String) : Str) = 45 :: digs m from h1]
    have hf : figL (45 :: digs m) = digs m := rfl
    have hall := digs_all m
    simp at hl
    unfold wholeP valL
    rw [hf, if_neg, if_neg, if_pos (by rfl), digs_val, e]
    · rintro ⟨z1, -⟩
      obtain ⟨c, r, e, hc⟩ := digs_head m hm
      rw [e] at z1
      exact hc (by simpa using z1)
    · rintro (z | z | z)
      · exact digs_ne m (List.length_eq_zero_iff.mp z)
      · omega
      · have : (digs m).all isDig = true := List.all_eq_true.mpr fun c hc => (dig_iff c).mpr (hall c hc)
        rw [this] at z; cases z
theorem num_signs (n : Int) : ∀ c ∈ tl ((toString n : String) : Str), c = 45 ∨ (48 ≤ c ∧ c ≤ 57) := by
  intro c hc
  obtain ⟨m, ⟨_, h1⟩ | ⟨_, _, h1⟩⟩ := num_split n
  · rw [show tl ((toString n : String) : Str) = digs m from h1] at hc
    exact .inr (digs_all m c hc)
  · rw [show tl ((toString n : String) : Str) = 45 :: digs m from h1] at hc
    rcases List.mem_cons.mp hc with h | h
    · exact .inl h
    · exact .inr (digs_all m c h)
theorem num_ne (n : Int) : tl ((toString n : String) : Str) ≠ [] := by
  obtain ⟨c, r, h, _⟩ := num_head n
  rw [show tl ((toString n : String) : Str) = c :: r from h]
  simp
/-! tones -/
theorem letter_tl (f : Int) : tl (letterOf f) = [letL.getD ((4 * f) % 7).toNat 0] := rfl
theorem letter_ix (f : Int) : ix (letL.getD ((4 * f) % 7).toNat 0) letL = some ((4 * f) % 7).toNat := by
  have : ((4 * f) % 7).toNat < 7 := by omega
  generalize ((4 * f) % 7).toNat = k at this
  have : k = 0 ∨ k = 1 ∨ k = 2 ∨ k = 3 ∨ k = 4 ∨ k = 5 ∨ k = 6 := by omega
  rcases this with rfl | rfl | rfl | rfl | rfl | rfl | rfl <;> rfl
theorem fif_of (f : Int) : fif ((4 * f) % 7).toNat = f - 7 * ((f + 1) / 7) := by
  have : ((4 * f) % 7) = 0 ∨ ((4 * f) % 7) = 1 ∨ ((4 * f) % 7) = 2 ∨ ((4 * f) % 7) = 3 ∨ ((4 * f) % 7) = 4 ∨ ((4 * f) % 7) = 5 ∨ ((4 * f) % 7) = 6 := by omega
  rcases this with h | h | h | h | h | h | h <;> rw [h] <;> (show (_ : Int) = _; simp [fif]; omega)
theorem marks_rep {n d : Nat} {l : Sg} (hd : d = 35 ∨ d = 98) (hl : ∀ c r, l = c :: r → c ≠ 35 ∧ c ≠ 98) : marks (List.replicate n d ++ l) = n := by
  cases n with
  | zero =>
    cases l with
    | nil => rfl
    | cons c r =>
      obtain ⟨h1, h2⟩ := hl c r rfl
      show (if c = 35 ∨ c = 98 then _ else 0) = 0
      rw [if_neg (by omega)]
  | succ n =>
    rw [List.replicate_succ, List.cons_append]
    show (if d = 35 ∨ d = 98 then ((d :: (List.replicate n d ++ l)).takeWhile fun c => c == d).length else 0) = n + 1
    rw [if_pos hd]
    have e : d :: (List.replicate n d ++ l) = List.replicate (n + 1) d ++ l := rfl
    rw [e, List.takeWhile_append_of_pos (by intro c hc; simpa using (List.mem_replicate.mp hc).2)]
    cases l with
    | nil => simp
    | cons c r =>
      obtain ⟨h1, h2⟩ := hl c r rfl
      rw [List.takeWhile_cons, if_neg (by simp; rcases hd with rfl | rfl <;> omega)]
      simp
theorem toneText_tl (t : Tone) : tl (toneText t) = letL.getD ((4 * t.1) % 7).toNat 0 :: (tl (marksOf t.1) ++ tl ((toString ((4 * t.1 + 7 * t.2) / 7) : String) : Str)) := by
  unfold toneText
  show (_ ++ _ : Str).cps.toList = _
  rw [cps_app, cps_app]
  rfl
theorem marks_tl (f : Int) : tl (marksOf f) = if 0 < (f + 1) / 7 then List.replicate ((f + 1) / 7).toNat 35 else List.replicate (-((f + 1) / 7)).toNat 98 := by
  unfold marksOf
  split
  · exact rep_one _ 35
  · exact rep_one _ 98
theorem read_tone {t : Tone} (h : TF t) : readT wholeP (tl (toneText t)) = some t := by
  obtain ⟨⟨h1, h2⟩, h3, h4⟩ := h
  have hb : Bg 64 ((4 * t.1 + 7 * t.2) / 7) := Bg.of (by omega)
  have hn := num_signs ((4 * t.1 + 7 * t.2) / 7)
  have hw := whole_num hb
  rw [toneText_tl, readT_two, letter_ix]
  simp only
  generalize tl ((toString ((4 * t.1 + 7 * t.2) / 7) : String) : Str) = ds at hn hw
  have hds : ∀ c r, ds = c :: r → c ≠ 35 ∧ c ≠ 98 := fun c r e => by
    have := hn c (by rw [e]; exact List.mem_cons_self)
    omega
  have key : ∀ (n d : Nat), (d = 35 ∨ d = 98) → tl (marksOf t.1) = List.replicate n d → (if d = 98 ∧ 0 < n then -(n : Int) else n) = (t.1 + 1) / 7 →
      (match wholeP ((tl (marksOf t.1) ++ ds).drop (marks (tl (marksOf t.1) ++ ds))) with
      | none => none
      | some oct => lim (fif ((4 * t.1) % 7).toNat + 7 * (if (tl (marksOf t.1) ++ ds).head? = some 98 then -(marks (tl (marksOf t.1) ++ ds) : Int) else marks (tl (marksOf t.1) ++ ds)), (7 * oct + (((4 * t.1) % 7).toNat : Int) - 4 * (fif ((4 * t.1) % 7).toNat + 7 * (if (tl (marksOf t.1) ++ ds).head? = some 98 then -(marks (tl (marksOf t.1) ++ ds) : Int) else marks (tl (marksOf t.1) ++ ds)))) / 7)) = some t := by
    intro n d hd hm hs
    rw [hm, marks_rep hd hds, List.drop_left' (by simp), hw]
    have hh : (if (List.replicate n d ++ ds).head? = some 98 then -(n : Int) else n) = (t.1 + 1) / 7 := by
      rw [← hs]
      cases n with
      | zero => simp
      | succ n =>
        rw [List.replicate_succ, List.cons_append, List.head?_cons]
        by_cases h98 : d = 98
        · rw [if_pos (by rw [h98]), if_pos ⟨h98, by omega⟩]
        · rw [if_neg (by simpa using h98), if_neg (fun z => h98 z.1)]
    simp only [hh, fif_of]
    have e1 : t.1 - 7 * ((t.1 + 1) / 7) + 7 * ((t.1 + 1) / 7) = t.1 := by omega
    rw [e1]
    have e2 : (7 * ((4 * t.1 + 7 * t.2) / 7) + (((4 * t.1) % 7).toNat : Int) - 4 * t.1) / 7 = t.2 := by omega
    rw [e2]
    unfold lim inB
    rw [if_pos (decide_eq_true ⟨⟨h1, h2⟩, h3, h4⟩)]
  have hm := marks_tl t.1
  by_cases hp : 0 < (t.1 + 1) / 7
  · rw [if_pos hp] at hm
    refine key _ 35 (.inl rfl) hm ?_
    rw [if_neg (by omega)]; omega
  · rw [if_neg hp] at hm
    refine key _ 98 (.inr rfl) hm ?_
    by_cases h0 : (t.1 + 1) / 7 = 0
    · rw [h0]; rfl
    · rw [if_pos ⟨rfl, by omega⟩]; omega
end K12
namespace K12
open MD L2 PySem Kit K03
/-! columns -/
theorem tl_app (a b : Str) : tl (a ++ b) = tl a ++ tl b := cps_app a b
theorem ent_back {e : Ent} (h : okEnt TF e) : entP (tl (entText e)) = some e := by
  cases e with
  | none => rfl
  | some p =>
    obtain ⟨t, b⟩ := p
    have ht := read_tone (h t b rfl)
    have hl : letL.getD ((4 * t.1) % 7).toNat 0 ∈ letL := by
      have : ((4 * t.1) % 7).toNat < 7 := by omega
      rw [List.getD_eq_getElem?_getD, List.getElem?_eq_getElem (show ((4 * t.1) % 7).toNat < letL.length from this)]
      exact List.getElem_mem _
    cases b with
    | true =>
      have e : tl (entText (some (t, true))) = tl (toneText t) := by
        show tl (("" : Str) ++ toneText t) = _
        rw [tl_app]; rfl
      rw [e]
      unfold entP
      rw [if_neg, if_neg, ht]; rfl
      · rw [toneText_tl]
        intro z
        simp only [List.head?_cons, Option.some.injEq] at z
        rw [z] at hl; revert hl; decide
      · rw [toneText_tl]
        intro z
        simp only [List.cons.injEq] at z
        rw [z.1] at hl; revert hl; decide
    | false =>
      have e : tl (entText (some (t, false))) = 126 :: tl (toneText t) := by
        show tl (("~" : Str) ++ toneText t) = _
        rw [tl_app]; rfl
      rw [e]
      unfold entP
      rw [if_neg (by simp), if_pos (by simp), List.tail_cons, ht]; rfl
theorem ents_back : ∀ {es : List Ent}, (∀ e ∈ es, okEnt TF e) → entsP ((es.map entText).map tl) = some es
  | [], _ => rfl
  | e :: r, h => by
    have ih := ents_back (es := r) fun x hx => h x (List.mem_cons_of_mem _ hx)
    show entsP (tl (entText e) :: (r.map entText).map tl) = _
    unfold entsP
    rw [ent_back (h e List.mem_cons_self), ih]
/-- the text of a duration -/
def durText (p : Int × Int) : Str := if p.2 = 1 then ((toString p.1 : String) : Str) else ((toString p.1 : String) : Str) ++ "/" ++ ((toString p.2 : String) : Str)
theorem firstText_eq (c : Col) : firstText c = durText c.dur ++ (if 0 < c.acc then ("!" : Str) ++ ((toString c.acc : String) : Str) else "") := rfl
theorem num_no {n : Int} {c : Nat} (h : c ≠ 45) (h2 : c < 48 ∨ 57 < c) : c ∉ tl ((toString n : String) : Str) := fun z => by
  have := num_signs n c z
  omega
theorem dur_signs (p : Int × Int) : ∀ c ∈ tl (durText p), c = 45 ∨ c = 47 ∨ (48 ≤ c ∧ c ≤ 57) := by
  intro c hc
  unfold durText at hc
  split at hc
  · have := num_signs _ c hc; omega
  · rw [tl_app, tl_app] at hc
    rcases List.mem_append.mp hc with hc | hc
    · rcases List.mem_append.mp hc with hc | hc
      · have := num_signs _ c hc; omega
      · have : c = 47 := by simpa using (show c ∈ ([47] : Sg) from hc)
        omega
    · have := num_signs _ c hc; omega
theorem dur_back {p : Int × Int} (h : okDur p) (hs : sml p) : durP (tl (durText p)) = some p := by
  obtain ⟨h1, h2, h3, h4, h5⟩ := h
  have hg : Int.gcd p.1 p.2 = 1 := by
    have : fr p.1 p.2 = p := h5
    rw [fr_pos h2] at this
    have e : p.2 / (Int.gcd p.1 p.2 : Int) = p.2 := congrArg Prod.snd this
    have e2 : (Int.gcd p.1 p.2 : Int) * (p.2 / (Int.gcd p.1 p.2 : Int)) = p.2 := Int.mul_ediv_cancel' (gcd_dvd_r p.1 p.2)
    rw [e] at e2
    have e3 : (Int.gcd p.1 p.2 : Int) * p.2 = 1 * p.2 := by rw [e2, Int.one_mul]
    have := Int.eq_of_mul_eq_mul_right (by omega) e3
    omega
  have hd : durOf (tl (durText p)) = some p := by
    unfold durOf durText
    by_cases h1' : p.2 = 1
    · rw [if_pos h1', cuts_none (num_no (by decide) (by omega))]
      simp only
      rw [whole_num h3]
      simp only
      rw [if_pos h1, ← h1']
    · rw [if_neg h1', tl_app, tl_app]
      rw [show tl ((toString p.1 : String) : Str) ++ tl ("/" : Str) ++ tl ((toString p.2 : String) : Str) = tl ((toString p.1 : String) : Str) ++ 47 :: tl ((toString p.2 : String) : Str) from by rw [List.append_assoc]; rfl]
      rw [cuts_app, cuts_none (num_no (by decide) (by omega)), cuts_none (num_no (by decide) (by omega))]
      simp only [List.cons_append, List.nil_append]
      rw [whole_num h3, whole_num h4]
      simp only
      rw [if_pos ⟨by omega, hg, h1⟩]
  unfold durP
  rw [hd]
  show (if p.1 ≤ 1000 ∧ p.2 ≤ 1000 then some p else none) = some p
  rw [if_pos (show p.1 ≤ 1000 ∧ p.2 ≤ 1000 from hs)]
theorem acc_one {a : Int} (h : 0 < a) (h2 : a ≤ 9) : tl ((toString a : String) : Str) = [48 + a.toNat] := by
  have : a = 1 ∨ a = 2 ∨ a = 3 ∨ a = 4 ∨ a = 5 ∨ a = 6 ∨ a = 7 ∨ a = 8 ∨ a = 9 := by omega
  rcases this with rfl | rfl | rfl | rfl | rfl | rfl | rfl | rfl | rfl <;> rfl
theorem first_cuts {c : Col} (h : 0 ≤ c.acc) (h2 : c.acc ≤ 9) : (cuts 33 (tl (firstText c))).headD [] = tl (durText c.dur) ∧ accP (cuts 33 (tl (firstText c))) = some c.acc := by
  have no : 33 ∉ tl (durText c.dur) := fun z => by
    have := dur_signs _ _ z
    omega
  rw [firstText_eq, tl_app]
  by_cases ha : 0 < c.acc
  · rw [if_pos ha]
    rw [show tl (durText c.dur) ++ tl (("!" : Str) ++ ((toString c.acc : String) : Str)) = tl (durText c.dur) ++ 33 :: tl ((toString c.acc : String) : Str) from by rw [tl_app]; rfl]
    rw [cuts_app, cuts_none no, acc_one ha h2, cuts_none (by simp; omega)]
    refine ⟨rfl, ?_⟩
    show (if 49 ≤ 48 + c.acc.toNat ∧ 48 + c.acc.toNat ≤ 57 then some (((48 + c.acc.toNat : Nat) : Int) - 48) else none) = _
    rw [if_pos ⟨by omega, by omega⟩]
    congr 1; omega
  · rw [if_neg ha, show tl (durText c.dur) ++ tl ("" : Str) = tl (durText c.dur) from List.append_nil _, cuts_none no]
    refine ⟨rfl, ?_⟩
    show some 0 = _
    congr 1; omega
/-- a word: not nothing, no space and no bar in it, not too long -/
def wordOk (w : Sg) : Prop := w ≠ [] ∧ 32 ∉ w ∧ 124 ∉ w ∧ w.length ≤ 400
theorem ent_word {e : Ent} (h : okEnt TF e) : wordOk (tl (entText e)) := by
  cases e with
  | none => exact ⟨by show ([45] : Sg) ≠ []; simp, by show 32 ∉ ([45] : Sg); simp, by show 124 ∉ ([45] : Sg); simp, by show 1 ≤ 400; decide⟩
  | some p =>
    obtain ⟨t, b⟩ := p
    obtain ⟨⟨h1, h2⟩, h3, h4⟩ := h t b rfl
    have hm := marks_tl t.1
    have hml : (tl (marksOf t.1)).length ≤ 150 := by rw [hm]; split <;> simp <;> omega
    have hnl : (tl ((toString ((4 * t.1 + 7 * t.2) / 7) : String) : Str)).length ≤ 21 := by rw [← len_cps]; exact int_len64 (Bg.of (by omega))
    have hns := num_signs ((4 * t.1 + 7 * t.2) / 7)
    have key : ∀ c ∈ tl (toneText t), c ≠ 32 ∧ c ≠ 124 := by
      rw [toneText_tl]
      intro c hc
      rcases List.mem_cons.mp hc with rfl | hc
      · have : letL.getD ((4 * t.1) % 7).toNat 0 ∈ letL := by
          have : ((4 * t.1) % 7).toNat < 7 := by omega
          rw [List.getD_eq_getElem?_getD, List.getElem?_eq_getElem (show ((4 * t.1) % 7).toNat < letL.length from this)]
          exact List.getElem_mem _
        revert this
        generalize letL.getD ((4 * t.1) % 7).toNat 0 = x
        intro hx
        simp [letL] at hx
        omega
      · rcases List.mem_append.mp hc with hc | hc
        · rw [hm] at hc
          split at hc
          · rw [(List.mem_replicate.mp hc).2]; decide
          · rw [(List.mem_replicate.mp hc).2]; decide
        · have := hns c hc; omega
    have hl : (tl (toneText t)).length ≤ 172 := by rw [toneText_tl, List.length_cons, List.length_append]; omega
    cases b with
    | true =>
      have e : tl (entText (some (t, true))) = tl (toneText t) := by
        show tl (("" : Str) ++ toneText t) = _
        rw [tl_app]; rfl
      rw [e]
      exact ⟨by rw [toneText_tl]; simp, fun z => (key _ z).1 rfl, fun z => (key _ z).2 rfl, by omega⟩
    | false =>
      have e : tl (entText (some (t, false))) = 126 :: tl (toneText t) := by
        show tl (("~" : Str) ++ toneText t) = _
        rw [tl_app]; rfl
      rw [e]
      refine ⟨by simp, fun z => ?_, fun z => ?_, by rw [List.length_cons]; omega⟩
      · rcases List.mem_cons.mp z with z | z
        · omega
        · exact (key _ z).1 rfl
      · rcases List.mem_cons.mp z with z | z
        · omega
        · exact (key _ z).2 rfl
theorem first_word {c : Col} (hd : okDur c.dur) (h : 0 ≤ c.acc) (h2 : c.acc ≤ 9) : wordOk (tl (firstText c)) := by
  obtain ⟨d1, d2, d3, d4, d5⟩ := hd
  have n1 : (tl ((toString c.dur.1 : String) : Str)).length ≤ 21 := by rw [← len_cps]; exact int_len64 d3
  have n2 : (tl ((toString c.dur.2 : String) : Str)).length ≤ 21 := by rw [← len_cps]; exact int_len64 d4
  have dl : (tl (durText c.dur)).length ≤ 43 ∧ tl (durText c.dur) ≠ [] := by
    unfold durText
    split
    · exact ⟨by omega, num_ne _⟩
    · rw [tl_app, tl_app]
      refine ⟨?_, fun z => num_ne c.dur.1 (List.append_eq_nil_iff.mp (List.append_eq_nil_iff.mp z).1).1⟩
      rw [List.length_append, List.length_append]
      show _ + 1 + _ ≤ 43
      omega
  have ds := dur_signs c.dur
  rw [firstText_eq, tl_app]
  by_cases ha : 0 < c.acc
  · rw [if_pos ha]
    rw [show tl (("!" : Str) ++ ((toString c.acc : String) : Str)) = 33 :: tl ((toString c.acc : String) : Str) from by rw [tl_app]; rfl, acc_one ha h2]
    refine ⟨by simp, fun z => ?_, fun z => ?_, by rw [List.length_append]; show _ + 2 ≤ 400; omega⟩
    · rcases List.mem_append.mp z with z | z
      · have := ds _ z; omega
      · simp at z; omega
    · rcases List.mem_append.mp z with z | z
      · have := ds _ z; omega
      · simp at z; omega
  · rw [if_neg ha, show tl (durText c.dur) ++ tl ("" : Str) = tl (durText c.dur) from List.append_nil _]
    exact ⟨dl.2, fun z => by have := ds _ z; omega, fun z => by have := ds _ z; omega, by omega⟩
theorem cell_words {v : Nat} {c : Col} (h : okC v c) : ∀ w ∈ cellW c, wordOk (tl w) := by
  obtain ⟨⟨hd, a1, a2, _, he⟩, _⟩ := h
  intro w hw
  rcases List.mem_cons.mp hw with rfl | hw
  · exact first_word hd a1 a2
  · obtain ⟨e, hm, rfl⟩ := List.mem_map.mp hw
    exact ent_word (he e hm)
theorem col_back {v : Nat} {c : Col} (h : okC v c) (hv : 1 ≤ v ∧ v ≤ 4) : colP ((cellW c).map tl) = some c := by
  obtain ⟨⟨hd, a1, a2, hl, he⟩, hs⟩ := h
  obtain ⟨f1, f2⟩ := first_cuts a1 a2
  unfold colP
  rw [if_neg (fun z => z ⟨by simp [cellW]; omega, by simp [cellW]; omega⟩)]
  show (match durP ((cuts 33 (tl (firstText c))).headD []), accP (cuts 33 (tl (firstText c))), entsP ((c.es.map entText).map tl) with
    | some d, some a, some es => some (⟨d, a, es⟩ : Col)
    | _, _, _ => none) = some c
  rw [f1, f2, dur_back hd hs, ents_back he]
end K12
namespace K12
open MD L2 PySem Kit K03
/-! the law's heap: the pool, and cells of one's own behind the cells that were there -/
structure Own (p : Nat) (M M' : MH) : Prop where
  le : M.length ≤ M'.length
  st : Kit.Step p M (M'.take M.length)
theorem Own.refl {p : Nat} {M : MH} (h : Pool M p) : Own p M M := ⟨Nat.le_refl _, by rw [List.take_length]; exact ⟨⟨M[p]'h.lt, by simp⟩, h⟩⟩
theorem Own.lt {p : Nat} {M M' : MH} (h : Own p M M') : p < M.length := by
  have := h.st.2.lt
  rw [h.st.length] at this; exact this
theorem Own.pool {p : Nat} {M M' : MH} (h : Own p M M') : Pool M' p := h.st.2.of_eq (by rw [List.getElem?_take_of_lt h.lt])
theorem Own.step {p : Nat} {M M' M2 : MH} (h : Own p M M') (k : Kit.Step p M' M2) : Own p M M2 := ⟨by rw [k.length]; exact h.le, h.st.trans (k.cut h.lt)⟩
theorem Own.add {p : Nat} {M M' : MH} {c : Cell} (h : Own p M M') : Own p M (M' ++ [c]) := ⟨by rw [List.length_append]; exact Nat.le_trans h.le (Nat.le_add_right _ _), by rw [List.take_append_of_le_length h.le]; exact h.st⟩
theorem Own.set {p i : Nat} {M M' : MH} {c : Cell} (h : Own p M M') (hi : M.length ≤ i) : Own p M (M'.set i c) := ⟨by rw [List.length_set]; exact h.le, by rw [List.take_set_of_le hi]; exact h.st⟩
theorem Own.pop {p : Nat} {M M' : MH} {d : D} (h : Own p M M') (hM : WFM M) (hd : d.bel M.length = true) : Kit.Step p M (popM M.length d M') := by
  rw [pop_own hM h.st hd]
  exact h.st
/-! the parts of a text -/
def PartR (p : Sg) (c : Col) : Prop := wordsP p = (cellW c).map tl
theorem barGo_back {v : Nat} (hv : 1 ≤ v ∧ v ≤ 4) : ∀ (ps : List Sg) (cs : List Col) (b : Nat) (vo : Option Nat), RelL PartR ps cs → (∀ c ∈ cs, okC v c) → (vo = none ∨ vo = some v) → barGo vo b ps = .inr cs
  | [], [], _, _, _, _, _ => rfl
  | p :: ps, c :: cs, b, vo, h, hc, ho => by
    have okc := hc c List.mem_cons_self
    have ih := barGo_back hv ps cs (b + p.length + 1) (some v) h.2 (fun x hx => hc x (List.mem_cons_of_mem _ hx)) (.inr rfl)
    have hlen : c.es.length = v := okc.1.2.2.2.1
    unfold barGo
    rw [show wordsP p = (cellW c).map tl from h.1, col_back okc hv]
    simp only
    rw [hlen, if_neg (by rcases ho with rfl | rfl <;> simp), show vo.getD v = v from by rcases ho with rfl | rfl <;> rfl, ih]
theorem parts_ok {v : Nat} {ps : List Sg} : ∀ {cs : List Col}, RelL PartR ps cs → (∀ c ∈ cs, okC v c) → ∀ p ∈ ps, ∀ w ∈ cuts 32 p, w.length ≤ 1000 := by
  intro cs h hc p hp
  obtain ⟨c, hcm, hr⟩ := RelL.mem h hp
  refine cut_len (n := 1000) fun w hw => ?_
  rw [show wordsP p = (cellW c).map tl from hr] at hw
  obtain ⟨x, hx, rfl⟩ := List.mem_map.mp hw
  have := (cell_words (hc c hcm) x hx).2.2.2
  omega
/-- the text of the first columns -/
def Laid (l : Sg) (cs : List Col) : Prop := (cs = [] ∧ l = []) ∨ (cs ≠ [] ∧ RelL PartR (cuts 124 l) cs)
theorem RelL.snoc {α β : Type} {R : α → β → Prop} {x : α} {y : β} : ∀ {xs : List α} {ys : List β}, RelL R xs ys → R x y → RelL R (xs ++ [x]) (ys ++ [y])
  | [], [], _, h => ⟨h, trivial⟩
  | _ :: _, _ :: _, h, k => ⟨h.1, RelL.snoc h.2 k⟩
/-- one more part -/
theorem Laid.add {l r : Sg} {cs : List Col} {c : Col} (h : Laid l cs) (h2 : 124 ∉ r) (h3 : PartR r c) : Laid (l ++ (if cs = [] then [] else [124]) ++ r) (cs ++ [c]) := by
  refine .inr ⟨by simp, ?_⟩
  rcases h with ⟨rfl, rfl⟩ | ⟨hne, hr⟩
  · rw [if_pos rfl]
    show RelL PartR (cuts 124 r) [c]
    rw [cuts_none h2]
    exact ⟨h3, trivial⟩
  · rw [if_neg hne, List.append_assoc]
    show RelL PartR (cuts 124 (l ++ 124 :: r)) _
    rw [cuts_app, cuts_none h2]
    exact RelL.snoc hr h3
theorem pad_tl (n : Nat) : tl (strRep " " (n : Int)) = List.replicate n 32 := by
  have := rep_one (n : Int) 32
  rw [show ((n : Int)).toNat = n from Int.toNat_natCast n] at this
  exact this
theorem words_more {r w : Sg} {k : Nat} (h : w ≠ []) (h2 : 32 ∉ w) : wordsP (r ++ 32 :: (List.replicate k 32 ++ w)) = wordsP r ++ [w] := by
  rw [words_app, words_pad, words_one h h2]
theorem math__law_spaced (ds M Q E) (hM : WFM M) (hb : D.belL M.length ds = true) (h : sp__law_spaced ds M Q E) : r__law_spaced (retE M.length Q E) (startD N__law_spaced ds) M := by
  obtain ⟨p, v, cs, rfl, hp, ⟨⟨hc1, hc2⟩, hv, hok⟩, q⟩ := h
  unfold r__law_spaced
  refine seq_step fun S hS => ?_
  simp [startD]
  subst hS
  refine seq_step fun S hS => ?_
  unfold barD at *
  simp
  refine ⟨by omega, ?_⟩
  have hpl := hp.lt
  have tf5 : ∀ c ∈ cs, okCol T5 v c := fun c hc => okCol_mono (hok c hc).1 fun t => tf_t5
  refine forR_ind (fun i δ M' => ∃ (l : Str) (a b c : Option D), δ = [some (.ref p), some (.tup (cs.map colD)), some (.str l), a, b, c] ∧ Own p M M' ∧ Laid (tl l) (cs.take i) ∧ l.length ≤ i * 5000) ?_ ?_ ⟨_, none, none, none, rfl, Own.refl hp, .inl ⟨by simp, rfl⟩, Nat.zero_le _⟩
  · rintro δ M' ⟨l, a, b, c, rfl, ho, hl, hll⟩
    refine ⟨trivial, ?_⟩
    show S _ _ _
    subst hS
    simp
    rw [List.take_length] at hl
    have hne : cs ≠ [] := by intro z; rw [z] at hc1; simp at hc1
    rcases hl with ⟨z, _⟩ | ⟨_, hr⟩
    · exact absurd z hne
    have hml : l.length ≤ 640000 := by
      have : cs.length * 5000 ≤ 128 * 5000 := Nat.mul_le_mul_right _ hc2
      omega
    exact q l _ (by omega) (parts_ok hr hok) (barGo_back hv _ cs 0 none hr hok (.inl rfl)) (ho.pop hM rfl)
  · rintro i δ M' F hi ⟨l, a, b, c0, rfl, ho, hl, hll⟩ hF
    refine ⟨trivial, ?_⟩
    have hci : cs[i]? = some cs[i] := List.getElem?_eq_getElem hi
    generalize hcd : cs[i] = c at hci
    have hcm : c ∈ cs := List.mem_of_getElem? hci
    have hat : atI (cs.map colD) (i : Int) = some (colD c) := at_nat (by rw [List.getElem?_map, hci]; rfl)
    have okc := hok c hcm
    have hlen : c.es.length = v := okc.1.2.2.2.1
    have cw := cell_words okc
    have hml : l.length ≤ 640000 := by
      have : i * 5000 ≤ 128 * 5000 := Nat.mul_le_mul_right _ (by omega)
      omega
    refine seq_step fun S2 hS2 => ?_
    simp [hat]
    refine ⟨c, v, rfl, hv.2, tf5 c hcm, ?_⟩
    generalize hJ : M'.length = J
    have ho1 : Own p M (M' ++ [.lst ((cellW c).map D.str)]) := ho.add
    have hJl : M.length ≤ J := by rw [← hJ]; exact ho.le
    have hw0 : (M' ++ [Cell.lst ((cellW c).map D.str)])[J]? = some (.lst ((cellW c).map D.str)) := by rw [← hJ]; exact get_last M' _
    generalize M' ++ [Cell.lst ((cellW c).map D.str)] = M1 at ho1 hw0
    subst hS2
    refine seq_step fun S2 hS2 => ?_
    -- behind the bar and the first pad
    have body : ∀ (l1 : Str) (n : Nat) M2, tl l1 = tl l ++ (if i = 0 then [] else [124]) ++ List.replicate n 32 → n ≤ 5 → Kit.Step p M1 M2 →
        S2 { nx := F, rt := (retE M.length Q E).rt, bk := S (retE M.length Q E), ct := F, ex := (retE M.length Q E).ex } [some (.ref p), some (.tup (cs.map colD)), some (.str l1), some (.int (i : Int)), some (.ref J), c0] M2 := by
      intro l1 n M2 hl1 hn st2
      have ho2 := ho1.step st2
      have hw2 : M2[J]? = some (.lst ((cellW c).map D.str)) := by rw [st2.other (by omega)]; exact hw0
      subst hS2
      refine seq_step fun S2 hS2 => ?_
      simp [lstOf_ref hw2]
      have hlW : (cellW c).length = v + 1 := by simp [cellW, hlen]
      refine ⟨by omega, ?_⟩
      refine forR_ind (fun j δ M' => ∃ (l' : Str) (r : Sg) (e : Option D), δ = [some (.ref p), some (.tup (cs.map colD)), some (.str l'), some (.int (i : Int)), some (.ref J), e] ∧ Own p M M' ∧ M'[J]? = some (.lst ((cellW c).map D.str)) ∧
        tl l' = tl l ++ (if i = 0 then [] else [124]) ++ r ∧ 124 ∉ r ∧ (j = 0 → ∃ n, r = List.replicate n 32) ∧ (0 < j → wordsP r = ((cellW c).take j).map tl) ∧ r.length ≤ 5 + j * 410) ?_ ?_
        ⟨l1, _, c0, rfl, ho2, hw2, hl1, by simp, fun _ => ⟨n, rfl⟩, fun z => absurd z (Nat.lt_irrefl 0), by simp; omega⟩
      · rintro δ M3 ⟨l', r, e, rfl, ho3, hw3, hl', hr1, _, hr3, hr4⟩
        refine ⟨trivial, ?_⟩
        show S2 _ _ _
        have hwr := hr3 (by omega)
        rw [List.take_length] at hwr
        have hrl : r.length ≤ 2055 := by rw [hlW] at hr4; omega
        have hl2 : l'.length ≤ l.length + 1 + r.length := by
          rw [len_cps, show l'.cps.toList = _ from hl', List.length_append, List.length_append, len_cps l]
          split <;> simp
        subst hS2
        simp
        refine ⟨p, rfl, ho3.pool, fun k M4 hk st4 => ?_⟩
        have hk2 : (strRep (Str.ofString " ") (k : Int)).length = k := by rw [len_cps, show (strRep (Str.ofString " ") (k : Int)).cps.toList = List.replicate k 32 from pad_tl k, List.length_replicate]
        refine ⟨by rw [hk2, hz]; omega, hF _ _ ⟨_, _, _, _, rfl, ho3.step st4, ?_, ?_⟩⟩
        · have tk : cs.take (i + 1) = cs.take i ++ [c] := by rw [List.take_add_one, hci]; rfl
          have ce : (cs.take i = []) ↔ i = 0 := by
            rw [List.take_eq_nil_iff]
            constructor
            · rintro (z | z)
              · exact z
              · rw [z] at hc1; simp at hc1
            · exact fun z => .inl z
          have := hl.add (r := r ++ List.replicate k 32) (c := c) (by
            intro z
            rcases List.mem_append.mp z with z | z
            · exact hr1 z
            · have := (List.mem_replicate.mp z).2
              omega) (by show wordsP _ = _; rw [words_behind]; exact hwr)
          rw [tk, tl_app, hl', show tl (strRep (Str.ofString " ") (k : Int)) = List.replicate k 32 from pad_tl k]
          have ie : (if cs.take i = [] then ([] : Sg) else [124]) = (if i = 0 then [] else [124]) := by
            by_cases h0 : i = 0
            · rw [if_pos h0, if_pos (ce.mpr h0)]
            · rw [if_neg h0, if_neg (fun z => h0 (ce.mp z))]
          rw [ie] at this
          simpa [List.append_assoc] using this
        · rw [str_len_app, hk2]; omega
      · rintro j δ M3 F3 hj ⟨l', r, e, rfl, ho3, hw3, hl', hr1, hr2, hr3, hr4⟩ hF3
        refine ⟨trivial, ?_⟩
        have hwj : (cellW c)[j]? = some (cellW c)[j] := List.getElem?_eq_getElem hj
        generalize hwd : (cellW c)[j] = w at hwj
        have hwm : w ∈ cellW c := List.mem_of_getElem? hwj
        obtain ⟨w1, w2, w3, w4⟩ := cw w hwm
        have hwl : w.length ≤ 400 := by rw [len_cps]; exact w4
        have hatw : ∀ M' : MH, M'[J]? = some (.lst ((cellW c).map D.str)) → lstOf (.ref J) M' = some ((cellW c).map D.str) := fun M' h => lstOf_ref h
        have hat2 : atI ((cellW c).map D.str) (j : Int) = some (.str w) := at_nat (by rw [List.getElem?_map, hwj]; rfl)
        have tkw : ((cellW c).take (j + 1)).map tl = ((cellW c).take j).map tl ++ [tl w] := by rw [List.take_add_one, hwj]; simp
        have hrl : r.length ≤ 2055 := by
          have : j * 410 ≤ 4 * 410 := Nat.mul_le_mul_right _ (by omega)
          omega
        have hl2 : l'.length ≤ l.length + 1 + r.length := by
          rw [len_cps, show l'.cps.toList = _ from hl', List.length_append, List.length_append, len_cps l]
          split <;> simp
        by_cases hj0 : j = 0
        · subst hj0
          obtain ⟨n0, rfl⟩ := hr2 rfl
          have e0 : (Str.ofString "").length = 0 := rfl
          simp [hatw _ hw3]
          refine ⟨by rw [e0, hz]; omega, _, hat2, ?_⟩
          have e2 : (l' ++ Str.ofString "").length = l'.length := by rw [str_len_app, e0]; omega
          refine ⟨by rw [e2, hz]; omega, hF3 _ _ ⟨_, List.replicate n0 32 ++ tl w, _, rfl, ho3, hw3, ?_, ?_, nofun, fun _ => ?_, ?_⟩⟩
          · rw [tl_app, tl_app, hl', show tl (Str.ofString "") = ([] : Sg) from rfl]
            simp [List.append_assoc]
          · intro z
            rcases List.mem_append.mp z with z | z
            · exact hr1 z
            · exact w3 z
          · rw [words_pad, words_one w1 w2, tkw]
            rfl
          · rw [List.length_append]
            omega
        · have hjp : 0 < j := by omega
          have e1 : (Str.ofString " ").length = 1 := rfl
          simp [hjp]
          refine ⟨p, rfl, ho3.pool, fun k M4 hk st4 => ?_⟩
          have hw4 : M4[J]? = some (.lst ((cellW c).map D.str)) := by rw [st4.other (by omega)]; exact hw3
          have hkt : tl (strRep (Str.ofString " ") (k : Int)) = List.replicate k 32 := pad_tl k
          have hk2 : (strRep (Str.ofString " ") (k : Int)).length = k := by rw [len_cps, show (strRep (Str.ofString " ") (k : Int)).cps.toList = List.replicate k 32 from hkt, List.length_replicate]
          have hk3 : (Str.ofString " " ++ strRep (Str.ofString " ") (k : Int)).length = 1 + k := by rw [str_len_app, e1, hk2]
          refine ⟨by rw [e1, hk2, hz]; omega, ?_⟩
          refine ⟨by rw [hk3, hz]; omega, _, hatw _ hw4, _, hat2, ?_⟩
          refine ⟨by rw [str_len_app, hk3, hz]; omega, hF3 _ _ ⟨_, r ++ 32 :: (List.replicate k 32 ++ tl w), _, rfl, ho3.step st4, hw4, ?_, ?_, fun z => absurd z (by omega), fun _ => ?_, ?_⟩⟩
          · rw [tl_app, tl_app, tl_app, hl', hkt, show tl (Str.ofString " ") = ([32] : Sg) from rfl]
            simp [List.append_assoc]
          · intro z
            rcases List.mem_append.mp z with z | z
            · exact hr1 z
            · rcases List.mem_cons.mp z with z | z
              · omega
              · rcases List.mem_append.mp z with z | z
                · have := (List.mem_replicate.mp z).2; omega
                · exact w3 z
          · rw [words_more w1 w2, hr3 hjp, tkw]
          · rw [List.length_append, List.length_cons, List.length_append, List.length_replicate]
            omega
    have bar : ∀ x : Str, tl x = tl l ++ (if i = 0 then [] else [124]) → x.length ≤ 650000 → sp__law_pad [.ref p] M1 (fun y M2 => oAdd false (.str x) y M2 fun d M3 =>
        S2 { nx := F, rt := (retE M.length Q E).rt, bk := S (retE M.length Q E), ct := F, ex := (retE M.length Q E).ex } [some (.ref p), some (.tup (cs.map colD)), some d, some (.int (i : Int)), some (.ref J), c0] M3) (fun x M1 => E x (popX M.length x M1)) := by
      intro x hx hxl
      refine ⟨p, rfl, ho1.pool, fun k M2 hk st2 => ?_⟩
      have hk2 : (strRep " " (k : Int)).length = k := by rw [len_cps, show (strRep " " (k : Int)).cps.toList = List.replicate k 32 from pad_tl k, List.length_replicate]
      refine ⟨by rw [show (strRep (Str.ofString " ") (k : Int)).length = k from hk2, hz]; omega, body _ k M2 ?_ hk st2⟩
      rw [tl_app, hx, show tl (strRep (Str.ofString " ") (k : Int)) = List.replicate k 32 from pad_tl k]
    have e1 : (Str.ofString "|").length = 1 := rfl
    have e0 : (Str.ofString "").length = 0 := rfl
    by_cases h0 : i = 0
    · simp [h0]
      subst h0
      refine ⟨by rw [e0, hz]; omega, ?_⟩
      refine bar _ ?_ ?_
      · rw [tl_app, if_pos rfl]; rfl
      · rw [str_len_app, e0]; omega
    · have : 0 < i := by omega
      simp [this]
      refine ⟨by rw [e1, hz]; omega, ?_⟩
      refine bar _ ?_ ?_
      · rw [tl_app, if_neg h0]; rfl
      · rw [str_len_app, e1]; omega
end K12
namespace K12
open MD L2 PySem Kit K03
theorem near_tf {t : Tone} (h : Near t) : TF t := by
  obtain ⟨h1, h2, h3, h4⟩ := h
  exact ⟨⟨by omega, by omega⟩, by omega, by omega⟩
/-- columns one behind another: for k in range(N): found = found + (_law_column(pool, voices, found[-1] if found else None, some),) -/
theorem cols_for {T : Tone → Prop} {p v N : Nat} {M : MH} {xs : List Tone} {DD : Ends'} {pre : List Col → Option D → EnvD} {vp vv vf vs vk : Nat}
    (hv : v ≤ 4) (hN : N ≤ 1000) (hne : xs ≠ []) (hlen : xs.length ≤ 1000) (hT : ∀ t ∈ xs, T t)
    (gp : ∀ cs a, (pre cs a)[vp]? = some (some (.ref p))) (gv : ∀ cs a, (pre cs a)[vv]? = some (some (.int (v : Int)))) (gs : ∀ cs a, (pre cs a)[vs]? = some (some (.lst (xs.map MD.prD)))) (gf : ∀ cs a, (pre cs a)[vf]? = some (some (.tup (cs.map colD))))
    (gk : ∀ cs a (i : Nat), (pre cs a).set vk (some (.int (i : Int))) = pre cs (some (.int (i : Int)))) (gset : ∀ cs a ds c, ds = cs.map colD ++ [colD c] → (pre cs a).set vf (some (.tup ds)) = pre (cs ++ [c]) a)
    (hp : Pool M p) (hend : ∀ cs a M', cs.length = N → (∀ c ∈ cs, okCol T v c ∧ sml c.dur) → Kit.Step p M M' → DD.nx (pre cs a) M') (a0 : Option D) :
    forL ⟨rangeD 0 N, none⟩ (gName' vk) (tAsg' (tOp' (oAdd false) (tVar' vf) (tTup' (tCons' (tCall' sp__law_column (tCons' (tVar' vp) (tCons' (tVar' vv) (tCons' (tIf' (tTru' (tVar' vf)) (tOp' oIx (tVar' vf) (tUn' oNeg (tC' (.int 1)))) (tC' .non)) (tCons' (tVar' vs) tNil'))))) tNil'))) (gName' vf))
      DD (rangeD 0 N) (pre [] a0) M := by
  have st0 : Kit.Step p M M := ⟨⟨M[p]'hp.lt, by simp⟩, hp⟩
  refine forR_ind (fun i δ M' => ∃ (cs : List Col) (a : Option D), δ = pre cs a ∧ cs.length = i ∧ (∀ c ∈ cs, okCol T v c ∧ sml c.dur) ∧ Kit.Step p M M') ?_ ?_ ⟨[], a0, rfl, rfl, nofun, st0⟩
  · rintro δ M' ⟨cs, a, rfl, hl, hc, st⟩
    exact ⟨trivial, hend cs a M' hl hc st⟩
  · rintro i δ M' F hi ⟨cs, a, rfl, hl, hc, st⟩ hF
    refine ⟨trivial, ?_⟩
    simp
    rw [gk]
    have go : ∀ before, (before = .non ∨ ∃ c, before = colD c ∧ okCol T v c) → sp__law_column [.ref p, .int v, before, .lst (xs.map MD.prD)] M' (fun d M1 => 1 ≤ sizeLine ∧ cs.length + 1 ≤ sizeLine ∧ F ((pre cs (some (.int (i : Int)))).set vf (some (.tup (cs.map colD ++ [d])))) M1) (fun x M1 => DD.ex x (pre cs (some (.int (i : Int)))) M1) := by
      intro before hbe
      refine ⟨T, p, v, before, _, xs, rfl, st.2, by omega, hbe, rfl, hne, by omega, hT, fun c M5 hc1 hc2 k5 => ?_⟩
      refine ⟨by decide, by rw [hz]; omega, ?_⟩
      rw [gset _ _ _ c rfl]
      refine hF _ _ ⟨cs ++ [c], _, rfl, by simp [hl], ?_, st.trans k5⟩
      intro x hx
      rcases List.mem_append.mp hx with hx | hx
      · exact hc x hx
      · rw [List.mem_singleton.mp hx]; exact ⟨hc1, hc2⟩
    simp [gp, gv, gs, gf]
    by_cases he : cs = []
    · rw [if_pos he]
      exact go _ (.inl rfl)
    · rw [if_neg he]
      exact ⟨_, last_map colD he, go _ (.inr ⟨_, rfl, (hc _ (List.getLast_mem he)).1⟩)⟩
theorem math__law_far_bar (ds M Q E) (hM : WFM M) (hb : D.belL M.length ds = true) (h : sp__law_far_bar ds M Q E) : r__law_far_bar (retE M.length Q E) (startD N__law_far_bar ds) M := by
  obtain ⟨p, v, rfl, hp, hv1, hv4, q⟩ := h
  have hpl := hp.lt
  unfold r__law_far_bar
  refine seq_step fun S hS => ?_
  simp [startD]
  refine ⟨p, 3, rfl, by decide, by decide, hp, fun r1 M1 a1 b1 c1 => ?_⟩
  simp
  by_cases h0 : 0 < r1
  · rw [if_pos h0]
    refine ⟨p, v, 9, rfl, c1.2, by omega, by decide, by decide, fun cs M2 hne hl hc c2 => ?_⟩
    show Q _ (popM _ _ _)
    have c5 := c1.trans c2
    rw [popM_same (by rw [c5.length]; exact Nat.le_refl _)]
    refine q cs M2 ⟨⟨List.length_pos_iff.mpr hne, by have : cs.length ≤ 9 := hl; omega⟩, ⟨hv1, hv4⟩, fun c h => ⟨okCol_mono (hc c h).1 fun t => near_tf, (hc c h).2⟩⟩ c5
  · rw [if_neg h0]
    subst hS
    refine seq_step fun S hS => ?_
    simp
    refine lcI_from (fun i acc M' => Kit.Step p M M' ∧ ∃ xs : List Tone, acc = xs.map MD.prD ∧ xs.length = i ∧ ∀ t ∈ xs, TF t) ?_ ?_ ⟨c1, [], rfl, rfl, nofun⟩
    · rintro acc M2 ⟨s2, xs, rfl, hl, hxs⟩
      rw [rangeD_length] at hl
      refine ⟨trivial, ?_⟩
      show S _ _ _
      have hne : xs ≠ [] := by intro z; rw [z] at hl; simp at hl
      subst hS
      refine seq_step fun S hS => ?_
      simp
      subst hS
      refine seq_step fun S hS => ?_
      simp
      refine ⟨by rw [hz]; decide, p, _, _, rfl, s2.2, nofun, rfl, fun _ _ => rfl, by simp, by decide, fun d M3 hd c3 => ?_⟩
      have s3 := s2.trans c3
      have fin : ∀ n : Nat, d = .int (n : Int) → 1 ≤ n → n ≤ 64 → ∃ j : Int, d = .int j ∧ -4611686018427387904 ≤ j ∧ j < 4611686018427387904 ∧ forL ⟨rangeD 0 j.toNat, none⟩ (gName' 4) (tAsg' (tOp' (oAdd false) (tVar' 3) (tTup' (tCons' (tCall' sp__law_column (tCons' (tVar' 0) (tCons' (tVar' 1) (tCons' (tIf' (tTru' (tVar' 3)) (tOp' oIx (tVar' 3) (tUn' oNeg (tC' (.int 1)))) (tC' .non)) (tCons' (tVar' 2) tNil'))))) tNil'))) (gName' 3))
          { nx := S (retE M.length Q E), rt := (retE M.length Q E).rt, bk := (retE M.length Q E).bk, ct := (retE M.length Q E).ct, ex := (retE M.length Q E).ex } (rangeD 0 j.toNat) [some (.ref p), some (.int (v : Int)), some (.lst (xs.map MD.prD)), some (.tup []), none] M3 := by
        intro n hn h1 h2
        refine ⟨n, hn, by omega, by omega, ?_⟩
        rw [Int.toNat_natCast]
        refine cols_for (T := TF) (pre := fun cs a => [some (.ref p), some (.int (v : Int)), some (.lst (xs.map MD.prD)), some (.tup (cs.map colD)), a]) hv4 (by omega) hne (by omega) hxs (fun _ _ => rfl) (fun _ _ => rfl) (fun _ _ => rfl) (fun _ _ => rfl) (fun _ _ _ => rfl) (fun cs a ds c e => by rw [e]; simp) s3.2 ?_ none
        intro cs a M4 hl4 hc4 s4
        show S _ _ _
        have s5 := s3.trans s4
        subst hS
        simp
        rw [popM_same (by rw [s5.length]; exact Nat.le_refl _)]
        exact q cs M4 ⟨⟨by omega, by omega⟩, ⟨hv1, hv4⟩, hc4⟩ s5
      simp only [List.mem_cons, List.not_mem_nil, or_false] at hd
      rcases hd with rfl | rfl | rfl | rfl | rfl
      · simpa using fin 1 rfl (by omega) (by omega)
      · simpa using fin 2 rfl (by omega) (by omega)
      · simpa using fin 5 rfl (by omega) (by omega)
      · simpa using fin 63 rfl (by omega) (by omega)
      · simpa using fin 64 rfl (by omega) (by omega)
    · rintro i d acc M2 F hd ⟨s2, xs, rfl, hl, hxs⟩ hF
      have hi : i < 5 := by have := (List.getElem?_eq_some_iff.mp hd).1; rwa [rangeD_length] at this
      refine ⟨trivial, ?_⟩
      simp [wipeD]
      refine ⟨p, rfl, s2.2, fun f o M3 hf ho k3 => ?_⟩
      simp
      refine ⟨by rw [hz]; omega, hF _ _ ⟨s2.trans k3, xs ++ [(f, o)], by rw [List.map_append]; rfl, by simp [hl], ?_⟩⟩
      intro t ht
      rcases List.mem_append.mp ht with ht | ht
      · exact hxs t ht
      · rw [List.mem_singleton.mp ht]; exact ⟨hf, ho⟩
end K12
namespace K12
open MD L2 PySem Kit K03
/-! words joined by one space -/
theorem join_tl (ws : List Str) : tl (Txt.join (Str.ofString " ") ws) = TL.joinL [32] (ws.map tl) := by
  rw [TL.join_eq]
  exact TL.tl_join (Str.ofString " ") ws
theorem words_join : ∀ ws : List Sg, wordsP (TL.joinL [32] ws) = (ws.map wordsP).flatten
  | [] => rfl
  | [w] => by show wordsP w = _; simp
  | w :: w2 :: r => by
    show wordsP (w ++ ([32] ++ TL.joinL [32] (w2 :: r))) = _
    rw [show [32] ++ TL.joinL [32] (w2 :: r) = 32 :: TL.joinL [32] (w2 :: r) from rfl, words_app, words_join (w2 :: r)]
    simp
theorem join_mem {c : Nat} : ∀ {ws : List Sg}, c ∈ TL.joinL [32] ws → c = 32 ∨ ∃ w ∈ ws, c ∈ w
  | [], h => by cases h
  | [w], h => .inr ⟨w, List.mem_cons_self, h⟩
  | w :: w2 :: r, h => by
    have h : c ∈ w ++ ([32] ++ TL.joinL [32] (w2 :: r)) := h
    rcases List.mem_append.mp h with h | h
    · exact .inr ⟨w, List.mem_cons_self, h⟩
    · rcases List.mem_append.mp h with h | h
      · exact .inl (by simpa using h)
      · rcases join_mem h with h | ⟨x, hx, h⟩
        · exact .inl h
        · exact .inr ⟨x, List.mem_cons_of_mem _ hx, h⟩
theorem join_len {n : Nat} : ∀ {ws : List Sg}, (∀ w ∈ ws, w.length ≤ n) → (TL.joinL [32] ws).length ≤ ws.length * (n + 1)
  | [], _ => by simp [TL.joinL]
  | [w], h => by
    have := h w List.mem_cons_self
    show w.length ≤ 1 * (n + 1)
    omega
  | w :: w2 :: r, h => by
    have h1 := h w List.mem_cons_self
    have ih := join_len (ws := w2 :: r) fun x hx => h x (List.mem_cons_of_mem _ hx)
    show (w ++ ([32] ++ TL.joinL [32] (w2 :: r))).length ≤ _
    rw [List.length_append, List.length_append, List.length_cons (a := w)]
    have : ((w2 :: r).length + 1) * (n + 1) = (w2 :: r).length * (n + 1) + (n + 1) := by rw [Nat.add_mul]; omega
    rw [this]
    show _ + (1 + _) ≤ _
    omega
theorem join_head {w : Sg} {ws : List Sg} (h : w ≠ []) : (TL.joinL [32] (w :: ws)).head? = w.head? := by
  cases ws with
  | nil => rfl
  | cons w2 r =>
    show (w ++ _).head? = _
    cases w with
    | nil => exact absurd rfl h
    | cons c w => rfl
theorem flat_words {ws : List Sg} (h : ∀ w ∈ ws, w ≠ [] ∧ 32 ∉ w) : (ws.map wordsP).flatten = ws := by
  induction ws with
  | nil => rfl
  | cons w r ih =>
    obtain ⟨h1, h2⟩ := h w List.mem_cons_self
    rw [List.map_cons, List.flatten_cons, words_one h1 h2, ih fun x hx => h x (List.mem_cons_of_mem _ hx)]
    rfl
/-- a word that may stand in a part, a space in it or not -/
def partW (w : Sg) : Prop := w ≠ [] ∧ 124 ∉ w ∧ w.head? ≠ some 32 ∧ w.length ≤ 400
theorem wordOk.part {w : Sg} (h : wordOk w) : partW w := ⟨h.1, h.2.2.1, fun z => h.2.1 (List.mem_of_mem_head? z), h.2.2.2⟩
theorem cut_le {c n : Nat} {l : Sg} (h : l.length ≤ n) : ∀ w ∈ cuts c l, w.length ≤ n := fun w hw => Nat.le_trans (cuts_mem_len c l w hw) h
theorem words_cut_le {l : Sg} {n : Nat} (h : l.length ≤ n) : ∀ w ∈ wordsP l, w.length ≤ n := fun w hw => cut_le h w (List.mem_filter.mp hw).1
theorem join_part {w : Str} {ws : List Str} (h : ∀ x ∈ w :: ws, partW (tl x)) (hl : ws.length ≤ 10) : partOk (Txt.join (Str.ofString " ") (w :: ws)) := by
  have e := join_tl (w :: ws)
  have hlen : (tl (Txt.join (Str.ofString " ") (w :: ws))).length ≤ 5000 := by
    rw [e]
    have := join_len (n := 400) (ws := (w :: ws).map tl) fun x hx => by
      obtain ⟨y, hy, rfl⟩ := List.mem_map.mp hx
      exact (h y hy).2.2.2
    rw [List.length_map, List.length_cons] at this
    have h2 : (ws.length + 1) * (400 + 1) ≤ 11 * 401 := Nat.mul_le_mul_right _ (by omega)
    omega
  refine ⟨?_, ?_, ?_, by rw [len_cps]; show (tl _).length ≤ _; omega⟩
  · rw [e]
    intro z
    rcases join_mem z with z | ⟨x, hx, z⟩
    · omega
    · obtain ⟨y, hy, rfl⟩ := List.mem_map.mp hx
      exact (h y hy).2.1 z
  · rw [e, List.map_cons, join_head (h w List.mem_cons_self).1]
    exact (h w List.mem_cons_self).2.2.1
  · refine cut_len (n := 1000) ?_
    rw [e, words_join]
    intro x hx
    obtain ⟨l, hl1, hx⟩ := List.mem_flatten.mp hx
    obtain ⟨y, hy, rfl⟩ := List.mem_map.mp hl1
    obtain ⟨u, hu, rfl⟩ := List.mem_map.mp hy
    have := words_cut_le (h u hu).2.2.2 x hx
    omega
/-! no columns -/
theorem col_first {w : Sg} {ws : List Sg} (h : durP ((cuts 33 w).headD []) = none ∨ accP (cuts 33 w) = none) : colP (w :: ws) = none := by
  unfold colP
  split
  · rfl
  · show (match durP ((cuts 33 w).headD []), accP (cuts 33 w), entsP ws with | some d, some a, some es => some (⟨d, a, es⟩ : Col) | _, _, _ => none) = none
    rcases h with h | h
    · rw [h]
    · rw [h]; cases durP ((cuts 33 w).headD []) <;> rfl
theorem col_ents {w : Sg} {ws : List Sg} (h : entsP ws = none) : colP (w :: ws) = none := by
  unfold colP
  split
  · rfl
  · show (match durP ((cuts 33 w).headD []), accP (cuts 33 w), entsP ws with | some d, some a, some es => some (⟨d, a, es⟩ : Col) | _, _, _ => none) = none
    rw [h]
    cases durP ((cuts 33 w).headD []) <;> cases accP (cuts 33 w) <;> rfl
theorem col_count {ws : List Sg} (h : ws.length < 2 ∨ 5 < ws.length) : colP ws = none := by
  unfold colP
  rw [if_pos (by omega)]
theorem ents_none : ∀ {ws : List Sg} {w : Sg}, w ∈ ws → entP w = none → entsP ws = none
  | x :: r, w, h, he => by
    unfold entsP
    rcases List.mem_cons.mp h with rfl | h
    · rw [he]
    · rw [ents_none h he]
      cases entP x <;> rfl
def firstL : List Str := (["0", "0/4", "1/0", "2/4", "1/1", "3/1", "01", "1/04", "-1", "-1/4", "+1", "1//4", "1/4/2", "/4", "1/", "1!", "1!0", "1!10", "1!01", "1!1!2", "1!x", "!1", "1001", "1/1001", "1000001", "1.5", "C4", "~1", "-", "1/4!-1", "1,4", "1! 1", "1/4\t", "\t1/4", "\n1/4", "1/4\n"] : List String).map Str.ofString
def entryL : List Str := (["~", "~-", "--", "-~C4", "~~C4", "C", "c4", "H4", "C04", "C-0", "C#b4", "4", "C4!1", "C4~", "C4-", "x", "C4,", "C1001", "C999999", "C4\t", "\nC4", "C\t4", "-\t-"] : List String).map Str.ofString
def badF (l : Sg) : Bool := (match wordsP l with | [] => false | w :: _ => (durP ((cuts 33 w).headD [])).isNone || (accP (cuts 33 w)).isNone) && !l.isEmpty && !l.contains 124 && (l.head? != some 32) && decide (l.length ≤ 400)
def badE (l : Sg) : Bool := (entP l).isNone && !l.isEmpty && !l.contains 124 && !l.contains 32 && decide (l.length ≤ 400)
theorem first_bad : firstL.all (fun x => badF (tl x)) = true := by kernel_rfl
theorem entry_bad : entryL.all (fun x => badE (tl x)) = true := by kernel_rfl
end K12
namespace K12
open MD L2 PySem Kit K03
theorem badF_no {l : Sg} (h : badF l = true) : (∃ w r, wordsP l = w :: r ∧ (durP ((cuts 33 w).headD []) = none ∨ accP (cuts 33 w) = none)) ∧ partW l := by
  unfold badF at h
  simp only [Bool.and_eq_true, Bool.not_eq_true', decide_eq_true_eq, bne_iff_ne, ne_eq] at h
  obtain ⟨⟨⟨⟨h1, h2⟩, h3⟩, h4⟩, h5⟩ := h
  refine ⟨?_, ⟨(by intro z; rw [z] at h2; cases h2), (by simpa using h3), h4, h5⟩⟩
  cases hw : wordsP l with
  | nil => rw [hw] at h1; cases h1
  | cons w r =>
    rw [hw] at h1
    simp only [Bool.or_eq_true, Option.isNone_iff_eq_none] at h1
    exact ⟨w, r, rfl, h1⟩
theorem badE_no {l : Sg} (h : badE l = true) : entP l = none ∧ l ≠ [] ∧ 32 ∉ l ∧ partW l := by
  unfold badE at h
  simp only [Bool.and_eq_true, Bool.not_eq_true', decide_eq_true_eq, Option.isNone_iff_eq_none] at h
  obtain ⟨⟨⟨⟨h1, h2⟩, h3⟩, h4⟩, h5⟩ := h
  have hn : l ≠ [] := by intro z; rw [z] at h2; cases h2
  have h32 : 32 ∉ l := by simpa using h4
  exact ⟨h1, hn, h32, ⟨hn, by simpa using h3, fun z => h32 (List.mem_of_mem_head? z), h5⟩⟩
/-- a text of words: its words -/
theorem join_words (ws : List Str) : wordsP (tl (Txt.join (Str.ofString " ") ws)) = ((ws.map tl).map wordsP).flatten := by rw [join_tl, words_join]
theorem flat_rep (x : D) : ∀ k : Nat, (List.replicate k [x]).flatten = List.replicate k x
  | 0 => rfl
  | k + 1 => by rw [List.replicate_succ, List.replicate_succ, List.flatten_cons, flat_rep x k]; rfl
theorem not_whole {c : Nat} {r : Sg} (h : c ≠ 45) (h2 : c < 48 ∨ 57 < c) : wholeP (c :: r) = none := by
  have hf : figL (c :: r) = c :: r := by unfold figL; rw [if_neg (by simpa using h)]
  unfold wholeP
  rw [hf, if_pos]
  refine .inr (.inr ?_)
  rw [List.all_cons, Bool.and_eq_false_iff]
  left
  rw [← Bool.not_eq_true, dig_iff]
  omega
theorem cuts_head (c x : Nat) (r : Sg) (h : x ≠ c) : ∃ p ps, cuts c (x :: r) = (x :: p) :: ps := by
  rw [cuts_cons, if_neg h]
  cases hc : cuts c r with
  | nil => exact absurd hc (cuts_ne c r)
  | cons p ps => exact ⟨p, ps, rfl⟩
theorem dur_not {c : Nat} {r : Sg} (h : c ≠ 45) (h2 : c < 48 ∨ 57 < c) (h3 : c ≠ 47) : durP (c :: r) = none := by
  have hd : durOf (c :: r) = none := by
    unfold durOf
    obtain ⟨p, ps, e⟩ := cuts_head 47 c r h3
    rw [e]
    cases ps with
    | nil => simp only; rw [not_whole h h2]
    | cons q ps =>
      cases ps with
      | nil => simp only; rw [not_whole h h2]
      | cons => rfl
  unfold durP
  rw [hd]
theorem no_dur {e : Ent} (h : okEnt TF e) : durP ((cuts 33 (tl (entText e))).headD []) = none := by
  cases e with
  | none => kernel_rfl
  | some p =>
    obtain ⟨t, b⟩ := p
    have hl : letL.getD ((4 * t.1) % 7).toNat 0 ∈ letL := by
      have : ((4 * t.1) % 7).toNat < 7 := by omega
      rw [List.getD_eq_getElem?_getD, List.getElem?_eq_getElem (show ((4 * t.1) % 7).toNat < letL.length from this)]
      exact List.getElem_mem _
    cases b with
    | true =>
      have e : tl (entText (some (t, true))) = tl (toneText t) := by
        show tl (("" : Str) ++ toneText t) = _
        rw [tl_app]; rfl
      rw [e, toneText_tl]
      generalize letL.getD ((4 * t.1) % 7).toNat 0 = c at hl
      have hc : 65 ≤ c := by simp [letL] at hl; omega
      obtain ⟨p, ps, e2⟩ := cuts_head 33 c _ (by omega)
      rw [e2]
      exact dur_not (by omega) (by omega) (by omega)
    | false =>
      have e : tl (entText (some (t, false))) = 126 :: tl (toneText t) := by
        show tl (("~" : Str) ++ toneText t) = _
        rw [tl_app]; rfl
      rw [e]
      obtain ⟨p, ps, e2⟩ := cuts_head 33 126 (tl (toneText t)) (by decide)
      rw [e2]
      exact dur_not (by omega) (by omega) (by omega)
theorem math__law_wrong_text (ds M Q E) (hM : WFM M) (hb : D.belL M.length ds = true) (h : sp__law_wrong_text ds M Q E) : r__law_wrong_text (retE M.length Q E) (startD N__law_wrong_text ds) M := by
  obtain ⟨p, v, c, rfl, hp, hv1, hv4, okc, q⟩ := h
  have hpl := hp.lt
  have hlen : c.es.length = v := okc.1.2.2.2.1
  have cw := cell_words okc
  have hlW : (cellW c).length = v + 1 := by simp [cellW, hlen]
  unfold r__law_wrong_text
  refine seq_step fun S hS => ?_
  simp [startD, colD]
  subst hS
  refine seq_step fun S hS => ?_
  simp
  refine ⟨c, v, rfl, hv4, okCol_mono okc.1 fun t => tf_t5, ?_⟩
  generalize hJ : M.length = J at *
  have ho1 : Own p M (M ++ [.lst ((cellW c).map D.str)]) := (Own.refl hp).add
  have hw1 : (M ++ [Cell.lst ((cellW c).map D.str)])[J]? = some (.lst ((cellW c).map D.str)) := by rw [← hJ]; exact get_last M _
  generalize M ++ [Cell.lst ((cellW c).map D.str)] = M1 at ho1 hw1
  subst hS
  refine seq_step fun S hS => ?_
  simp
  refine ⟨by rw [hz]; decide, ?_⟩
  subst hS
  refine seq_step fun S hS => ?_
  simp
  refine ⟨by rw [hz]; decide, by rw [hz]; decide, ?_⟩
  obtain ⟨cd, hcd⟩ : ∃ cd : D, cd = .tup [MD.prD c.dur, .int c.acc, .tup (c.es.map entD)] := ⟨_, rfl⟩
  rw [← hcd]
  show S _ [_, _, _, _, some (.lst (firstL.map D.str)), none, none, none] M1
  subst hS
  refine seq_step fun S hS => ?_
  simp
  refine ⟨by rw [hz]; decide, ?_⟩
  show S _ [_, _, _, _, _, some (.lst (.str (Str.ofString "") :: entryL.map D.str)), none, none] M1
  have fb : ∀ z ∈ firstL, badF (tl z) = true := fun z hz => (List.all_eq_true.mp first_bad) z hz
  have eb : ∀ z ∈ entryL, badE (tl z) = true := fun z hz => (List.all_eq_true.mp entry_bad) z hz
  have fl : firstL ≠ [] ∧ firstL.length = 36 := ⟨by simp [firstL], rfl⟩
  have el : entryL ≠ [] ∧ entryL.length = 23 := ⟨by simp [entryL], rfl⟩
  generalize firstL = FL at fb fl ⊢
  generalize entryL = EL at eb el ⊢
  subst hS
  refine seq_step fun S hS => ?_
  simp
  refine ⟨p, 6, rfl, by decide, by decide, ho1.pool, fun kind M2 a2 b2 st2 => ?_⟩
  have ho2 := ho1.step st2
  have hJp : J ≠ p := by omega
  have hw2 : M2[J]? = some (.lst ((cellW c).map D.str)) := by rw [st2.other hJp]; exact hw1
  have fin : ∀ (x : Str) M3, Own p M M3 → partOk x → colP (wordsP (tl x)) = none → Q (.str x) (popM J (.str x) M3) := by
    intro x M3 ho hp1 hp2
    have := ho.pop (d := .str x) hM rfl
    rw [hJ] at this
    exact q x _ hp1 hp2 this
  have okW : ∀ w ∈ (cellW c).map tl, w ≠ [] ∧ 32 ∉ w := by
    intro w hw
    obtain ⟨y, hy, rfl⟩ := List.mem_map.mp hw
    exact ⟨(cw y hy).1, (cw y hy).2.1⟩
  have sumW : ∀ ws : List Str, (∀ w ∈ ws, (tl w).length ≤ 400) → ws.length ≤ 20 → (ws.map (·.length)).sum + ws.length * (Str.ofString " ").length ≤ 16777216 := by
    intro ws h1 h2
    have : ∀ ws : List Str, (∀ w ∈ ws, (tl w).length ≤ 400) → (ws.map (·.length)).sum ≤ ws.length * 400 := by
      intro ws
      induction ws with
      | nil => intro _; exact Nat.le_refl _
      | cons w r ih =>
        intro h
        have h1 := h w List.mem_cons_self
        rw [← len_cps] at h1
        have h2 := ih fun x hx => h x (List.mem_cons_of_mem _ hx)
        rw [List.map_cons, List.sum_cons, List.length_cons, Nat.add_mul]
        omega
    have h3 := this ws h1
    have h4 : ws.length * 400 ≤ 20 * 400 := Nat.mul_le_mul_right _ h2
    have e1 : (Str.ofString " ").length = 1 := rfl
    rw [e1]
    omega
  subst hS
  refine seq_step fun S hS => ?_
  simp
  by_cases k0 : kind = 0
  · rw [if_pos k0]
    refine ⟨p, _, _, rfl, ho2.pool, nofun, rfl, fun _ _ => rfl, by simpa using fl.1, by simp [fl.2], fun d M3 hd st3 => ?_⟩
    obtain ⟨z, hzm, rfl⟩ := List.mem_map.mp hd
    have hw3 : M3[J]? = some (.lst ((cellW c).map D.str)) := by rw [st3.other hJp]; exact hw2
    obtain ⟨⟨w, r, e1, e2⟩, e3⟩ := badF_no (fb z hzm)
    have pw : ∀ x ∈ z :: c.es.map entText, partW (tl x) := by
      intro x hx
      rcases List.mem_cons.mp hx with rfl | hx
      · exact e3
      · exact (cw x (List.mem_cons_of_mem _ hx)).part
    refine ⟨by rw [hz]; decide, _, lstOf_ref hw3, ?_⟩
    rw [u_newF, show cutD ((cellW c).map D.str) (some 1) none = (c.es.map entText).map D.str from cutS_tail _ _]
    refine ⟨_, rfl, by rw [hz]; simp; omega, z :: c.es.map entText, rfl, sumW _ (fun x hx => (pw x hx).2.2.2) (by simp; omega), ?_⟩
    refine fin _ M3 (ho2.step st3) (join_part pw (by simp; omega)) ?_
    rw [join_words, List.map_cons, List.map_cons, List.flatten_cons, e1]
    exact col_first e2
  rw [if_neg k0]
  subst hS
  refine seq_step fun S hS => ?_
  simp
  by_cases k1 : kind = 1
  · rw [if_pos k1]
    refine ⟨p, v, by rw [hlen], by omega, by omega, ho2.pool, fun r3 M3 a3 b3 st3 => ?_⟩
    have ho3 := ho2.step st3
    simp
    refine ⟨_, rfl, ?_⟩
    rw [u_newF, cutS_tail]
    refine ⟨p, _, _, rfl, ho3.pool, nofun, rfl, fun _ _ => rfl, by simpa using el.1, by simp [el.2], fun d M4 hd st4 => ?_⟩
    obtain ⟨z, hzm, rfl⟩ := List.mem_map.mp hd
    have ho4 := ho3.step st4
    have hw4 : M4[J]? = some (.lst ((cellW c).map D.str)) := by rw [st4.other hJp, st3.other hJp]; exact hw2
    obtain ⟨e1, e2, e3, e4⟩ := badE_no (eb z hzm)
    have hr : r3.toNat < c.es.length := by omega
    have hix : ixN ((cellW c).map D.str).length (1 + r3) = some (1 + r3.toNat) := by
      rw [ixN_n (by omega) (by rw [List.length_map, hlW]; omega)]
      congr 1; omega
    have eset : ((cellW c).map D.str).set (1 + r3.toNat) (.str z) = (firstText c :: (c.es.map entText).set r3.toNat z).map D.str := by
      rw [show (D.str z) = D.str z from rfl, ← List.map_set, show 1 + r3.toNat = r3.toNat + 1 by omega]
      rfl
    have pw : ∀ x ∈ firstText c :: (c.es.map entText).set r3.toNat z, partW (tl x) ∧ tl x ≠ [] ∧ 32 ∉ tl x := by
      intro x hx
      rcases List.mem_cons.mp hx with rfl | hx
      · have := cw _ (List.mem_cons_self (a := firstText c) (l := c.es.map entText))
        exact ⟨this.part, this.1, this.2.1⟩
      · rcases List.mem_or_eq_of_mem_set hx with hx | rfl
        · have := cw x (List.mem_cons_of_mem _ hx)
          exact ⟨this.part, this.1, this.2.1⟩
        · exact ⟨e4, e2, e3⟩
    have pl : ((c.es.map entText).set r3.toNat z).length ≤ 10 := by simp; omega
    refine ⟨_, hw4, _, hix, firstText c :: (c.es.map entText).set r3.toNat z, by rw [lstOf_ref (set_self hw4), eset], sumW _ (fun x hx => (pw x hx).1.2.2.2) (by rw [List.length_cons]; omega), ?_⟩
    refine fin _ _ (ho4.set (by omega)) (join_part (fun x hx => (pw x hx).1) pl) ?_
    rw [join_words, flat_words (fun w hw => by
      obtain ⟨y, hy, rfl⟩ := List.mem_map.mp hw
      exact (pw y hy).2), List.map_cons]
    refine col_ents (ents_none (w := tl z) ?_ e1)
    refine List.mem_map.mpr ⟨z, ?_, rfl⟩
    exact List.mem_set (by simpa using hr) z
  rw [if_neg k1]
  subst hS
  refine seq_step fun S hS => ?_
  simp
  by_cases k2 : kind = 2
  · rw [if_pos k2]
    refine fin _ M2 ho2 ⟨by show 124 ∉ ([] : Sg); simp, by show ([] : Sg).head? ≠ some 32; simp, ?_, by show 0 ≤ 8000; decide⟩ (by rfl)
    intro w hw
    have : w = [] := by simpa [cuts] using (show w ∈ cuts 32 [] from hw)
    rw [this]; exact Nat.zero_le _
  rw [if_neg k2]
  subst hS
  refine seq_step fun S hS => ?_
  simp
  by_cases k3 : kind = 3
  · rw [if_pos k3]
    refine ⟨_, lstOf_ref hw2, _, atI_0, by rw [hz]; decide, p, _, _, rfl, ho2.pool, nofun, rfl, fun _ _ => rfl, by simp, by simp, fun d M3 hd st3 => ?_⟩
    show Q _ (popM J _ _)
    have ho3 := ho2.step st3
    have b3 : ∀ z : Str, partW (tl z) → colP (wordsP (tl z)) = none → Q (.str z) (popM J (.str z) M3) := by
      intro z hz1 hz2
      have hz3 : z.length ≤ 400 := by rw [len_cps]; exact hz1.2.2.2
      refine fin z M3 ho3 ⟨hz1.2.1, hz1.2.2.1, fun w hw => ?_, by omega⟩ hz2
      have := cut_le hz1.2.2.2 w hw
      omega
    simp only [List.mem_cons, List.not_mem_nil, or_false] at hd
    rcases hd with rfl | rfl | rfl | rfl | rfl | rfl | rfl
    · have := cw _ (List.mem_cons_self (a := firstText c) (l := c.es.map entText))
      refine b3 _ this.part ?_
      rw [words_one this.1 this.2.1]
      exact col_count (.inl (by simp))
    · exact b3 (Str.ofString "- - -") ⟨(by decide), (by decide), (by decide), (by decide)⟩ (by kernel_rfl)
    · exact b3 (Str.ofString "x") ⟨(by decide), (by decide), (by decide), (by decide)⟩ (by kernel_rfl)
    · exact b3 (Str.ofString "1/4!3") ⟨(by decide), (by decide), (by decide), (by decide)⟩ (by kernel_rfl)
    · exact b3 (Str.ofString "/") ⟨(by decide), (by decide), (by decide), (by decide)⟩ (by kernel_rfl)
    · exact b3 (Str.ofString "!") ⟨(by decide), (by decide), (by decide), (by decide)⟩ (by kernel_rfl)
    · exact b3 (Str.ofString "~") ⟨(by decide), (by decide), (by decide), (by decide)⟩ (by kernel_rfl)
  rw [if_neg k3]
  subst hS
  refine seq_step fun S hS => ?_
  simp
  by_cases k4 : kind = 4
  · rw [if_pos k4]
    refine ⟨by rw [hz]; decide, by rw [hz]; decide, p, _, _, rfl, ho2.pool, nofun, rfl, fun _ _ => rfl, by simp, by simp, fun d M3 hd st3 => ?_⟩
    have ho3 := ho2.step st3
    have hw3 : M3[J]? = some (.lst ((cellW c).map D.str)) := by rw [st3.other hJp]; exact hw2
    have done : ∀ k : Nat, k ≤ 6 → 6 ≤ v + 1 + k → d = .int (k : Int) → oMul false (.lst [.str (Str.ofString "-")]) d M3 fun y M2 => oAdd false (.ref J) y M2 fun d M1 => ∃ x : List Str, seqOf d M1 = some (x.map D.str) ∧ (x.map (·.length)).sum + x.length * (Str.ofString " ").length ≤ 16777216 ∧ Q (.str (Txt.join (Str.ofString " ") x)) (popM J (.str (Txt.join (Str.ofString " ") x)) M1) := by
      rintro k hk1 hk2 rfl
      refine ⟨⟨by omega, by omega, by show 1 * _ ≤ _; rw [hz]; omega⟩, ?_⟩
      rw [u_newF, Int.toNat_natCast]
      have e : (List.replicate k [D.str (Str.ofString "-")]).flatten = (List.replicate k (Str.ofString "-")).map D.str := by
        rw [List.map_replicate]
        exact flat_rep _ k
      rw [e]
      have pw : ∀ x ∈ firstText c :: (c.es.map entText ++ List.replicate k (Str.ofString "-")), partW (tl x) ∧ tl x ≠ [] ∧ 32 ∉ tl x := by
        intro x hx
        have h2 : x ∈ cellW c ∨ x = Str.ofString "-" := by
          rcases List.mem_cons.mp hx with rfl | hx
          · exact .inl List.mem_cons_self
          · rcases List.mem_append.mp hx with hx | hx
            · exact .inl (List.mem_cons_of_mem _ hx)
            · exact .inr (List.mem_replicate.mp hx).2
        rcases h2 with h2 | rfl
        · have := cw x h2
          exact ⟨this.part, this.1, this.2.1⟩
        · exact ⟨⟨(by decide), (by decide), (by decide), (by decide)⟩, (by decide), (by decide)⟩
      refine ⟨_, _, lstOf_ref hw3, rfl, by rw [hz]; simp [hlW]; omega, ?_⟩
      rw [u_newF, ← List.map_append]
      refine ⟨firstText c :: (c.es.map entText ++ List.replicate k (Str.ofString "-")), rfl, sumW _ (fun x hx => (pw x hx).1.2.2.2) (by simp; omega), ?_⟩
      refine fin _ M3 ho3 (join_part (fun x hx => (pw x hx).1) (by simp; omega)) ?_
      rw [join_words, flat_words (fun w hw => by
        obtain ⟨y, hy, rfl⟩ := List.mem_map.mp hw
        exact (pw y hy).2)]
      exact col_count (.inr (by simp; omega))
    simp only [List.mem_cons, List.not_mem_nil, or_false] at hd
    rcases hd with rfl | rfl
    · exact done (5 - v) (by omega) (by omega) (by congr 1; omega)
    · exact done (6 - v) (by omega) (by omega) (by congr 1; omega)
  rw [if_neg k4]
  subst hS
  simp
  have pw : ∀ x ∈ c.es.map entText, partW (tl x) ∧ tl x ≠ [] ∧ 32 ∉ tl x := by
    intro x hx
    have := cw x (List.mem_cons_of_mem _ hx)
    exact ⟨this.part, this.1, this.2.1⟩
  refine ⟨_, lstOf_ref hw2, ?_⟩
  rw [u_newF, show cutD ((cellW c).map D.str) (some 1) none = (c.es.map entText).map D.str from cutS_tail _ _]
  refine ⟨c.es.map entText, rfl, sumW _ (fun x hx => (pw x hx).1.2.2.2) (by simp; omega), ?_⟩
  obtain ⟨e, es, hes⟩ : ∃ e es, c.es = e :: es := by
    cases hc : c.es with
    | nil => rw [hc] at hlen; simp at hlen; omega
    | cons e es => exact ⟨e, es, rfl⟩
  have oke : okEnt TF e := okc.1.2.2.2.2 e (by rw [hes]; exact List.mem_cons_self)
  rw [hes, List.map_cons] at pw ⊢
  have hel : es.length + 1 = v := by rw [← hlen, hes]; rfl
  refine fin _ M2 ho2 (join_part (fun x hx => (pw x hx).1) (by simp; omega)) ?_
  rw [join_words, flat_words (fun w hw => by
    obtain ⟨y, hy, rfl⟩ := List.mem_map.mp hw
    exact (pw y hy).2), List.map_cons]
  exact col_first (.inl (no_dur oke))
end K12
namespace K12
open MD L2 PySem Kit K03
def joinedC (c : Col) : Str := Txt.join (Str.ofString " ") (cellW c)
def rightR (c : Col) : Str × Bool := (joinedC c, true)
theorem sum_words {n m : Nat} : ∀ {ws : List Str}, (∀ w ∈ ws, (tl w).length ≤ n) → ws.length ≤ m → (ws.map (·.length)).sum + ws.length * (Str.ofString " ").length ≤ m * (n + 1) := by
  intro ws h1 h2
  have : ∀ ws : List Str, (∀ w ∈ ws, (tl w).length ≤ n) → (ws.map (·.length)).sum ≤ ws.length * n := by
    intro ws
    induction ws with
    | nil => intro _; exact Nat.zero_le _
    | cons w r ih =>
      intro h
      have h1 := h w List.mem_cons_self
      rw [← len_cps] at h1
      have h2 := ih fun x hx => h x (List.mem_cons_of_mem _ hx)
      rw [List.map_cons, List.sum_cons, List.length_cons, Nat.add_mul]
      omega
  have h3 := this ws h1
  have h4 : ws.length * (n + 1) ≤ m * (n + 1) := Nat.mul_le_mul_right _ h2
  have e1 : (Str.ofString " ").length = 1 := rfl
  have e2 : ws.length * (n + 1) = ws.length * n + ws.length := by rw [Nat.mul_add]; omega
  rw [e1]
  omega
theorem right_row {v : Nat} {c : Col} (h : okC v c) (hv : 1 ≤ v ∧ v ≤ 4) (k : Nat) : rowOk v k c (rightR c) := by
  have hlen : c.es.length = v := h.1.2.2.2.1
  have cw := cell_words h
  refine ⟨join_part (fun x hx => (cw x hx).part) (by simp; omega), ?_⟩
  show colP (wordsP (tl (joinedC c))) = some c
  unfold joinedC
  rw [join_words, flat_words (fun w hw => by
    obtain ⟨y, hy, rfl⟩ := List.mem_map.mp hw
    exact ⟨(cw y hy).1, (cw y hy).2.1⟩)]
  exact col_back h hv
/-- [(" ".join(_law_cell_words(cell)), True) for cell in bar] -/
theorem cells_lc {p v i : Nat} {M M0 : MH} {δ : EnvD} {Q : List D → MH → Prop} {cs : List Col} (hv : 1 ≤ v ∧ v ≤ 4) (hok : ∀ c ∈ cs, okC v c) (hl : cs.length ≤ 1000) (hi : i < δ.length) (ho : Own p M0 M)
    (q : ∀ M', Own p M0 M' → M.length ≤ M'.length → Q ((cs.map rightR).map rowD) M') :
    lcL ⟨cs.map colD, none⟩ (gName' i) tYes' (tTup' (tCons' (tBM' "str" mJoin (tC' (.str " ")) (tCons' (tCall' sp__law_cell_words (tCons' (tVar' i) tNil')) tNil')) (tCons' (tC' (.bl true)) tNil'))) [i] δ Q (cs.map colD) [] M := by
  refine lcI_from (fun k acc M' => Own p M0 M' ∧ M.length ≤ M'.length ∧ acc = ((cs.take k).map rightR).map rowD) ?_ ?_ ⟨ho, Nat.le_refl _, by simp⟩
  · rintro acc M' ⟨h1, h2, rfl⟩
    refine ⟨trivial, ?_⟩
    rw [List.length_map, List.take_length]
    exact q M' h1 h2
  · rintro k d acc M' F hd ⟨h1, h2, rfl⟩ hF
    refine ⟨trivial, ?_⟩
    rw [List.getElem?_map] at hd
    obtain ⟨c, hc, rfl⟩ := Option.map_eq_some_iff.mp hd
    have hkl := (List.getElem?_eq_some_iff.mp hc).1
    have hcm := List.mem_of_getElem? hc
    have okc := hok c hcm
    have hlen : c.es.length = v := okc.1.2.2.2.1
    have cw := cell_words okc
    have at_i : ((wipeD δ [i]).set i (some (colD c)))[i]? = some (some (colD c)) := List.getElem?_set_self (by simp [wipeD]; exact hi)
    simp [at_i]
    refine ⟨c, v, rfl, hv.2, okCol_mono okc.1 fun t => tf_t5, ?_⟩
    refine ⟨cellW c, by rw [u_sqR, lstOf_ref (get_last M' _)], ?_, by rw [hz]; decide, by rw [hz]; omega, ?_⟩
    · have := sum_words (n := 400) (m := 20) (ws := cellW c) (fun w hw => (cw w hw).2.2.2) (by simp [cellW, hlen]; omega)
      exact Nat.le_trans this (by decide)
    · have tk : ((cs.take (k + 1)).map rightR).map rowD = ((cs.take k).map rightR).map rowD ++ [rowD (rightR c)] := by rw [List.take_add_one, hc]; simp
      have := hF _ (M' ++ [Cell.lst ((cellW c).map D.str)]) ⟨h1.add, by rw [List.length_append]; omega, tk.symm⟩
      simpa [rowD, rightR, joinedC, List.map_take, List.map_map] using this
def rowsG (v : Nat) (cs : List Col) (rs : List (Str × Bool)) : Prop := rs.length = cs.length ∧ ∀ k c r, cs[k]? = some c → rs[k]? = some r → rowOk v k c r
theorem rowsG.set {v : Nat} {cs : List Col} {rs : List (Str × Bool)} {k : Nat} {c : Col} {r : Str × Bool} (h : rowsG v cs rs) (hc : cs[k]? = some c) (hr : rowOk v k c r) : rowsG v cs (rs.set k r) := by
  refine ⟨by rw [List.length_set]; exact h.1, fun j c' r' e1 e2 => ?_⟩
  by_cases hj : k = j
  · subst hj
    rw [hc] at e1; cases e1
    rw [List.getElem?_set_self (by rw [h.1]; exact (List.getElem?_eq_some_iff.mp hc).1)] at e2
    cases e2; exact hr
  · rw [List.getElem?_set_ne hj] at e2
    exact h.2 j c' r' e1 e2
theorem rows_bel (n : Nat) (rs : List (Str × Bool)) : (D.lst (rs.map rowD)).bel n = true := by
  unfold D.bel
  rw [belL_iff]
  intro d hd
  obtain ⟨r, _, rfl⟩ := List.mem_map.mp hd
  rfl
theorem silent_row {v : Nat} {c : Col} (h : okC v c) (hv : 1 ≤ v ∧ v ≤ 4) {k o : Nat} (hk : 0 < k) (ho : 1 ≤ o ∧ o ≤ 4) (hn : o ≠ v) : rowOk v k c (Txt.join (Str.ofString " ") (firstText c :: List.replicate o (Str.ofString "-")), false) ∧ ∀ w ∈ firstText c :: List.replicate o (Str.ofString "-"), (tl w).length ≤ 400 := by
  have fw := cell_words h (firstText c) List.mem_cons_self
  have pw : ∀ x ∈ firstText c :: List.replicate o (Str.ofString "-"), partW (tl x) ∧ tl x ≠ [] ∧ 32 ∉ tl x := by
    intro x hx
    rcases List.mem_cons.mp hx with rfl | hx
    · exact ⟨fw.part, fw.1, fw.2.1⟩
    · rw [(List.mem_replicate.mp hx).2]
      exact ⟨⟨(by decide), (by decide), (by decide), (by decide)⟩, (by decide), (by decide)⟩
  refine ⟨⟨join_part (fun x hx => (pw x hx).1) (by simp; omega), ?_⟩, fun w hw => (pw w hw).1.2.2.2⟩
  show colP (wordsP (tl (Txt.join (Str.ofString " ") (firstText c :: List.replicate o (Str.ofString "-"))))) = none ∨ _
  refine .inr ⟨hk, ⟨c.dur, c.acc, List.replicate o none⟩, ?_, by simpa using hn⟩
  rw [join_words, flat_words (fun w hw => by
    obtain ⟨y, hy, rfl⟩ := List.mem_map.mp hw
    exact (pw y hy).2)]
  obtain ⟨⟨hd, a1, a2, _, _⟩, hs⟩ := h
  obtain ⟨f1, f2⟩ := first_cuts a1 a2
  have eb : entsP ((List.replicate o (Str.ofString "-")).map tl) = some (List.replicate o none) := by
    have : ∀ o : Nat, entsP ((List.replicate o (Str.ofString "-")).map tl) = some (List.replicate o none) := by
      intro o
      induction o with
      | zero => rfl
      | succ o ih =>
        rw [List.replicate_succ, List.map_cons]
        unfold entsP
        rw [ih, show entP (tl (Str.ofString "-")) = some none from rfl]
        rfl
    exact this o
  unfold colP
  rw [if_neg (fun z => z ⟨by simp; omega, by simp; omega⟩)]
  show (match durP ((cuts 33 (tl (firstText c))).headD []), accP (cuts 33 (tl (firstText c))), entsP ((List.replicate o (Str.ofString "-")).map tl) with
    | some d, some a, some es => some (⟨d, a, es⟩ : Col)
    | _, _, _ => none) = _
  rw [f1, f2, dur_back hd hs, eb]
theorem math__law_cells (ds M Q E) (hM : WFM M) (hb : D.belL M.length ds = true) (h : sp__law_cells ds M Q E) : r__law_cells (retE M.length Q E) (startD N__law_cells ds) M := by
  obtain ⟨p, v, cs, rfl, hp, ⟨⟨hc1, hc2⟩, hv, hok⟩, q⟩ := h
  have hpl := hp.lt
  unfold r__law_cells
  refine seq_step fun S hS => ?_
  simp [startD, barD]
  refine cells_lc (cs := cs) (M0 := M) hv hok (by omega) (by simp) (Own.refl hp) fun M1 ho1 hl1 => ?_
  simp
  generalize hJ : M1.length = J at *
  have ho2 : Own p M (M1 ++ [.lst (cs.map (rowD ∘ rightR))]) := ho1.add
  have hw2 : (M1 ++ [Cell.lst (cs.map (rowD ∘ rightR))])[J]? = some (.lst ((cs.map rightR).map rowD)) := by rw [← hJ, List.map_map]; exact get_last M1 _
  generalize M1 ++ [Cell.lst (cs.map (rowD ∘ rightR))] = N0 at ho2 hw2
  have hlen : 0 < cs.length := hc1
  have hJp : J ≠ p := by omega
  subst hS
  refine seq_step fun S hS => ?_
  simp
  refine ⟨p, 3, rfl, by decide, by decide, ho2.pool, fun r1 N1 a1 b1 st1 => ?_⟩
  have ho3 := ho2.step st1
  have hw3 : N1[J]? = some (.lst ((cs.map rightR).map rowD)) := by rw [st1.other hJp]; exact hw2
  simp
  refine ⟨by omega, by omega, ?_⟩
  generalize hN : (1 + r1).toNat = N
  have hrg : rowsG v cs (cs.map rightR) := by
    refine ⟨by simp, fun k c r e1 e2 => ?_⟩
    rw [List.getElem?_map, e1] at e2
    cases e2
    exact right_row (hok c (List.mem_of_getElem? e1)) hv k
  refine forR_ind (fun i δ M' => ∃ (rs : List (Str × Bool)) (a b c d : Option D), δ = [some (.ref p), some (.tup (cs.map colD)), some (.ref J), a, b, c, d] ∧ Own p M M' ∧ M'[J]? = some (.lst (rs.map rowD)) ∧ rowsG v cs rs ∧ (0 < i → ∃ r ∈ rs, r.2 = false)) ?_ ?_
    ⟨cs.map rightR, _, _, _, _, rfl, ho3, hw3, hrg, fun z => absurd z (Nat.lt_irrefl 0)⟩
  · rintro δ M' ⟨rs, a, b, c, d, rfl, ho4, hw4, hg4, hf⟩
    refine ⟨trivial, ?_⟩
    show S _ _ _
    subst hS
    simp
    refine ⟨_, hw4, ?_⟩
    exact q rs _ ⟨hg4.1, hg4.2, hf (by omega)⟩ ((ho4.set (by omega)).pop hM (rows_bel _ rs))
  · rintro i δ M' F hi ⟨rs, a, b, c0, d0, rfl, ho4, hw4, hg4, hf⟩ hF
    refine ⟨trivial, ?_⟩
    refine seq_step fun S2 hS2 => ?_
    -- behind the choice of a place
    have place : ∀ (at' : Nat) M2, at' < cs.length → Own p M M2 → M2[J]? = some (.lst (rs.map rowD)) →
        S2 { nx := F, rt := (retE M.length Q E).rt, bk := S (retE M.length Q E), ct := F, ex := (retE M.length Q E).ex } [some (.ref p), some (.tup (cs.map colD)), some (.ref J), some (.int (i : Int)), some (.int (at' : Int)), c0, d0] M2 := by
      intro at' M2 hat ho5 hw5
      have hci : cs[at']? = some cs[at'] := List.getElem?_eq_getElem hat
      generalize hcd : cs[at'] = c at hci
      have hcm : c ∈ cs := List.mem_of_getElem? hci
      have okc := hok c hcm
      have hati : atI (cs.map colD) (at' : Int) = some (colD c) := at_nat (by rw [List.getElem?_map, hci]; rfl)
      have hixn : ixN (rs.map rowD).length (at' : Int) = some at' := by
        rw [ixN_n (by omega) (by rw [List.length_map, hg4.1]; omega)]
        congr 1
      -- a row is written
      have wr : ∀ (x : Str) (d1 : Option D) M3, Own p M M3 → M3[J]? = some (.lst (rs.map rowD)) → rowOk v at' c (x, false) →
          F [some (.ref p), some (.tup (cs.map colD)), some (.ref J), some (.int (i : Int)), some (.int (at' : Int)), c0, d1] (M3.set J (.lst ((rs.map rowD).set at' (.tup [.str x, .bl false])))) := by
        intro x d1 M3 ho6 hw6 hrow
        refine hF _ _ ⟨rs.set at' (x, false), _, _, _, _, rfl, ho6.set (by omega), ?_, hg4.set hci hrow, fun _ => ⟨(x, false), List.mem_set (by rw [hg4.1]; exact hat) _, rfl⟩⟩
        rw [set_self hw6, List.map_set]
        rfl
      have wrong : ∀ M3, Own p M M3 → M3[J]? = some (.lst (rs.map rowD)) → sp__law_wrong_text [.ref p, colD c] M3 (fun d M4 => 2 ≤ sizeLine ∧ ∃ x, M4[J]? = some (Cell.lst x) ∧ ∃ x_1, ixN x.length (at' : Int) = some x_1 ∧
          F [some (.ref p), some (.tup (cs.map colD)), some (.ref J), some (.int (i : Int)), some (.int (at' : Int)), c0, d0] (M4.set J (.lst (x.set x_1 (.tup [d, .bl false]))))) (fun x M1 => E x (popX M.length x M1)) := by
        intro M3 ho6 hw6
        refine ⟨p, v, c, rfl, ho6.pool, hv.1, hv.2, okc, fun x M4 hx1 hx2 st4 => ?_⟩
        have hw7 : M4[J]? = some (.lst (rs.map rowD)) := by rw [st4.other hJp]; exact hw6
        exact ⟨by rw [hz]; decide, _, hw7, _, hixn, wr x d0 M4 (ho6.step st4) hw7 ⟨hx1, .inl hx2⟩⟩
      subst hS2
      simp
      by_cases h0 : 0 < at'
      · rw [if_pos h0]
        refine ⟨p, 4, rfl, by decide, by decide, ho5.pool, fun r2 M3 a3 b3 st3 => ?_⟩
        have ho6 := ho5.step st3
        have hw6 : M3[J]? = some (.lst (rs.map rowD)) := by rw [st3.other hJp]; exact hw5
        simp
        by_cases hr2 : r2 = 0
        · rw [if_pos hr2]
          have hc0 : cs[0]? = some cs[0] := List.getElem?_eq_getElem hlen
          generalize cs[0] = cf at hc0
          have okf := hok cf (List.mem_of_getElem? hc0)
          have hlf : cf.es.length = v := okf.1.2.2.2.1
          have hat0 : atI (cs.map colD) 0 = some (colD cf) := atI_n (by decide) (by rw [show (0 : Int).toNat = 0 from rfl, List.getElem?_map, hc0]; rfl)
          refine ⟨_, hat0, .inl ⟨_, rfl, _, atI_2, _, rfl, nofun, ?_⟩⟩
          rw [List.length_map, hlf]
          refine ⟨p, 3, rfl, by decide, by decide, ho6.pool, fun r3 M4 a4 b4 st4 => ?_⟩
          have ho7 := ho6.step st4
          have hw7 : M4[J]? = some (.lst (rs.map rowD)) := by rw [st4.other hJp]; exact hw6
          simp [e_fmod]
          refine ⟨_, hati, ?_⟩
          refine ⟨c, v, rfl, hv.2, okCol_mono okc.1 fun t => tf_t5, ?_⟩
          refine .inl ⟨_, lstOf_ref (get_last M4 _), _, atI_0, by rw [hz]; decide, ?_⟩
          have hoth : ∃ o : Nat, 1 + ((v : Int) + r3) % 4 = (o : Int) ∧ 1 ≤ o ∧ o ≤ 4 ∧ o ≠ v := ⟨(1 + ((v : Int) + r3) % 4).toNat, by omega, by omega, by omega, by omega⟩
          obtain ⟨o, eo, o1, o2, o3⟩ := hoth
          rw [eo]
          refine ⟨⟨by omega, by omega, by show 1 * _ ≤ _; rw [hz]; omega⟩, ?_⟩
          rw [u_newF, Int.toNat_natCast, flat_rep]
          obtain ⟨s1, s2⟩ := silent_row okc hv h0 ⟨o1, o2⟩ o3
          have hJ4 : J < M4.length := (List.getElem?_eq_some_iff.mp hw7).1
          refine ⟨_, rfl, by rw [hz]; simp; omega, firstText c :: List.replicate o (Str.ofString "-"), by rw [List.map_cons, List.map_replicate], ?_, by rw [hz]; decide, _, by rw [List.getElem?_append_left hJ4]; exact hw7, _, hixn, ?_⟩
          · have := sum_words (n := 400) (m := 20) s2 (by simp; omega)
            exact Nat.le_trans this (by decide)
          · exact wr _ _ _ ho7.add (by rw [List.getElem?_append_left hJ4]; exact hw7) s1
        · rw [if_neg hr2]
          refine ⟨_, hati, ?_⟩
          simpa using wrong M3 ho6 hw6
      · rw [if_neg h0]
        refine ⟨_, hati, ?_⟩
        simpa using wrong M2 ho5 hw5
    simp
    refine ⟨p, cs.length, rfl, by omega, by omega, ho4.pool, fun r2 M2 a2 b2 st2 => ?_⟩
    have ho5 := ho4.step st2
    have hw5 : M2[J]? = some (.lst (rs.map rowD)) := by rw [st2.other hJp]; exact hw4
    refine ⟨by rw [hz]; decide, p, _, _, rfl, ho5.pool, nofun, rfl, fun _ _ => rfl, by simp, by simp, fun d M3 hd st3 => ?_⟩
    have ho6 := ho5.step st3
    have hw6 : M3[J]? = some (.lst (rs.map rowD)) := by rw [st3.other hJp]; exact hw5
    simp only [List.mem_cons, List.not_mem_nil, or_false] at hd
    rcases hd with rfl | rfl | rfl
    · have := place r2.toNat M3 (by omega) ho6 hw6
      rwa [show ((r2.toNat : Nat) : Int) = r2 by omega] at this
    · have := place (cs.length - 1) M3 (by omega) ho6 hw6
      rwa [show ((cs.length - 1 : Nat) : Int) = (cs.length : Int) - 1 by omega] at this
    · exact place 0 M3 hlen ho6 hw6
end K12
namespace K12
open MD L2 PySem Kit K03
def sumP (ps : List Sg) : Nat := (ps.map fun p => p.length + 1).sum
theorem sum_cuts (c : Nat) : ∀ l : Sg, sumP (cuts c l) = l.length + 1
  | [] => rfl
  | x :: r => by
    have ih := sum_cuts c r
    rw [cuts_cons]
    split
    · show (0 + 1) + sumP (cuts c r) = _
      rw [ih, List.length_cons]; omega
    · cases hc : cuts c r with
      | nil => exact absurd hc (cuts_ne c r)
      | cons p ps =>
        rw [hc] at ih
        have e1 : sumP (p :: ps) = (p.length + 1) + sumP ps := rfl
        show ((x :: p).length + 1) + sumP ps = _
        rw [List.length_cons, List.length_cons]; omega
def GoodP (v : Nat) (p : Sg) (c : Col) : Prop := colP (wordsP p) = some c ∧ c.es.length = v
theorem barGo_cons {vo : Option Nat} {b : Nat} {p : Sg} {r : List Sg} : barGo vo b (p :: r) = match colP (wordsP p) with
    | none => .inl (b + lead p)
    | some c => if (match vo with | some n => decide (c.es.length ≠ n) | none => false) = true then .inl (b + lead p) else
      match barGo (some (vo.getD c.es.length)) (b + p.length + 1) r with
      | .inl a => .inl a
      | .inr cs => .inr (c :: cs) := rfl
theorem barGo_good {v : Nat} : ∀ (ps : List Sg) (cs : List Col) (b : Nat) (vo : Option Nat) (r : List Sg), RelL (GoodP v) ps cs → (vo = none ∨ vo = some v) →
    barGo vo b (ps ++ r) = match barGo (if ps = [] then vo else some v) (b + sumP ps) r with | .inl a => .inl a | .inr ds => .inr (cs ++ ds)
  | [], [], b, vo, r, _, _ => by
    show barGo vo b r = match barGo vo b r with | .inl a => .inl a | .inr ds => .inr ([] ++ ds)
    cases barGo vo b r <;> rfl
  | p :: ps, c :: cs, b, vo, r, h, ho => by
    obtain ⟨⟨h1, h2⟩, h3⟩ := h
    have ih := barGo_good ps cs (b + p.length + 1) (some v) r h3 (.inr rfl)
    rw [List.cons_append, barGo_cons, h1]
    simp only
    rw [h2, if_neg (by rcases ho with rfl | rfl <;> simp), show vo.getD v = v from by rcases ho with rfl | rfl <;> rfl, ih]
    have e : (if ps = [] then some v else some v) = some v := by split <;> rfl
    rw [e, show (if p :: ps = [] then vo else some v) = some v from if_neg (by simp), show b + p.length + 1 + sumP ps = b + sumP (p :: ps) from by
      have : sumP (p :: ps) = (p.length + 1) + sumP ps := rfl
      omega]
    cases barGo (some v) (b + sumP (p :: ps)) r <;> rfl
theorem barGo_left : ∀ (ps : List Sg) (b : Nat) (vo : Option Nat) (r : List Sg) (a : Nat), barGo vo b ps = .inl a → barGo vo b (ps ++ r) = .inl a
  | [], b, vo, r, a, h => by cases h
  | p :: ps, b, vo, r, a, h => by
    rw [List.cons_append, barGo_cons]
    rw [barGo_cons] at h
    cases hc : colP (wordsP p) with
    | none => rw [hc] at h; exact h
    | some c =>
      rw [hc] at h
      have go : ∀ (k : Bool) (w : Option Nat), (if k = true then (.inl (b + lead p) : Nat ⊕ List Col) else match barGo w (b + p.length + 1) ps with | .inl a => .inl a | .inr cs => .inr (c :: cs)) = .inl a →
          (if k = true then (.inl (b + lead p) : Nat ⊕ List Col) else match barGo w (b + p.length + 1) (ps ++ r) with | .inl a => .inl a | .inr cs => .inr (c :: cs)) = .inl a := by
        intro k w h
        cases k with
        | true => exact h
        | false =>
          rw [if_neg (by decide)] at h ⊢
          cases hg : barGo w (b + p.length + 1) ps with
          | inl a2 =>
            rw [hg] at h
            rw [barGo_left ps _ _ r a2 hg]
            exact h
          | inr cs => rw [hg] at h; cases h
      exact go _ _ h
/-- one part that is wrong -/
theorem barGo_wrong {v b : Nat} {vo : Option Nat} {p : Sg} (h : colP (wordsP p) = none ∨ (vo = some v ∧ ∃ d, colP (wordsP p) = some d ∧ d.es.length ≠ v)) : barGo vo b [p] = .inl (b + lead p) := by
  rw [barGo_cons]
  rcases h with h | ⟨rfl, d, h, hn⟩
  · rw [h]
  · rw [h]
    simp only
    rw [if_pos (by simpa using hn)]
/-- spaces ahead, a cell, spaces behind -/
theorem lead_part {n m : Nat} {x : Sg} (h : x.head? ≠ some 32) : lead (List.replicate n 32 ++ x ++ List.replicate m 32) = if x = [] then n + m else n := by
  unfold lead
  rw [List.append_assoc, List.takeWhile_append_of_pos (by intro c hc; simpa using (List.mem_replicate.mp hc).2)]
  split
  · rename_i hx
    rw [hx, List.nil_append, List.takeWhile_replicate]
    simp
  · rename_i hx
    cases x with
    | nil => exact absurd rfl hx
    | cons c r =>
      rw [List.cons_append, List.takeWhile_cons, if_neg (by simpa using h)]
      simp
theorem words_part (n m : Nat) (x : Sg) : wordsP (List.replicate n 32 ++ x ++ List.replicate m 32) = wordsP x := by rw [words_behind, words_pad]
end K12
namespace K12
open MD L2 PySem Kit K03
def optA : Option Nat → D
  | some n => .int (n : Int)
  | none => .non
/-- the text of the first rows, and the first wrong place -/
def Sofar (v : Nat) (cs : List Col) (rs : List (Str × Bool)) (i : Nat) (l : Sg) (f : Option Nat) : Prop := ∃ ps : List Sg, (i = 0 → l = [] ∧ ps = []) ∧ (0 < i → cuts 124 l = ps) ∧ (∀ p ∈ ps, ∀ w ∈ cuts 32 p, w.length ≤ 1000) ∧
  match f with
  | none => RelL (GoodP v) ps (cs.take i) ∧ ∀ j r, j < i → rs[j]? = some r → r.2 = true
  | some a => barGo none 0 ps = .inl a
theorem Sofar.start {v : Nat} {cs : List Col} {rs : List (Str × Bool)} : Sofar v cs rs 0 [] none := ⟨[], fun _ => ⟨rfl, rfl⟩, fun z => absurd z (Nat.lt_irrefl 0), nofun, by rw [List.take_zero]; trivial, fun j r z => absurd z (Nat.not_lt_zero _)⟩
def nextF (f : Option Nat) (ok : Bool) (a : Nat) : Option Nat := match f with
  | some b => some b
  | none => if ok = true then none else some a
/-- one more row -/
theorem Sofar.add {v : Nat} {cs : List Col} {rs : List (Str × Bool)} {i : Nat} {l : Sg} {f : Option Nat} {c : Col} {r : Str × Bool} {n m : Nat} (h : Sofar v cs rs i l f) (hc : cs[i]? = some c) (hr : rs[i]? = some r) (hv : c.es.length = v) (ok : rowOk v i c r) :
    Sofar v cs rs (i + 1) (l ++ (if i = 0 then [] else [124]) ++ (List.replicate n 32 ++ tl r.1 ++ List.replicate m 32))
      (nextF f r.2 ((l ++ (if i = 0 then ([] : Sg) else [124])).length + (if tl r.1 = [] then n + m else n))) := by
  obtain ⟨ps, h0, h1, h2, h3⟩ := h
  obtain ⟨⟨o1, o2, o3, _⟩, o4⟩ := ok
  generalize hp : List.replicate n 32 ++ tl r.1 ++ List.replicate m 32 = p
  have np : 124 ∉ p := by
    rw [← hp]
    intro z
    rcases List.mem_append.mp z with z | z
    · rcases List.mem_append.mp z with z | z
      · have := (List.mem_replicate.mp z).2; omega
      · exact o1 z
    · have := (List.mem_replicate.mp z).2; omega
  have wp : wordsP p = wordsP (tl r.1) := by rw [← hp]; exact words_part n m _
  have lp : lead p = if tl r.1 = [] then n + m else n := by rw [← hp]; exact lead_part o2
  have cl : ∀ w ∈ cuts 32 p, w.length ≤ 1000 := by
    refine cut_len ?_
    rw [wp]
    exact fun w hw => o3 w (List.mem_filter.mp hw).1
  have ec : cuts 124 (l ++ (if i = 0 then [] else [124]) ++ p) = ps ++ [p] := by
    by_cases hi : i = 0
    · obtain ⟨e1, e2⟩ := h0 hi
      rw [if_pos hi, e1, e2]
      exact cuts_none np
    · rw [if_neg hi, List.append_assoc]
      show cuts 124 (l ++ 124 :: p) = _
      rw [cuts_app, cuts_none np, h1 (by omega)]
  have sp : sumP ps = (l ++ (if i = 0 then ([] : Sg) else [124])).length := by
    by_cases hi : i = 0
    · obtain ⟨e1, e2⟩ := h0 hi
      rw [if_pos hi, e1, e2]; rfl
    · rw [if_neg hi, ← h1 (by omega), sum_cuts, List.length_append]; rfl
  refine ⟨ps ++ [p], fun z => absurd z (by omega), fun _ => ec, fun x hx => ?_, ?_⟩
  · rcases List.mem_append.mp hx with hx | hx
    · exact h2 x hx
    · rw [List.mem_singleton.mp hx]; exact cl
  cases f with
  | some a => exact barGo_left ps 0 none [p] a h3
  | none =>
    obtain ⟨g1, g2⟩ := h3
    have tk : cs.take (i + 1) = cs.take i ++ [c] := by rw [List.take_add_one, hc]; rfl
    unfold nextF
    simp only
    by_cases hr2 : r.2 = true
    · rw [if_pos hr2]
      rw [if_pos hr2] at o4
      refine ⟨?_, fun j r' hj e => ?_⟩
      · rw [tk]
        exact RelL.snoc g1 ⟨by rw [wp]; exact o4, hv⟩
      · by_cases hji : j = i
        · subst hji; rw [hr] at e; cases e; exact hr2
        · exact g2 j r' (by omega) e
    · rw [if_neg hr2]
      rw [if_neg hr2] at o4
      show barGo none 0 (ps ++ [p]) = .inl _
      have hpi : ps = [] ↔ i = 0 := by
        constructor
        · intro z
          by_cases hi : i = 0
          · exact hi
          · have := h1 (by omega)
            rw [z] at this
            exact absurd this (cuts_ne 124 l)
        · exact fun z => (h0 z).2
      have key := barGo_good ps (cs.take i) 0 none [p] g1 (.inl rfl)
      rw [key, barGo_wrong (v := v) (by
        rw [wp]
        rcases o4 with o4 | ⟨hi, d, o4, o5⟩
        · exact .inl o4
        · exact .inr ⟨if_neg (fun z => by have := hpi.mp z; omega), d, o4, o5⟩)]
      simp only
      rw [lp, Nat.zero_add, sp]
theorem math__law_laid (ds M Q E) (hM : WFM M) (hb : D.belL M.length ds = true) (h : sp__law_laid ds M Q E) : r__law_laid (retE M.length Q E) (startD N__law_laid ds) M := by
  obtain ⟨p, v, cs, rs, d, rfl, hp, hdp, hsq, hsq2, ⟨⟨hc1, hc2⟩, hv, hok⟩, ⟨hrl, hrow, hbad⟩, q⟩ := h
  have hpl := hp.lt
  have ln : ∀ M', Kit.Step p M M' → lenD d M' = some rs.length ∧ ∀ y, d ≠ .str y := fun M' st => by
    have := lenD_seq (hsq2 M' st)
    rwa [List.length_map] at this
  have st0 : Kit.Step p M M := ⟨⟨M[p]'hpl, by simp⟩, hp⟩
  unfold r__law_laid
  refine seq_step fun S hS => ?_
  simp [startD]
  subst hS
  refine seq_step fun S hS => ?_
  simp
  subst hS
  refine seq_step fun S hS => ?_
  simp [(ln M st0).1, (ln M st0).2]
  refine ⟨by omega, ?_⟩
  refine forR_ind (fun i δ M' => ∃ (l : Str) (f : Option Nat) (a b : Option D), δ = [some (.ref p), some d, some (.str l), some (optA f), a, b] ∧ Kit.Step p M M' ∧ Sofar v cs rs i (tl l) f ∧ l.length ≤ i * 8100) ?_ ?_ ⟨_, none, none, none, rfl, st0, Sofar.start, Nat.le_refl 0⟩
  · rintro δ M' ⟨l, f, a, b, rfl, st, ⟨ps, _, g1, g2, g3⟩, hll⟩
    refine ⟨trivial, ?_⟩
    show S _ _ _
    subst hS
    simp
    have hml : l.length ≤ 1100000 := by
      have : rs.length * 8100 ≤ 128 * 8100 := Nat.mul_le_mul_right _ (by omega)
      omega
    have e1 := g1 (by omega)
    cases f with
    | none =>
      obtain ⟨r, hr, hf⟩ := hbad
      obtain ⟨j, hj, rfl⟩ := List.getElem_of_mem hr
      have := g3.2 j rs[j] hj (List.getElem?_eq_getElem hj)
      rw [hf] at this; cases this
    | some a =>
      refine ⟨by rw [hz]; decide, ?_⟩
      rw [popM_same (by rw [st.length]; exact Nat.le_refl _)]
      refine q l a M' (by omega) ?_ ?_ st
      · show ∀ p ∈ cuts 124 (tl l), _
        rw [e1]; exact g2
      · unfold barP
        rw [e1]; exact g3
  · rintro i δ M' F hi ⟨l, f, a, b, rfl, st, hso, hll⟩ hF
    refine ⟨trivial, ?_⟩
    have hri : rs[i]? = some rs[i] := List.getElem?_eq_getElem hi
    generalize hrd : rs[i] = r at hri
    have hci : cs[i]? = some cs[i] := List.getElem?_eq_getElem (by omega)
    generalize hcd : cs[i] = c at hci
    have okr := hrow i c r hci hri
    have okc := hok c (List.mem_of_getElem? hci)
    have hlen : c.es.length = v := okc.1.2.2.2.1
    have hat : atI (rs.map rowD) (i : Int) = some (.tup [.str r.1, .bl r.2]) := at_nat (by rw [List.getElem?_map, hri]; rfl)
    have hml : l.length ≤ 1100000 := by
      have : i * 8100 ≤ 128 * 8100 := Nat.mul_le_mul_right _ (by omega)
      omega
    have hr1 : r.1.length ≤ 8000 := okr.1.2.2.2
    have hpad : ∀ k : Nat, tl (strRep (Str.ofString " ") (k : Int)) = List.replicate k 32 := pad_tl
    have hpl2 : ∀ k : Nat, (strRep (Str.ofString " ") (k : Int)).length = k := fun k => by rw [len_cps, show (strRep (Str.ofString " ") (k : Int)).cps.toList = List.replicate k 32 from hpad k, List.length_replicate]
    refine seq_step fun S2 hS2 => ?_
    -- behind the first pad
    have body : ∀ (l1 : Str) (n : Nat) M2, tl l1 = tl l ++ (if i = 0 then [] else [124]) ++ List.replicate n 32 → n ≤ 5 → Kit.Step p M M2 →
        S2 { nx := F, rt := (retE M.length Q E).rt, bk := S (retE M.length Q E), ct := F, ex := (retE M.length Q E).ex } [some (.ref p), some d, some (.str l1), some (optA f), some (.int (i : Int)), b] M2 := by
      intro l1 n M2 hl1 hn st2
      have hl2 : l1.length = (tl l ++ (if i = 0 then ([] : Sg) else [124])).length + n := by rw [len_cps, show l1.cps.toList = _ from hl1, List.length_append, List.length_replicate]
      have hl3 : (tl l ++ (if i = 0 then ([] : Sg) else [124])).length ≤ l.length + 1 := by
        rw [List.length_append, ← len_cps]
        split <;> simp
      subst hS2
      refine seq_step fun S2 hS2 => ?_
      simp
      refine ⟨by rw [hz]; omega, ?_⟩
      subst hS2
      refine seq_step fun S2 hS2 => ?_
      simp [hsq2 M2 st2, hat]
      refine .inl ⟨by rw [hz]; omega, p, rfl, st2.2, fun m M3 hm st3 => ?_⟩
      have st5 := st2.trans st3
      have hlr : (l1 ++ r.1).length = l1.length + r.1.length := str_len_app _ _
      refine ⟨by rw [hlr, hpl2, hz]; omega, ?_⟩
      generalize hl4 : l1 ++ r.1 ++ strRep (Str.ofString " ") (m : Int) = l4
      have tl4 : tl l4 = tl l ++ (if i = 0 then [] else [124]) ++ (List.replicate n 32 ++ tl r.1 ++ List.replicate m 32) := by
        rw [← hl4, tl_app, tl_app, hl1, hpad]
        simp [List.append_assoc]
      have len4 : l4.length = l1.length + r.1.length + m := by rw [← hl4, str_len_app, str_len_app, hpl2]
      have nxt := hso.add (n := n) (m := m) hci hri hlen okr
      rw [← tl4] at nxt
      have fin : ∀ f', f' = nextF f r.2 ((tl l ++ (if i = 0 then ([] : Sg) else [124])).length + (if tl r.1 = [] then n + m else n)) →
          F [some (.ref p), some d, some (.str l4), some (optA f'), some (.int (i : Int)), some (.int (l1.length : Int))] M3 := by
        rintro f' rfl
        exact hF _ _ ⟨l4, _, _, _, rfl, st5, nxt, by omega⟩
      subst hS2
      cases f with
      | some a =>
        simp [optA]
        exact fin (some a) rfl
      | none =>
        simp [optA, hsq2 M3 st5, hat]
        by_cases hr2 : r.2 = true
        · have := fin none (by unfold nextF; rw [if_pos hr2])
          simp [hr2]
          exact .inl this
        · have hr3 : r.2 = false := by simpa using hr2
          have := fin (some _) (by unfold nextF; rw [if_neg hr2])
          simp [hr3]
          refine .inl (.inl ?_)
          have emp : (r.1 = Str.ofString "") ↔ tl r.1 = [] := ⟨fun e => by rw [e]; rfl, fun e => str_ext e⟩
          by_cases he : tl r.1 = []
          · rw [if_pos (emp.mpr he)]
            rw [if_pos he] at this
            have h0 : r.1.length = 0 := by rw [len_cps]; show (tl r.1).length = 0; rw [he]; rfl
            refine ⟨by rw [hz]; omega, ?_⟩
            rw [show l4.length = (tl l ++ (if i = 0 then ([] : Sg) else [124])).length + (n + m) by omega]
            exact this
          · rw [if_neg (fun z => he (emp.mp z))]
            rw [if_neg he] at this
            rw [show l1.length = (tl l ++ (if i = 0 then ([] : Sg) else [124])).length + n from hl2]
            rw [show l1.length = (tl l ++ (if i = 0 then ([] : Sg) else [124])).length + n from hl2] at this
            exact this
    have bar : ∀ x : Str, tl x = tl l ++ (if i = 0 then [] else [124]) → x.length ≤ 1200000 → sp__law_pad [.ref p] M' (fun y M2 => oAdd false (.str x) y M2 fun d3 M3 =>
        S2 { nx := F, rt := (retE M.length Q E).rt, bk := S (retE M.length Q E), ct := F, ex := (retE M.length Q E).ex } [some (.ref p), some d, some d3, some (optA f), some (.int (i : Int)), b] M3) (fun x M1 => E x (popX M.length x M1)) := by
      intro x hx hxl
      refine ⟨p, rfl, st.2, fun k M2 hk st2 => ?_⟩
      refine ⟨by rw [hpl2 k, hz]; omega, body _ k M2 ?_ hk (st.trans st2)⟩
      rw [tl_app, hx, hpad k]
    have e1 : (Str.ofString "|").length = 1 := rfl
    have e0 : (Str.ofString "").length = 0 := rfl
    simp
    by_cases h0 : i = 0
    · rw [if_neg (by omega)]
      refine ⟨by rw [e0, hz]; omega, ?_⟩
      refine bar _ ?_ ?_
      · rw [tl_app, if_pos h0]; rfl
      · rw [str_len_app, e0]; omega
    · rw [if_pos (by omega)]
      refine ⟨by rw [e1, hz]; omega, ?_⟩
      refine bar _ ?_ ?_
      · rw [tl_app, if_neg h0]; rfl
      · rw [str_len_app, e1]; omega
end K12
namespace K12
open MD L2 PySem Kit K03
theorem math__law_told (CO : COf) (ds M Q E) (hM : WFM M) (hb : D.belL M.length ds = true) (h : sp__law_told ds M Q E) : r__law_told CO (retE M.length Q E) (startD N__law_told ds) M := by
  obtain ⟨x, rfl, hx, hw, q⟩ := h
  unfold r__law_told
  refine seq_step fun S hS => ?_
  simp [startD]
  refine ⟨x, rfl, hx, hw, ?_⟩
  generalize barP (tl x) = r at q
  cases r with
  | inl a =>
    refine ⟨false, false, (by decide : mtb xmt "BadText" "BadName" = some false), (by decide : mtb xmt "BadText" "BadKey" = some false), nofun, fun _ => ⟨true, (by decide : mtb xmt "BadText" "BadText" = some true), fun _ a cls d' hco => ?_, nofun⟩⟩
    have e1 : mtb xit "BadText" "ScoreError" = some true := by decide
    have e2 : mtb xit "BadText" "ValueError" = some true := by decide
    have e3 : mtb xit "BadText" "BadColumn" = some false := by decide
    simp [tIsE', tXf', asE', e1, e2, e3]
    refine ⟨by decide, by rw [hz]; decide, ?_⟩
    show Q _ (popM _ _ _)
    exact same_pop q
  | inr cs =>
    unfold barAns
    simp only
    unfold toldD at q
    simp only at q
    by_cases h64 : 64 < cs.length
    · rw [if_pos h64]
      rw [if_pos h64] at q
      refine ⟨false, false, (by decide : mtb xmt "BadColumn" "BadName" = some false), (by decide : mtb xmt "BadColumn" "BadKey" = some false), nofun, fun _ => ⟨false, (by decide : mtb xmt "BadColumn" "BadText" = some false), nofun, fun _ => ⟨true, (by decide : mtb xmt "BadColumn" "BadColumn" = some true), fun _ a cls d' hco => ?_, nofun⟩⟩⟩
      have e1 : mtb xit "BadColumn" "ScoreError" = some true := by decide
      have e2 : mtb xit "BadColumn" "ValueError" = some true := by decide
      simp [tIsE', tXf', asE', e1, e2]
      refine ⟨by decide, Lit.non, rfl, by decide, by rw [hz]; decide, ?_⟩
      show Q _ (popM _ _ _)
      exact same_pop q
    · rw [if_neg h64]
      rw [if_neg h64] at q
      show S _ _ _
      subst hS
      simp
      exact ⟨by rw [hz]; decide, same_pop q⟩
theorem plain_tup {n : Nat} {ds : List D} (hl : ds.length ≤ sizeLine) (h : ∀ d ∈ ds, plainD n d = true) : plainD (n + 1) (.tup ds) = true := by
  show ((decide (0 < n + 1) && decide (ds.length ≤ sizeLine)) && plainL n ds) = true
  rw [plainL_of ds h, decide_eq_true (Nat.succ_pos n), decide_eq_true hl]; rfl
theorem plain_told {v : Nat} {cs : List Col} (hv : v ≤ 4) (h1 : cs.length ≤ 1000) (h2 : ∀ c ∈ cs, okC v c) : plainD 6 (.tup [.str "told", barD cs]) = true := by
  refine plain_tup (by rw [hz]; simp) fun d hd => ?_
  simp only [List.mem_cons, List.not_mem_nil, or_false] at hd
  rcases hd with rfl | rfl
  · rfl
  · refine plain_bar (by rw [hz]; omega) fun c hc => ?_
    have : c.es.length = v := (h2 c hc).1.2.2.2.1
    rw [hz]; omega
theorem math_law (ds M Q E) (hM : WFM M) (hb : D.belL M.length ds = true) (h : sp_law ds M Q E) : r_law (retE M.length Q E) (startD N_law ds) M := by
  obtain ⟨ns, rfl, hns, rfl, q⟩ := h
  unfold r_law
  refine seq_step fun S hS => ?_
  simp [startD]
  refine ⟨ns, rfl, hns, fun ms hms => ?_⟩
  simp
  have hp0 : Pool [poolD ms 0 0 17] 0 := ⟨ms, 0, 0, 17, rfl, hms, by decide, by decide, by decide⟩
  generalize [poolD ms 0 0 17] = M0 at hp0
  subst hS
  refine seq_step fun S hS => ?_
  simp
  refine forR_ind (fun i δ M' => Pool M' 0 ∧ ∃ a b c d e f g h, δ = [some (.scr ns), some (.ref 0), a, b, c, d, e, f, g, h]) ?_ ?_ ⟨hp0, _, _, _, _, _, _, _, _, rfl⟩
  · rintro δ M' ⟨hp, a, b, c, d, e, f, g, h, rfl⟩
    refine ⟨trivial, ?_⟩
    show S _ _ _
    subst hS
    simp
    exact q _
  · rintro i δ M' F hi ⟨hp, a, b, c, d, e, f, g, h, rfl⟩ hF
    refine ⟨trivial, ?_⟩
    refine seq_step fun S2 hS2 => ?_
    simp
    refine ⟨0, 4, rfl, by decide, by decide, hp, fun r1 M1 a1 b1 st1 => ?_⟩
    simp
    refine ⟨0, (1 + r1).toNat, by rw [Int.toNat_of_nonneg (by omega)], st1.2, by omega, by omega, fun cs M2 okb st2 => ?_⟩
    generalize (1 + r1).toNat = v at okb
    obtain ⟨⟨hc1, hc2⟩, ⟨hv1, hv4⟩, hok⟩ := okb
    subst hS2
    refine seq_step fun S2 hS2 => ?_
    simp
    refine ⟨0, v, cs, rfl, st2.2, ⟨⟨hc1, hc2⟩, ⟨hv1, hv4⟩, hok⟩, fun rs M3 hrs st3 => ?_⟩
    refine ⟨0, v, cs, rs, .lst (rs.map rowD), rfl, st3.2, nofun, rfl, fun _ _ => rfl, ⟨⟨hc1, by omega⟩, ⟨hv1, hv4⟩, hok⟩, hrs, fun x1 p1 M4 hx1 hw1 hb1 st4 => ?_⟩
    simp
    subst hS2
    refine seq_step fun S2 hS2 => ?_
    simp
    refine ⟨x1, rfl, hx1, hw1, ?_⟩
    rw [hb1]
    refine ⟨by rw [hz]; decide, toldD (.inl p1), rfl, plain_tup (by rw [hz]; simp) (by simp [plainD]), ?_⟩
    simp
    subst hS2
    refine seq_step fun S2 hS2 => ?_
    simp
    refine ⟨0, v, cs, rfl, st4.2, ⟨⟨hc1, by omega⟩, ⟨hv1, hv4⟩, hok⟩, fun x2 M5 hx2 hw2 hb2 st5 => ?_⟩
    refine ⟨x2, rfl, hx2, hw2, ?_⟩
    rw [hb2]
    have e2 : toldD (.inr cs) = .tup [.str "told", barD cs] := by show (if 64 < cs.length then _ else _) = _; rw [if_neg (by omega)]
    rw [e2]
    refine ⟨by rw [hz]; decide, _, rfl, plain_told hv4 (by omega) hok, ?_⟩
    simp
    subst hS2
    refine seq_step fun S2 hS2 => ?_
    simp
    refine ⟨cs.length, by show some (cs.map colD).length = _; rw [List.length_map], nofun, by rw [hz]; decide, 0, _, _, rfl, st5.2, nofun, rfl, fun _ _ => rfl, by simp, by simp, fun dm M6 hdm st6 => ?_⟩
    have hm : ∃ m : Nat, dm = .int (m : Int) ∧ 65 ≤ m ∧ m ≤ 128 := by
      simp only [List.mem_cons, List.not_mem_nil, or_false] at hdm
      rcases hdm with rfl | rfl | rfl
      · exact ⟨65, rfl, by omega, by omega⟩
      · exact ⟨66, rfl, by omega, by omega⟩
      · exact ⟨64 + cs.length, rfl, by omega, by omega⟩
    obtain ⟨m, rfl, hm1, hm2⟩ := hm
    have hls : ∃ ls : List Col, ls = ((List.replicate 65 cs).flatten).take m ∧ 65 ≤ ls.length ∧ ls.length ≤ 128 ∧ (∀ c ∈ ls, okC v c) := by
      refine ⟨_, rfl, ?_, ?_, fun c hc => ?_⟩
      · rw [List.length_take, List.length_flatten]
        simp
        omega
      · rw [List.length_take]; omega
      · obtain ⟨l, hl, hc⟩ := List.mem_flatten.mp (List.mem_of_mem_take hc)
        rw [(List.mem_replicate.mp hl).2] at hc
        exact hok c hc
    obtain ⟨ls, hls0, hl1, hl2, hlok⟩ := hls
    subst hS2
    refine seq_step fun S2 hS2 => ?_
    simp [-List.reduceReplicate]
    refine ⟨cs.map colD, rfl, by simp; intro z; rw [z] at hc1; simp at hc1, by rw [List.length_map]; omega, ?_⟩
    have ecut : cutD (List.replicate 65 (cs.map colD)).flatten none (some (m : Int)) = ls.map colD := by
      rw [hls0, List.map_take, List.map_flatten, List.map_replicate]
      unfold cutD
      have e1 : HT.sIx (List.replicate 65 (cs.map colD)).flatten.length 0 none = 0 := rfl
      rw [e1, List.drop_zero]
      rw [HT.sIx_nat, Nat.sub_zero, ← List.take_take, List.take_length]
    show S2 _ [_, _, _, _, _, some (.tup (cutD (List.replicate 65 (cs.map colD)).flatten none (some (m : Int)))), _, _, _, _] M6
    rw [ecut, show D.tup (ls.map colD) = barD ls from rfl]
    clear ecut hls0
    have st56 := st6.2
    subst hS2
    refine seq_step fun S2 hS2 => ?_
    simp
    refine ⟨0, v, ls, rfl, st56, ⟨⟨by omega, by omega⟩, ⟨hv1, hv4⟩, hlok⟩, fun x3 M7 hx3 hw3 hb3 st7 => ?_⟩
    refine ⟨x3, rfl, hx3, hw3, ?_⟩
    rw [hb3]
    have e3 : toldD (.inr ls) = .tup [.str "count", .non, .str "count", .bl true, .bl true] := by show (if 64 < ls.length then _ else _) = _; rw [if_pos (by omega)]
    rw [e3]
    refine ⟨by rw [hz]; decide, _, rfl, plain_tup (by rw [hz]; simp) (by simp [plainD]), ?_⟩
    simp
    subst hS2
    refine seq_step fun S2 hS2 => ?_
    simp
    refine cells_lc (cs := ls) (M0 := M7) ⟨hv1, hv4⟩ hlok (by omega) (by simp) (Own.refl st7.2) fun M8 ho8 hl8 => ?_
    simp
    generalize hJ : M8.length = J at *
    have hJ0 : 0 < J := by have := st7.2.lt; omega
    have ho9 : Own 0 M7 (M8 ++ [.lst (ls.map (rowD ∘ rightR))]) := ho8.add
    have hw9 : (M8 ++ [Cell.lst (ls.map (rowD ∘ rightR))])[J]? = some (.lst ((ls.map rightR).map rowD)) := by rw [← hJ, List.map_map]; exact get_last M8 _
    generalize M8 ++ [Cell.lst (ls.map (rowD ∘ rightR))] = M9 at ho9 hw9
    have hlne : ls ≠ [] := by intro z; rw [z] at hl1; simp at hl1
    have hlast : ls[ls.length - 1]? = some (ls.getLast hlne) := by rw [List.getLast_eq_getElem hlne, List.getElem?_eq_getElem (by omega)]
    have okl := hlok _ (List.getLast_mem hlne)
    subst hS2
    refine seq_step fun S2 hS2 => ?_
    simp
    refine .inl ⟨_, rfl, _, last_map colD hlne, 0, v, _, rfl, ho9.pool, hv1, hv4, okl, fun x4 M10 hx4 hn4 st10 => ?_⟩
    have hw10 : M10[J]? = some (.lst ((ls.map rightR).map rowD)) := by rw [st10.other (by omega)]; exact hw9
    have hrg : rowsG v ls (ls.map rightR) := by
      refine ⟨by simp, fun k c r e1 e2 => ?_⟩
      rw [List.getElem?_map, e1] at e2
      cases e2
      exact right_row (hlok c (List.mem_of_getElem? e1)) ⟨hv1, hv4⟩ k
    have hrg2 := hrg.set (k := ls.length - 1) (r := (x4, false)) hlast ⟨hx4, .inl hn4⟩
    have hix : ixN ((ls.map rightR).map rowD).length (-1) = some (ls.length - 1) := by
      unfold ixN
      rw [if_neg (by decide), List.length_map, List.length_map, if_pos (by omega)]
      congr 1; omega
    refine ⟨by rw [hz]; decide, _, hw10, _, hix, ?_⟩
    have hM11 : (M10.set J (.lst (((ls.map rightR).map rowD).set (ls.length - 1) (.tup [.str x4, .bl false]))))[J]? = some (.lst (((ls.map rightR).set (ls.length - 1) (x4, false)).map rowD)) := by
      rw [set_self hw10, List.map_set]
      rfl
    have hp11 : Pool (M10.set J (.lst (((ls.map rightR).map rowD).set (ls.length - 1) (.tup [.str x4, .bl false])))) 0 := st10.2.of_eq (List.getElem?_set_ne (by omega))
    generalize M10.set J (.lst (((ls.map rightR).map rowD).set (ls.length - 1) (.tup [.str x4, .bl false]))) = M11 at hM11 hp11
    subst hS2
    refine seq_step fun S2 hS2 => ?_
    simp
    refine ⟨0, v, ls, (ls.map rightR).set (ls.length - 1) (x4, false), .ref J, rfl, hp11, by simp; omega, by rw [u_sqR]; exact lstOf_ref hM11, fun M' st => by rw [u_sqR]; exact lstOf_ref (by rw [st.other (by omega)]; exact hM11), ⟨⟨by omega, by omega⟩, ⟨hv1, hv4⟩, hlok⟩,
      ⟨hrg2.1, hrg2.2, (x4, false), List.mem_set (by rw [List.length_map]; omega) _, rfl⟩, fun x5 p5 M12 hx5 hw5 hb5 st12 => ?_⟩
    simp
    subst hS2
    simp
    refine ⟨x5, rfl, hx5, hw5, ?_⟩
    rw [hb5]
    refine ⟨by rw [hz]; decide, toldD (.inl p5), rfl, plain_tup (by rw [hz]; simp) (by simp [plainD]), ?_⟩
    simp
    exact hF _ _ ⟨st12.2, _, _, _, _, _, _, _, _, rfl⟩
end K12
namespace K12
open MD L2 PySem PySem.Spec PyProof.Rows Kit K03
def topS (i : Nat) : Stmt := PySem.Challenge.pw_counterheld_k12_whole_texts_that_are_no.main.body.getD i (.Pass ⟨0, 0, 0, 0⟩)
abbrev sI_BadColumn : Stmt := initOf (topS 16)
abbrev sI_BadName : Stmt := initOf (topS 9)
abbrev sI_BadText : Stmt := initOf (topS 19)
abbrev s_is_fraction : Stmt := topS 4
theorem sc_is_fraction : FnScope N_is_fraction ["value"] (defScope s_is_fraction) := ⟨rfl, rfl, rfl, by decide +kernel, rfl, by decide +kernel, by decide +kernel⟩
abbrev s_whole : Stmt := topS 10
theorem sc_whole : FnScope N_whole ["text"] (defScope s_whole) := ⟨rfl, rfl, rfl, by decide +kernel, rfl, by decide +kernel, by decide +kernel⟩
abbrev s_within : Stmt := topS 11
theorem sc_within : FnScope N_within ["interval", "text"] (defScope s_within) := ⟨rfl, rfl, rfl, by decide +kernel, rfl, by decide +kernel, by decide +kernel⟩
abbrev s_read_tone : Stmt := topS 12
theorem sc_read_tone : FnScope N_read_tone ["text"] (defScope s_read_tone) := ⟨rfl, rfl, rfl, by decide +kernel, rfl, by decide +kernel, by decide +kernel⟩
abbrev s_is_duration : Stmt := topS 17
theorem sc_is_duration : FnScope N_is_duration ["value"] (defScope s_is_duration) := ⟨rfl, rfl, rfl, by decide +kernel, rfl, by decide +kernel, by decide +kernel⟩
abbrev s_read_entry : Stmt := topS 20
theorem sc_read_entry : FnScope N_read_entry ["word"] (defScope s_read_entry) := ⟨rfl, rfl, rfl, by decide +kernel, rfl, by decide +kernel, by decide +kernel⟩
abbrev s_read_duration_of : Stmt := topS 21
theorem sc_read_duration_of : FnScope N_read_duration_of ["word"] (defScope s_read_duration_of) := ⟨rfl, rfl, rfl, by decide +kernel, rfl, by decide +kernel, by decide +kernel⟩
abbrev s_read_duration : Stmt := topS 22
theorem sc_read_duration : FnScope N_read_duration ["word"] (defScope s_read_duration) := ⟨rfl, rfl, rfl, by decide +kernel, rfl, by decide +kernel, by decide +kernel⟩
abbrev s_read_column : Stmt := topS 23
theorem sc_read_column : FnScope N_read_column ["words"] (defScope s_read_column) := ⟨rfl, rfl, rfl, by decide +kernel, rfl, by decide +kernel, by decide +kernel⟩
abbrev s_read_bar : Stmt := topS 24
theorem sc_read_bar : FnScope N_read_bar ["text"] (defScope s_read_bar) := ⟨rfl, rfl, rfl, by decide +kernel, rfl, by decide +kernel, by decide +kernel⟩
abbrev s__law_pool : Stmt := topS 28
theorem sc__law_pool : FnScope N__law_pool ["script"] (defScope s__law_pool) := ⟨rfl, rfl, rfl, by decide +kernel, rfl, by decide +kernel, by decide +kernel⟩
abbrev s__law_take : Stmt := topS 29
theorem sc__law_take : FnScope N__law_take ["pool", "many"] (defScope s__law_take) := ⟨rfl, rfl, rfl, by decide +kernel, rfl, by decide +kernel, by decide +kernel⟩
abbrev s__law_pick : Stmt := topS 30
theorem sc__law_pick : FnScope N__law_pick ["pool", "rows"] (defScope s__law_pick) := ⟨rfl, rfl, rfl, by decide +kernel, rfl, by decide +kernel, by decide +kernel⟩
abbrev s__law_is_integer : Stmt := topS 31
theorem sc__law_is_integer : FnScope N__law_is_integer ["actual"] (defScope s__law_is_integer) := ⟨rfl, rfl, rfl, by decide +kernel, rfl, by decide +kernel, by decide +kernel⟩
abbrev s__law_same : Stmt := topS 32
theorem sc__law_same : FnScope N__law_same ["actual", "due"] (defScope s__law_same) := ⟨rfl, rfl, rfl, by decide +kernel, rfl, by decide +kernel, by decide +kernel⟩
abbrev s__law_lowest : Stmt := topS 33
theorem sc__law_lowest : FnScope N__law_lowest ["n", "d"] (defScope s__law_lowest) := ⟨rfl, rfl, rfl, by decide +kernel, rfl, by decide +kernel, by decide +kernel⟩
abbrev s__law_duration : Stmt := topS 34
theorem sc__law_duration : FnScope N__law_duration ["pool"] (defScope s__law_duration) := ⟨rfl, rfl, rfl, by decide +kernel, rfl, by decide +kernel, by decide +kernel⟩
abbrev s__law_tone : Stmt := topS 35
theorem sc__law_tone : FnScope N__law_tone ["pool"] (defScope s__law_tone) := ⟨rfl, rfl, rfl, by decide +kernel, rfl, by decide +kernel, by decide +kernel⟩
abbrev s__law_column : Stmt := topS 36
theorem sc__law_column : FnScope N__law_column ["pool", "voices", "before", "some"] (defScope s__law_column) := ⟨rfl, rfl, rfl, by decide +kernel, rfl, by decide +kernel, by decide +kernel⟩
abbrev s__law_bar : Stmt := topS 37
theorem sc__law_bar : FnScope N__law_bar ["pool", "voices", "most"] (defScope s__law_bar) := ⟨rfl, rfl, rfl, by decide +kernel, rfl, by decide +kernel, by decide +kernel⟩
abbrev s__law_letter : Stmt := topS 38
theorem sc__law_letter : FnScope N__law_letter ["fifths"] (defScope s__law_letter) := ⟨rfl, rfl, rfl, by decide +kernel, rfl, by decide +kernel, by decide +kernel⟩
abbrev s__law_far_pair : Stmt := topS 39
theorem sc__law_far_pair : FnScope N__law_far_pair ["pool"] (defScope s__law_far_pair) := ⟨rfl, rfl, rfl, by decide +kernel, rfl, by decide +kernel, by decide +kernel⟩
abbrev s__law_tone_text : Stmt := topS 40
theorem sc__law_tone_text : FnScope N__law_tone_text ["tone"] (defScope s__law_tone_text) := ⟨rfl, rfl, rfl, by decide +kernel, rfl, by decide +kernel, by decide +kernel⟩
abbrev s__law_cell_words : Stmt := topS 41
theorem sc__law_cell_words : FnScope N__law_cell_words ["cell"] (defScope s__law_cell_words) := ⟨rfl, rfl, rfl, by decide +kernel, rfl, by decide +kernel, by decide +kernel⟩
abbrev s__law_pad : Stmt := topS 42
theorem sc__law_pad : FnScope N__law_pad ["pool"] (defScope s__law_pad) := ⟨rfl, rfl, rfl, by decide +kernel, rfl, by decide +kernel, by decide +kernel⟩
abbrev s__law_spaced : Stmt := topS 43
theorem sc__law_spaced : FnScope N__law_spaced ["pool", "bar"] (defScope s__law_spaced) := ⟨rfl, rfl, rfl, by decide +kernel, rfl, by decide +kernel, by decide +kernel⟩
abbrev s__law_far_bar : Stmt := topS 44
theorem sc__law_far_bar : FnScope N__law_far_bar ["pool", "voices"] (defScope s__law_far_bar) := ⟨rfl, rfl, rfl, by decide +kernel, rfl, by decide +kernel, by decide +kernel⟩
abbrev s__law_wrong_text : Stmt := topS 45
theorem sc__law_wrong_text : FnScope N__law_wrong_text ["pool", "cell"] (defScope s__law_wrong_text) := ⟨rfl, rfl, rfl, by decide +kernel, rfl, by decide +kernel, by decide +kernel⟩
abbrev s__law_cells : Stmt := topS 46
theorem sc__law_cells : FnScope N__law_cells ["pool", "bar"] (defScope s__law_cells) := ⟨rfl, rfl, rfl, by decide +kernel, rfl, by decide +kernel, by decide +kernel⟩
abbrev s__law_laid : Stmt := topS 47
theorem sc__law_laid : FnScope N__law_laid ["pool", "cells"] (defScope s__law_laid) := ⟨rfl, rfl, rfl, by decide +kernel, rfl, by decide +kernel, by decide +kernel⟩
abbrev s__law_told : Stmt := topS 48
theorem sc__law_told : FnScope N__law_told ["text"] (defScope s__law_told) := ⟨rfl, rfl, rfl, by decide +kernel, rfl, by decide +kernel, by decide +kernel⟩
abbrev s_law : Stmt := topS 49
theorem sc_law : FnScope N_law ["script"] (defScope s_law) := ⟨rfl, rfl, rfl, by decide +kernel, rfl, by decide +kernel, by decide +kernel⟩

structure Txt (P : Program) (K : PySem.W.Frag) (mg : Str → Option Value) where
  f_is_fraction : Addr
  fd_is_fraction : FuncData
  F_is_fraction : Fun K "is_fraction" "is_fraction" s_is_fraction f_is_fraction fd_is_fraction
  g_is_fraction : mg "is_fraction" = some (.ref f_is_fraction)
  f_whole : Addr
  fd_whole : FuncData
  F_whole : Fun K "whole" "whole" s_whole f_whole fd_whole
  g_whole : mg "whole" = some (.ref f_whole)
  f_within : Addr
  fd_within : FuncData
  F_within : Fun K "within" "within" s_within f_within fd_within
  g_within : mg "within" = some (.ref f_within)
  f_read_tone : Addr
  fd_read_tone : FuncData
  F_read_tone : Fun K "read_tone" "read_tone" s_read_tone f_read_tone fd_read_tone
  g_read_tone : mg "read_tone" = some (.ref f_read_tone)
  f_is_duration : Addr
  fd_is_duration : FuncData
  F_is_duration : Fun K "is_duration" "is_duration" s_is_duration f_is_duration fd_is_duration
  g_is_duration : mg "is_duration" = some (.ref f_is_duration)
  f_read_entry : Addr
  fd_read_entry : FuncData
  F_read_entry : Fun K "read_entry" "read_entry" s_read_entry f_read_entry fd_read_entry
  g_read_entry : mg "read_entry" = some (.ref f_read_entry)
  f_read_duration_of : Addr
  fd_read_duration_of : FuncData
  F_read_duration_of : Fun K "read_duration_of" "read_duration_of" s_read_duration_of f_read_duration_of fd_read_duration_of
  g_read_duration_of : mg "read_duration_of" = some (.ref f_read_duration_of)
  f_read_duration : Addr
  fd_read_duration : FuncData
  F_read_duration : Fun K "read_duration" "read_duration" s_read_duration f_read_duration fd_read_duration
  g_read_duration : mg "read_duration" = some (.ref f_read_duration)
  f_read_column : Addr
  fd_read_column : FuncData
  F_read_column : Fun K "read_column" "read_column" s_read_column f_read_column fd_read_column
  g_read_column : mg "read_column" = some (.ref f_read_column)
  f_read_bar : Addr
  fd_read_bar : FuncData
  F_read_bar : Fun K "read_bar" "read_bar" s_read_bar f_read_bar fd_read_bar
  g_read_bar : mg "read_bar" = some (.ref f_read_bar)
  f__law_pool : Addr
  fd__law_pool : FuncData
  F__law_pool : Fun K "_law_pool" "_law_pool" s__law_pool f__law_pool fd__law_pool
  g__law_pool : mg "_law_pool" = some (.ref f__law_pool)
  f__law_take : Addr
  fd__law_take : FuncData
  F__law_take : Fun K "_law_take" "_law_take" s__law_take f__law_take fd__law_take
  g__law_take : mg "_law_take" = some (.ref f__law_take)
  f__law_pick : Addr
  fd__law_pick : FuncData
  F__law_pick : Fun K "_law_pick" "_law_pick" s__law_pick f__law_pick fd__law_pick
  g__law_pick : mg "_law_pick" = some (.ref f__law_pick)
  f__law_is_integer : Addr
  fd__law_is_integer : FuncData
  F__law_is_integer : Fun K "_law_is_integer" "_law_is_integer" s__law_is_integer f__law_is_integer fd__law_is_integer
  g__law_is_integer : mg "_law_is_integer" = some (.ref f__law_is_integer)
  f__law_same : Addr
  fd__law_same : FuncData
  F__law_same : Fun K "_law_same" "_law_same" s__law_same f__law_same fd__law_same
  g__law_same : mg "_law_same" = some (.ref f__law_same)
  f__law_lowest : Addr
  fd__law_lowest : FuncData
  F__law_lowest : Fun K "_law_lowest" "_law_lowest" s__law_lowest f__law_lowest fd__law_lowest
  g__law_lowest : mg "_law_lowest" = some (.ref f__law_lowest)
  f__law_duration : Addr
  fd__law_duration : FuncData
  F__law_duration : Fun K "_law_duration" "_law_duration" s__law_duration f__law_duration fd__law_duration
  g__law_duration : mg "_law_duration" = some (.ref f__law_duration)
  f__law_tone : Addr
  fd__law_tone : FuncData
  F__law_tone : Fun K "_law_tone" "_law_tone" s__law_tone f__law_tone fd__law_tone
  g__law_tone : mg "_law_tone" = some (.ref f__law_tone)
  f__law_column : Addr
  fd__law_column : FuncData
  F__law_column : Fun K "_law_column" "_law_column" s__law_column f__law_column fd__law_column
  g__law_column : mg "_law_column" = some (.ref f__law_column)
  f__law_bar : Addr
  fd__law_bar : FuncData
  F__law_bar : Fun K "_law_bar" "_law_bar" s__law_bar f__law_bar fd__law_bar
  g__law_bar : mg "_law_bar" = some (.ref f__law_bar)
  f__law_letter : Addr
  fd__law_letter : FuncData
  F__law_letter : Fun K "_law_letter" "_law_letter" s__law_letter f__law_letter fd__law_letter
  g__law_letter : mg "_law_letter" = some (.ref f__law_letter)
  f__law_far_pair : Addr
  fd__law_far_pair : FuncData
  F__law_far_pair : Fun K "_law_far_pair" "_law_far_pair" s__law_far_pair f__law_far_pair fd__law_far_pair
  g__law_far_pair : mg "_law_far_pair" = some (.ref f__law_far_pair)
  f__law_tone_text : Addr
  fd__law_tone_text : FuncData
  F__law_tone_text : Fun K "_law_tone_text" "_law_tone_text" s__law_tone_text f__law_tone_text fd__law_tone_text
  g__law_tone_text : mg "_law_tone_text" = some (.ref f__law_tone_text)
  f__law_cell_words : Addr
  fd__law_cell_words : FuncData
  F__law_cell_words : Fun K "_law_cell_words" "_law_cell_words" s__law_cell_words f__law_cell_words fd__law_cell_words
  g__law_cell_words : mg "_law_cell_words" = some (.ref f__law_cell_words)
  f__law_pad : Addr
  fd__law_pad : FuncData
  F__law_pad : Fun K "_law_pad" "_law_pad" s__law_pad f__law_pad fd__law_pad
  g__law_pad : mg "_law_pad" = some (.ref f__law_pad)
  f__law_spaced : Addr
  fd__law_spaced : FuncData
  F__law_spaced : Fun K "_law_spaced" "_law_spaced" s__law_spaced f__law_spaced fd__law_spaced
  g__law_spaced : mg "_law_spaced" = some (.ref f__law_spaced)
  f__law_far_bar : Addr
  fd__law_far_bar : FuncData
  F__law_far_bar : Fun K "_law_far_bar" "_law_far_bar" s__law_far_bar f__law_far_bar fd__law_far_bar
  g__law_far_bar : mg "_law_far_bar" = some (.ref f__law_far_bar)
  f__law_wrong_text : Addr
  fd__law_wrong_text : FuncData
  F__law_wrong_text : Fun K "_law_wrong_text" "_law_wrong_text" s__law_wrong_text f__law_wrong_text fd__law_wrong_text
  g__law_wrong_text : mg "_law_wrong_text" = some (.ref f__law_wrong_text)
  f__law_cells : Addr
  fd__law_cells : FuncData
  F__law_cells : Fun K "_law_cells" "_law_cells" s__law_cells f__law_cells fd__law_cells
  g__law_cells : mg "_law_cells" = some (.ref f__law_cells)
  f__law_laid : Addr
  fd__law_laid : FuncData
  F__law_laid : Fun K "_law_laid" "_law_laid" s__law_laid f__law_laid fd__law_laid
  g__law_laid : mg "_law_laid" = some (.ref f__law_laid)
  f__law_told : Addr
  fd__law_told : FuncData
  F__law_told : Fun K "_law_told" "_law_told" s__law_told f__law_told fd__law_told
  g__law_told : mg "_law_told" = some (.ref f__law_told)
  f_law : Addr
  fd_law : FuncData
  F_law : Fun K "law" "law" s_law f_law fd_law
  g_law : mg "law" = some (.ref f_law)
  z_list : mg "list" = none
  z_tuple : mg "tuple" = none
  z_isinstance : mg "isinstance" = none
  z_len : mg "len" = none
  z_bool : mg "bool" = none
  z_int : mg "int" = none
  z_any : mg "any" = none
  z_all : mg "all" = none
  z_abs : mg "abs" = none
  z_max : mg "max" = none
  z_range : mg "range" = none
  z_str : mg "str" = none
  z_ValueError : mg "ValueError" = none
  m_gcd : mg "gcd" = some (.builtin "math.gcd")
  c_LETTERS : GlobD K mg "LETTERS" (.str "CDEFGAB")
  c_FIFTHS : GlobD K mg "FIFTHS" (.tup [.int 0, .int 2, .int 4, .int (-1), .int 1, .int 3, .int 5])
  c_MOST : GlobD K mg "MOST" (.int 1000)
  c_MOST_COLUMNS : GlobD K mg "MOST_COLUMNS" (.int 64)
  c_MOST_PART : GlobD K mg "MOST_PART" (.int 1000)
  C_BadColumn : Addr
  g_BadColumn : mg "BadColumn" = some (.ref C_BadColumn)
  n_BadColumn : PySem.W.nsIn K mainGlobals "BadColumn" = some (some (.ref C_BadColumn))
  C_BadKey : Addr
  g_BadKey : mg "BadKey" = some (.ref C_BadKey)
  n_BadKey : PySem.W.nsIn K mainGlobals "BadKey" = some (some (.ref C_BadKey))
  C_BadName : Addr
  g_BadName : mg "BadName" = some (.ref C_BadName)
  n_BadName : PySem.W.nsIn K mainGlobals "BadName" = some (some (.ref C_BadName))
  C_BadText : Addr
  g_BadText : mg "BadText" = some (.ref C_BadText)
  n_BadText : PySem.W.nsIn K mainGlobals "BadText" = some (some (.ref C_BadText))
  C_ScoreError : Addr
  g_ScoreError : mg "ScoreError" = some (.ref C_ScoreError)
  n_ScoreError : PySem.W.nsIn K mainGlobals "ScoreError" = some (some (.ref C_ScoreError))
  I_BadColumn : Addr
  id_BadColumn : FuncData
  o_BadColumn : OwnI P K mg "BadColumn" C_BadColumn I_BadColumn id_BadColumn ["number", "reason"]
  I_BadName : Addr
  id_BadName : FuncData
  o_BadName : OwnI P K mg "BadName" C_BadName I_BadName id_BadName ["text"]
  I_BadText : Addr
  id_BadText : FuncData
  o_BadText : OwnI P K mg "BadText" C_BadText I_BadText id_BadText ["position"]
  n_ValueError : PySem.W.nsIn K mainGlobals "ValueError" = some none
  mtok : MtOk K xmt
  isok : IsOk K xit
  xtok : XtOk K xxt

section
variable {P : Program} {wd : World} {K : PySem.W.Frag} {mg : Str → Option Value} {base : Heap}
theorem bnd_is_fraction {K : PySem.W.Frag} {f : Addr} {fd : FuncData} (F : Fun K "is_fraction" "is_fraction" s_is_fraction f fd) : Binds K fd ["value"] [] := F.binds fun _ _ _ _ _ _ us hl => match us, hl with | [_], _ => rfl
theorem Txt.b_is_fraction (T : Txt P K mg) : Binds K T.fd_is_fraction ["value"] [] := bnd_is_fraction T.F_is_fraction
theorem bnd_whole {K : PySem.W.Frag} {f : Addr} {fd : FuncData} (F : Fun K "whole" "whole" s_whole f fd) : Binds K fd ["text"] [] := F.binds fun _ _ _ _ _ _ us hl => match us, hl with | [_], _ => rfl
theorem Txt.b_whole (T : Txt P K mg) : Binds K T.fd_whole ["text"] [] := bnd_whole T.F_whole
theorem bnd_within {K : PySem.W.Frag} {f : Addr} {fd : FuncData} (F : Fun K "within" "within" s_within f fd) : Binds K fd ["interval", "text"] [] := F.binds fun _ _ _ _ _ _ us hl => match us, hl with | [_, _], _ => rfl
theorem Txt.b_within (T : Txt P K mg) : Binds K T.fd_within ["interval", "text"] [] := bnd_within T.F_within
theorem bnd_read_tone {K : PySem.W.Frag} {f : Addr} {fd : FuncData} (F : Fun K "read_tone" "read_tone" s_read_tone f fd) : Binds K fd ["text"] [] := F.binds fun _ _ _ _ _ _ us hl => match us, hl with | [_], _ => rfl
theorem Txt.b_read_tone (T : Txt P K mg) : Binds K T.fd_read_tone ["text"] [] := bnd_read_tone T.F_read_tone
theorem bnd_is_duration {K : PySem.W.Frag} {f : Addr} {fd : FuncData} (F : Fun K "is_duration" "is_duration" s_is_duration f fd) : Binds K fd ["value"] [] := F.binds fun _ _ _ _ _ _ us hl => match us, hl with | [_], _ => rfl
theorem Txt.b_is_duration (T : Txt P K mg) : Binds K T.fd_is_duration ["value"] [] := bnd_is_duration T.F_is_duration
theorem bnd_read_entry {K : PySem.W.Frag} {f : Addr} {fd : FuncData} (F : Fun K "read_entry" "read_entry" s_read_entry f fd) : Binds K fd ["word"] [] := F.binds fun _ _ _ _ _ _ us hl => match us, hl with | [_], _ => rfl
theorem Txt.b_read_entry (T : Txt P K mg) : Binds K T.fd_read_entry ["word"] [] := bnd_read_entry T.F_read_entry
theorem bnd_read_duration_of {K : PySem.W.Frag} {f : Addr} {fd : FuncData} (F : Fun K "read_duration_of" "read_duration_of" s_read_duration_of f fd) : Binds K fd ["word"] [] := F.binds fun _ _ _ _ _ _ us hl => match us, hl with | [_], _ => rfl
theorem Txt.b_read_duration_of (T : Txt P K mg) : Binds K T.fd_read_duration_of ["word"] [] := bnd_read_duration_of T.F_read_duration_of
theorem bnd_read_duration {K : PySem.W.Frag} {f : Addr} {fd : FuncData} (F : Fun K "read_duration" "read_duration" s_read_duration f fd) : Binds K fd ["word"] [] := F.binds fun _ _ _ _ _ _ us hl => match us, hl with | [_], _ => rfl
theorem Txt.b_read_duration (T : Txt P K mg) : Binds K T.fd_read_duration ["word"] [] := bnd_read_duration T.F_read_duration
theorem bnd_read_column {K : PySem.W.Frag} {f : Addr} {fd : FuncData} (F : Fun K "read_column" "read_column" s_read_column f fd) : Binds K fd ["words"] [] := F.binds fun _ _ _ _ _ _ us hl => match us, hl with | [_], _ => rfl
theorem Txt.b_read_column (T : Txt P K mg) : Binds K T.fd_read_column ["words"] [] := bnd_read_column T.F_read_column
theorem bnd_read_bar {K : PySem.W.Frag} {f : Addr} {fd : FuncData} (F : Fun K "read_bar" "read_bar" s_read_bar f fd) : Binds K fd ["text"] [] := F.binds fun _ _ _ _ _ _ us hl => match us, hl with | [_], _ => rfl
theorem Txt.b_read_bar (T : Txt P K mg) : Binds K T.fd_read_bar ["text"] [] := bnd_read_bar T.F_read_bar
theorem bnd__law_pool {K : PySem.W.Frag} {f : Addr} {fd : FuncData} (F : Fun K "_law_pool" "_law_pool" s__law_pool f fd) : Binds K fd ["script"] [] := F.binds fun _ _ _ _ _ _ us hl => match us, hl with | [_], _ => rfl
theorem Txt.b__law_pool (T : Txt P K mg) : Binds K T.fd__law_pool ["script"] [] := bnd__law_pool T.F__law_pool
theorem bnd__law_take {K : PySem.W.Frag} {f : Addr} {fd : FuncData} (F : Fun K "_law_take" "_law_take" s__law_take f fd) : Binds K fd ["pool", "many"] [] := F.binds fun _ _ _ _ _ _ us hl => match us, hl with | [_, _], _ => rfl
theorem Txt.b__law_take (T : Txt P K mg) : Binds K T.fd__law_take ["pool", "many"] [] := bnd__law_take T.F__law_take
theorem bnd__law_pick {K : PySem.W.Frag} {f : Addr} {fd : FuncData} (F : Fun K "_law_pick" "_law_pick" s__law_pick f fd) : Binds K fd ["pool", "rows"] [] := F.binds fun _ _ _ _ _ _ us hl => match us, hl with | [_, _], _ => rfl
theorem Txt.b__law_pick (T : Txt P K mg) : Binds K T.fd__law_pick ["pool", "rows"] [] := bnd__law_pick T.F__law_pick
theorem bnd__law_is_integer {K : PySem.W.Frag} {f : Addr} {fd : FuncData} (F : Fun K "_law_is_integer" "_law_is_integer" s__law_is_integer f fd) : Binds K fd ["actual"] [] := F.binds fun _ _ _ _ _ _ us hl => match us, hl with | [_], _ => rfl
theorem Txt.b__law_is_integer (T : Txt P K mg) : Binds K T.fd__law_is_integer ["actual"] [] := bnd__law_is_integer T.F__law_is_integer
theorem bnd__law_same {K : PySem.W.Frag} {f : Addr} {fd : FuncData} (F : Fun K "_law_same" "_law_same" s__law_same f fd) : Binds K fd ["actual", "due"] [] := F.binds fun _ _ _ _ _ _ us hl => match us, hl with | [_, _], _ => rfl
theorem Txt.b__law_same (T : Txt P K mg) : Binds K T.fd__law_same ["actual", "due"] [] := bnd__law_same T.F__law_same
theorem bnd__law_lowest {K : PySem.W.Frag} {f : Addr} {fd : FuncData} (F : Fun K "_law_lowest" "_law_lowest" s__law_lowest f fd) : Binds K fd ["n", "d"] [] := F.binds fun _ _ _ _ _ _ us hl => match us, hl with | [_, _], _ => rfl
theorem Txt.b__law_lowest (T : Txt P K mg) : Binds K T.fd__law_lowest ["n", "d"] [] := bnd__law_lowest T.F__law_lowest
theorem bnd__law_duration {K : PySem.W.Frag} {f : Addr} {fd : FuncData} (F : Fun K "_law_duration" "_law_duration" s__law_duration f fd) : Binds K fd ["pool"] [] := F.binds fun _ _ _ _ _ _ us hl => match us, hl with | [_], _ => rfl
theorem Txt.b__law_duration (T : Txt P K mg) : Binds K T.fd__law_duration ["pool"] [] := bnd__law_duration T.F__law_duration
theorem bnd__law_tone {K : PySem.W.Frag} {f : Addr} {fd : FuncData} (F : Fun K "_law_tone" "_law_tone" s__law_tone f fd) : Binds K fd ["pool"] [] := F.binds fun _ _ _ _ _ _ us hl => match us, hl with | [_], _ => rfl
theorem Txt.b__law_tone (T : Txt P K mg) : Binds K T.fd__law_tone ["pool"] [] := bnd__law_tone T.F__law_tone
theorem bnd__law_column {K : PySem.W.Frag} {f : Addr} {fd : FuncData} (F : Fun K "_law_column" "_law_column" s__law_column f fd) : Binds K fd ["pool", "voices", "before", "some"] [] := F.binds fun _ _ _ _ _ _ us hl => match us, hl with | [_, _, _, _], _ => rfl
theorem Txt.b__law_column (T : Txt P K mg) : Binds K T.fd__law_column ["pool", "voices", "before", "some"] [] := bnd__law_column T.F__law_column
theorem bnd__law_bar {K : PySem.W.Frag} {f : Addr} {fd : FuncData} (F : Fun K "_law_bar" "_law_bar" s__law_bar f fd) : Binds K fd ["pool", "voices", "most"] [] := F.binds fun _ _ _ _ _ _ us hl => match us, hl with | [_, _, _], _ => rfl
theorem Txt.b__law_bar (T : Txt P K mg) : Binds K T.fd__law_bar ["pool", "voices", "most"] [] := bnd__law_bar T.F__law_bar
theorem bnd__law_letter {K : PySem.W.Frag} {f : Addr} {fd : FuncData} (F : Fun K "_law_letter" "_law_letter" s__law_letter f fd) : Binds K fd ["fifths"] [] := F.binds fun _ _ _ _ _ _ us hl => match us, hl with | [_], _ => rfl
theorem Txt.b__law_letter (T : Txt P K mg) : Binds K T.fd__law_letter ["fifths"] [] := bnd__law_letter T.F__law_letter
theorem bnd__law_far_pair {K : PySem.W.Frag} {f : Addr} {fd : FuncData} (F : Fun K "_law_far_pair" "_law_far_pair" s__law_far_pair f fd) : Binds K fd ["pool"] [] := F.binds fun _ _ _ _ _ _ us hl => match us, hl with | [_], _ => rfl
theorem Txt.b__law_far_pair (T : Txt P K mg) : Binds K T.fd__law_far_pair ["pool"] [] := bnd__law_far_pair T.F__law_far_pair
theorem bnd__law_tone_text {K : PySem.W.Frag} {f : Addr} {fd : FuncData} (F : Fun K "_law_tone_text" "_law_tone_text" s__law_tone_text f fd) : Binds K fd ["tone"] [] := F.binds fun _ _ _ _ _ _ us hl => match us, hl with | [_], _ => rfl
theorem Txt.b__law_tone_text (T : Txt P K mg) : Binds K T.fd__law_tone_text ["tone"] [] := bnd__law_tone_text T.F__law_tone_text
theorem bnd__law_cell_words {K : PySem.W.Frag} {f : Addr} {fd : FuncData} (F : Fun K "_law_cell_words" "_law_cell_words" s__law_cell_words f fd) : Binds K fd ["cell"] [] := F.binds fun _ _ _ _ _ _ us hl => match us, hl with | [_], _ => rfl
theorem Txt.b__law_cell_words (T : Txt P K mg) : Binds K T.fd__law_cell_words ["cell"] [] := bnd__law_cell_words T.F__law_cell_words
theorem bnd__law_pad {K : PySem.W.Frag} {f : Addr} {fd : FuncData} (F : Fun K "_law_pad" "_law_pad" s__law_pad f fd) : Binds K fd ["pool"] [] := F.binds fun _ _ _ _ _ _ us hl => match us, hl with | [_], _ => rfl
theorem Txt.b__law_pad (T : Txt P K mg) : Binds K T.fd__law_pad ["pool"] [] := bnd__law_pad T.F__law_pad
theorem bnd__law_spaced {K : PySem.W.Frag} {f : Addr} {fd : FuncData} (F : Fun K "_law_spaced" "_law_spaced" s__law_spaced f fd) : Binds K fd ["pool", "bar"] [] := F.binds fun _ _ _ _ _ _ us hl => match us, hl with | [_, _], _ => rfl
theorem Txt.b__law_spaced (T : Txt P K mg) : Binds K T.fd__law_spaced ["pool", "bar"] [] := bnd__law_spaced T.F__law_spaced
theorem bnd__law_far_bar {K : PySem.W.Frag} {f : Addr} {fd : FuncData} (F : Fun K "_law_far_bar" "_law_far_bar" s__law_far_bar f fd) : Binds K fd ["pool", "voices"] [] := F.binds fun _ _ _ _ _ _ us hl => match us, hl with | [_, _], _ => rfl
theorem Txt.b__law_far_bar (T : Txt P K mg) : Binds K T.fd__law_far_bar ["pool", "voices"] [] := bnd__law_far_bar T.F__law_far_bar
theorem bnd__law_wrong_text {K : PySem.W.Frag} {f : Addr} {fd : FuncData} (F : Fun K "_law_wrong_text" "_law_wrong_text" s__law_wrong_text f fd) : Binds K fd ["pool", "cell"] [] := F.binds fun _ _ _ _ _ _ us hl => match us, hl with | [_, _], _ => rfl
theorem Txt.b__law_wrong_text (T : Txt P K mg) : Binds K T.fd__law_wrong_text ["pool", "cell"] [] := bnd__law_wrong_text T.F__law_wrong_text
theorem bnd__law_cells {K : PySem.W.Frag} {f : Addr} {fd : FuncData} (F : Fun K "_law_cells" "_law_cells" s__law_cells f fd) : Binds K fd ["pool", "bar"] [] := F.binds fun _ _ _ _ _ _ us hl => match us, hl with | [_, _], _ => rfl
theorem Txt.b__law_cells (T : Txt P K mg) : Binds K T.fd__law_cells ["pool", "bar"] [] := bnd__law_cells T.F__law_cells
theorem bnd__law_laid {K : PySem.W.Frag} {f : Addr} {fd : FuncData} (F : Fun K "_law_laid" "_law_laid" s__law_laid f fd) : Binds K fd ["pool", "cells"] [] := F.binds fun _ _ _ _ _ _ us hl => match us, hl with | [_, _], _ => rfl
theorem Txt.b__law_laid (T : Txt P K mg) : Binds K T.fd__law_laid ["pool", "cells"] [] := bnd__law_laid T.F__law_laid
theorem bnd__law_told {K : PySem.W.Frag} {f : Addr} {fd : FuncData} (F : Fun K "_law_told" "_law_told" s__law_told f fd) : Binds K fd ["text"] [] := F.binds fun _ _ _ _ _ _ us hl => match us, hl with | [_], _ => rfl
theorem Txt.b__law_told (T : Txt P K mg) : Binds K T.fd__law_told ["text"] [] := bnd__law_told T.F__law_told
theorem bnd_law {K : PySem.W.Frag} {f : Addr} {fd : FuncData} (F : Fun K "law" "law" s_law f fd) : Binds K fd ["script"] [] := F.binds fun _ _ _ _ _ _ us hl => match us, hl with | [_], _ => rfl
theorem Txt.b_law (T : Txt P K mg) : Binds K T.fd_law ["script"] [] := bnd_law T.F_law
theorem ok_is_fraction (T : Txt P K mg) : FnOk P wd K mg base (L2.CX P wd) 1 T.f_is_fraction T.fd_is_fraction ["value"] (upP K sp_is_fraction) :=
  okM T.F_is_fraction sc_is_fraction len_is_fraction fun cdv A outer s H E hr => by
    have hu := hr.units
    exact ⟨r_is_fraction, (mss_cons (ms_if (MW.mt (mw_or (mt_not (mt_tru (me_callB call_isiT2 la_isiT mr_isiT (by rfl) T.z_isinstance (by decide +kernel) (ma_cons (mv 0) (ma_cons (me_tup (ma_cons (me_ty (by rfl) T.z_tuple (by decide +kernel)) (ma_cons (me_ty (by rfl) T.z_list (by decide +kernel)) ma_nil))) ma_nil))))) (mw_or1 (mt_cmp (op_neAll hu) lf_ne mn_eq (me_callB call_len la_len mr_len (by rfl) T.z_len (by decide +kernel) (ma_cons (mv 0) ma_nil)) me_int (nomark _))))) (mss_one (ms_ret me_bl)) mss_nil)
      (mss_cons (ms_if (mt_tru (me_callB (cr_any rfl) la_any mr_bls (by rfl) T.z_any (by decide +kernel) (ma_cons (me_lc (own := [("part", 1)]) false rfl sc_is_fraction.nd (mi_seq (mv 0)) (blkOk_by (N := N_is_fraction) (sc := defScope s_is_fraction) (by decide +kernel)) (fun _ _ _ _ _ => pg_name (i := 1) sc_is_fraction.nd (by rfl) (.inl rfl)) cg_name (fun _ _ _ _ _ => mts_nil) (fun _ _ _ _ _ => (me_or (me_callB call_isi la_isi mr_isi (by rfl) T.z_isinstance (by decide +kernel) (ma_cons (mv 1) (ma_cons (me_ty (by rfl) T.z_bool (by decide +kernel)) ma_nil))) (me_one (me_not (me_callB call_isi la_isi mr_isi (by rfl) T.z_isinstance (by decide +kernel) (ma_cons (mv 1) (ma_cons (me_ty (by rfl) T.z_int (by decide +kernel)) ma_nil)))))))) ma_nil))) (mss_one (ms_ret me_bl)) mss_nil)
      (mss_one (ms_ret (me_and (me_cmp op_gt lf_B0 mn_I0 (me_ix ix_seq lf_ix mn_ix (mv 0) me_int (fun _ _ => rfl)) me_int (nomark _)) (me_one (me_cmp (op_eqAll hu) lf_eq mn_eq (me_callBfun cr_gcd la_gcd mr_I2 (by rfl) T.m_gcd (ma_cons (me_ix ix_seq lf_ix mn_ix (mv 0) me_int (fun _ _ => rfl)) (ma_cons (me_ix ix_seq lf_ix mn_ix (mv 0) me_int (fun _ _ => rfl)) ma_nil))) me_int (nomark _)))))))), math_is_fraction⟩
theorem ok_whole (T : Txt P K mg) : FnOk P wd K mg base (L2.CX P wd) 1 T.f_whole T.fd_whole ["text"] (upP K sp_whole) :=
  okM T.F_whole sc_whole len_whole fun cdv A outer s H E hr => by
    have hu := hr.units
    exact ⟨r_whole, (mss_cons (ms_set (i := 1) sc_whole.nd (by rfl) (.inl rfl) (me_if (mt_tru (me_bm PySem.F.plainAttrs_str PySem.F.slot_str_startswith PySem.F.type_str_startswith mt_startswith lm_starts mm_starts (mv 0) (ma_cons me_str ma_nil))) (me_slice sl_all (lsl_all (cell := false)) msl_all (mv 0) (mo_some me_int) mo_none) (mv 0)))
      (mss_cons (ms_if (MW.mt (mw_or (mt_not (mt_chain op_lt op_le lf_B0 lf_B0 mn_I0 mn_I0 me_int (me_callB call_len la_len mr_len (by rfl) T.z_len (by decide +kernel) (ma_cons (mv 1) ma_nil)) me_int)) (mw_or1 (mt_not (mt_tru (me_callB (cr_all rfl) la_all mr_bls (by rfl) T.z_all (by decide +kernel) (ma_cons (me_lc (own := [("sign", 2)]) false rfl sc_whole.nd (mi_seq (mv 1)) (blkOk_by (N := N_whole) (sc := defScope s_whole) (by decide +kernel)) (fun _ _ _ _ _ => pg_name (i := 2) sc_whole.nd (by rfl) (.inl rfl)) cg_name (fun _ _ _ _ _ => mts_nil) (fun _ _ _ _ _ => (me_cmp op_inS lf_inS mn_inS (mv 2) me_str rfl))) ma_nil))))))) (mss_one (ms_ret me_non)) mss_nil)
      (mss_cons (ms_if (MW.mt (mw_and (mt_cmp (op_eqAll hu) lf_eq mn_eq (me_ix ix_seq lf_ix mn_ix (mv 1) me_int (fun _ _ => rfl)) me_str (nomark _)) (mw_and1 (MW.mt (mw_or (mt_cmp op_gt lf_B0 mn_I0 (me_callB call_len la_len mr_len (by rfl) T.z_len (by decide +kernel) (ma_cons (mv 1) ma_nil)) me_int (nomark _)) (mw_or1 (mt_cmp (op_neAll hu) lf_ne mn_eq (mv 1) (mv 0) (nomark _)))))))) (mss_one (ms_ret me_non)) mss_nil)
      (mss_one (ms_ret (me_callTy call_intAll la_int mr_int (by rfl) T.z_int (by decide +kernel) (ma_cons (mv 0) ma_nil))))))), math_whole⟩
theorem ok_within (T : Txt P K mg) : FnOk P wd K mg base (L2.CX P wd) 3 T.f_within T.fd_within ["interval", "text"] (upP K sp_within) :=
  okM T.F_within sc_within len_within fun cdv A outer s H E hr => by
    have hu := hr.units
    exact ⟨r_within, (mss_cons (ms_if (mt_cmp op_gt lf_B0 mn_I0 (me_callB (call_max2 rfl) la_max2 mr_I2 (by rfl) T.z_max (by decide +kernel) (ma_cons (me_callB call_abs la_abs mr_I1 (by rfl) T.z_abs (by decide +kernel) (ma_cons (me_ix ix_seq lf_ix mn_ix (mv 0) me_int (fun _ _ => rfl)) ma_nil)) (ma_cons (me_callB call_abs la_abs mr_I1 (by rfl) T.z_abs (by decide +kernel) (ma_cons (me_ix ix_seq lf_ix mn_ix (mv 0) me_int (fun _ _ => rfl)) ma_nil)) ma_nil))) (me_globD (by rfl) T.c_MOST) (nomark _)) (mss_one (ms_raise rfl (takes_of rfl rfl rfl rfl) (mmk_init T.o_BadName (hr.mono (by decide)) (by rfl) (ma_cons (mv 1) ma_nil)))) mss_nil)
      (mss_one (ms_ret (mv 0)))), math_within⟩
theorem ok_read_tone (T : Txt P K mg) : FnOk P wd K mg base (L2.CX P wd) 4 T.f_read_tone T.fd_read_tone ["text"] (upP K sp_read_tone) :=
  okM T.F_read_tone sc_read_tone len_read_tone fun cdv A outer s H E hr => by
    have hu := hr.units
    exact ⟨r_read_tone, (mss_cons (ms_if (MW.mt (mw_or (mt_not (mt_tru (mv 0))) (mw_or1 (mt_cmp op_notInS lf_notInS mn_inS (me_ix ix_seq lf_ix mn_ix (mv 0) me_int (fun _ _ => rfl)) (me_globD (by rfl) T.c_LETTERS) rfl)))) (mss_one (ms_raise rfl (takes_of rfl rfl rfl rfl) (mmk_init T.o_BadName (hr.mono (by decide)) (by rfl) (ma_cons (mv 0) ma_nil)))) mss_nil)
      (mss_cons (ms_set (i := 1) sc_read_tone.nd (by rfl) (.inl rfl) me_int)
      (mss_cons (ms_while (passes_of rfl) (MW.mt (mw_and (mt_cmp op_lt lf_B0 mn_I0 (mv 1) (me_callB call_len la_len mr_len (by rfl) T.z_len (by decide +kernel) (ma_cons (mv 0) ma_nil)) (nomark _)) (mw_and (mt_cmp op_inS lf_inS mn_inS (me_ix ix_seq lf_ix mn_ix (mv 0) (mv 1) (fun _ _ => rfl)) me_str rfl) (mw_and1 (mt_cmp (op_eqAll hu) lf_eq mn_eq (me_ix ix_seq lf_ix mn_ix (mv 0) (mv 1) (fun _ _ => rfl)) (me_ix ix_seq lf_ix mn_ix (mv 0) me_int (fun _ _ => rfl)) (nomark _)))))) (mss_one (ms_set (i := 1) sc_read_tone.nd (by rfl) (.inl rfl) (me_op op_addAll (lf_add (cell := false)) mn_add (mv 1) me_int))))
      (mss_cons (ms_set (i := 2) sc_read_tone.nd (by rfl) (.inl rfl) (me_call (ok_whole T) mono_whole (hr.mono (by decide)) (takes_of rfl rfl rfl rfl) (by rfl) T.g_whole T.F_whole.kp T.b_whole (ma_cons (me_slice sl_all (lsl_all (cell := false)) msl_all (mv 0) (mo_some (mv 1)) mo_none) ma_nil)))
      (mss_cons (ms_if (mt_cmp op_isN1 lf_isN mn_isN (mv 2) me_non (nomark _)) (mss_one (ms_raise rfl (takes_of rfl rfl rfl rfl) (mmk_init T.o_BadName (hr.mono (by decide)) (by rfl) (ma_cons (mv 0) ma_nil)))) mss_nil)
      (mss_cons (ms_set (i := 3) sc_read_tone.nd (by rfl) (.inl rfl) (me_op op_sub lf_I0 mn_I0 (mv 1) me_int))
      (mss_cons (ms_if (MW.mt (mw_and (mt_cmp op_gt lf_B0 mn_I0 (mv 3) me_int (nomark _)) (mw_and1 (mt_cmp (op_eqAll hu) lf_eq mn_eq (me_ix ix_seq lf_ix mn_ix (mv 0) me_int (fun _ _ => rfl)) me_str (nomark _))))) (mss_one (ms_set (i := 3) sc_read_tone.nd (by rfl) (.inl rfl) (me_un un_neg lf_neg mn_neg (mv 3)))) mss_nil)
      (mss_cons (ms_set (i := 4) sc_read_tone.nd (by rfl) (.inl rfl) (me_bm PySem.F.plainAttrs_str PySem.F.slot_str_index PySem.F.type_str_index mt_sindex lm_sindex mm_sindex (me_globD (by rfl) T.c_LETTERS) (ma_cons (me_ix ix_seq lf_ix mn_ix (mv 0) me_int (fun _ _ => rfl)) ma_nil)))
      (mss_cons (ms_set (i := 5) sc_read_tone.nd (by rfl) (.inl rfl) (me_op op_addAll (lf_add (cell := false)) mn_add (me_ix ix_seq lf_ix mn_ix (me_globD (by rfl) T.c_FIFTHS) (mv 4) (fun _ _ => rfl)) (me_op op_mulAll (lf_mul (cell := false)) mn_mul me_int (mv 3))))
      (mss_one (ms_ret (me_call (ok_within T) mono_within (hr.mono (by decide)) (takes_of rfl rfl rfl rfl) (by rfl) T.g_within T.F_within.kp T.b_within (ma_cons (me_tup (ma_cons (mv 5) (ma_cons (me_op op_fdivA lf_I mn_I (me_op op_sub lf_I0 mn_I0 (me_op op_addAll (lf_add (cell := false)) mn_add (me_op op_mulAll (lf_mul (cell := false)) mn_mul me_int (mv 2)) (mv 4)) (me_op op_mulAll (lf_mul (cell := false)) mn_mul me_int (mv 5))) me_int) ma_nil))) (ma_cons (mv 0) ma_nil)))))))))))))), math_read_tone⟩
theorem ok_is_duration (T : Txt P K mg) : FnOk P wd K mg base (L2.CX P wd) 2 T.f_is_duration T.fd_is_duration ["value"] (upP K sp_is_duration) :=
  okM T.F_is_duration sc_is_duration len_is_duration fun cdv A outer s H E hr => by
    have hu := hr.units
    exact ⟨r_is_duration, (mss_one (ms_ret (me_and (me_call (ok_is_fraction T) mono_is_fraction (hr.mono (by decide)) (takes_of rfl rfl rfl rfl) (by rfl) T.g_is_fraction T.F_is_fraction.kp T.b_is_fraction (ma_cons (mv 0) ma_nil)) (me_and (me_chain op_lt op_le lf_B0 lf_B0 mn_I0 mn_I0 me_int (me_ix ix_seq lf_ix mn_ix (mv 0) me_int (fun _ _ => rfl)) (me_globD (by rfl) T.c_MOST_PART)) (me_one (me_cmp op_le lf_B0 mn_I0 (me_ix ix_seq lf_ix mn_ix (mv 0) me_int (fun _ _ => rfl)) (me_globD (by rfl) T.c_MOST_PART) (nomark _))))))), math_is_duration⟩
theorem ok_read_entry (T : Txt P K mg) : FnOk P wd K mg base (L2.CX P wd) 5 T.f_read_entry T.fd_read_entry ["word"] (upP K sp_read_entry) :=
  okM T.F_read_entry sc_read_entry len_read_entry fun cdv A outer s H E hr => by
    have hu := hr.units
    exact ⟨r_read_entry, (mss_cons (ms_if (mt_cmp (op_eqAll hu) lf_eq mn_eq (mv 0) me_str (nomark _)) (mss_one (ms_ret me_non)) mss_nil)
      (mss_cons (ms_if (mt_tru (me_bm PySem.F.plainAttrs_str PySem.F.slot_str_startswith PySem.F.type_str_startswith mt_startswith lm_starts mm_starts (mv 0) (ma_cons me_str ma_nil))) (mss_one (ms_ret (me_tup (ma_cons (me_call (ok_read_tone T) mono_read_tone (hr.mono (by decide)) (takes_of rfl rfl rfl rfl) (by rfl) T.g_read_tone T.F_read_tone.kp T.b_read_tone (ma_cons (me_slice sl_all (lsl_all (cell := false)) msl_all (mv 0) (mo_some me_int) mo_none) ma_nil)) (ma_cons me_bl ma_nil))))) mss_nil)
      (mss_one (ms_ret (me_tup (ma_cons (me_call (ok_read_tone T) mono_read_tone (hr.mono (by decide)) (takes_of rfl rfl rfl rfl) (by rfl) T.g_read_tone T.F_read_tone.kp T.b_read_tone (ma_cons (mv 0) ma_nil)) (ma_cons me_bl ma_nil))))))), math_read_entry⟩
theorem ok_read_duration_of (T : Txt P K mg) : FnOk P wd K mg base (L2.CX P wd) 2 T.f_read_duration_of T.fd_read_duration_of ["word"] (upP K sp_read_duration_of) :=
  okM T.F_read_duration_of sc_read_duration_of len_read_duration_of fun cdv A outer s H E hr => by
    have hu := hr.units
    exact ⟨r_read_duration_of, (mss_cons (ms_set (i := 1) sc_read_duration_of.nd (by rfl) (.inl rfl) (me_bm PySem.F.plainAttrs_str PySem.F.slot_str_split PySem.F.type_str_split mt_split (lm_split (cell := false)) (mm_split (cell := false)) (mv 0) (ma_cons me_str ma_nil)))
      (mss_cons (ms_if (mt_cmp op_gt lf_B0 mn_I0 (me_callB call_len la_len mr_len (by rfl) T.z_len (by decide +kernel) (ma_cons (mv 1) ma_nil)) me_int (nomark _)) (mss_one (ms_ret me_non)) mss_nil)
      (mss_cons (ms_setLc (i := 2) (own := [("part", 4)]) false rfl sc_read_duration_of.nd (by rfl) (by rfl) (by rfl) (mi_seq (mv 1)) (blkOk_by (N := N_read_duration_of) (sc := defScope s_read_duration_of) (by decide +kernel)) (fun _ _ _ _ _ => pg_name (i := 4) sc_read_duration_of.nd (by rfl) (.inl rfl)) cg_name (fun _ _ _ _ _ => mts_nil) (fun _ _ _ _ _ => (me_call (ok_whole T) mono_whole (hr.mono (by decide)) takes0 (by rfl) T.g_whole T.F_whole.kp T.b_whole (ma_cons (mv 4) ma_nil))))
      (mss_cons (ms_if (mt_cmp op_in_seq lf_inT mn_inT me_non (mv 2) rfl) (mss_one (ms_ret me_non)) mss_nil)
      (mss_cons (ms_if (MW.mt (mw_and (mt_cmp (op_eqAll hu) lf_eq mn_eq (me_callB call_len la_len mr_len (by rfl) T.z_len (by decide +kernel) (ma_cons (mv 2) ma_nil)) me_int (nomark _)) (mw_and1 (mt_cmp op_lt lf_B0 mn_I0 (me_ix ix_seq lf_ix mn_ix (mv 2) me_int (fun _ _ => rfl)) me_int (nomark _))))) (mss_one (ms_ret me_non)) mss_nil)
      (mss_cons (ms_set (i := 3) sc_read_duration_of.nd (by rfl) (.inl rfl) (me_tup (ma_cons (me_ix ix_seq lf_ix mn_ix (mv 2) me_int (fun _ _ => rfl)) (ma_cons (me_if (mt_cmp (op_eqAll hu) lf_eq mn_eq (me_callB call_len la_len mr_len (by rfl) T.z_len (by decide +kernel) (ma_cons (mv 2) ma_nil)) me_int (nomark _)) (me_ix ix_seq lf_ix mn_ix (mv 2) me_int (fun _ _ => rfl)) me_int) ma_nil))))
      (mss_one (ms_ret (me_if (MW.mt (mw_and (mt_tru (me_call (ok_is_fraction T) mono_is_fraction (hr.mono (by decide)) (takes_of rfl rfl rfl rfl) (by rfl) T.g_is_fraction T.F_is_fraction.kp T.b_is_fraction (ma_cons (mv 3) ma_nil))) (mw_and1 (mt_cmp op_gt lf_B0 mn_I0 (me_ix ix_seq lf_ix mn_ix (mv 3) me_int (fun _ _ => rfl)) me_int (nomark _))))) (mv 3) me_non))))))))), math_read_duration_of⟩
theorem ok_read_duration (T : Txt P K mg) : FnOk P wd K mg base (L2.CX P wd) 3 T.f_read_duration T.fd_read_duration ["word"] (upP K sp_read_duration) :=
  okM T.F_read_duration sc_read_duration len_read_duration fun cdv A outer s H E hr => by
    have hu := hr.units
    exact ⟨r_read_duration, (mss_cons (ms_set (i := 1) sc_read_duration.nd (by rfl) (.inl rfl) (me_call (ok_read_duration_of T) mono_read_duration_of (hr.mono (by decide)) (takes_of rfl rfl rfl rfl) (by rfl) T.g_read_duration_of T.F_read_duration_of.kp T.b_read_duration_of (ma_cons (mv 0) ma_nil)))
      (mss_one (ms_ret (me_if (MW.mt (mw_and (mt_cmp op_notN1 lf_notN mn_isN (mv 1) me_non (nomark _)) (mw_and1 (mt_tru (me_call (ok_is_duration T) mono_is_duration (hr.mono (by decide)) (takes_of rfl rfl rfl rfl) (by rfl) T.g_is_duration T.F_is_duration.kp T.b_is_duration (ma_cons (mv 1) ma_nil)))))) (mv 1) me_non)))), math_read_duration⟩
theorem ok_read_column (T : Txt P K mg) : FnOk P wd K mg base (L2.CX P wd) 6 T.f_read_column T.fd_read_column ["words"] (upP K sp_read_column) :=
  okM T.F_read_column sc_read_column len_read_column fun cdv A outer s H E hr => by
    have hu := hr.units
    exact ⟨r_read_column (ClsOf K), (mss_cons (ms_if (mt_not (mt_chain op_le op_le lf_B0 lf_B0 mn_I0 mn_I0 me_int (me_callB call_len la_len mr_len (by rfl) T.z_len (by decide +kernel) (ma_cons (mv 0) ma_nil)) me_int)) (mss_one (ms_ret me_non)) mss_nil)
      (mss_cons (ms_set (i := 1) sc_read_column.nd (by rfl) (.inl rfl) (me_bm PySem.F.plainAttrs_str PySem.F.slot_str_split PySem.F.type_str_split mt_split (lm_split (cell := false)) (mm_split (cell := false)) (me_ix ix_seq lf_ix mn_ix (mv 0) me_int (fun _ _ => rfl)) (ma_cons me_str ma_nil)))
      (mss_cons (ms_set (i := 2) sc_read_column.nd (by rfl) (.inl rfl) (me_call (ok_read_duration T) mono_read_duration (hr.mono (by decide)) (takes_of rfl rfl rfl rfl) (by rfl) T.g_read_duration T.F_read_duration.kp T.b_read_duration (ma_cons (me_ix ix_seq lf_ix mn_ix (mv 1) me_int (fun _ _ => rfl)) ma_nil)))
      (mss_cons (ms_set (i := 3) sc_read_column.nd (by rfl) (.inl rfl) me_int)
      (mss_cons (ms_if (MW.mt (mw_and (mt_cmp (op_eqAll hu) lf_eq mn_eq (me_callB call_len la_len mr_len (by rfl) T.z_len (by decide +kernel) (ma_cons (mv 1) ma_nil)) me_int (nomark _)) (mw_and (mt_cmp (op_eqAll hu) lf_eq mn_eq (me_callB call_len la_len mr_len (by rfl) T.z_len (by decide +kernel) (ma_cons (me_ix ix_seq lf_ix mn_ix (mv 1) me_int (fun _ _ => rfl)) ma_nil)) me_int (nomark _)) (mw_and1 (mt_cmp op_inS lf_inS mn_inS (me_ix ix_seq lf_ix mn_ix (mv 1) me_int (fun _ _ => rfl)) me_str rfl))))) (mss_one (ms_set (i := 3) sc_read_column.nd (by rfl) (.inl rfl) (me_callTy call_intAll la_int mr_int (by rfl) T.z_int (by decide +kernel) (ma_cons (me_ix ix_seq lf_ix mn_ix (mv 1) me_int (fun _ _ => rfl)) ma_nil)))) (mss_one (ms_if (mt_cmp op_gt lf_B0 mn_I0 (me_callB call_len la_len mr_len (by rfl) T.z_len (by decide +kernel) (ma_cons (mv 1) ma_nil)) me_int (nomark _)) (mss_one (ms_ret me_non)) mss_nil)))
      (mss_cons (ms_if (mt_cmp op_isN1 lf_isN mn_isN (mv 2) me_non (nomark _)) (mss_one (ms_ret me_non)) mss_nil)
      (mss_cons (ms_try T.mtok rfl rfl (takes_of rfl rfl rfl rfl) (passes_of rfl) (fun W' pn xe tk pp => (mss_one (ms_setLcX (i := 4) (own := [("word", 5)]) false rfl rfl tk rfl sc_read_column.nd (by rfl) (by rfl) (by rfl) (mi_seq (me_slice sl_all (lsl_all (cell := false)) msl_all (mv 0) (mo_some me_int) mo_none)) (blkOk_by (N := N_read_column) (sc := defScope s_read_column) (by decide +kernel)) (fun _ _ _ _ _ => pg_name (i := 5) sc_read_column.nd (by rfl) (.inl rfl)) cg_name (fun _ _ _ _ _ => mts_nil) (fun _ _ _ _ _ W2 xe2 tk2 => (me_call (ok_read_entry T) mono_read_entry (hr.mono (by decide)) tk2 (by rfl) T.g_read_entry T.F_read_entry.kp T.b_read_entry (ma_cons (mv 5) ma_nil)))))) (HdsM.one ⟨by rfl, by decide, .inl T.g_BadName⟩ (.inl T.n_BadName) (fun a oe cls d pn hz hf => (mss_one (ms_ret me_non))) HdsM.nil))
      (mss_one (ms_ret (me_tup (ma_cons (mv 2) (ma_cons (mv 3) (ma_cons (me_callTy call_tuple_of la_tuple mr_tuple (by rfl) T.z_tuple (by decide +kernel) (ma_cons (mv 4) ma_nil)) ma_nil))))))))))))), math_read_column (ClsOf K)⟩
theorem ok_read_bar (T : Txt P K mg) : FnOk P wd K mg base (L2.CX P wd) 7 T.f_read_bar T.fd_read_bar ["text"] (upP K sp_read_bar) :=
  okM T.F_read_bar sc_read_bar len_read_bar fun cdv A outer s H E hr => by
    have hu := hr.units
    exact ⟨r_read_bar, (mss_cons (ms_set (i := 1) sc_read_bar.nd (by rfl) (.inl rfl) (me_lst true ma_nil))
      (mss_cons (ms_set (i := 2) sc_read_bar.nd (by rfl) (.inl rfl) me_int)
      (mss_cons (ms_for (passes_of rfl) rfl (mi_seq (me_bm PySem.F.plainAttrs_str PySem.F.slot_str_split PySem.F.type_str_split mt_split (lm_split (cell := false)) (mm_split (cell := false)) (mv 0) (ma_cons me_str ma_nil))) (mg_name (i := 3) sc_read_bar.nd (by rfl) (.inl rfl)) (mss_cons (ms_setLc (i := 4) (own := [("word", 7)]) false rfl sc_read_bar.nd (by rfl) (by rfl) (by rfl) (mi_seq (me_bm PySem.F.plainAttrs_str PySem.F.slot_str_split PySem.F.type_str_split mt_split (lm_split (cell := false)) (mm_split (cell := false)) (mv 3) (ma_cons me_str ma_nil))) (blkOk_by (N := N_read_bar) (sc := defScope s_read_bar) (by decide +kernel)) (fun _ _ _ _ _ => pg_name (i := 7) sc_read_bar.nd (by rfl) (.inl rfl)) cg_name (fun _ _ _ _ _ => (mts_one (mt_tru (mv 7)))) (fun _ _ _ _ _ => (mv 7)))
      (mss_cons (ms_set (i := 5) sc_read_bar.nd (by rfl) (.inl rfl) (me_op op_sub lf_I0 mn_I0 (me_op op_addAll (lf_add (cell := false)) mn_add (mv 2) (me_callB call_len la_len mr_len (by rfl) T.z_len (by decide +kernel) (ma_cons (mv 3) ma_nil))) (me_callB call_len la_len mr_len (by rfl) T.z_len (by decide +kernel) (ma_cons (me_bm PySem.F.plainAttrs_str PySem.F.slot_str_lstrip PySem.F.type_str_lstrip mt_lstripChars lm_lstrip mm_lstrip (mv 3) (ma_cons me_str ma_nil)) ma_nil))))
      (mss_cons (ms_set (i := 6) sc_read_bar.nd (by rfl) (.inl rfl) (me_call (ok_read_column T) mono_read_column (hr.mono (by decide)) (takes_of rfl rfl rfl rfl) (by rfl) T.g_read_column T.F_read_column.kp T.b_read_column (ma_cons (mv 4) ma_nil)))
      (mss_cons (ms_if (MW.mt (mw_or (mt_cmp op_isN1 lf_isN mn_isN (mv 6) me_non (nomark _)) (mw_or1 (MW.mt (mw_and (mt_tru (mv 1)) (mw_and1 (mt_cmp (op_neAll hu) lf_ne mn_eq (me_callB call_len la_len mr_len (by rfl) T.z_len (by decide +kernel) (ma_cons (me_ix ix_seq lf_ix mn_ix (mv 6) me_int (fun _ _ => rfl)) ma_nil)) (me_callB call_len la_len mr_len (by rfl) T.z_len (by decide +kernel) (ma_cons (me_ix ix_seq lf_ix mn_ix (me_ix ix_seq lf_ix mn_ix (mv 1) me_int (fun _ _ => rfl)) me_int (fun _ _ => rfl)) ma_nil)) (nomark _)))))))) (mss_one (ms_raise rfl (takes_of rfl rfl rfl rfl) (mmk_init T.o_BadText (hr.mono (by decide)) (by rfl) (ma_cons (mv 5) ma_nil)))) mss_nil)
      (mss_cons (ms_expr (me_bm PySem.F.plainAttrs_list PySem.F.slot_list_append PySem.F.type_list_append mt_append lm_append mm_append (mv 1) (ma_cons (mv 6) ma_nil)))
      (mss_one (ms_set (i := 2) sc_read_bar.nd (by rfl) (.inl rfl) (me_op op_addAll (lf_add (cell := false)) mn_add (me_op op_addAll (lf_add (cell := false)) mn_add (mv 2) (me_callB call_len la_len mr_len (by rfl) T.z_len (by decide +kernel) (ma_cons (mv 3) ma_nil))) me_int)))))))))
      (mss_cons (ms_if (mt_cmp op_gt lf_B0 mn_I0 (me_callB call_len la_len mr_len (by rfl) T.z_len (by decide +kernel) (ma_cons (mv 1) ma_nil)) (me_globD (by rfl) T.c_MOST_COLUMNS) (nomark _)) (mss_one (ms_raise rfl (takes_of rfl rfl rfl rfl) (mmk_init T.o_BadColumn (hr.mono (by decide)) (by rfl) (ma_cons me_non (ma_cons me_str ma_nil))))) mss_nil)
      (mss_one (ms_ret (me_callTy call_tuple_of la_tuple mr_tuple (by rfl) T.z_tuple (by decide +kernel) (ma_cons (mv 1) ma_nil)))))))), math_read_bar⟩
theorem ok__law_pool (T : Txt P K mg) : FnOk P wd K mg base (L2.CX P wd) 1 T.f__law_pool T.fd__law_pool ["script"] (upP K sp__law_pool) :=
  okM T.F__law_pool sc__law_pool len__law_pool fun cdv A outer s H E hr => by
    have hu := hr.units
    exact ⟨r__law_pool, (mss_one (ms_ret (me_lst true (ma_cons (me_lc (own := [("cell", 1)]) false rfl sc__law_pool.nd (mi_seq (mv 0)) (blkOk_by (N := N__law_pool) (sc := defScope s__law_pool) (by decide +kernel)) (fun _ _ _ _ _ => pg_name (i := 1) sc__law_pool.nd (by rfl) (.inl rfl)) cg_name (fun _ _ _ _ _ => mts_nil) (fun _ _ _ _ _ => (me_if (mt_cmp op_ge lf_B0 mn_I0 (mv 1) me_int (nomark _)) (me_op op_mulAll (lf_mul (cell := false)) mn_mul me_int (mv 1)) (me_op op_sub lf_I0 mn_I0 (me_op op_mulAll (lf_mul (cell := false)) mn_mul (me_un un_neg lf_neg mn_neg me_int) (mv 1)) me_int)))) (ma_cons me_int (ma_cons me_int (ma_cons me_int ma_nil))))))), math__law_pool⟩
theorem okr__law_take (T : Txt P K mg) : ∀ i : Nat, FnOk P wd K mg base (L2.CX P wd) (1 + i) T.f__law_take T.fd__law_take ["pool", "many"] (upP K (spr__law_take i))
  | 0 => okM T.F__law_take sc__law_take (fun ds M Q E h => (lenr__law_take 0 ds M Q E h)) fun cdv A outer s H E hr => ⟨_, mss_never, fun ds M Q' E' _ _ h => (zero__law_take ds M Q' E' h).elim⟩
  | i + 1 => okM T.F__law_take sc__law_take (fun ds M Q E h => (lenr__law_take (i + 1) ds M Q E h)) fun cdv A outer s H E hr => by
    have hu := hr.units
    exact ⟨rr__law_take i, (mss_cons (ms_if (mt_cmp op_gt lf_B0 mn_I0 (me_ix ix_seq lf_ix mn_ix (mv 0) me_int (fun _ _ => rfl)) me_int (nomark _)) (mss_cons (ms_set (i := 4) sc__law_take.nd (by rfl) (.inl rfl) (me_op op_modN lf_I mn_I (me_callTy call_intAll la_int mr_int (by rfl) T.z_int (by decide +kernel) (ma_cons (me_ix ix_seq lf_ix mn_ix (mv 0) me_int (fun _ _ => rfl)) ma_nil)) (mv 1)))
      (mss_cons (ms_asg (me_op op_fdivA lf_I mn_I (me_ix ix_seq lf_ix mn_ix (mv 0) me_int (fun _ _ => rfl)) (mv 1)) (mg_sub (mv 0) me_int set_list ls_list ms_list))
      (mss_one (ms_ret (mv 4))))) mss_nil)
      (mss_cons (ms_set (i := 2) sc__law_take.nd (by rfl) (.inl rfl) me_int)
      (mss_cons (ms_if (mt_cmp op_lt lf_B0 mn_I0 (me_ix ix_seq lf_ix mn_ix (mv 0) me_int (fun _ _ => rfl)) (me_callB call_len la_len mr_len (by rfl) T.z_len (by decide +kernel) (ma_cons (me_ix ix_seq lf_ix mn_ix (mv 0) me_int (fun _ _ => rfl)) ma_nil)) (nomark _)) (mss_one (ms_set (i := 2) sc__law_take.nd (by rfl) (.inl rfl) (me_ix ix_seq lf_ix mn_ix (me_ix ix_seq lf_ix mn_ix (mv 0) me_int (fun _ _ => rfl)) (me_ix ix_seq lf_ix mn_ix (mv 0) me_int (fun _ _ => rfl)) (fun _ _ => rfl)))) mss_nil)
      (mss_cons (ms_asg (me_op op_addAll (lf_add (cell := false)) mn_add (me_ix ix_seq lf_ix mn_ix (mv 0) me_int (fun _ _ => rfl)) me_int) (mg_sub (mv 0) me_int set_list ls_list ms_list))
      (mss_cons (ms_if (mt_cmp op_ge lf_B0 mn_I0 (mv 2) (me_op op_pow lf_I mn_I me_int me_int) (nomark _)) (mss_cons (ms_asg (me_op op_fdivA lf_I mn_I (mv 2) me_int) (mg_sub (mv 0) me_int set_list ls_list ms_list))
      (mss_one (ms_ret (me_call (okr__law_take T i) (monor__law_take i) hr (takes_of rfl rfl rfl rfl) (by rfl) T.g__law_take T.F__law_take.kp T.b__law_take (ma_cons (mv 0) (ma_cons (mv 1) ma_nil)))))) mss_nil)
      (mss_cons (ms_asg (me_op op_modN lf_I mn_I (me_callTy call_intAll la_int mr_int (by rfl) T.z_int (by decide +kernel) (ma_cons (me_op op_addAll (lf_add (cell := false)) mn_add (me_op op_addAll (lf_add (cell := false)) mn_add (me_op op_mulAll (lf_mul (cell := false)) mn_mul (me_ix ix_seq lf_ix mn_ix (mv 0) me_int (fun _ _ => rfl)) me_int) (me_op op_mulAll (lf_mul (cell := false)) mn_mul (mv 2) me_int)) (me_op op_mulAll (lf_mul (cell := false)) mn_mul (me_ix ix_seq lf_ix mn_ix (mv 0) me_int (fun _ _ => rfl)) me_int)) ma_nil)) me_int) (mg_sub (mv 0) me_int set_list ls_list ms_list))
      (mss_cons (ms_set (i := 3) sc__law_take.nd (by rfl) (.inl rfl) (me_op op_modN lf_I mn_I (me_callTy call_intAll la_int mr_int (by rfl) T.z_int (by decide +kernel) (ma_cons (me_op op_addAll (lf_add (cell := false)) mn_add (me_op op_addAll (lf_add (cell := false)) mn_add (me_op op_mulAll (lf_mul (cell := false)) mn_mul (me_ix ix_seq lf_ix mn_ix (mv 0) me_int (fun _ _ => rfl)) (me_ix ix_seq lf_ix mn_ix (mv 0) me_int (fun _ _ => rfl))) (me_op op_mulAll (lf_mul (cell := false)) mn_mul (me_ix ix_seq lf_ix mn_ix (mv 0) me_int (fun _ _ => rfl)) me_int)) me_int) ma_nil)) me_int))
      (mss_one (ms_ret (me_op op_modN lf_I mn_I (me_callTy call_intAll la_int mr_int (by rfl) T.z_int (by decide +kernel) (ma_cons (me_op op_fdivA lf_I mn_I (mv 3) me_int) ma_nil)) (mv 1))))))))))), mathr__law_take i⟩
theorem ok__law_take (T : Txt P K mg) : FnOk P wd K mg base (L2.CX P wd) 3 T.f__law_take T.fd__law_take ["pool", "many"] (upP K sp__law_take) := (okr__law_take T 2).imp fun vs H Q E => upP_imp (fun ds M Q E => sub__law_take)
theorem ok__law_pick (T : Txt P K mg) : FnOk P wd K mg base (L2.CX P wd) 4 T.f__law_pick T.fd__law_pick ["pool", "rows"] (upP K sp__law_pick) :=
  okM T.F__law_pick sc__law_pick len__law_pick fun cdv A outer s H E hr => by
    have hu := hr.units
    exact ⟨r__law_pick, (mss_one (ms_ret (me_ix ix_seq lf_ix mn_ix (mv 1) (me_call (ok__law_take T) mono__law_take (hr.mono (by decide)) (takes_of rfl rfl rfl rfl) (by rfl) T.g__law_take T.F__law_take.kp T.b__law_take (ma_cons (mv 0) (ma_cons (me_callB call_len la_len mr_len (by rfl) T.z_len (by decide +kernel) (ma_cons (mv 1) ma_nil)) ma_nil))) (fun _ _ => rfl)))), math__law_pick⟩
theorem ok__law_is_integer (T : Txt P K mg) : FnOk P wd K mg base (L2.CX P wd) 1 T.f__law_is_integer T.fd__law_is_integer ["actual"] (upP K sp__law_is_integer) :=
  okM T.F__law_is_integer sc__law_is_integer len__law_is_integer fun cdv A outer s H E hr => by
    have hu := hr.units
    exact ⟨r__law_is_integer, (mss_one (ms_ret (me_and (me_callB call_isi la_isi mr_isi (by rfl) T.z_isinstance (by decide +kernel) (ma_cons (mv 0) (ma_cons (me_ty (by rfl) T.z_int (by decide +kernel)) ma_nil))) (me_one (me_not (me_callB call_isi la_isi mr_isi (by rfl) T.z_isinstance (by decide +kernel) (ma_cons (mv 0) (ma_cons (me_ty (by rfl) T.z_bool (by decide +kernel)) ma_nil)))))))), math__law_is_integer⟩
theorem okr__law_same (T : Txt P K mg) : ∀ i : Nat, FnOk P wd K mg base (L2.CX P wd) (2 + i) T.f__law_same T.fd__law_same ["actual", "due"] (upP K (spr__law_same i))
  | 0 => okM T.F__law_same sc__law_same (fun ds M Q E h => (lenr__law_same 0 ds M Q E h)) fun cdv A outer s H E hr => ⟨_, mss_never, fun ds M Q' E' _ _ h => (zero__law_same ds M Q' E' h).elim⟩
  | i + 1 => okM T.F__law_same sc__law_same (fun ds M Q E h => (lenr__law_same (i + 1) ds M Q E h)) fun cdv A outer s H E hr => by
    have hu := hr.units
    exact ⟨rr__law_same i, (mss_cons (ms_if (mt_tru (me_callB call_isi la_isi mr_isi (by rfl) T.z_isinstance (by decide +kernel) (ma_cons (mv 1) (ma_cons (me_ty (by rfl) T.z_tuple (by decide +kernel)) ma_nil)))) (mss_cons (ms_if (MW.mt (mw_or (mt_not (mt_tru (me_callB call_isi la_isi mr_isi (by rfl) T.z_isinstance (by decide +kernel) (ma_cons (mv 0) (ma_cons (me_ty (by rfl) T.z_tuple (by decide +kernel)) ma_nil))))) (mw_or1 (mt_cmp (op_neAll hu) lf_ne mn_eq (me_callB call_len la_len mr_len (by rfl) T.z_len (by decide +kernel) (ma_cons (mv 0) ma_nil)) (me_callB call_len la_len mr_len (by rfl) T.z_len (by decide +kernel) (ma_cons (mv 1) ma_nil)) (nomark _))))) (mss_one (ms_ret me_bl)) mss_nil)
      (mss_one (ms_ret (me_callB (cr_all rfl) la_all mr_bls (by rfl) T.z_all (by decide +kernel) (ma_cons (me_lc (own := [("k", 2)]) false rfl sc__law_same.nd (mi_range1 (by rfl) T.z_range (ma_cons (me_callB call_len la_len mr_len (by rfl) T.z_len (by decide +kernel) (ma_cons (mv 1) ma_nil)) ma_nil)) (blkOk_by (N := N__law_same) (sc := defScope s__law_same) (by decide +kernel)) (fun _ _ _ _ _ => pg_name (i := 2) sc__law_same.nd (by rfl) (.inl rfl)) cg_name (fun _ _ _ _ _ => mts_nil) (fun _ _ _ _ _ => (me_call (okr__law_same T i) (monor__law_same i) hr takes0 (by rfl) T.g__law_same T.F__law_same.kp T.b__law_same (ma_cons (me_ix ix_seq lf_ix mn_ix (mv 0) (mv 2) (fun _ _ => rfl)) (ma_cons (me_ix ix_seq lf_ix mn_ix (mv 1) (mv 2) (fun _ _ => rfl)) ma_nil))))) ma_nil))))) mss_nil)
      (mss_cons (ms_if (mt_tru (me_callB call_isi la_isi mr_isi (by rfl) T.z_isinstance (by decide +kernel) (ma_cons (mv 1) (ma_cons (me_ty (by rfl) T.z_list (by decide +kernel)) ma_nil)))) (mss_cons (ms_if (MW.mt (mw_or (mt_not (mt_tru (me_callB call_isi la_isi mr_isi (by rfl) T.z_isinstance (by decide +kernel) (ma_cons (mv 0) (ma_cons (me_ty (by rfl) T.z_list (by decide +kernel)) ma_nil))))) (mw_or1 (mt_cmp (op_neAll hu) lf_ne mn_eq (me_callB call_len la_len mr_len (by rfl) T.z_len (by decide +kernel) (ma_cons (mv 0) ma_nil)) (me_callB call_len la_len mr_len (by rfl) T.z_len (by decide +kernel) (ma_cons (mv 1) ma_nil)) (nomark _))))) (mss_one (ms_ret me_bl)) mss_nil)
      (mss_one (ms_ret (me_callB (cr_all rfl) la_all mr_bls (by rfl) T.z_all (by decide +kernel) (ma_cons (me_lc (own := [("k", 2)]) false rfl sc__law_same.nd (mi_range1 (by rfl) T.z_range (ma_cons (me_callB call_len la_len mr_len (by rfl) T.z_len (by decide +kernel) (ma_cons (mv 1) ma_nil)) ma_nil)) (blkOk_by (N := N__law_same) (sc := defScope s__law_same) (by decide +kernel)) (fun _ _ _ _ _ => pg_name (i := 2) sc__law_same.nd (by rfl) (.inl rfl)) cg_name (fun _ _ _ _ _ => mts_nil) (fun _ _ _ _ _ => (me_call (okr__law_same T i) (monor__law_same i) hr takes0 (by rfl) T.g__law_same T.F__law_same.kp T.b__law_same (ma_cons (me_ix ix_seq lf_ix mn_ix (mv 0) (mv 2) (fun _ _ => rfl)) (ma_cons (me_ix ix_seq lf_ix mn_ix (mv 1) (mv 2) (fun _ _ => rfl)) ma_nil))))) ma_nil))))) mss_nil)
      (mss_cons (ms_if (mt_cmp op_isN1 lf_isN mn_isN (mv 1) me_non (nomark _)) (mss_one (ms_ret (me_cmp op_isN1 lf_isN mn_isN (mv 0) me_non (nomark _)))) mss_nil)
      (mss_cons (ms_if (mt_tru (me_callB call_isi la_isi mr_isi (by rfl) T.z_isinstance (by decide +kernel) (ma_cons (mv 1) (ma_cons (me_ty (by rfl) T.z_bool (by decide +kernel)) ma_nil)))) (mss_one (ms_ret (me_and (me_callB call_isi la_isi mr_isi (by rfl) T.z_isinstance (by decide +kernel) (ma_cons (mv 0) (ma_cons (me_ty (by rfl) T.z_bool (by decide +kernel)) ma_nil))) (me_one (me_cmp (op_eqAll hu) lf_eq mn_eq (mv 0) (mv 1) (nomark _)))))) mss_nil)
      (mss_cons (ms_if (mt_tru (me_callB call_isi la_isi mr_isi (by rfl) T.z_isinstance (by decide +kernel) (ma_cons (mv 1) (ma_cons (me_ty (by rfl) T.z_str (by decide +kernel)) ma_nil)))) (mss_one (ms_ret (me_and (me_callB call_isi la_isi mr_isi (by rfl) T.z_isinstance (by decide +kernel) (ma_cons (mv 0) (ma_cons (me_ty (by rfl) T.z_str (by decide +kernel)) ma_nil))) (me_one (me_cmp (op_eqAll hu) lf_eq mn_eq (mv 0) (mv 1) (nomark _)))))) mss_nil)
      (mss_one (ms_ret (me_and (me_call (ok__law_is_integer T) mono__law_is_integer (hr.mono (by show 1 ≤ 2 + i; omega)) (takes_of rfl rfl rfl rfl) (by rfl) T.g__law_is_integer T.F__law_is_integer.kp T.b__law_is_integer (ma_cons (mv 0) ma_nil)) (me_one (me_cmp (op_eqAll hu) lf_eq mn_eq (mv 0) (mv 1) (nomark _))))))))))), mathr__law_same i⟩
theorem ok__law_same (T : Txt P K mg) : FnOk P wd K mg base (L2.CX P wd) 9 T.f__law_same T.fd__law_same ["actual", "due"] (upP K sp__law_same) := (okr__law_same T 7).imp fun vs H Q E => upP_imp (fun ds M Q E => sub__law_same)
theorem ok__law_lowest (T : Txt P K mg) : FnOk P wd K mg base (L2.CX P wd) 1 T.f__law_lowest T.fd__law_lowest ["n", "d"] (upP K sp__law_lowest) :=
  okM T.F__law_lowest sc__law_lowest len__law_lowest fun cdv A outer s H E hr => by
    have hu := hr.units
    exact ⟨r__law_lowest, (mss_cons (ms_par (i := 3) (j := 4) rfl sc__law_lowest.nd (by rfl) (by rfl) (by decide) (by rfl) (by rfl) (ma_cons (me_callB call_abs la_abs mr_I1 (by rfl) T.z_abs (by decide +kernel) (ma_cons (mv 0) ma_nil)) (ma_cons (mv 1) ma_nil)) (by rfl))
      (mss_cons (ms_for (passes_of rfl) rfl (mi_range1 (by rfl) T.z_range (ma_cons me_int ma_nil)) (mg_name (i := 2) sc__law_lowest.nd (by rfl) (.inl rfl)) (mss_cons (ms_if (mt_cmp (op_eqAll hu) lf_eq mn_eq (mv 4) me_int (nomark _)) (mss_one ms_break) mss_nil)
      (mss_one (ms_par (i := 3) (j := 4) rfl sc__law_lowest.nd (by rfl) (by rfl) (by decide) (by rfl) (by rfl) (ma_cons (mv 4) (ma_cons (me_op op_sub lf_I0 mn_I0 (mv 3) (me_op op_mulAll (lf_mul (cell := false)) mn_mul (mv 4) (me_callTy call_intAll la_int mr_int (by rfl) T.z_int (by decide +kernel) (ma_cons (me_op op_fdivA lf_I mn_I (mv 3) (mv 4)) ma_nil)))) ma_nil)) (by rfl)))))
      (mss_one (ms_ret (me_tup (ma_cons (me_op op_fdivA lf_I mn_I (mv 0) (mv 3)) (ma_cons (me_op op_fdivA lf_I mn_I (mv 1) (mv 3)) ma_nil))))))), math__law_lowest⟩
theorem ok__law_duration (T : Txt P K mg) : FnOk P wd K mg base (L2.CX P wd) 5 T.f__law_duration T.fd__law_duration ["pool"] (upP K sp__law_duration) :=
  okM T.F__law_duration sc__law_duration len__law_duration fun cdv A outer s H E hr => by
    have hu := hr.units
    exact ⟨r__law_duration, (mss_cons (ms_if (mt_cmp (op_eqAll hu) lf_eq mn_eq (me_call (ok__law_take T) mono__law_take (hr.mono (by decide)) (takes_of rfl rfl rfl rfl) (by rfl) T.g__law_take T.F__law_take.kp T.b__law_take (ma_cons (mv 0) (ma_cons me_int ma_nil))) me_int (nomark _)) (mss_one (ms_ret (me_call (ok__law_lowest T) mono__law_lowest (hr.mono (by decide)) (takes_of rfl rfl rfl rfl) (by rfl) T.g__law_lowest T.F__law_lowest.kp T.b__law_lowest (ma_cons (me_op op_addAll (lf_add (cell := false)) mn_add me_int (me_call (ok__law_take T) mono__law_take (hr.mono (by decide)) (takes_of rfl rfl rfl rfl) (by rfl) T.g__law_take T.F__law_take.kp T.b__law_take (ma_cons (mv 0) (ma_cons me_int ma_nil)))) (ma_cons (me_op op_addAll (lf_add (cell := false)) mn_add me_int (me_call (ok__law_take T) mono__law_take (hr.mono (by decide)) (takes_of rfl rfl rfl rfl) (by rfl) T.g__law_take T.F__law_take.kp T.b__law_take (ma_cons (mv 0) (ma_cons me_int ma_nil)))) ma_nil))))) mss_nil)
      (mss_one (ms_ret (me_call (ok__law_lowest T) mono__law_lowest (hr.mono (by decide)) (takes_of rfl rfl rfl rfl) (by rfl) T.g__law_lowest T.F__law_lowest.kp T.b__law_lowest (ma_cons (me_op op_addAll (lf_add (cell := false)) mn_add me_int (me_call (ok__law_take T) mono__law_take (hr.mono (by decide)) (takes_of rfl rfl rfl rfl) (by rfl) T.g__law_take T.F__law_take.kp T.b__law_take (ma_cons (mv 0) (ma_cons me_int ma_nil)))) (ma_cons (me_call (ok__law_pick T) mono__law_pick (hr.mono (by decide)) (takes_of rfl rfl rfl rfl) (by rfl) T.g__law_pick T.F__law_pick.kp T.b__law_pick (ma_cons (mv 0) (ma_cons (me_lst false (ma_cons me_int (ma_cons me_int (ma_cons me_int (ma_cons me_int (ma_cons me_int (ma_cons me_int (ma_cons me_int (ma_cons me_int ma_nil))))))))) ma_nil))) ma_nil)))))), math__law_duration⟩
theorem ok__law_tone (T : Txt P K mg) : FnOk P wd K mg base (L2.CX P wd) 4 T.f__law_tone T.fd__law_tone ["pool"] (upP K sp__law_tone) :=
  okM T.F__law_tone sc__law_tone len__law_tone fun cdv A outer s H E hr => by
    have hu := hr.units
    exact ⟨r__law_tone, (mss_cons (ms_set (i := 1) sc__law_tone.nd (by rfl) (.inl rfl) (me_op op_sub lf_I0 mn_I0 (me_call (ok__law_take T) mono__law_take (hr.mono (by decide)) (takes_of rfl rfl rfl rfl) (by rfl) T.g__law_take T.F__law_take.kp T.b__law_take (ma_cons (mv 0) (ma_cons me_int ma_nil))) me_int))
      (mss_cons (ms_if (mt_cmp (op_eqAll hu) lf_eq mn_eq (me_call (ok__law_take T) mono__law_take (hr.mono (by decide)) (takes_of rfl rfl rfl rfl) (by rfl) T.g__law_take T.F__law_take.kp T.b__law_take (ma_cons (mv 0) (ma_cons me_int ma_nil))) me_int (nomark _)) (mss_one (ms_set (i := 1) sc__law_tone.nd (by rfl) (.inl rfl) (me_op op_sub lf_I0 mn_I0 (me_call (ok__law_take T) mono__law_take (hr.mono (by decide)) (takes_of rfl rfl rfl rfl) (by rfl) T.g__law_take T.F__law_take.kp T.b__law_take (ma_cons (mv 0) (ma_cons me_int ma_nil))) me_int))) mss_nil)
      (mss_one (ms_ret (me_tup (ma_cons (mv 1) (ma_cons (me_op op_sub lf_I0 mn_I0 (me_call (ok__law_take T) mono__law_take (hr.mono (by decide)) (takes_of rfl rfl rfl rfl) (by rfl) T.g__law_take T.F__law_take.kp T.b__law_take (ma_cons (mv 0) (ma_cons me_int ma_nil))) (me_callTy call_intAll la_int mr_int (by rfl) T.z_int (by decide +kernel) (ma_cons (me_op op_fdivA lf_I mn_I (me_op op_mulAll (lf_mul (cell := false)) mn_mul me_int (mv 1)) me_int) ma_nil))) ma_nil))))))), math__law_tone⟩
theorem ok__law_column (T : Txt P K mg) : FnOk P wd K mg base (L2.CX P wd) 6 T.f__law_column T.fd__law_column ["pool", "voices", "before", "some"] (upP K sp__law_column) :=
  okM T.F__law_column sc__law_column len__law_column fun cdv A outer s H E hr => by
    have hu := hr.units
    exact ⟨r__law_column, (mss_cons (ms_set (i := 4) sc__law_column.nd (by rfl) (.inl rfl) (me_tup ma_nil))
      (mss_cons (ms_for (passes_of rfl) rfl (mi_range1 (by rfl) T.z_range (ma_cons (mv 1) ma_nil)) (mg_name (i := 5) sc__law_column.nd (by rfl) (.inl rfl)) (mss_cons (ms_set (i := 6) sc__law_column.nd (by rfl) (.inl rfl) (me_call (ok__law_take T) mono__law_take (hr.mono (by decide)) (takes_of rfl rfl rfl rfl) (by rfl) T.g__law_take T.F__law_take.kp T.b__law_take (ma_cons (mv 0) (ma_cons me_int ma_nil))))
      (mss_cons (ms_set (i := 7) sc__law_column.nd (by rfl) (.inl rfl) (me_tup (ma_cons (me_call (ok__law_pick T) mono__law_pick (hr.mono (by decide)) (takes_of rfl rfl rfl rfl) (by rfl) T.g__law_pick T.F__law_pick.kp T.b__law_pick (ma_cons (mv 0) (ma_cons (mv 3) ma_nil))) (ma_cons me_bl ma_nil))))
      (mss_cons (ms_if (mt_cmp (op_eqAll hu) lf_eq mn_eq (mv 6) me_int (nomark _)) (mss_one (ms_set (i := 7) sc__law_column.nd (by rfl) (.inl rfl) me_non)) (mss_one (ms_if (mt_cmp op_lt lf_B0 mn_I0 (mv 6) me_int (nomark _)) (mss_cons (ms_set (i := 8) sc__law_column.nd (by rfl) (.inl rfl) (me_if (mt_cmp op_isN1 lf_isN mn_isN (mv 2) me_non (nomark _)) me_non (me_ix ix_seq lf_ix mn_ix (me_ix ix_seq lf_ix mn_ix (mv 2) me_int (fun _ _ => rfl)) (mv 5) (fun _ _ => rfl))))
      (mss_cons (ms_set (i := 9) sc__law_column.nd (by rfl) (.inl rfl) (me_if (MW.mt (mw_and (mt_cmp op_notN1 lf_notN mn_isN (mv 8) me_non (nomark _)) (mw_and1 (mt_cmp op_gt lf_B0 mn_I0 (me_call (ok__law_take T) mono__law_take (hr.mono (by decide)) (takes_of rfl rfl rfl rfl) (by rfl) T.g__law_take T.F__law_take.kp T.b__law_take (ma_cons (mv 0) (ma_cons me_int ma_nil))) me_int (nomark _))))) (me_ix ix_seq lf_ix mn_ix (mv 8) me_int (fun _ _ => rfl)) (me_ix ix_seq lf_ix mn_ix (mv 7) me_int (fun _ _ => rfl))))
      (mss_one (ms_set (i := 7) sc__law_column.nd (by rfl) (.inl rfl) (me_tup (ma_cons (mv 9) (ma_cons me_bl ma_nil))))))) mss_nil)))
      (mss_one (ms_set (i := 4) sc__law_column.nd (by rfl) (.inl rfl) (me_op op_addAll (lf_add (cell := false)) mn_add (mv 4) (me_tup (ma_cons (mv 7) ma_nil)))))))))
      (mss_one (ms_ret (me_tup (ma_cons (me_call (ok__law_duration T) mono__law_duration (hr.mono (by decide)) (takes_of rfl rfl rfl rfl) (by rfl) T.g__law_duration T.F__law_duration.kp T.b__law_duration (ma_cons (mv 0) ma_nil)) (ma_cons (me_if (mt_cmp (op_eqAll hu) lf_eq mn_eq (me_call (ok__law_take T) mono__law_take (hr.mono (by decide)) (takes_of rfl rfl rfl rfl) (by rfl) T.g__law_take T.F__law_take.kp T.b__law_take (ma_cons (mv 0) (ma_cons me_int ma_nil))) me_int (nomark _)) (me_call (ok__law_take T) mono__law_take (hr.mono (by decide)) (takes_of rfl rfl rfl rfl) (by rfl) T.g__law_take T.F__law_take.kp T.b__law_take (ma_cons (mv 0) (ma_cons me_int ma_nil))) me_int) (ma_cons (mv 4) ma_nil)))))))), math__law_column⟩
theorem ok__law_bar (T : Txt P K mg) : FnOk P wd K mg base (L2.CX P wd) 7 T.f__law_bar T.fd__law_bar ["pool", "voices", "most"] (upP K sp__law_bar) :=
  okM T.F__law_bar sc__law_bar len__law_bar fun cdv A outer s H E hr => by
    have hu := hr.units
    exact ⟨r__law_bar, (mss_cons (ms_setLc (i := 3) (own := [("k", 5)]) false rfl sc__law_bar.nd (by rfl) (by rfl) (by rfl) (mi_range1 (by rfl) T.z_range (ma_cons (me_op op_addAll (lf_add (cell := false)) mn_add me_int (me_call (ok__law_take T) mono__law_take (hr.mono (by decide)) (takes_of rfl rfl rfl rfl) (by rfl) T.g__law_take T.F__law_take.kp T.b__law_take (ma_cons (mv 0) (ma_cons me_int ma_nil)))) ma_nil)) (blkOk_by (N := N__law_bar) (sc := defScope s__law_bar) (by decide +kernel)) (fun _ _ _ _ _ => pg_name (i := 5) sc__law_bar.nd (by rfl) (.inl rfl)) cg_name (fun _ _ _ _ _ => mts_nil) (fun _ _ _ _ _ => (me_call (ok__law_tone T) mono__law_tone (hr.mono (by decide)) takes0 (by rfl) T.g__law_tone T.F__law_tone.kp T.b__law_tone (ma_cons (mv 0) ma_nil))))
      (mss_cons (ms_set (i := 4) sc__law_bar.nd (by rfl) (.inl rfl) (me_tup ma_nil))
      (mss_cons (ms_for (passes_of rfl) rfl (mi_range1 (by rfl) T.z_range (ma_cons (me_op op_addAll (lf_add (cell := false)) mn_add me_int (me_call (ok__law_take T) mono__law_take (hr.mono (by decide)) (takes_of rfl rfl rfl rfl) (by rfl) T.g__law_take T.F__law_take.kp T.b__law_take (ma_cons (mv 0) (ma_cons (mv 2) ma_nil)))) ma_nil)) (mg_name (i := 5) sc__law_bar.nd (by rfl) (.inl rfl)) (mss_one (ms_set (i := 4) sc__law_bar.nd (by rfl) (.inl rfl) (me_op op_addAll (lf_add (cell := false)) mn_add (mv 4) (me_tup (ma_cons (me_call (ok__law_column T) mono__law_column (hr.mono (by decide)) (takes_of rfl rfl rfl rfl) (by rfl) T.g__law_column T.F__law_column.kp T.b__law_column (ma_cons (mv 0) (ma_cons (mv 1) (ma_cons (me_if (mt_tru (mv 4)) (me_ix ix_seq lf_ix mn_ix (mv 4) (me_un un_neg lf_neg mn_neg me_int) (fun _ _ => rfl)) me_non) (ma_cons (mv 3) ma_nil))))) ma_nil))))))
      (mss_one (ms_ret (mv 4)))))), math__law_bar⟩
theorem ok__law_letter (T : Txt P K mg) : FnOk P wd K mg base (L2.CX P wd) 1 T.f__law_letter T.fd__law_letter ["fifths"] (upP K sp__law_letter) :=
  okM T.F__law_letter sc__law_letter len__law_letter fun cdv A outer s H E hr => by
    have hu := hr.units
    exact ⟨r__law_letter, (mss_cons (ms_for (passes_of rfl) rfl (mi_range1 (by rfl) T.z_range (ma_cons me_int ma_nil)) (mg_name (i := 1) sc__law_letter.nd (by rfl) (.inl rfl)) (mss_cons (ms_set (i := 2) sc__law_letter.nd (by rfl) (.inl rfl) (me_op op_sub lf_I0 mn_I0 (mv 0) (me_ix ix_seq lf_ix mn_ix (me_lst false (ma_cons me_int (ma_cons me_int (ma_cons me_int (ma_cons (me_un un_neg lf_neg mn_neg me_int) (ma_cons me_int (ma_cons me_int (ma_cons me_int ma_nil)))))))) (mv 1) (fun _ _ => rfl))))
      (mss_one (ms_if (mt_cmp (op_eqAll hu) lf_eq mn_eq (me_op op_modN lf_I mn_I (me_callTy call_intAll la_int mr_int (by rfl) T.z_int (by decide +kernel) (ma_cons (mv 2) ma_nil)) me_int) me_int (nomark _)) (mss_one (ms_ret (me_tup (ma_cons (mv 1) (ma_cons (me_callTy call_intAll la_int mr_int (by rfl) T.z_int (by decide +kernel) (ma_cons (me_op op_fdivA lf_I mn_I (mv 2) me_int) ma_nil)) ma_nil))))) mss_nil))))
      (mss_one (ms_ret (me_tup (ma_cons me_int (ma_cons me_int ma_nil)))))), math__law_letter⟩
theorem ok__law_far_pair (T : Txt P K mg) : FnOk P wd K mg base (L2.CX P wd) 5 T.f__law_far_pair T.fd__law_far_pair ["pool"] (upP K sp__law_far_pair) :=
  okM T.F__law_far_pair sc__law_far_pair len__law_far_pair fun cdv A outer s H E hr => by
    have hu := hr.units
    exact ⟨r__law_far_pair, (mss_cons (ms_set (i := 1) sc__law_far_pair.nd (by rfl) (.inl rfl) (me_call (ok__law_take T) mono__law_take (hr.mono (by decide)) (takes_of rfl rfl rfl rfl) (by rfl) T.g__law_take T.F__law_take.kp T.b__law_take (ma_cons (mv 0) (ma_cons me_int ma_nil))))
      (mss_cons (ms_if (mt_cmp (op_eqAll hu) lf_eq mn_eq (mv 1) me_int (nomark _)) (mss_one (ms_ret (me_tup (ma_cons (me_op op_sub lf_I0 mn_I0 (me_call (ok__law_take T) mono__law_take (hr.mono (by decide)) (takes_of rfl rfl rfl rfl) (by rfl) T.g__law_take T.F__law_take.kp T.b__law_take (ma_cons (mv 0) (ma_cons me_int ma_nil))) me_int) (ma_cons (me_op op_sub lf_I0 mn_I0 (me_call (ok__law_take T) mono__law_take (hr.mono (by decide)) (takes_of rfl rfl rfl rfl) (by rfl) T.g__law_take T.F__law_take.kp T.b__law_take (ma_cons (mv 0) (ma_cons me_int ma_nil))) me_int) ma_nil))))) mss_nil)
      (mss_cons (ms_if (mt_cmp (op_eqAll hu) lf_eq mn_eq (mv 1) me_int (nomark _)) (mss_cons (ms_set (i := 2) sc__law_far_pair.nd (by rfl) (.inl rfl) (me_lst false (ma_cons me_int (ma_cons (me_un un_neg lf_neg mn_neg me_int) (ma_cons me_int (ma_cons (me_un un_neg lf_neg mn_neg me_int) (ma_cons me_int (ma_cons me_int (ma_cons me_int (ma_cons (me_un un_neg lf_neg mn_neg me_int) (ma_cons (me_un un_neg lf_neg mn_neg me_int) (ma_cons me_int (ma_cons (me_un un_neg lf_neg mn_neg me_int) ma_nil)))))))))))))
      (mss_one (ms_ret (me_tup (ma_cons (me_call (ok__law_pick T) mono__law_pick (hr.mono (by decide)) (takes_of rfl rfl rfl rfl) (by rfl) T.g__law_pick T.F__law_pick.kp T.b__law_pick (ma_cons (mv 0) (ma_cons (mv 2) ma_nil))) (ma_cons (me_call (ok__law_pick T) mono__law_pick (hr.mono (by decide)) (takes_of rfl rfl rfl rfl) (by rfl) T.g__law_pick T.F__law_pick.kp T.b__law_pick (ma_cons (mv 0) (ma_cons (mv 2) ma_nil))) ma_nil)))))) mss_nil)
      (mss_one (ms_ret (me_call (ok__law_tone T) mono__law_tone (hr.mono (by decide)) (takes_of rfl rfl rfl rfl) (by rfl) T.g__law_tone T.F__law_tone.kp T.b__law_tone (ma_cons (mv 0) ma_nil))))))), math__law_far_pair⟩
theorem ok__law_tone_text (T : Txt P K mg) : FnOk P wd K mg base (L2.CX P wd) 2 T.f__law_tone_text T.fd__law_tone_text ["tone"] (upP K sp__law_tone_text) :=
  okM T.F__law_tone_text sc__law_tone_text len__law_tone_text fun cdv A outer s H E hr => by
    have hu := hr.units
    exact ⟨r__law_tone_text, (mss_cons (ms_asg (me_call (ok__law_letter T) mono__law_letter (hr.mono (by decide)) (takes_of rfl rfl rfl rfl) (by rfl) T.g__law_letter T.F__law_letter.kp T.b__law_letter (ma_cons (me_ix ix_seq lf_ix mn_ix (mv 0) me_int (fun _ _ => rfl)) ma_nil)) (mg_tup rfl (mgs_cons (mg_name (i := 2) sc__law_tone_text.nd (by rfl) (.inl rfl)) (mgs_cons (mg_name (i := 3) sc__law_tone_text.nd (by rfl) (.inl rfl)) mgs_nil))))
      (mss_cons (ms_set (i := 1) sc__law_tone_text.nd (by rfl) (.inl rfl) (me_if (mt_cmp op_gt lf_B0 mn_I0 (mv 3) me_int (nomark _)) (me_op op_mulAll (lf_mul (cell := false)) mn_mul me_str (mv 3)) (me_op op_mulAll (lf_mul (cell := false)) mn_mul me_str (me_un un_neg lf_neg mn_neg (mv 3)))))
      (mss_one (ms_ret (me_op op_addAll (lf_add (cell := false)) mn_add (me_op op_addAll (lf_add (cell := false)) mn_add (me_ix ix_seq lf_ix mn_ix me_str (mv 2) (fun _ _ => rfl)) (mv 1)) (me_callTy call_str_int la_str mr_str (by rfl) T.z_str (by decide +kernel) (ma_cons (me_callTy call_intAll la_int mr_int (by rfl) T.z_int (by decide +kernel) (ma_cons (me_op op_fdivA lf_I mn_I (me_op op_sub lf_I0 mn_I0 (me_op op_addAll (lf_add (cell := false)) mn_add (me_op op_mulAll (lf_mul (cell := false)) mn_mul me_int (me_ix ix_seq lf_ix mn_ix (mv 0) me_int (fun _ _ => rfl))) (me_op op_mulAll (lf_mul (cell := false)) mn_mul me_int (me_ix ix_seq lf_ix mn_ix (mv 0) me_int (fun _ _ => rfl)))) (mv 2)) me_int) ma_nil)) ma_nil))))))), math__law_tone_text⟩
theorem ok__law_cell_words (T : Txt P K mg) : FnOk P wd K mg base (L2.CX P wd) 3 T.f__law_cell_words T.fd__law_cell_words ["cell"] (upP K sp__law_cell_words) :=
  okM T.F__law_cell_words sc__law_cell_words len__law_cell_words fun cdv A outer s H E hr => by
    have hu := hr.units
    exact ⟨r__law_cell_words, (mss_cons (ms_set (i := 1) sc__law_cell_words.nd (by rfl) (.inl rfl) (me_if (mt_cmp (op_eqAll hu) lf_eq mn_eq (me_ix ix_seq lf_ix mn_ix (me_ix ix_seq lf_ix mn_ix (mv 0) me_int (fun _ _ => rfl)) me_int (fun _ _ => rfl)) me_int (nomark _)) (me_callTy call_str_int la_str mr_str (by rfl) T.z_str (by decide +kernel) (ma_cons (me_ix ix_seq lf_ix mn_ix (me_ix ix_seq lf_ix mn_ix (mv 0) me_int (fun _ _ => rfl)) me_int (fun _ _ => rfl)) ma_nil)) (me_op op_addAll (lf_add (cell := false)) mn_add (me_op op_addAll (lf_add (cell := false)) mn_add (me_callTy call_str_int la_str mr_str (by rfl) T.z_str (by decide +kernel) (ma_cons (me_ix ix_seq lf_ix mn_ix (me_ix ix_seq lf_ix mn_ix (mv 0) me_int (fun _ _ => rfl)) me_int (fun _ _ => rfl)) ma_nil)) me_str) (me_callTy call_str_int la_str mr_str (by rfl) T.z_str (by decide +kernel) (ma_cons (me_ix ix_seq lf_ix mn_ix (me_ix ix_seq lf_ix mn_ix (mv 0) me_int (fun _ _ => rfl)) me_int (fun _ _ => rfl)) ma_nil)))))
      (mss_cons (ms_set (i := 2) sc__law_cell_words.nd (by rfl) (.inl rfl) (me_lst true (ma_cons (me_op op_addAll (lf_add (cell := false)) mn_add (mv 1) (me_if (mt_cmp op_gt lf_B0 mn_I0 (me_ix ix_seq lf_ix mn_ix (mv 0) me_int (fun _ _ => rfl)) me_int (nomark _)) (me_op op_addAll (lf_add (cell := false)) mn_add me_str (me_callTy call_str_int la_str mr_str (by rfl) T.z_str (by decide +kernel) (ma_cons (me_ix ix_seq lf_ix mn_ix (mv 0) me_int (fun _ _ => rfl)) ma_nil))) me_str)) ma_nil)))
      (mss_cons (ms_for (passes_of rfl) rfl (mi_seq (me_ix ix_seq lf_ix mn_ix (mv 0) me_int (fun _ _ => rfl))) (mg_name (i := 3) sc__law_cell_words.nd (by rfl) (.inl rfl)) (mss_one (ms_if (mt_cmp op_isN1 lf_isN mn_isN (mv 3) me_non (nomark _)) (mss_one (ms_expr (me_bm PySem.F.plainAttrs_list PySem.F.slot_list_append PySem.F.type_list_append mt_append lm_append mm_append (mv 2) (ma_cons me_str ma_nil)))) (mss_one (ms_expr (me_bm PySem.F.plainAttrs_list PySem.F.slot_list_append PySem.F.type_list_append mt_append lm_append mm_append (mv 2) (ma_cons (me_op op_addAll (lf_add (cell := false)) mn_add (me_if (mt_tru (me_ix ix_seq lf_ix mn_ix (mv 3) me_int (fun _ _ => rfl))) me_str me_str) (me_call (ok__law_tone_text T) mono__law_tone_text (hr.mono (by decide)) (takes_of rfl rfl rfl rfl) (by rfl) T.g__law_tone_text T.F__law_tone_text.kp T.b__law_tone_text (ma_cons (me_ix ix_seq lf_ix mn_ix (mv 3) me_int (fun _ _ => rfl)) ma_nil))) ma_nil)))))))
      (mss_one (ms_ret (mv 2)))))), math__law_cell_words⟩
theorem ok__law_pad (T : Txt P K mg) : FnOk P wd K mg base (L2.CX P wd) 5 T.f__law_pad T.fd__law_pad ["pool"] (upP K sp__law_pad) :=
  okM T.F__law_pad sc__law_pad len__law_pad fun cdv A outer s H E hr => by
    have hu := hr.units
    exact ⟨r__law_pad, (mss_one (ms_ret (me_op op_mulAll (lf_mul (cell := false)) mn_mul me_str (me_call (ok__law_pick T) mono__law_pick (hr.mono (by decide)) (takes_of rfl rfl rfl rfl) (by rfl) T.g__law_pick T.F__law_pick.kp T.b__law_pick (ma_cons (mv 0) (ma_cons (me_lst false (ma_cons me_int (ma_cons me_int (ma_cons me_int (ma_cons me_int (ma_cons me_int ma_nil)))))) ma_nil)))))), math__law_pad⟩
theorem ok__law_spaced (T : Txt P K mg) : FnOk P wd K mg base (L2.CX P wd) 6 T.f__law_spaced T.fd__law_spaced ["pool", "bar"] (upP K sp__law_spaced) :=
  okM T.F__law_spaced sc__law_spaced len__law_spaced fun cdv A outer s H E hr => by
    have hu := hr.units
    exact ⟨r__law_spaced, (mss_cons (ms_set (i := 2) sc__law_spaced.nd (by rfl) (.inl rfl) me_str)
      (mss_cons (ms_for (passes_of rfl) rfl (mi_range1 (by rfl) T.z_range (ma_cons (me_callB call_len la_len mr_len (by rfl) T.z_len (by decide +kernel) (ma_cons (mv 1) ma_nil)) ma_nil)) (mg_name (i := 3) sc__law_spaced.nd (by rfl) (.inl rfl)) (mss_cons (ms_set (i := 4) sc__law_spaced.nd (by rfl) (.inl rfl) (me_call (ok__law_cell_words T) mono__law_cell_words (hr.mono (by decide)) (takes_of rfl rfl rfl rfl) (by rfl) T.g__law_cell_words T.F__law_cell_words.kp T.b__law_cell_words (ma_cons (me_ix ix_seq lf_ix mn_ix (mv 1) (mv 3) (fun _ _ => rfl)) ma_nil)))
      (mss_cons (ms_set (i := 2) sc__law_spaced.nd (by rfl) (.inl rfl) (me_op op_addAll (lf_add (cell := false)) mn_add (me_op op_addAll (lf_add (cell := false)) mn_add (mv 2) (me_if (mt_cmp op_gt lf_B0 mn_I0 (mv 3) me_int (nomark _)) me_str me_str)) (me_call (ok__law_pad T) mono__law_pad (hr.mono (by decide)) (takes_of rfl rfl rfl rfl) (by rfl) T.g__law_pad T.F__law_pad.kp T.b__law_pad (ma_cons (mv 0) ma_nil))))
      (mss_cons (ms_for (passes_of rfl) rfl (mi_range1 (by rfl) T.z_range (ma_cons (me_callB call_len la_len mr_len (by rfl) T.z_len (by decide +kernel) (ma_cons (mv 4) ma_nil)) ma_nil)) (mg_name (i := 5) sc__law_spaced.nd (by rfl) (.inl rfl)) (mss_one (ms_set (i := 2) sc__law_spaced.nd (by rfl) (.inl rfl) (me_op op_addAll (lf_add (cell := false)) mn_add (me_op op_addAll (lf_add (cell := false)) mn_add (mv 2) (me_if (mt_cmp op_gt lf_B0 mn_I0 (mv 5) me_int (nomark _)) (me_op op_addAll (lf_add (cell := false)) mn_add me_str (me_call (ok__law_pad T) mono__law_pad (hr.mono (by decide)) (takes_of rfl rfl rfl rfl) (by rfl) T.g__law_pad T.F__law_pad.kp T.b__law_pad (ma_cons (mv 0) ma_nil))) me_str)) (me_ix ix_seq lf_ix mn_ix (mv 4) (mv 5) (fun _ _ => rfl))))))
      (mss_one (ms_set (i := 2) sc__law_spaced.nd (by rfl) (.inl rfl) (me_op op_addAll (lf_add (cell := false)) mn_add (mv 2) (me_call (ok__law_pad T) mono__law_pad (hr.mono (by decide)) (takes_of rfl rfl rfl rfl) (by rfl) T.g__law_pad T.F__law_pad.kp T.b__law_pad (ma_cons (mv 0) ma_nil)))))))))
      (mss_one (ms_ret (mv 2))))), math__law_spaced⟩
theorem ok__law_far_bar (T : Txt P K mg) : FnOk P wd K mg base (L2.CX P wd) 8 T.f__law_far_bar T.fd__law_far_bar ["pool", "voices"] (upP K sp__law_far_bar) :=
  okM T.F__law_far_bar sc__law_far_bar len__law_far_bar fun cdv A outer s H E hr => by
    have hu := hr.units
    exact ⟨r__law_far_bar, (mss_cons (ms_if (mt_cmp op_gt lf_B0 mn_I0 (me_call (ok__law_take T) mono__law_take (hr.mono (by decide)) (takes_of rfl rfl rfl rfl) (by rfl) T.g__law_take T.F__law_take.kp T.b__law_take (ma_cons (mv 0) (ma_cons me_int ma_nil))) me_int (nomark _)) (mss_one (ms_ret (me_call (ok__law_bar T) mono__law_bar (hr.mono (by decide)) (takes_of rfl rfl rfl rfl) (by rfl) T.g__law_bar T.F__law_bar.kp T.b__law_bar (ma_cons (mv 0) (ma_cons (mv 1) (ma_cons me_int ma_nil)))))) mss_nil)
      (mss_cons (ms_setLc (i := 2) (own := [("k", 4)]) false rfl sc__law_far_bar.nd (by rfl) (by rfl) (by rfl) (mi_range1 (by rfl) T.z_range (ma_cons me_int ma_nil)) (blkOk_by (N := N__law_far_bar) (sc := defScope s__law_far_bar) (by decide +kernel)) (fun _ _ _ _ _ => pg_name (i := 4) sc__law_far_bar.nd (by rfl) (.inl rfl)) cg_name (fun _ _ _ _ _ => mts_nil) (fun _ _ _ _ _ => (me_call (ok__law_far_pair T) mono__law_far_pair (hr.mono (by decide)) takes0 (by rfl) T.g__law_far_pair T.F__law_far_pair.kp T.b__law_far_pair (ma_cons (mv 0) ma_nil))))
      (mss_cons (ms_set (i := 3) sc__law_far_bar.nd (by rfl) (.inl rfl) (me_tup ma_nil))
      (mss_cons (ms_for (passes_of rfl) rfl (mi_range1 (by rfl) T.z_range (ma_cons (me_call (ok__law_pick T) mono__law_pick (hr.mono (by decide)) (takes_of rfl rfl rfl rfl) (by rfl) T.g__law_pick T.F__law_pick.kp T.b__law_pick (ma_cons (mv 0) (ma_cons (me_lst false (ma_cons me_int (ma_cons me_int (ma_cons me_int (ma_cons me_int (ma_cons me_int ma_nil)))))) ma_nil))) ma_nil)) (mg_name (i := 4) sc__law_far_bar.nd (by rfl) (.inl rfl)) (mss_one (ms_set (i := 3) sc__law_far_bar.nd (by rfl) (.inl rfl) (me_op op_addAll (lf_add (cell := false)) mn_add (mv 3) (me_tup (ma_cons (me_call (ok__law_column T) mono__law_column (hr.mono (by decide)) (takes_of rfl rfl rfl rfl) (by rfl) T.g__law_column T.F__law_column.kp T.b__law_column (ma_cons (mv 0) (ma_cons (mv 1) (ma_cons (me_if (mt_tru (mv 3)) (me_ix ix_seq lf_ix mn_ix (mv 3) (me_un un_neg lf_neg mn_neg me_int) (fun _ _ => rfl)) me_non) (ma_cons (mv 2) ma_nil))))) ma_nil))))))
      (mss_one (ms_ret (mv 3))))))), math__law_far_bar⟩
theorem ok__law_wrong_text (T : Txt P K mg) : FnOk P wd K mg base (L2.CX P wd) 5 T.f__law_wrong_text T.fd__law_wrong_text ["pool", "cell"] (upP K sp__law_wrong_text) :=
  okM T.F__law_wrong_text sc__law_wrong_text len__law_wrong_text fun cdv A outer s H E hr => by
    have hu := hr.units
    exact ⟨r__law_wrong_text, (mss_cons (ms_set (i := 2) sc__law_wrong_text.nd (by rfl) (.inl rfl) (me_callB call_len la_len mr_len (by rfl) T.z_len (by decide +kernel) (ma_cons (me_ix ix_seq lf_ix mn_ix (mv 1) me_int (fun _ _ => rfl)) ma_nil)))
      (mss_cons (ms_set (i := 3) sc__law_wrong_text.nd (by rfl) (.inl rfl) (me_call (ok__law_cell_words T) mono__law_cell_words (hr.mono (by decide)) (takes_of rfl rfl rfl rfl) (by rfl) T.g__law_cell_words T.F__law_cell_words.kp T.b__law_cell_words (ma_cons (mv 1) ma_nil)))
      (mss_cons (ms_set (i := 4) sc__law_wrong_text.nd (by rfl) (.inl rfl) (me_lst false (ma_cons me_str (ma_cons me_str (ma_cons me_str (ma_cons me_str (ma_cons me_str (ma_cons me_str (ma_cons me_str (ma_cons me_str (ma_cons me_str (ma_cons me_str (ma_cons me_str (ma_cons me_str (ma_cons me_str (ma_cons me_str (ma_cons me_str (ma_cons me_str (ma_cons me_str (ma_cons me_str (ma_cons me_str ma_nil)))))))))))))))))))))
      (mss_cons (ms_set (i := 4) sc__law_wrong_text.nd (by rfl) (.inl rfl) (me_op op_addAll (lf_add (cell := false)) mn_add (mv 4) (me_lst false (ma_cons me_str (ma_cons me_str (ma_cons me_str (ma_cons me_str (ma_cons me_str (ma_cons me_str (ma_cons me_str (ma_cons me_str (ma_cons me_str (ma_cons me_str (ma_cons me_str (ma_cons me_str (ma_cons me_str (ma_cons me_str (ma_cons me_str (ma_cons me_str (ma_cons me_str ma_nil))))))))))))))))))))
      (mss_cons (ms_set (i := 5) sc__law_wrong_text.nd (by rfl) (.inl rfl) (me_lst false (ma_cons me_str (ma_cons me_str (ma_cons me_str (ma_cons me_str (ma_cons me_str (ma_cons me_str (ma_cons me_str (ma_cons me_str (ma_cons me_str (ma_cons me_str (ma_cons me_str (ma_cons me_str (ma_cons me_str (ma_cons me_str (ma_cons me_str (ma_cons me_str (ma_cons me_str (ma_cons me_str (ma_cons me_str (ma_cons me_str (ma_cons me_str (ma_cons me_str (ma_cons me_str (ma_cons me_str ma_nil))))))))))))))))))))))))))
      (mss_cons (ms_set (i := 6) sc__law_wrong_text.nd (by rfl) (.inl rfl) (me_call (ok__law_take T) mono__law_take (hr.mono (by decide)) (takes_of rfl rfl rfl rfl) (by rfl) T.g__law_take T.F__law_take.kp T.b__law_take (ma_cons (mv 0) (ma_cons me_int ma_nil))))
      (mss_cons (ms_if (mt_cmp (op_eqAll hu) lf_eq mn_eq (mv 6) me_int (nomark _)) (mss_one (ms_ret (me_bm PySem.F.plainAttrs_str PySem.F.slot_str_join PySem.F.type_str_join mt_join lm_join mm_join me_str (ma_cons (me_op op_addAll (lf_add (cell := false)) mn_add (me_lst false (ma_cons (me_call (ok__law_pick T) mono__law_pick (hr.mono (by decide)) (takes_of rfl rfl rfl rfl) (by rfl) T.g__law_pick T.F__law_pick.kp T.b__law_pick (ma_cons (mv 0) (ma_cons (mv 4) ma_nil))) ma_nil)) (me_slice sl_all (lsl_all (cell := false)) msl_all (mv 3) (mo_some me_int) mo_none)) ma_nil)))) mss_nil)
      (mss_cons (ms_if (mt_cmp (op_eqAll hu) lf_eq mn_eq (mv 6) me_int (nomark _)) (mss_cons (ms_set (i := 7) sc__law_wrong_text.nd (by rfl) (.inl rfl) (me_op op_addAll (lf_add (cell := false)) mn_add me_int (me_call (ok__law_take T) mono__law_take (hr.mono (by decide)) (takes_of rfl rfl rfl rfl) (by rfl) T.g__law_take T.F__law_take.kp T.b__law_take (ma_cons (mv 0) (ma_cons (mv 2) ma_nil)))))
      (mss_cons (ms_asg (me_call (ok__law_pick T) mono__law_pick (hr.mono (by decide)) (takes_of rfl rfl rfl rfl) (by rfl) T.g__law_pick T.F__law_pick.kp T.b__law_pick (ma_cons (mv 0) (ma_cons (me_slice sl_all (lsl_all (cell := false)) msl_all (mv 5) (mo_some me_int) mo_none) ma_nil))) (mg_sub (mv 3) (mv 7) set_list ls_list ms_list))
      (mss_one (ms_ret (me_bm PySem.F.plainAttrs_str PySem.F.slot_str_join PySem.F.type_str_join mt_join lm_join mm_join me_str (ma_cons (mv 3) ma_nil)))))) mss_nil)
      (mss_cons (ms_if (mt_cmp (op_eqAll hu) lf_eq mn_eq (mv 6) me_int (nomark _)) (mss_one (ms_ret me_str)) mss_nil)
      (mss_cons (ms_if (mt_cmp (op_eqAll hu) lf_eq mn_eq (mv 6) me_int (nomark _)) (mss_one (ms_ret (me_call (ok__law_pick T) mono__law_pick (hr.mono (by decide)) (takes_of rfl rfl rfl rfl) (by rfl) T.g__law_pick T.F__law_pick.kp T.b__law_pick (ma_cons (mv 0) (ma_cons (me_lst false (ma_cons (me_ix ix_seq lf_ix mn_ix (mv 3) me_int (fun _ _ => rfl)) (ma_cons me_str (ma_cons me_str (ma_cons me_str (ma_cons me_str (ma_cons me_str (ma_cons me_str ma_nil)))))))) ma_nil))))) mss_nil)
      (mss_cons (ms_if (mt_cmp (op_eqAll hu) lf_eq mn_eq (mv 6) me_int (nomark _)) (mss_one (ms_ret (me_bm PySem.F.plainAttrs_str PySem.F.slot_str_join PySem.F.type_str_join mt_join lm_join mm_join me_str (ma_cons (me_op op_addAll (lf_add (cell := false)) mn_add (mv 3) (me_op op_mulAll (lf_mul (cell := false)) mn_mul (me_lst false (ma_cons me_str ma_nil)) (me_call (ok__law_pick T) mono__law_pick (hr.mono (by decide)) (takes_of rfl rfl rfl rfl) (by rfl) T.g__law_pick T.F__law_pick.kp T.b__law_pick (ma_cons (mv 0) (ma_cons (me_lst false (ma_cons (me_op op_sub lf_I0 mn_I0 me_int (mv 2)) (ma_cons (me_op op_sub lf_I0 mn_I0 me_int (mv 2)) ma_nil))) ma_nil))))) ma_nil)))) mss_nil)
      (mss_one (ms_ret (me_bm PySem.F.plainAttrs_str PySem.F.slot_str_join PySem.F.type_str_join mt_join lm_join mm_join me_str (ma_cons (me_slice sl_all (lsl_all (cell := false)) msl_all (mv 3) (mo_some me_int) mo_none) ma_nil))))))))))))))), math__law_wrong_text⟩
theorem ok__law_cells (T : Txt P K mg) : FnOk P wd K mg base (L2.CX P wd) 6 T.f__law_cells T.fd__law_cells ["pool", "bar"] (upP K sp__law_cells) :=
  okM T.F__law_cells sc__law_cells len__law_cells fun cdv A outer s H E hr => by
    have hu := hr.units
    exact ⟨r__law_cells, (mss_cons (ms_setLc (i := 2) (own := [("cell", 5)]) true rfl sc__law_cells.nd (by rfl) (by rfl) (by rfl) (mi_seq (mv 1)) (blkOk_by (N := N__law_cells) (sc := defScope s__law_cells) (by decide +kernel)) (fun _ _ _ _ _ => pg_name (i := 5) sc__law_cells.nd (by rfl) (.inl rfl)) cg_name (fun _ _ _ _ _ => mts_nil) (fun _ _ _ _ _ => (me_tup (ma_cons (me_bm PySem.F.plainAttrs_str PySem.F.slot_str_join PySem.F.type_str_join mt_join lm_join mm_join me_str (ma_cons (me_call (ok__law_cell_words T) mono__law_cell_words (hr.mono (by decide)) takes0 (by rfl) T.g__law_cell_words T.F__law_cell_words.kp T.b__law_cell_words (ma_cons (mv 5) ma_nil)) ma_nil)) (ma_cons me_bl ma_nil)))))
      (mss_cons (ms_for (passes_of rfl) rfl (mi_range1 (by rfl) T.z_range (ma_cons (me_op op_addAll (lf_add (cell := false)) mn_add me_int (me_call (ok__law_take T) mono__law_take (hr.mono (by decide)) (takes_of rfl rfl rfl rfl) (by rfl) T.g__law_take T.F__law_take.kp T.b__law_take (ma_cons (mv 0) (ma_cons me_int ma_nil)))) ma_nil)) (mg_name (i := 3) sc__law_cells.nd (by rfl) (.inl rfl)) (mss_cons (ms_set (i := 4) sc__law_cells.nd (by rfl) (.inl rfl) (me_call (ok__law_pick T) mono__law_pick (hr.mono (by decide)) (takes_of rfl rfl rfl rfl) (by rfl) T.g__law_pick T.F__law_pick.kp T.b__law_pick (ma_cons (mv 0) (ma_cons (me_lst false (ma_cons (me_call (ok__law_take T) mono__law_take (hr.mono (by decide)) (takes_of rfl rfl rfl rfl) (by rfl) T.g__law_take T.F__law_take.kp T.b__law_take (ma_cons (mv 0) (ma_cons (me_callB call_len la_len mr_len (by rfl) T.z_len (by decide +kernel) (ma_cons (mv 1) ma_nil)) ma_nil))) (ma_cons (me_op op_sub lf_I0 mn_I0 (me_callB call_len la_len mr_len (by rfl) T.z_len (by decide +kernel) (ma_cons (mv 1) ma_nil)) me_int) (ma_cons me_int ma_nil)))) ma_nil))))
      (mss_one (ms_if (MW.mt (mw_and (mt_cmp op_gt lf_B0 mn_I0 (mv 4) me_int (nomark _)) (mw_and1 (mt_cmp (op_eqAll hu) lf_eq mn_eq (me_call (ok__law_take T) mono__law_take (hr.mono (by decide)) (takes_of rfl rfl rfl rfl) (by rfl) T.g__law_take T.F__law_take.kp T.b__law_take (ma_cons (mv 0) (ma_cons me_int ma_nil))) me_int (nomark _))))) (mss_cons (ms_set (i := 6) sc__law_cells.nd (by rfl) (.inl rfl) (me_op op_addAll (lf_add (cell := false)) mn_add me_int (me_op op_modN lf_I mn_I (me_callTy call_intAll la_int mr_int (by rfl) T.z_int (by decide +kernel) (ma_cons (me_op op_addAll (lf_add (cell := false)) mn_add (me_callB call_len la_len mr_len (by rfl) T.z_len (by decide +kernel) (ma_cons (me_ix ix_seq lf_ix mn_ix (me_ix ix_seq lf_ix mn_ix (mv 1) me_int (fun _ _ => rfl)) me_int (fun _ _ => rfl)) ma_nil)) (me_call (ok__law_take T) mono__law_take (hr.mono (by decide)) (takes_of rfl rfl rfl rfl) (by rfl) T.g__law_take T.F__law_take.kp T.b__law_take (ma_cons (mv 0) (ma_cons me_int ma_nil)))) ma_nil)) me_int)))
      (mss_one (ms_asg (me_tup (ma_cons (me_bm PySem.F.plainAttrs_str PySem.F.slot_str_join PySem.F.type_str_join mt_join lm_join mm_join me_str (ma_cons (me_op op_addAll (lf_add (cell := false)) mn_add (me_lst false (ma_cons (me_ix ix_seq lf_ix mn_ix (me_call (ok__law_cell_words T) mono__law_cell_words (hr.mono (by decide)) (takes_of rfl rfl rfl rfl) (by rfl) T.g__law_cell_words T.F__law_cell_words.kp T.b__law_cell_words (ma_cons (me_ix ix_seq lf_ix mn_ix (mv 1) (mv 4) (fun _ _ => rfl)) ma_nil)) me_int (fun _ _ => rfl)) ma_nil)) (me_op op_mulAll (lf_mul (cell := false)) mn_mul (me_lst false (ma_cons me_str ma_nil)) (mv 6))) ma_nil)) (ma_cons me_bl ma_nil))) (mg_sub (mv 2) (mv 4) set_list ls_list ms_list)))) (mss_one (ms_asg (me_tup (ma_cons (me_call (ok__law_wrong_text T) mono__law_wrong_text (hr.mono (by decide)) (takes_of rfl rfl rfl rfl) (by rfl) T.g__law_wrong_text T.F__law_wrong_text.kp T.b__law_wrong_text (ma_cons (mv 0) (ma_cons (me_ix ix_seq lf_ix mn_ix (mv 1) (mv 4) (fun _ _ => rfl)) ma_nil))) (ma_cons me_bl ma_nil))) (mg_sub (mv 2) (mv 4) set_list ls_list ms_list)))))))
      (mss_one (ms_ret (me_frz (mv 2)))))), math__law_cells⟩
theorem ok__law_laid (T : Txt P K mg) : FnOk P wd K mg base (L2.CX P wd) 6 T.f__law_laid T.fd__law_laid ["pool", "cells"] (upP K sp__law_laid) :=
  okM T.F__law_laid sc__law_laid len__law_laid fun cdv A outer s H E hr => by
    have hu := hr.units
    exact ⟨r__law_laid, (mss_cons (ms_set (i := 2) sc__law_laid.nd (by rfl) (.inl rfl) me_str)
      (mss_cons (ms_set (i := 3) sc__law_laid.nd (by rfl) (.inl rfl) me_non)
      (mss_cons (ms_for (passes_of rfl) rfl (mi_range1 (by rfl) T.z_range (ma_cons (me_callB call_len la_len mr_len (by rfl) T.z_len (by decide +kernel) (ma_cons (mv 1) ma_nil)) ma_nil)) (mg_name (i := 4) sc__law_laid.nd (by rfl) (.inl rfl)) (mss_cons (ms_set (i := 2) sc__law_laid.nd (by rfl) (.inl rfl) (me_op op_addAll (lf_add (cell := false)) mn_add (me_op op_addAll (lf_add (cell := false)) mn_add (mv 2) (me_if (mt_cmp op_gt lf_B0 mn_I0 (mv 4) me_int (nomark _)) me_str me_str)) (me_call (ok__law_pad T) mono__law_pad (hr.mono (by decide)) (takes_of rfl rfl rfl rfl) (by rfl) T.g__law_pad T.F__law_pad.kp T.b__law_pad (ma_cons (mv 0) ma_nil))))
      (mss_cons (ms_set (i := 5) sc__law_laid.nd (by rfl) (.inl rfl) (me_callB call_len la_len mr_len (by rfl) T.z_len (by decide +kernel) (ma_cons (mv 2) ma_nil)))
      (mss_cons (ms_set (i := 2) sc__law_laid.nd (by rfl) (.inl rfl) (me_op op_addAll (lf_add (cell := false)) mn_add (me_op op_addAll (lf_add (cell := false)) mn_add (mv 2) (me_ix ix_seq lf_ix mn_ix (me_ix ix_seq lf_ix mn_ix (mv 1) (mv 4) (fun _ _ => rfl)) me_int (fun _ _ => rfl))) (me_call (ok__law_pad T) mono__law_pad (hr.mono (by decide)) (takes_of rfl rfl rfl rfl) (by rfl) T.g__law_pad T.F__law_pad.kp T.b__law_pad (ma_cons (mv 0) ma_nil))))
      (mss_one (ms_if (MW.mt (mw_and (mt_cmp op_isN1 lf_isN mn_isN (mv 3) me_non (nomark _)) (mw_and1 (mt_not (mt_tru (me_ix ix_seq lf_ix mn_ix (me_ix ix_seq lf_ix mn_ix (mv 1) (mv 4) (fun _ _ => rfl)) me_int (fun _ _ => rfl))))))) (mss_one (ms_set (i := 3) sc__law_laid.nd (by rfl) (.inl rfl) (me_if (mt_cmp (op_neAll hu) lf_ne mn_eq (me_ix ix_seq lf_ix mn_ix (me_ix ix_seq lf_ix mn_ix (mv 1) (mv 4) (fun _ _ => rfl)) me_int (fun _ _ => rfl)) me_str (nomark _)) (mv 5) (me_callB call_len la_len mr_len (by rfl) T.z_len (by decide +kernel) (ma_cons (mv 2) ma_nil))))) mss_nil))))))
      (mss_one (ms_ret (me_tup (ma_cons (mv 2) (ma_cons (mv 3) ma_nil)))))))), math__law_laid⟩
theorem ok__law_told (T : Txt P K mg) : FnOk P wd K mg base (L2.CX P wd) 8 T.f__law_told T.fd__law_told ["text"] (upP K sp__law_told) :=
  okM T.F__law_told sc__law_told len__law_told fun cdv A outer s H E hr => by
    have hu := hr.units
    exact ⟨r__law_told (ClsOf K), (mss_cons (ms_try T.mtok rfl rfl (takes_of rfl rfl rfl rfl) (passes_of rfl) (fun W' pn xe tk pp => (mss_one (ms_set (i := 1) sc__law_told.nd (by rfl) (.inl rfl) (me_call (ok_read_bar T) mono_read_bar (hr.mono (by decide)) tk (by rfl) T.g_read_bar T.F_read_bar.kp T.b_read_bar (ma_cons (mv 0) ma_nil))))) (HdsM.two ⟨by rfl, by decide, .inl T.g_BadName⟩ (.inl T.n_BadName) ⟨by rfl, by decide, .inl T.g_BadKey⟩ (.inl T.n_BadKey) (fun a oe cls d pn hz hf => (mss_one (ms_ret (me_tup (ma_cons me_str ma_nil))))) (HdsM.as_ (i := 2) sc__law_told.nd (by rfl) (by rfl) ⟨by rfl, by decide, .inl T.g_BadText⟩ (.inl T.n_BadText) (fun xc a oe cls d pn hco hz hf => (mss_one (ms_ret (me_tup (ma_cons me_str (ma_cons (me_xf T.xtok hco hz hf (fun _ => trivial) (mv 2)) (ma_cons (me_isE T.isok hco hz hf (by rfl) T.z_isinstance (mv 2) (pe_glob (v := .ref T.C_ScoreError) (by rfl) T.g_ScoreError rfl) (fun _ r => r) (.inl T.n_ScoreError)) (ma_cons (me_isE T.isok hco hz hf (by rfl) T.z_isinstance (mv 2) (pe_bltn (v := .ty "ValueError") (u := .type "ValueError") (by rfl) T.z_ValueError (by decide +kernel) rfl) (fun _ r => r) (.inr ⟨T.n_ValueError, by decide +kernel⟩)) (ma_cons (me_isE T.isok hco hz hf (by rfl) T.z_isinstance (mv 2) (pe_glob (v := .ref T.C_BadColumn) (by rfl) T.g_BadColumn rfl) (fun _ r => r) (.inl T.n_BadColumn)) ma_nil))))))))) (HdsM.as_ (i := 2) sc__law_told.nd (by rfl) (by rfl) ⟨by rfl, by decide, .inl T.g_BadColumn⟩ (.inl T.n_BadColumn) (fun xc a oe cls d pn hco hz hf => (mss_one (ms_ret (me_tup (ma_cons me_str (ma_cons (me_xf T.xtok hco hz hf (fun _ => trivial) (mv 2)) (ma_cons (me_xf T.xtok hco hz hf (fun _ => trivial) (mv 2)) (ma_cons (me_isE T.isok hco hz hf (by rfl) T.z_isinstance (mv 2) (pe_glob (v := .ref T.C_ScoreError) (by rfl) T.g_ScoreError rfl) (fun _ r => r) (.inl T.n_ScoreError)) (ma_cons (me_isE T.isok hco hz hf (by rfl) T.z_isinstance (mv 2) (pe_bltn (v := .ty "ValueError") (u := .type "ValueError") (by rfl) T.z_ValueError (by decide +kernel) rfl) (fun _ r => r) (.inr ⟨T.n_ValueError, by decide +kernel⟩)) ma_nil))))))))) HdsM.nil))))
      (mss_one (ms_ret (me_tup (ma_cons me_str (ma_cons (mv 1) ma_nil)))))), math__law_told (ClsOf K)⟩
theorem ok_law (T : Txt P K mg) : FnOk P wd K mg base (L2.CX P wd) 10 T.f_law T.fd_law ["script"] (upP K sp_law) :=
  okM T.F_law sc_law len_law fun cdv A outer s H E hr => by
    have hu := hr.units
    exact ⟨r_law, (mss_cons (ms_set (i := 1) sc_law.nd (by rfl) (.inl rfl) (me_call (ok__law_pool T) mono__law_pool (hr.mono (by decide)) (takes_of rfl rfl rfl rfl) (by rfl) T.g__law_pool T.F__law_pool.kp T.b__law_pool (ma_cons (mv 0) ma_nil)))
      (mss_cons (ms_for (passes_of rfl) rfl (mi_range1 (by rfl) T.z_range (ma_cons me_int ma_nil)) (mg_name (i := 2) sc_law.nd (by rfl) (.inl rfl)) (mss_cons (ms_set (i := 3) sc_law.nd (by rfl) (.inl rfl) (me_call (ok__law_far_bar T) mono__law_far_bar (hr.mono (by decide)) (takes_of rfl rfl rfl rfl) (by rfl) T.g__law_far_bar T.F__law_far_bar.kp T.b__law_far_bar (ma_cons (mv 1) (ma_cons (me_op op_addAll (lf_add (cell := false)) mn_add me_int (me_call (ok__law_take T) mono__law_take (hr.mono (by decide)) (takes_of rfl rfl rfl rfl) (by rfl) T.g__law_take T.F__law_take.kp T.b__law_take (ma_cons (mv 1) (ma_cons me_int ma_nil)))) ma_nil))))
      (mss_cons (ms_asg (me_call (ok__law_laid T) mono__law_laid (hr.mono (by decide)) (takes_of rfl rfl rfl rfl) (by rfl) T.g__law_laid T.F__law_laid.kp T.b__law_laid (ma_cons (mv 1) (ma_cons (me_call (ok__law_cells T) mono__law_cells (hr.mono (by decide)) (takes_of rfl rfl rfl rfl) (by rfl) T.g__law_cells T.F__law_cells.kp T.b__law_cells (ma_cons (mv 1) (ma_cons (mv 3) ma_nil))) ma_nil))) (mg_tup rfl (mgs_cons (mg_name (i := 7) sc_law.nd (by rfl) (.inl rfl)) (mgs_cons (mg_name (i := 8) sc_law.nd (by rfl) (.inl rfl)) mgs_nil))))
      (mss_cons (ms_if (mt_not (mt_tru (me_call (ok__law_same T) mono__law_same (hr.mono (by decide)) (takes_of rfl rfl rfl rfl) (by rfl) T.g__law_same T.F__law_same.kp T.b__law_same (ma_cons (me_call (ok__law_told T) mono__law_told (hr.mono (by decide)) (takes_of rfl rfl rfl rfl) (by rfl) T.g__law_told T.F__law_told.kp T.b__law_told (ma_cons (mv 7) ma_nil)) (ma_cons (me_tup (ma_cons me_str (ma_cons (mv 8) (ma_cons me_bl (ma_cons me_bl (ma_cons me_bl ma_nil)))))) ma_nil))))) (mss_one (ms_ret me_bl)) mss_nil)
      (mss_cons (ms_if (mt_not (mt_tru (me_call (ok__law_same T) mono__law_same (hr.mono (by decide)) (takes_of rfl rfl rfl rfl) (by rfl) T.g__law_same T.F__law_same.kp T.b__law_same (ma_cons (me_call (ok__law_told T) mono__law_told (hr.mono (by decide)) (takes_of rfl rfl rfl rfl) (by rfl) T.g__law_told T.F__law_told.kp T.b__law_told (ma_cons (me_call (ok__law_spaced T) mono__law_spaced (hr.mono (by decide)) (takes_of rfl rfl rfl rfl) (by rfl) T.g__law_spaced T.F__law_spaced.kp T.b__law_spaced (ma_cons (mv 1) (ma_cons (mv 3) ma_nil))) ma_nil)) (ma_cons (me_tup (ma_cons me_str (ma_cons (mv 3) ma_nil))) ma_nil))))) (mss_one (ms_ret me_bl)) mss_nil)
      (mss_cons (ms_set (i := 4) sc_law.nd (by rfl) (.inl rfl) (me_call (ok__law_pick T) mono__law_pick (hr.mono (by decide)) (takes_of rfl rfl rfl rfl) (by rfl) T.g__law_pick T.F__law_pick.kp T.b__law_pick (ma_cons (mv 1) (ma_cons (me_lst false (ma_cons me_int (ma_cons me_int (ma_cons (me_op op_addAll (lf_add (cell := false)) mn_add me_int (me_callB call_len la_len mr_len (by rfl) T.z_len (by decide +kernel) (ma_cons (mv 3) ma_nil))) ma_nil)))) ma_nil))))
      (mss_cons (ms_set (i := 5) sc_law.nd (by rfl) (.inl rfl) (me_slice sl_all (lsl_all (cell := false)) msl_all (me_op op_mulT lf_mulT mn_mulT (mv 3) me_int) mo_none (mo_some (mv 4))))
      (mss_cons (ms_if (mt_not (mt_tru (me_call (ok__law_same T) mono__law_same (hr.mono (by decide)) (takes_of rfl rfl rfl rfl) (by rfl) T.g__law_same T.F__law_same.kp T.b__law_same (ma_cons (me_call (ok__law_told T) mono__law_told (hr.mono (by decide)) (takes_of rfl rfl rfl rfl) (by rfl) T.g__law_told T.F__law_told.kp T.b__law_told (ma_cons (me_call (ok__law_spaced T) mono__law_spaced (hr.mono (by decide)) (takes_of rfl rfl rfl rfl) (by rfl) T.g__law_spaced T.F__law_spaced.kp T.b__law_spaced (ma_cons (mv 1) (ma_cons (mv 5) ma_nil))) ma_nil)) (ma_cons (me_tup (ma_cons me_str (ma_cons me_non (ma_cons me_str (ma_cons me_bl (ma_cons me_bl ma_nil)))))) ma_nil))))) (mss_one (ms_ret me_bl)) mss_nil)
      (mss_cons (ms_setLc (i := 6) (own := [("cell", 9)]) true rfl sc_law.nd (by rfl) (by rfl) (by rfl) (mi_seq (mv 5)) (blkOk_by (N := N_law) (sc := defScope s_law) (by decide +kernel)) (fun _ _ _ _ _ => pg_name (i := 9) sc_law.nd (by rfl) (.inl rfl)) cg_name (fun _ _ _ _ _ => mts_nil) (fun _ _ _ _ _ => (me_tup (ma_cons (me_bm PySem.F.plainAttrs_str PySem.F.slot_str_join PySem.F.type_str_join mt_join lm_join mm_join me_str (ma_cons (me_call (ok__law_cell_words T) mono__law_cell_words (hr.mono (by decide)) takes0 (by rfl) T.g__law_cell_words T.F__law_cell_words.kp T.b__law_cell_words (ma_cons (mv 9) ma_nil)) ma_nil)) (ma_cons me_bl ma_nil)))))
      (mss_cons (ms_asg (me_tup (ma_cons (me_call (ok__law_wrong_text T) mono__law_wrong_text (hr.mono (by decide)) (takes_of rfl rfl rfl rfl) (by rfl) T.g__law_wrong_text T.F__law_wrong_text.kp T.b__law_wrong_text (ma_cons (mv 1) (ma_cons (me_ix ix_seq lf_ix mn_ix (mv 5) (me_un un_neg lf_neg mn_neg me_int) (fun _ _ => rfl)) ma_nil))) (ma_cons me_bl ma_nil))) (mg_sub (mv 6) (me_un un_neg lf_neg mn_neg me_int) set_list ls_list ms_list))
      (mss_cons (ms_asg (me_call (ok__law_laid T) mono__law_laid (hr.mono (by decide)) (takes_of rfl rfl rfl rfl) (by rfl) T.g__law_laid T.F__law_laid.kp T.b__law_laid (ma_cons (mv 1) (ma_cons (mv 6) ma_nil))) (mg_tup rfl (mgs_cons (mg_name (i := 7) sc_law.nd (by rfl) (.inl rfl)) (mgs_cons (mg_name (i := 8) sc_law.nd (by rfl) (.inl rfl)) mgs_nil))))
      (mss_one (ms_if (mt_not (mt_tru (me_call (ok__law_same T) mono__law_same (hr.mono (by decide)) (takes_of rfl rfl rfl rfl) (by rfl) T.g__law_same T.F__law_same.kp T.b__law_same (ma_cons (me_call (ok__law_told T) mono__law_told (hr.mono (by decide)) (takes_of rfl rfl rfl rfl) (by rfl) T.g__law_told T.F__law_told.kp T.b__law_told (ma_cons (mv 7) ma_nil)) (ma_cons (me_tup (ma_cons me_str (ma_cons (mv 8) (ma_cons me_bl (ma_cons me_bl (ma_cons me_bl ma_nil)))))) ma_nil))))) (mss_one (ms_ret me_bl)) mss_nil)))))))))))))
      (mss_one (ms_ret me_bl)))), math_law⟩
end

noncomputable def txt_mk {P : Program} {K : PySem.W.Frag} {h : Heap} {mg : Str → Option Value} (X : K.In h) (G : h.Ns mainGlobals mg)
    {oc_is_fraction kV_is_fraction dc_is_fraction pm_is_fraction cd_is_fraction ct_is_fraction : Value} {od_is_fraction an_is_fraction : Option Addr} {sl_is_fraction : Array (Option Value)} {f_is_fraction : Addr}
    {oc_whole kV_whole dc_whole pm_whole cd_whole ct_whole : Value} {od_whole an_whole : Option Addr} {sl_whole : Array (Option Value)} {f_whole : Addr}
    {oc_within kV_within dc_within pm_within cd_within ct_within : Value} {od_within an_within : Option Addr} {sl_within : Array (Option Value)} {f_within : Addr}
    {oc_read_tone kV_read_tone dc_read_tone pm_read_tone cd_read_tone ct_read_tone : Value} {od_read_tone an_read_tone : Option Addr} {sl_read_tone : Array (Option Value)} {f_read_tone : Addr}
    {oc_is_duration kV_is_duration dc_is_duration pm_is_duration cd_is_duration ct_is_duration : Value} {od_is_duration an_is_duration : Option Addr} {sl_is_duration : Array (Option Value)} {f_is_duration : Addr}
    {oc_read_entry kV_read_entry dc_read_entry pm_read_entry cd_read_entry ct_read_entry : Value} {od_read_entry an_read_entry : Option Addr} {sl_read_entry : Array (Option Value)} {f_read_entry : Addr}
    {oc_read_duration_of kV_read_duration_of dc_read_duration_of pm_read_duration_of cd_read_duration_of ct_read_duration_of : Value} {od_read_duration_of an_read_duration_of : Option Addr} {sl_read_duration_of : Array (Option Value)} {f_read_duration_of : Addr}
    {oc_read_duration kV_read_duration dc_read_duration pm_read_duration cd_read_duration ct_read_duration : Value} {od_read_duration an_read_duration : Option Addr} {sl_read_duration : Array (Option Value)} {f_read_duration : Addr}
    {oc_read_column kV_read_column dc_read_column pm_read_column cd_read_column ct_read_column : Value} {od_read_column an_read_column : Option Addr} {sl_read_column : Array (Option Value)} {f_read_column : Addr}
    {oc_read_bar kV_read_bar dc_read_bar pm_read_bar cd_read_bar ct_read_bar : Value} {od_read_bar an_read_bar : Option Addr} {sl_read_bar : Array (Option Value)} {f_read_bar : Addr}
    {oc__law_pool kV__law_pool dc__law_pool pm__law_pool cd__law_pool ct__law_pool : Value} {od__law_pool an__law_pool : Option Addr} {sl__law_pool : Array (Option Value)} {f__law_pool : Addr}
    {oc__law_take kV__law_take dc__law_take pm__law_take cd__law_take ct__law_take : Value} {od__law_take an__law_take : Option Addr} {sl__law_take : Array (Option Value)} {f__law_take : Addr}
    {oc__law_pick kV__law_pick dc__law_pick pm__law_pick cd__law_pick ct__law_pick : Value} {od__law_pick an__law_pick : Option Addr} {sl__law_pick : Array (Option Value)} {f__law_pick : Addr}
    {oc__law_is_integer kV__law_is_integer dc__law_is_integer pm__law_is_integer cd__law_is_integer ct__law_is_integer : Value} {od__law_is_integer an__law_is_integer : Option Addr} {sl__law_is_integer : Array (Option Value)} {f__law_is_integer : Addr}
    {oc__law_same kV__law_same dc__law_same pm__law_same cd__law_same ct__law_same : Value} {od__law_same an__law_same : Option Addr} {sl__law_same : Array (Option Value)} {f__law_same : Addr}
    {oc__law_lowest kV__law_lowest dc__law_lowest pm__law_lowest cd__law_lowest ct__law_lowest : Value} {od__law_lowest an__law_lowest : Option Addr} {sl__law_lowest : Array (Option Value)} {f__law_lowest : Addr}
    {oc__law_duration kV__law_duration dc__law_duration pm__law_duration cd__law_duration ct__law_duration : Value} {od__law_duration an__law_duration : Option Addr} {sl__law_duration : Array (Option Value)} {f__law_duration : Addr}
    {oc__law_tone kV__law_tone dc__law_tone pm__law_tone cd__law_tone ct__law_tone : Value} {od__law_tone an__law_tone : Option Addr} {sl__law_tone : Array (Option Value)} {f__law_tone : Addr}
    {oc__law_column kV__law_column dc__law_column pm__law_column cd__law_column ct__law_column : Value} {od__law_column an__law_column : Option Addr} {sl__law_column : Array (Option Value)} {f__law_column : Addr}
    {oc__law_bar kV__law_bar dc__law_bar pm__law_bar cd__law_bar ct__law_bar : Value} {od__law_bar an__law_bar : Option Addr} {sl__law_bar : Array (Option Value)} {f__law_bar : Addr}
    {oc__law_letter kV__law_letter dc__law_letter pm__law_letter cd__law_letter ct__law_letter : Value} {od__law_letter an__law_letter : Option Addr} {sl__law_letter : Array (Option Value)} {f__law_letter : Addr}
    {oc__law_far_pair kV__law_far_pair dc__law_far_pair pm__law_far_pair cd__law_far_pair ct__law_far_pair : Value} {od__law_far_pair an__law_far_pair : Option Addr} {sl__law_far_pair : Array (Option Value)} {f__law_far_pair : Addr}
    {oc__law_tone_text kV__law_tone_text dc__law_tone_text pm__law_tone_text cd__law_tone_text ct__law_tone_text : Value} {od__law_tone_text an__law_tone_text : Option Addr} {sl__law_tone_text : Array (Option Value)} {f__law_tone_text : Addr}
    {oc__law_cell_words kV__law_cell_words dc__law_cell_words pm__law_cell_words cd__law_cell_words ct__law_cell_words : Value} {od__law_cell_words an__law_cell_words : Option Addr} {sl__law_cell_words : Array (Option Value)} {f__law_cell_words : Addr}
    {oc__law_pad kV__law_pad dc__law_pad pm__law_pad cd__law_pad ct__law_pad : Value} {od__law_pad an__law_pad : Option Addr} {sl__law_pad : Array (Option Value)} {f__law_pad : Addr}
    {oc__law_spaced kV__law_spaced dc__law_spaced pm__law_spaced cd__law_spaced ct__law_spaced : Value} {od__law_spaced an__law_spaced : Option Addr} {sl__law_spaced : Array (Option Value)} {f__law_spaced : Addr}
    {oc__law_far_bar kV__law_far_bar dc__law_far_bar pm__law_far_bar cd__law_far_bar ct__law_far_bar : Value} {od__law_far_bar an__law_far_bar : Option Addr} {sl__law_far_bar : Array (Option Value)} {f__law_far_bar : Addr}
    {oc__law_wrong_text kV__law_wrong_text dc__law_wrong_text pm__law_wrong_text cd__law_wrong_text ct__law_wrong_text : Value} {od__law_wrong_text an__law_wrong_text : Option Addr} {sl__law_wrong_text : Array (Option Value)} {f__law_wrong_text : Addr}
    {oc__law_cells kV__law_cells dc__law_cells pm__law_cells cd__law_cells ct__law_cells : Value} {od__law_cells an__law_cells : Option Addr} {sl__law_cells : Array (Option Value)} {f__law_cells : Addr}
    {oc__law_laid kV__law_laid dc__law_laid pm__law_laid cd__law_laid ct__law_laid : Value} {od__law_laid an__law_laid : Option Addr} {sl__law_laid : Array (Option Value)} {f__law_laid : Addr}
    {oc__law_told kV__law_told dc__law_told pm__law_told cd__law_told ct__law_told : Value} {od__law_told an__law_told : Option Addr} {sl__law_told : Array (Option Value)} {f__law_told : Addr}
    {oc_law kV_law dc_law pm_law cd_law ct_law : Value} {od_law an_law : Option Addr} {sl_law : Array (Option Value)} {f_law : Addr}
    (a_is_fraction : PySem.W.nsIn K mainGlobals "is_fraction" = some (some (.ref f_is_fraction))) (l_is_fraction : K.lookup f_is_fraction = some ⟨oc_is_fraction, od_is_fraction, .func (PySem.W.fnOf "is_fraction" "is_fraction" (defArgs s_is_fraction) (defBody s_is_fraction) (defScope s_is_fraction) .none kV_is_fraction dc_is_fraction pm_is_fraction an_is_fraction cd_is_fraction ct_is_fraction), sl_is_fraction⟩) (c_is_fraction : PySem.W.codeIn K cd_is_fraction "is_fraction" = true) (k_is_fraction : PySem.W.keepIn K (.ref f_is_fraction) = true)
    (a_whole : PySem.W.nsIn K mainGlobals "whole" = some (some (.ref f_whole))) (l_whole : K.lookup f_whole = some ⟨oc_whole, od_whole, .func (PySem.W.fnOf "whole" "whole" (defArgs s_whole) (defBody s_whole) (defScope s_whole) .none kV_whole dc_whole pm_whole an_whole cd_whole ct_whole), sl_whole⟩) (c_whole : PySem.W.codeIn K cd_whole "whole" = true) (k_whole : PySem.W.keepIn K (.ref f_whole) = true)
    (a_within : PySem.W.nsIn K mainGlobals "within" = some (some (.ref f_within))) (l_within : K.lookup f_within = some ⟨oc_within, od_within, .func (PySem.W.fnOf "within" "within" (defArgs s_within) (defBody s_within) (defScope s_within) .none kV_within dc_within pm_within an_within cd_within ct_within), sl_within⟩) (c_within : PySem.W.codeIn K cd_within "within" = true) (k_within : PySem.W.keepIn K (.ref f_within) = true)
    (a_read_tone : PySem.W.nsIn K mainGlobals "read_tone" = some (some (.ref f_read_tone))) (l_read_tone : K.lookup f_read_tone = some ⟨oc_read_tone, od_read_tone, .func (PySem.W.fnOf "read_tone" "read_tone" (defArgs s_read_tone) (defBody s_read_tone) (defScope s_read_tone) .none kV_read_tone dc_read_tone pm_read_tone an_read_tone cd_read_tone ct_read_tone), sl_read_tone⟩) (c_read_tone : PySem.W.codeIn K cd_read_tone "read_tone" = true) (k_read_tone : PySem.W.keepIn K (.ref f_read_tone) = true)
    (a_is_duration : PySem.W.nsIn K mainGlobals "is_duration" = some (some (.ref f_is_duration))) (l_is_duration : K.lookup f_is_duration = some ⟨oc_is_duration, od_is_duration, .func (PySem.W.fnOf "is_duration" "is_duration" (defArgs s_is_duration) (defBody s_is_duration) (defScope s_is_duration) .none kV_is_duration dc_is_duration pm_is_duration an_is_duration cd_is_duration ct_is_duration), sl_is_duration⟩) (c_is_duration : PySem.W.codeIn K cd_is_duration "is_duration" = true) (k_is_duration : PySem.W.keepIn K (.ref f_is_duration) = true)
    (a_read_entry : PySem.W.nsIn K mainGlobals "read_entry" = some (some (.ref f_read_entry))) (l_read_entry : K.lookup f_read_entry = some ⟨oc_read_entry, od_read_entry, .func (PySem.W.fnOf "read_entry" "read_entry" (defArgs s_read_entry) (defBody s_read_entry) (defScope s_read_entry) .none kV_read_entry dc_read_entry pm_read_entry an_read_entry cd_read_entry ct_read_entry), sl_read_entry⟩) (c_read_entry : PySem.W.codeIn K cd_read_entry "read_entry" = true) (k_read_entry : PySem.W.keepIn K (.ref f_read_entry) = true)
    (a_read_duration_of : PySem.W.nsIn K mainGlobals "read_duration_of" = some (some (.ref f_read_duration_of))) (l_read_duration_of : K.lookup f_read_duration_of = some ⟨oc_read_duration_of, od_read_duration_of, .func (PySem.W.fnOf "read_duration_of" "read_duration_of" (defArgs s_read_duration_of) (defBody s_read_duration_of) (defScope s_read_duration_of) .none kV_read_duration_of dc_read_duration_of pm_read_duration_of an_read_duration_of cd_read_duration_of ct_read_duration_of), sl_read_duration_of⟩) (c_read_duration_of : PySem.W.codeIn K cd_read_duration_of "read_duration_of" = true) (k_read_duration_of : PySem.W.keepIn K (.ref f_read_duration_of) = true)
    (a_read_duration : PySem.W.nsIn K mainGlobals "read_duration" = some (some (.ref f_read_duration))) (l_read_duration : K.lookup f_read_duration = some ⟨oc_read_duration, od_read_duration, .func (PySem.W.fnOf "read_duration" "read_duration" (defArgs s_read_duration) (defBody s_read_duration) (defScope s_read_duration) .none kV_read_duration dc_read_duration pm_read_duration an_read_duration cd_read_duration ct_read_duration), sl_read_duration⟩) (c_read_duration : PySem.W.codeIn K cd_read_duration "read_duration" = true) (k_read_duration : PySem.W.keepIn K (.ref f_read_duration) = true)
    (a_read_column : PySem.W.nsIn K mainGlobals "read_column" = some (some (.ref f_read_column))) (l_read_column : K.lookup f_read_column = some ⟨oc_read_column, od_read_column, .func (PySem.W.fnOf "read_column" "read_column" (defArgs s_read_column) (defBody s_read_column) (defScope s_read_column) .none kV_read_column dc_read_column pm_read_column an_read_column cd_read_column ct_read_column), sl_read_column⟩) (c_read_column : PySem.W.codeIn K cd_read_column "read_column" = true) (k_read_column : PySem.W.keepIn K (.ref f_read_column) = true)
    (a_read_bar : PySem.W.nsIn K mainGlobals "read_bar" = some (some (.ref f_read_bar))) (l_read_bar : K.lookup f_read_bar = some ⟨oc_read_bar, od_read_bar, .func (PySem.W.fnOf "read_bar" "read_bar" (defArgs s_read_bar) (defBody s_read_bar) (defScope s_read_bar) .none kV_read_bar dc_read_bar pm_read_bar an_read_bar cd_read_bar ct_read_bar), sl_read_bar⟩) (c_read_bar : PySem.W.codeIn K cd_read_bar "read_bar" = true) (k_read_bar : PySem.W.keepIn K (.ref f_read_bar) = true)
    (a__law_pool : PySem.W.nsIn K mainGlobals "_law_pool" = some (some (.ref f__law_pool))) (l__law_pool : K.lookup f__law_pool = some ⟨oc__law_pool, od__law_pool, .func (PySem.W.fnOf "_law_pool" "_law_pool" (defArgs s__law_pool) (defBody s__law_pool) (defScope s__law_pool) .none kV__law_pool dc__law_pool pm__law_pool an__law_pool cd__law_pool ct__law_pool), sl__law_pool⟩) (c__law_pool : PySem.W.codeIn K cd__law_pool "_law_pool" = true) (k__law_pool : PySem.W.keepIn K (.ref f__law_pool) = true)
    (a__law_take : PySem.W.nsIn K mainGlobals "_law_take" = some (some (.ref f__law_take))) (l__law_take : K.lookup f__law_take = some ⟨oc__law_take, od__law_take, .func (PySem.W.fnOf "_law_take" "_law_take" (defArgs s__law_take) (defBody s__law_take) (defScope s__law_take) .none kV__law_take dc__law_take pm__law_take an__law_take cd__law_take ct__law_take), sl__law_take⟩) (c__law_take : PySem.W.codeIn K cd__law_take "_law_take" = true) (k__law_take : PySem.W.keepIn K (.ref f__law_take) = true)
    (a__law_pick : PySem.W.nsIn K mainGlobals "_law_pick" = some (some (.ref f__law_pick))) (l__law_pick : K.lookup f__law_pick = some ⟨oc__law_pick, od__law_pick, .func (PySem.W.fnOf "_law_pick" "_law_pick" (defArgs s__law_pick) (defBody s__law_pick) (defScope s__law_pick) .none kV__law_pick dc__law_pick pm__law_pick an__law_pick cd__law_pick ct__law_pick), sl__law_pick⟩) (c__law_pick : PySem.W.codeIn K cd__law_pick "_law_pick" = true) (k__law_pick : PySem.W.keepIn K (.ref f__law_pick) = true)
    (a__law_is_integer : PySem.W.nsIn K mainGlobals "_law_is_integer" = some (some (.ref f__law_is_integer))) (l__law_is_integer : K.lookup f__law_is_integer = some ⟨oc__law_is_integer, od__law_is_integer, .func (PySem.W.fnOf "_law_is_integer" "_law_is_integer" (defArgs s__law_is_integer) (defBody s__law_is_integer) (defScope s__law_is_integer) .none kV__law_is_integer dc__law_is_integer pm__law_is_integer an__law_is_integer cd__law_is_integer ct__law_is_integer), sl__law_is_integer⟩) (c__law_is_integer : PySem.W.codeIn K cd__law_is_integer "_law_is_integer" = true) (k__law_is_integer : PySem.W.keepIn K (.ref f__law_is_integer) = true)
    (a__law_same : PySem.W.nsIn K mainGlobals "_law_same" = some (some (.ref f__law_same))) (l__law_same : K.lookup f__law_same = some ⟨oc__law_same, od__law_same, .func (PySem.W.fnOf "_law_same" "_law_same" (defArgs s__law_same) (defBody s__law_same) (defScope s__law_same) .none kV__law_same dc__law_same pm__law_same an__law_same cd__law_same ct__law_same), sl__law_same⟩) (c__law_same : PySem.W.codeIn K cd__law_same "_law_same" = true) (k__law_same : PySem.W.keepIn K (.ref f__law_same) = true)
    (a__law_lowest : PySem.W.nsIn K mainGlobals "_law_lowest" = some (some (.ref f__law_lowest))) (l__law_lowest : K.lookup f__law_lowest = some ⟨oc__law_lowest, od__law_lowest, .func (PySem.W.fnOf "_law_lowest" "_law_lowest" (defArgs s__law_lowest) (defBody s__law_lowest) (defScope s__law_lowest) .none kV__law_lowest dc__law_lowest pm__law_lowest an__law_lowest cd__law_lowest ct__law_lowest), sl__law_lowest⟩) (c__law_lowest : PySem.W.codeIn K cd__law_lowest "_law_lowest" = true) (k__law_lowest : PySem.W.keepIn K (.ref f__law_lowest) = true)
    (a__law_duration : PySem.W.nsIn K mainGlobals "_law_duration" = some (some (.ref f__law_duration))) (l__law_duration : K.lookup f__law_duration = some ⟨oc__law_duration, od__law_duration, .func (PySem.W.fnOf "_law_duration" "_law_duration" (defArgs s__law_duration) (defBody s__law_duration) (defScope s__law_duration) .none kV__law_duration dc__law_duration pm__law_duration an__law_duration cd__law_duration ct__law_duration), sl__law_duration⟩) (c__law_duration : PySem.W.codeIn K cd__law_duration "_law_duration" = true) (k__law_duration : PySem.W.keepIn K (.ref f__law_duration) = true)
    (a__law_tone : PySem.W.nsIn K mainGlobals "_law_tone" = some (some (.ref f__law_tone))) (l__law_tone : K.lookup f__law_tone = some ⟨oc__law_tone, od__law_tone, .func (PySem.W.fnOf "_law_tone" "_law_tone" (defArgs s__law_tone) (defBody s__law_tone) (defScope s__law_tone) .none kV__law_tone dc__law_tone pm__law_tone an__law_tone cd__law_tone ct__law_tone), sl__law_tone⟩) (c__law_tone : PySem.W.codeIn K cd__law_tone "_law_tone" = true) (k__law_tone : PySem.W.keepIn K (.ref f__law_tone) = true)
    (a__law_column : PySem.W.nsIn K mainGlobals "_law_column" = some (some (.ref f__law_column))) (l__law_column : K.lookup f__law_column = some ⟨oc__law_column, od__law_column, .func (PySem.W.fnOf "_law_column" "_law_column" (defArgs s__law_column) (defBody s__law_column) (defScope s__law_column) .none kV__law_column dc__law_column pm__law_column an__law_column cd__law_column ct__law_column), sl__law_column⟩) (c__law_column : PySem.W.codeIn K cd__law_column "_law_column" = true) (k__law_column : PySem.W.keepIn K (.ref f__law_column) = true)
    (a__law_bar : PySem.W.nsIn K mainGlobals "_law_bar" = some (some (.ref f__law_bar))) (l__law_bar : K.lookup f__law_bar = some ⟨oc__law_bar, od__law_bar, .func (PySem.W.fnOf "_law_bar" "_law_bar" (defArgs s__law_bar) (defBody s__law_bar) (defScope s__law_bar) .none kV__law_bar dc__law_bar pm__law_bar an__law_bar cd__law_bar ct__law_bar), sl__law_bar⟩) (c__law_bar : PySem.W.codeIn K cd__law_bar "_law_bar" = true) (k__law_bar : PySem.W.keepIn K (.ref f__law_bar) = true)
    (a__law_letter : PySem.W.nsIn K mainGlobals "_law_letter" = some (some (.ref f__law_letter))) (l__law_letter : K.lookup f__law_letter = some ⟨oc__law_letter, od__law_letter, .func (PySem.W.fnOf "_law_letter" "_law_letter" (defArgs s__law_letter) (defBody s__law_letter) (defScope s__law_letter) .none kV__law_letter dc__law_letter pm__law_letter an__law_letter cd__law_letter ct__law_letter), sl__law_letter⟩) (c__law_letter : PySem.W.codeIn K cd__law_letter "_law_letter" = true) (k__law_letter : PySem.W.keepIn K (.ref f__law_letter) = true)
    (a__law_far_pair : PySem.W.nsIn K mainGlobals "_law_far_pair" = some (some (.ref f__law_far_pair))) (l__law_far_pair : K.lookup f__law_far_pair = some ⟨oc__law_far_pair, od__law_far_pair, .func (PySem.W.fnOf "_law_far_pair" "_law_far_pair" (defArgs s__law_far_pair) (defBody s__law_far_pair) (defScope s__law_far_pair) .none kV__law_far_pair dc__law_far_pair pm__law_far_pair an__law_far_pair cd__law_far_pair ct__law_far_pair), sl__law_far_pair⟩) (c__law_far_pair : PySem.W.codeIn K cd__law_far_pair "_law_far_pair" = true) (k__law_far_pair : PySem.W.keepIn K (.ref f__law_far_pair) = true)
    (a__law_tone_text : PySem.W.nsIn K mainGlobals "_law_tone_text" = some (some (.ref f__law_tone_text))) (l__law_tone_text : K.lookup f__law_tone_text = some ⟨oc__law_tone_text, od__law_tone_text, .func (PySem.W.fnOf "_law_tone_text" "_law_tone_text" (defArgs s__law_tone_text) (defBody s__law_tone_text) (defScope s__law_tone_text) .none kV__law_tone_text dc__law_tone_text pm__law_tone_text an__law_tone_text cd__law_tone_text ct__law_tone_text), sl__law_tone_text⟩) (c__law_tone_text : PySem.W.codeIn K cd__law_tone_text "_law_tone_text" = true) (k__law_tone_text : PySem.W.keepIn K (.ref f__law_tone_text) = true)
    (a__law_cell_words : PySem.W.nsIn K mainGlobals "_law_cell_words" = some (some (.ref f__law_cell_words))) (l__law_cell_words : K.lookup f__law_cell_words = some ⟨oc__law_cell_words, od__law_cell_words, .func (PySem.W.fnOf "_law_cell_words" "_law_cell_words" (defArgs s__law_cell_words) (defBody s__law_cell_words) (defScope s__law_cell_words) .none kV__law_cell_words dc__law_cell_words pm__law_cell_words an__law_cell_words cd__law_cell_words ct__law_cell_words), sl__law_cell_words⟩) (c__law_cell_words : PySem.W.codeIn K cd__law_cell_words "_law_cell_words" = true) (k__law_cell_words : PySem.W.keepIn K (.ref f__law_cell_words) = true)
    (a__law_pad : PySem.W.nsIn K mainGlobals "_law_pad" = some (some (.ref f__law_pad))) (l__law_pad : K.lookup f__law_pad = some ⟨oc__law_pad, od__law_pad, .func (PySem.W.fnOf "_law_pad" "_law_pad" (defArgs s__law_pad) (defBody s__law_pad) (defScope s__law_pad) .none kV__law_pad dc__law_pad pm__law_pad an__law_pad cd__law_pad ct__law_pad), sl__law_pad⟩) (c__law_pad : PySem.W.codeIn K cd__law_pad "_law_pad" = true) (k__law_pad : PySem.W.keepIn K (.ref f__law_pad) = true)
    (a__law_spaced : PySem.W.nsIn K mainGlobals "_law_spaced" = some (some (.ref f__law_spaced))) (l__law_spaced : K.lookup f__law_spaced = some ⟨oc__law_spaced, od__law_spaced, .func (PySem.W.fnOf "_law_spaced" "_law_spaced" (defArgs s__law_spaced) (defBody s__law_spaced) (defScope s__law_spaced) .none kV__law_spaced dc__law_spaced pm__law_spaced an__law_spaced cd__law_spaced ct__law_spaced), sl__law_spaced⟩) (c__law_spaced : PySem.W.codeIn K cd__law_spaced "_law_spaced" = true) (k__law_spaced : PySem.W.keepIn K (.ref f__law_spaced) = true)
    (a__law_far_bar : PySem.W.nsIn K mainGlobals "_law_far_bar" = some (some (.ref f__law_far_bar))) (l__law_far_bar : K.lookup f__law_far_bar = some ⟨oc__law_far_bar, od__law_far_bar, .func (PySem.W.fnOf "_law_far_bar" "_law_far_bar" (defArgs s__law_far_bar) (defBody s__law_far_bar) (defScope s__law_far_bar) .none kV__law_far_bar dc__law_far_bar pm__law_far_bar an__law_far_bar cd__law_far_bar ct__law_far_bar), sl__law_far_bar⟩) (c__law_far_bar : PySem.W.codeIn K cd__law_far_bar "_law_far_bar" = true) (k__law_far_bar : PySem.W.keepIn K (.ref f__law_far_bar) = true)
    (a__law_wrong_text : PySem.W.nsIn K mainGlobals "_law_wrong_text" = some (some (.ref f__law_wrong_text))) (l__law_wrong_text : K.lookup f__law_wrong_text = some ⟨oc__law_wrong_text, od__law_wrong_text, .func (PySem.W.fnOf "_law_wrong_text" "_law_wrong_text" (defArgs s__law_wrong_text) (defBody s__law_wrong_text) (defScope s__law_wrong_text) .none kV__law_wrong_text dc__law_wrong_text pm__law_wrong_text an__law_wrong_text cd__law_wrong_text ct__law_wrong_text), sl__law_wrong_text⟩) (c__law_wrong_text : PySem.W.codeIn K cd__law_wrong_text "_law_wrong_text" = true) (k__law_wrong_text : PySem.W.keepIn K (.ref f__law_wrong_text) = true)
    (a__law_cells : PySem.W.nsIn K mainGlobals "_law_cells" = some (some (.ref f__law_cells))) (l__law_cells : K.lookup f__law_cells = some ⟨oc__law_cells, od__law_cells, .func (PySem.W.fnOf "_law_cells" "_law_cells" (defArgs s__law_cells) (defBody s__law_cells) (defScope s__law_cells) .none kV__law_cells dc__law_cells pm__law_cells an__law_cells cd__law_cells ct__law_cells), sl__law_cells⟩) (c__law_cells : PySem.W.codeIn K cd__law_cells "_law_cells" = true) (k__law_cells : PySem.W.keepIn K (.ref f__law_cells) = true)
    (a__law_laid : PySem.W.nsIn K mainGlobals "_law_laid" = some (some (.ref f__law_laid))) (l__law_laid : K.lookup f__law_laid = some ⟨oc__law_laid, od__law_laid, .func (PySem.W.fnOf "_law_laid" "_law_laid" (defArgs s__law_laid) (defBody s__law_laid) (defScope s__law_laid) .none kV__law_laid dc__law_laid pm__law_laid an__law_laid cd__law_laid ct__law_laid), sl__law_laid⟩) (c__law_laid : PySem.W.codeIn K cd__law_laid "_law_laid" = true) (k__law_laid : PySem.W.keepIn K (.ref f__law_laid) = true)
    (a__law_told : PySem.W.nsIn K mainGlobals "_law_told" = some (some (.ref f__law_told))) (l__law_told : K.lookup f__law_told = some ⟨oc__law_told, od__law_told, .func (PySem.W.fnOf "_law_told" "_law_told" (defArgs s__law_told) (defBody s__law_told) (defScope s__law_told) .none kV__law_told dc__law_told pm__law_told an__law_told cd__law_told ct__law_told), sl__law_told⟩) (c__law_told : PySem.W.codeIn K cd__law_told "_law_told" = true) (k__law_told : PySem.W.keepIn K (.ref f__law_told) = true)
    (a_law : PySem.W.nsIn K mainGlobals "law" = some (some (.ref f_law))) (l_law : K.lookup f_law = some ⟨oc_law, od_law, .func (PySem.W.fnOf "law" "law" (defArgs s_law) (defBody s_law) (defScope s_law) .none kV_law dc_law pm_law an_law cd_law ct_law), sl_law⟩) (c_law : PySem.W.codeIn K cd_law "law" = true) (k_law : PySem.W.keepIn K (.ref f_law) = true)
    (z_list : PySem.W.nsIn K mainGlobals "list" = some none)
    (z_tuple : PySem.W.nsIn K mainGlobals "tuple" = some none)
    (z_isinstance : PySem.W.nsIn K mainGlobals "isinstance" = some none)
    (z_len : PySem.W.nsIn K mainGlobals "len" = some none)
    (z_bool : PySem.W.nsIn K mainGlobals "bool" = some none)
    (z_int : PySem.W.nsIn K mainGlobals "int" = some none)
    (z_any : PySem.W.nsIn K mainGlobals "any" = some none)
    (z_all : PySem.W.nsIn K mainGlobals "all" = some none)
    (z_abs : PySem.W.nsIn K mainGlobals "abs" = some none)
    (z_max : PySem.W.nsIn K mainGlobals "max" = some none)
    (z_range : PySem.W.nsIn K mainGlobals "range" = some none)
    (z_str : PySem.W.nsIn K mainGlobals "str" = some none)
    (z_ValueError : PySem.W.nsIn K mainGlobals "ValueError" = some none)
    (m_gcd : PySem.W.nsIn K mainGlobals "gcd" = some (some (.builtin "math.gcd")))
    {C_BadColumn : Addr} (n_BadColumn : PySem.W.nsIn K mainGlobals "BadColumn" = some (some (.ref C_BadColumn)))
    {C_BadKey : Addr} (n_BadKey : PySem.W.nsIn K mainGlobals "BadKey" = some (some (.ref C_BadKey)))
    {C_BadName : Addr} (n_BadName : PySem.W.nsIn K mainGlobals "BadName" = some (some (.ref C_BadName)))
    {C_BadText : Addr} (n_BadText : PySem.W.nsIn K mainGlobals "BadText" = some (some (.ref C_BadText)))
    {C_ScoreError : Addr} (n_ScoreError : PySem.W.nsIn K mainGlobals "ScoreError" = some (some (.ref C_ScoreError)))
    (sb_BadColumn : PySem.W.subIn K (.ref C_BadColumn) (.type "BaseException") = some true) (ty_BadColumn : PySem.W.typeIn K (.ref C_BadColumn) = some (.type "type")) (hd_BadColumn : PySem.W.hasDictIn K C_BadColumn = true)
    (sb_BadKey : PySem.W.subIn K (.ref C_BadKey) (.type "BaseException") = some true) (ty_BadKey : PySem.W.typeIn K (.ref C_BadKey) = some (.type "type")) (hd_BadKey : PySem.W.hasDictIn K C_BadKey = true)
    (sb_BadName : PySem.W.subIn K (.ref C_BadName) (.type "BaseException") = some true) (ty_BadName : PySem.W.typeIn K (.ref C_BadName) = some (.type "type")) (hd_BadName : PySem.W.hasDictIn K C_BadName = true)
    (sb_BadText : PySem.W.subIn K (.ref C_BadText) (.type "BaseException") = some true) (ty_BadText : PySem.W.typeIn K (.ref C_BadText) = some (.type "type")) (hd_BadText : PySem.W.hasDictIn K C_BadText = true)
    (sb_ScoreError : PySem.W.subIn K (.ref C_ScoreError) (.type "BaseException") = some true) (ty_ScoreError : PySem.W.typeIn K (.ref C_ScoreError) = some (.type "type")) (hd_ScoreError : PySem.W.hasDictIn K C_ScoreError = true)
    (an_ : PySem.W.nsIn K PySem.cStatics "thirdparty.any" = some none) (su_ : PySem.W.nsIn K mainGlobals "super" = some none) (to_ : (P.main.scope.names.lookup ("super" : Str)).isSome = false)
    {I_BadColumn cda_BadColumn cc_BadColumn : Addr} {ioc_BadColumn : Value} {iod_BadColumn : Option Addr} {ikV_BadColumn idoc_BadColumn ipm_BadColumn : Value} {ian_BadColumn : Option Addr} {ict_BadColumn : Value} {iosl_BadColumn : Array (Option Value)} {iccl_BadColumn : Value} {icdd_BadColumn : Option Addr} {ivs_BadColumn : Array Value} {iccs_BadColumn : Array (Option Value)} {ifile_BadColumn : Str} {itf_BadColumn : Tok} {icl_BadColumn : Value} {icld_BadColumn : Option Addr} {icsl_BadColumn : Array (Option Value)} {inm_BadColumn iq_BadColumn : Str} {iN_BadColumn : Addr} {ibs_BadColumn ibm_BadColumn : List Value} {isn_BadColumn : List Str} {isub_BadColumn : List Value} {iab_BadColumn : Bool} {icol_BadColumn : Option Bool} {idd_BadColumn : Option Addr} {ik0_BadColumn ik1_BadColumn ik2_BadColumn ik3_BadColumn ik5_BadColumn : Option Value}
    (icx_BadColumn : K.lookup C_BadColumn = some (excClassObj inm_BadColumn iq_BadColumn C_BadColumn iN_BadColumn ibs_BadColumn ibm_BadColumn true isn_BadColumn isub_BadColumn iab_BadColumn icol_BadColumn idd_BadColumn ik0_BadColumn ik1_BadColumn ik2_BadColumn ik3_BadColumn ik5_BadColumn "ValueError.__new__")) (irv_BadColumn : PySem.HandSPX.refsVE ibm_BadColumn = true) (isa_BadColumn : PySem.W.findIn K (.ref C_BadColumn) "__setattr__" = some (some (.builtin "object.__setattr__"))) (ikp_BadColumn : PySem.W.keepIn K (.ref C_BadColumn) = true) (ifi_BadColumn : PySem.W.findIn K (.ref C_BadColumn) "__init__" = some (some (.ref I_BadColumn))) (iti_BadColumn : PySem.W.typeIn K (.ref I_BadColumn) = some (.type "function")) (ial_BadColumn : PySem.W.alongIn K "__init__" (((Value.ref C_BadColumn :: ibm_BadColumn).dropWhile (· != .ref C_BadColumn)).drop 1) = some (some (.builtin "ValueError.__init__"))) (isv_BadColumn : PySem.W.subIn K (.ref C_BadColumn) (.type "ValueError") = some true) (ims_BadColumn : PySem.W.mroIn K C_BadColumn (.ref C_BadColumn) = some true) (ilk_BadColumn : K.lookup I_BadColumn = some ⟨ioc_BadColumn, iod_BadColumn, .func (fdI "BadColumn.__init__" sI_BadColumn cc_BadColumn ikV_BadColumn idoc_BadColumn ipm_BadColumn ian_BadColumn cda_BadColumn ict_BadColumn), iosl_BadColumn⟩) (icd_BadColumn : PySem.W.codeIn K (.ref cda_BadColumn) "BadColumn.__init__" = true) (ilc_BadColumn : K.lookup cda_BadColumn = some ⟨iccl_BadColumn, icdd_BadColumn, .fields ivs_BadColumn, iccs_BadColumn⟩) (ivs_BadColumn : ivs_BadColumn[2]? = some (.str ifile_BadColumn itf_BadColumn)) (ifl_BadColumn : ((P.main.file : Str) == ifile_BadColumn) = true) (ice_BadColumn : K.lookup cc_BadColumn = some ⟨icl_BadColumn, icld_BadColumn, .cell (some (.ref C_BadColumn)), icsl_BadColumn⟩) (ino0_BadColumn : PySem.W.findIn K (.ref C_BadColumn) "number" = some none) (ino1_BadColumn : PySem.W.findIn K (.ref C_BadColumn) "reason" = some none)
    {I_BadName cda_BadName cc_BadName : Addr} {ioc_BadName : Value} {iod_BadName : Option Addr} {ikV_BadName idoc_BadName ipm_BadName : Value} {ian_BadName : Option Addr} {ict_BadName : Value} {iosl_BadName : Array (Option Value)} {iccl_BadName : Value} {icdd_BadName : Option Addr} {ivs_BadName : Array Value} {iccs_BadName : Array (Option Value)} {ifile_BadName : Str} {itf_BadName : Tok} {icl_BadName : Value} {icld_BadName : Option Addr} {icsl_BadName : Array (Option Value)} {inm_BadName iq_BadName : Str} {iN_BadName : Addr} {ibs_BadName ibm_BadName : List Value} {isn_BadName : List Str} {isub_BadName : List Value} {iab_BadName : Bool} {icol_BadName : Option Bool} {idd_BadName : Option Addr} {ik0_BadName ik1_BadName ik2_BadName ik3_BadName ik5_BadName : Option Value}
    (icx_BadName : K.lookup C_BadName = some (excClassObj inm_BadName iq_BadName C_BadName iN_BadName ibs_BadName ibm_BadName true isn_BadName isub_BadName iab_BadName icol_BadName idd_BadName ik0_BadName ik1_BadName ik2_BadName ik3_BadName ik5_BadName "ValueError.__new__")) (irv_BadName : PySem.HandSPX.refsVE ibm_BadName = true) (isa_BadName : PySem.W.findIn K (.ref C_BadName) "__setattr__" = some (some (.builtin "object.__setattr__"))) (ikp_BadName : PySem.W.keepIn K (.ref C_BadName) = true) (ifi_BadName : PySem.W.findIn K (.ref C_BadName) "__init__" = some (some (.ref I_BadName))) (iti_BadName : PySem.W.typeIn K (.ref I_BadName) = some (.type "function")) (ial_BadName : PySem.W.alongIn K "__init__" (((Value.ref C_BadName :: ibm_BadName).dropWhile (· != .ref C_BadName)).drop 1) = some (some (.builtin "ValueError.__init__"))) (isv_BadName : PySem.W.subIn K (.ref C_BadName) (.type "ValueError") = some true) (ims_BadName : PySem.W.mroIn K C_BadName (.ref C_BadName) = some true) (ilk_BadName : K.lookup I_BadName = some ⟨ioc_BadName, iod_BadName, .func (fdI "BadName.__init__" sI_BadName cc_BadName ikV_BadName idoc_BadName ipm_BadName ian_BadName cda_BadName ict_BadName), iosl_BadName⟩) (icd_BadName : PySem.W.codeIn K (.ref cda_BadName) "BadName.__init__" = true) (ilc_BadName : K.lookup cda_BadName = some ⟨iccl_BadName, icdd_BadName, .fields ivs_BadName, iccs_BadName⟩) (ivs_BadName : ivs_BadName[2]? = some (.str ifile_BadName itf_BadName)) (ifl_BadName : ((P.main.file : Str) == ifile_BadName) = true) (ice_BadName : K.lookup cc_BadName = some ⟨icl_BadName, icld_BadName, .cell (some (.ref C_BadName)), icsl_BadName⟩) (ino0_BadName : PySem.W.findIn K (.ref C_BadName) "text" = some none)
    {I_BadText cda_BadText cc_BadText : Addr} {ioc_BadText : Value} {iod_BadText : Option Addr} {ikV_BadText idoc_BadText ipm_BadText : Value} {ian_BadText : Option Addr} {ict_BadText : Value} {iosl_BadText : Array (Option Value)} {iccl_BadText : Value} {icdd_BadText : Option Addr} {ivs_BadText : Array Value} {iccs_BadText : Array (Option Value)} {ifile_BadText : Str} {itf_BadText : Tok} {icl_BadText : Value} {icld_BadText : Option Addr} {icsl_BadText : Array (Option Value)} {inm_BadText iq_BadText : Str} {iN_BadText : Addr} {ibs_BadText ibm_BadText : List Value} {isn_BadText : List Str} {isub_BadText : List Value} {iab_BadText : Bool} {icol_BadText : Option Bool} {idd_BadText : Option Addr} {ik0_BadText ik1_BadText ik2_BadText ik3_BadText ik5_BadText : Option Value}
    (icx_BadText : K.lookup C_BadText = some (excClassObj inm_BadText iq_BadText C_BadText iN_BadText ibs_BadText ibm_BadText true isn_BadText isub_BadText iab_BadText icol_BadText idd_BadText ik0_BadText ik1_BadText ik2_BadText ik3_BadText ik5_BadText "ValueError.__new__")) (irv_BadText : PySem.HandSPX.refsVE ibm_BadText = true) (isa_BadText : PySem.W.findIn K (.ref C_BadText) "__setattr__" = some (some (.builtin "object.__setattr__"))) (ikp_BadText : PySem.W.keepIn K (.ref C_BadText) = true) (ifi_BadText : PySem.W.findIn K (.ref C_BadText) "__init__" = some (some (.ref I_BadText))) (iti_BadText : PySem.W.typeIn K (.ref I_BadText) = some (.type "function")) (ial_BadText : PySem.W.alongIn K "__init__" (((Value.ref C_BadText :: ibm_BadText).dropWhile (· != .ref C_BadText)).drop 1) = some (some (.builtin "ValueError.__init__"))) (isv_BadText : PySem.W.subIn K (.ref C_BadText) (.type "ValueError") = some true) (ims_BadText : PySem.W.mroIn K C_BadText (.ref C_BadText) = some true) (ilk_BadText : K.lookup I_BadText = some ⟨ioc_BadText, iod_BadText, .func (fdI "BadText.__init__" sI_BadText cc_BadText ikV_BadText idoc_BadText ipm_BadText ian_BadText cda_BadText ict_BadText), iosl_BadText⟩) (icd_BadText : PySem.W.codeIn K (.ref cda_BadText) "BadText.__init__" = true) (ilc_BadText : K.lookup cda_BadText = some ⟨iccl_BadText, icdd_BadText, .fields ivs_BadText, iccs_BadText⟩) (ivs_BadText : ivs_BadText[2]? = some (.str ifile_BadText itf_BadText)) (ifl_BadText : ((P.main.file : Str) == ifile_BadText) = true) (ice_BadText : K.lookup cc_BadText = some ⟨icl_BadText, icld_BadText, .cell (some (.ref C_BadText)), icsl_BadText⟩) (ino0_BadText : PySem.W.findIn K (.ref C_BadText) "position" = some none)
    (nn_ValueError : PySem.W.nsIn K mainGlobals "ValueError" = some none)
    (su_BadColumn_BadColumn : PySem.W.subIn K (.ref C_BadColumn) (.ref C_BadColumn) = some true)
    (su_BadColumn_BadKey : PySem.W.subIn K (.ref C_BadColumn) (.ref C_BadKey) = some false)
    (su_BadColumn_BadName : PySem.W.subIn K (.ref C_BadColumn) (.ref C_BadName) = some false)
    (su_BadColumn_BadText : PySem.W.subIn K (.ref C_BadColumn) (.ref C_BadText) = some false)
    (su_BadName_BadColumn : PySem.W.subIn K (.ref C_BadName) (.ref C_BadColumn) = some false)
    (su_BadName_BadKey : PySem.W.subIn K (.ref C_BadName) (.ref C_BadKey) = some false)
    (su_BadName_BadName : PySem.W.subIn K (.ref C_BadName) (.ref C_BadName) = some true)
    (su_BadName_BadText : PySem.W.subIn K (.ref C_BadName) (.ref C_BadText) = some false)
    (su_BadText_BadColumn : PySem.W.subIn K (.ref C_BadText) (.ref C_BadColumn) = some false)
    (su_BadText_BadKey : PySem.W.subIn K (.ref C_BadText) (.ref C_BadKey) = some false)
    (su_BadText_BadName : PySem.W.subIn K (.ref C_BadText) (.ref C_BadName) = some false)
    (su_BadText_BadText : PySem.W.subIn K (.ref C_BadText) (.ref C_BadText) = some true)
    (q1_BadColumn : PySem.W.findIn K (.ref C_BadColumn) "__getattribute__" = some (some (.builtin "BaseException.__getattribute__"))) (q2_BadColumn : PySem.W.findIn K (.ref C_BadColumn) "__getattr__" = some none) (q5_BadColumn : PySem.W.findIn K (.ref C_BadColumn) "__class__" = some (some (.builtin "object.__class__"))) (q6_BadColumn : PySem.W.specialIn K (.builtin "object.__class__") "__get__" = some (some (.builtin "getset_descriptor.__get__"))) (q7_BadColumn : PySem.W.takesIn K (.builtin "object.__class__") = some true) (q8_BadColumn : PySem.W.mroIn K C_BadColumn (.type "object") = some true)
    (q1_BadName : PySem.W.findIn K (.ref C_BadName) "__getattribute__" = some (some (.builtin "BaseException.__getattribute__"))) (q2_BadName : PySem.W.findIn K (.ref C_BadName) "__getattr__" = some none) (q5_BadName : PySem.W.findIn K (.ref C_BadName) "__class__" = some (some (.builtin "object.__class__"))) (q6_BadName : PySem.W.specialIn K (.builtin "object.__class__") "__get__" = some (some (.builtin "getset_descriptor.__get__"))) (q7_BadName : PySem.W.takesIn K (.builtin "object.__class__") = some true) (q8_BadName : PySem.W.mroIn K C_BadName (.type "object") = some true)
    (q1_BadText : PySem.W.findIn K (.ref C_BadText) "__getattribute__" = some (some (.builtin "BaseException.__getattribute__"))) (q2_BadText : PySem.W.findIn K (.ref C_BadText) "__getattr__" = some none) (q5_BadText : PySem.W.findIn K (.ref C_BadText) "__class__" = some (some (.builtin "object.__class__"))) (q6_BadText : PySem.W.specialIn K (.builtin "object.__class__") "__get__" = some (some (.builtin "getset_descriptor.__get__"))) (q7_BadText : PySem.W.takesIn K (.builtin "object.__class__") = some true) (q8_BadText : PySem.W.mroIn K C_BadText (.type "object") = some true)
    (ne_BadColumn_ScoreError : ((Value.ref C_BadColumn) == (Value.ref C_ScoreError)) = false)
    (su_BadColumn_ScoreError : PySem.W.subIn K (.ref C_BadColumn) (.ref C_ScoreError) = some true)
    (su_BadColumn_ValueError : PySem.W.subIn K (.ref C_BadColumn) (.type "ValueError") = some true)
    (ne_BadName_BadColumn : ((Value.ref C_BadName) == (Value.ref C_BadColumn)) = false)
    (ne_BadName_ScoreError : ((Value.ref C_BadName) == (Value.ref C_ScoreError)) = false)
    (su_BadName_ScoreError : PySem.W.subIn K (.ref C_BadName) (.ref C_ScoreError) = some true)
    (su_BadName_ValueError : PySem.W.subIn K (.ref C_BadName) (.type "ValueError") = some true)
    (ne_BadText_BadColumn : ((Value.ref C_BadText) == (Value.ref C_BadColumn)) = false)
    (ne_BadText_ScoreError : ((Value.ref C_BadText) == (Value.ref C_ScoreError)) = false)
    (su_BadText_ScoreError : PySem.W.subIn K (.ref C_BadText) (.ref C_ScoreError) = some true)
    (su_BadText_ValueError : PySem.W.subIn K (.ref C_BadText) (.type "ValueError") = some true)
    (xa0 : PySem.W.findIn K (.ref C_BadColumn) "__getattribute__" = some (some (.builtin "BaseException.__getattribute__"))) (xb0 : PySem.W.findIn K (.ref C_BadColumn) "__getattr__" = some none) (xe0 : PySem.W.findIn K (.ref C_BadColumn) "number" = some none)
    (xa1 : PySem.W.findIn K (.ref C_BadColumn) "__getattribute__" = some (some (.builtin "BaseException.__getattribute__"))) (xb1 : PySem.W.findIn K (.ref C_BadColumn) "__getattr__" = some none) (xe1 : PySem.W.findIn K (.ref C_BadColumn) "reason" = some none)
    (xa2 : PySem.W.findIn K (.ref C_BadText) "__getattribute__" = some (some (.builtin "BaseException.__getattribute__"))) (xb2 : PySem.W.findIn K (.ref C_BadText) "__getattr__" = some none) (xe2 : PySem.W.findIn K (.ref C_BadText) "position" = some none)
    (gc_LETTERS : GlobK K "LETTERS" (.str "CDEFGAB"))
    (gc_FIFTHS : GlobK K "FIFTHS" (.tup [.int 0, .int 2, .int 4, .int (-1), .int 1, .int 3, .int 5]))
    (gc_MOST : GlobK K "MOST" (.int 1000))
    (gc_MOST_COLUMNS : GlobK K "MOST_COLUMNS" (.int 64))
    (gc_MOST_PART : GlobK K "MOST_PART" (.int 1000)) : Txt P K mg :=
  { f_is_fraction := f_is_fraction, fd_is_fraction := _, F_is_fraction := fun_mk (st := s_is_fraction) l_is_fraction c_is_fraction k_is_fraction, g_is_fraction := PySem.W.mg_of X G a_is_fraction,
    f_whole := f_whole, fd_whole := _, F_whole := fun_mk (st := s_whole) l_whole c_whole k_whole, g_whole := PySem.W.mg_of X G a_whole,
    f_within := f_within, fd_within := _, F_within := fun_mk (st := s_within) l_within c_within k_within, g_within := PySem.W.mg_of X G a_within,
    f_read_tone := f_read_tone, fd_read_tone := _, F_read_tone := fun_mk (st := s_read_tone) l_read_tone c_read_tone k_read_tone, g_read_tone := PySem.W.mg_of X G a_read_tone,
    f_is_duration := f_is_duration, fd_is_duration := _, F_is_duration := fun_mk (st := s_is_duration) l_is_duration c_is_duration k_is_duration, g_is_duration := PySem.W.mg_of X G a_is_duration,
    f_read_entry := f_read_entry, fd_read_entry := _, F_read_entry := fun_mk (st := s_read_entry) l_read_entry c_read_entry k_read_entry, g_read_entry := PySem.W.mg_of X G a_read_entry,
    f_read_duration_of := f_read_duration_of, fd_read_duration_of := _, F_read_duration_of := fun_mk (st := s_read_duration_of) l_read_duration_of c_read_duration_of k_read_duration_of, g_read_duration_of := PySem.W.mg_of X G a_read_duration_of,
    f_read_duration := f_read_duration, fd_read_duration := _, F_read_duration := fun_mk (st := s_read_duration) l_read_duration c_read_duration k_read_duration, g_read_duration := PySem.W.mg_of X G a_read_duration,
    f_read_column := f_read_column, fd_read_column := _, F_read_column := fun_mk (st := s_read_column) l_read_column c_read_column k_read_column, g_read_column := PySem.W.mg_of X G a_read_column,
    f_read_bar := f_read_bar, fd_read_bar := _, F_read_bar := fun_mk (st := s_read_bar) l_read_bar c_read_bar k_read_bar, g_read_bar := PySem.W.mg_of X G a_read_bar,
    f__law_pool := f__law_pool, fd__law_pool := _, F__law_pool := fun_mk (st := s__law_pool) l__law_pool c__law_pool k__law_pool, g__law_pool := PySem.W.mg_of X G a__law_pool,
    f__law_take := f__law_take, fd__law_take := _, F__law_take := fun_mk (st := s__law_take) l__law_take c__law_take k__law_take, g__law_take := PySem.W.mg_of X G a__law_take,
    f__law_pick := f__law_pick, fd__law_pick := _, F__law_pick := fun_mk (st := s__law_pick) l__law_pick c__law_pick k__law_pick, g__law_pick := PySem.W.mg_of X G a__law_pick,
    f__law_is_integer := f__law_is_integer, fd__law_is_integer := _, F__law_is_integer := fun_mk (st := s__law_is_integer) l__law_is_integer c__law_is_integer k__law_is_integer, g__law_is_integer := PySem.W.mg_of X G a__law_is_integer,
    f__law_same := f__law_same, fd__law_same := _, F__law_same := fun_mk (st := s__law_same) l__law_same c__law_same k__law_same, g__law_same := PySem.W.mg_of X G a__law_same,
    f__law_lowest := f__law_lowest, fd__law_lowest := _, F__law_lowest := fun_mk (st := s__law_lowest) l__law_lowest c__law_lowest k__law_lowest, g__law_lowest := PySem.W.mg_of X G a__law_lowest,
    f__law_duration := f__law_duration, fd__law_duration := _, F__law_duration := fun_mk (st := s__law_duration) l__law_duration c__law_duration k__law_duration, g__law_duration := PySem.W.mg_of X G a__law_duration,
    f__law_tone := f__law_tone, fd__law_tone := _, F__law_tone := fun_mk (st := s__law_tone) l__law_tone c__law_tone k__law_tone, g__law_tone := PySem.W.mg_of X G a__law_tone,
    f__law_column := f__law_column, fd__law_column := _, F__law_column := fun_mk (st := s__law_column) l__law_column c__law_column k__law_column, g__law_column := PySem.W.mg_of X G a__law_column,
    f__law_bar := f__law_bar, fd__law_bar := _, F__law_bar := fun_mk (st := s__law_bar) l__law_bar c__law_bar k__law_bar, g__law_bar := PySem.W.mg_of X G a__law_bar,
    f__law_letter := f__law_letter, fd__law_letter := _, F__law_letter := fun_mk (st := s__law_letter) l__law_letter c__law_letter k__law_letter, g__law_letter := PySem.W.mg_of X G a__law_letter,
    f__law_far_pair := f__law_far_pair, fd__law_far_pair := _, F__law_far_pair := fun_mk (st := s__law_far_pair) l__law_far_pair c__law_far_pair k__law_far_pair, g__law_far_pair := PySem.W.mg_of X G a__law_far_pair,
    f__law_tone_text := f__law_tone_text, fd__law_tone_text := _, F__law_tone_text := fun_mk (st := s__law_tone_text) l__law_tone_text c__law_tone_text k__law_tone_text, g__law_tone_text := PySem.W.mg_of X G a__law_tone_text,
    f__law_cell_words := f__law_cell_words, fd__law_cell_words := _, F__law_cell_words := fun_mk (st := s__law_cell_words) l__law_cell_words c__law_cell_words k__law_cell_words, g__law_cell_words := PySem.W.mg_of X G a__law_cell_words,
    f__law_pad := f__law_pad, fd__law_pad := _, F__law_pad := fun_mk (st := s__law_pad) l__law_pad c__law_pad k__law_pad, g__law_pad := PySem.W.mg_of X G a__law_pad,
    f__law_spaced := f__law_spaced, fd__law_spaced := _, F__law_spaced := fun_mk (st := s__law_spaced) l__law_spaced c__law_spaced k__law_spaced, g__law_spaced := PySem.W.mg_of X G a__law_spaced,
    f__law_far_bar := f__law_far_bar, fd__law_far_bar := _, F__law_far_bar := fun_mk (st := s__law_far_bar) l__law_far_bar c__law_far_bar k__law_far_bar, g__law_far_bar := PySem.W.mg_of X G a__law_far_bar,
    f__law_wrong_text := f__law_wrong_text, fd__law_wrong_text := _, F__law_wrong_text := fun_mk (st := s__law_wrong_text) l__law_wrong_text c__law_wrong_text k__law_wrong_text, g__law_wrong_text := PySem.W.mg_of X G a__law_wrong_text,
    f__law_cells := f__law_cells, fd__law_cells := _, F__law_cells := fun_mk (st := s__law_cells) l__law_cells c__law_cells k__law_cells, g__law_cells := PySem.W.mg_of X G a__law_cells,
    f__law_laid := f__law_laid, fd__law_laid := _, F__law_laid := fun_mk (st := s__law_laid) l__law_laid c__law_laid k__law_laid, g__law_laid := PySem.W.mg_of X G a__law_laid,
    f__law_told := f__law_told, fd__law_told := _, F__law_told := fun_mk (st := s__law_told) l__law_told c__law_told k__law_told, g__law_told := PySem.W.mg_of X G a__law_told,
    f_law := f_law, fd_law := _, F_law := fun_mk (st := s_law) l_law c_law k_law, g_law := PySem.W.mg_of X G a_law,
    z_list := PySem.W.mg_none_of X G z_list,
    z_tuple := PySem.W.mg_none_of X G z_tuple,
    z_isinstance := PySem.W.mg_none_of X G z_isinstance,
    z_len := PySem.W.mg_none_of X G z_len,
    z_bool := PySem.W.mg_none_of X G z_bool,
    z_int := PySem.W.mg_none_of X G z_int,
    z_any := PySem.W.mg_none_of X G z_any,
    z_all := PySem.W.mg_none_of X G z_all,
    z_abs := PySem.W.mg_none_of X G z_abs,
    z_max := PySem.W.mg_none_of X G z_max,
    z_range := PySem.W.mg_none_of X G z_range,
    z_str := PySem.W.mg_none_of X G z_str,
    z_ValueError := PySem.W.mg_none_of X G z_ValueError,
    m_gcd := PySem.W.mg_of X G m_gcd,
    C_BadColumn := C_BadColumn, g_BadColumn := PySem.W.mg_of X G n_BadColumn, n_BadColumn := n_BadColumn,
    C_BadKey := C_BadKey, g_BadKey := PySem.W.mg_of X G n_BadKey, n_BadKey := n_BadKey,
    C_BadName := C_BadName, g_BadName := PySem.W.mg_of X G n_BadName, n_BadName := n_BadName,
    C_BadText := C_BadText, g_BadText := PySem.W.mg_of X G n_BadText, n_BadText := n_BadText,
    C_ScoreError := C_ScoreError, g_ScoreError := PySem.W.mg_of X G n_ScoreError, n_ScoreError := n_ScoreError,
    I_BadColumn := I_BadColumn, id_BadColumn := (fdI "BadColumn.__init__" sI_BadColumn cc_BadColumn ikV_BadColumn idoc_BadColumn ipm_BadColumn ian_BadColumn cda_BadColumn ict_BadColumn), o_BadColumn := ⟨PySem.W.mg_of X G n_BadColumn, n_BadColumn, (clsI_mk icx_BadColumn irv_BadColumn isa_BadColumn sb_BadColumn ty_BadColumn ikp_BadColumn ifi_BadColumn iti_BadColumn ial_BadColumn isv_BadColumn ims_BadColumn an_ su_ to_), fun _ _ => initx2 (st := sI_BadColumn) (funI_mk (st := sI_BadColumn) ilk_BadColumn icd_BadColumn ilc_BadColumn ivs_BadColumn ifl_BadColumn ice_BadColumn) (clsI_mk icx_BadColumn irv_BadColumn isa_BadColumn sb_BadColumn ty_BadColumn ikp_BadColumn ifi_BadColumn iti_BadColumn ial_BadColumn isv_BadColumn ims_BadColumn an_ su_ to_) rfl (NdefX.nscope_by (N := ["self", "number", "reason", "__class__"]) (ps := ["self", "number", "reason"]) (fr := ["__class__"]) (by decide)) (by decide) (by decide) (by decide) (by decide) rfl rfl ino0_BadColumn ino1_BadColumn rfl rfl rfl, .all (fun us hl => match us, hl with | [_, _, _], _ => rfl)⟩,
    I_BadName := I_BadName, id_BadName := (fdI "BadName.__init__" sI_BadName cc_BadName ikV_BadName idoc_BadName ipm_BadName ian_BadName cda_BadName ict_BadName), o_BadName := ⟨PySem.W.mg_of X G n_BadName, n_BadName, (clsI_mk icx_BadName irv_BadName isa_BadName sb_BadName ty_BadName ikp_BadName ifi_BadName iti_BadName ial_BadName isv_BadName ims_BadName an_ su_ to_), fun _ _ => initx1 (st := sI_BadName) (funI_mk (st := sI_BadName) ilk_BadName icd_BadName ilc_BadName ivs_BadName ifl_BadName ice_BadName) (clsI_mk icx_BadName irv_BadName isa_BadName sb_BadName ty_BadName ikp_BadName ifi_BadName iti_BadName ial_BadName isv_BadName ims_BadName an_ su_ to_) rfl (NdefX.nscope_by (N := ["self", "text", "__class__"]) (ps := ["self", "text"]) (fr := ["__class__"]) (by decide)) (by decide) (by decide) rfl rfl ino0_BadName rfl rfl rfl, .all (fun us hl => match us, hl with | [_, _], _ => rfl)⟩,
    I_BadText := I_BadText, id_BadText := (fdI "BadText.__init__" sI_BadText cc_BadText ikV_BadText idoc_BadText ipm_BadText ian_BadText cda_BadText ict_BadText), o_BadText := ⟨PySem.W.mg_of X G n_BadText, n_BadText, (clsI_mk icx_BadText irv_BadText isa_BadText sb_BadText ty_BadText ikp_BadText ifi_BadText iti_BadText ial_BadText isv_BadText ims_BadText an_ su_ to_), fun _ _ => initx1 (st := sI_BadText) (funI_mk (st := sI_BadText) ilk_BadText icd_BadText ilc_BadText ivs_BadText ifl_BadText ice_BadText) (clsI_mk icx_BadText irv_BadText isa_BadText sb_BadText ty_BadText ikp_BadText ifi_BadText iti_BadText ial_BadText isv_BadText ims_BadText an_ su_ to_) rfl (NdefX.nscope_by (N := ["self", "position", "__class__"]) (ps := ["self", "position"]) (fr := ["__class__"]) (by decide)) (by decide) (by decide) rfl rfl ino0_BadText rfl rfl rfl, .all (fun us hl => match us, hl with | [_, _], _ => rfl)⟩,
    n_ValueError := nn_ValueError,
    mtok := (fun n h b hm => by
      simp only [xmt, List.mem_cons, List.not_mem_nil, or_false, Prod.mk.injEq] at hm
      rcases hm with ⟨rfl, rfl, rfl⟩ | ⟨rfl, rfl, rfl⟩ | ⟨rfl, rfl, rfl⟩ | ⟨rfl, rfl, rfl⟩ | ⟨rfl, rfl, rfl⟩ | ⟨rfl, rfl, rfl⟩ | ⟨rfl, rfl, rfl⟩ | ⟨rfl, rfl, rfl⟩ | ⟨rfl, rfl, rfl⟩ | ⟨rfl, rfl, rfl⟩ | ⟨rfl, rfl, rfl⟩ | ⟨rfl, rfl, rfl⟩
      · exact ⟨_, _, .inl n_BadColumn, .inl n_BadColumn, exm_of_sub sb_BadColumn hd_BadColumn ty_BadColumn su_BadColumn_BadColumn⟩
      · exact ⟨_, _, .inl n_BadColumn, .inl n_BadKey, exm_of_sub sb_BadKey hd_BadKey ty_BadKey su_BadColumn_BadKey⟩
      · exact ⟨_, _, .inl n_BadColumn, .inl n_BadName, exm_of_sub sb_BadName hd_BadName ty_BadName su_BadColumn_BadName⟩
      · exact ⟨_, _, .inl n_BadColumn, .inl n_BadText, exm_of_sub sb_BadText hd_BadText ty_BadText su_BadColumn_BadText⟩
      · exact ⟨_, _, .inl n_BadName, .inl n_BadColumn, exm_of_sub sb_BadColumn hd_BadColumn ty_BadColumn su_BadName_BadColumn⟩
      · exact ⟨_, _, .inl n_BadName, .inl n_BadKey, exm_of_sub sb_BadKey hd_BadKey ty_BadKey su_BadName_BadKey⟩
      · exact ⟨_, _, .inl n_BadName, .inl n_BadName, exm_of_sub sb_BadName hd_BadName ty_BadName su_BadName_BadName⟩
      · exact ⟨_, _, .inl n_BadName, .inl n_BadText, exm_of_sub sb_BadText hd_BadText ty_BadText su_BadName_BadText⟩
      · exact ⟨_, _, .inl n_BadText, .inl n_BadColumn, exm_of_sub sb_BadColumn hd_BadColumn ty_BadColumn su_BadText_BadColumn⟩
      · exact ⟨_, _, .inl n_BadText, .inl n_BadKey, exm_of_sub sb_BadKey hd_BadKey ty_BadKey su_BadText_BadKey⟩
      · exact ⟨_, _, .inl n_BadText, .inl n_BadName, exm_of_sub sb_BadName hd_BadName ty_BadName su_BadText_BadName⟩
      · exact ⟨_, _, .inl n_BadText, .inl n_BadText, exm_of_sub sb_BadText hd_BadText ty_BadText su_BadText_BadText⟩),
    isok := (fun n h b hm => by
      simp only [xit, List.mem_cons, List.not_mem_nil, or_false, Prod.mk.injEq] at hm
      rcases hm with ⟨rfl, rfl, rfl⟩ | ⟨rfl, rfl, rfl⟩ | ⟨rfl, rfl, rfl⟩ | ⟨rfl, rfl, rfl⟩ | ⟨rfl, rfl, rfl⟩ | ⟨rfl, rfl, rfl⟩ | ⟨rfl, rfl, rfl⟩ | ⟨rfl, rfl, rfl⟩ | ⟨rfl, rfl, rfl⟩
      · exact ⟨_, _, .inl n_BadColumn, .inl n_BadColumn, ⟨q1_BadColumn, q2_BadColumn, sb_BadColumn, hd_BadColumn, q5_BadColumn, q6_BadColumn, q7_BadColumn, q8_BadColumn⟩, kit_self⟩
      · exact ⟨_, _, .inl n_BadColumn, .inl n_ScoreError, ⟨q1_BadColumn, q2_BadColumn, sb_BadColumn, hd_BadColumn, q5_BadColumn, q6_BadColumn, q7_BadColumn, q8_BadColumn⟩, (kit_ref ne_BadColumn_ScoreError hd_ScoreError ty_ScoreError su_BadColumn_ScoreError)⟩
      · exact ⟨_, _, .inl n_BadColumn, .inr ⟨nn_ValueError, by decide +kernel⟩, ⟨q1_BadColumn, q2_BadColumn, sb_BadColumn, hd_BadColumn, q5_BadColumn, q6_BadColumn, q7_BadColumn, q8_BadColumn⟩, (kit_ty su_BadColumn_ValueError)⟩
      · exact ⟨_, _, .inl n_BadName, .inl n_BadColumn, ⟨q1_BadName, q2_BadName, sb_BadName, hd_BadName, q5_BadName, q6_BadName, q7_BadName, q8_BadName⟩, (kit_ref ne_BadName_BadColumn hd_BadColumn ty_BadColumn su_BadName_BadColumn)⟩
      · exact ⟨_, _, .inl n_BadName, .inl n_ScoreError, ⟨q1_BadName, q2_BadName, sb_BadName, hd_BadName, q5_BadName, q6_BadName, q7_BadName, q8_BadName⟩, (kit_ref ne_BadName_ScoreError hd_ScoreError ty_ScoreError su_BadName_ScoreError)⟩
      · exact ⟨_, _, .inl n_BadName, .inr ⟨nn_ValueError, by decide +kernel⟩, ⟨q1_BadName, q2_BadName, sb_BadName, hd_BadName, q5_BadName, q6_BadName, q7_BadName, q8_BadName⟩, (kit_ty su_BadName_ValueError)⟩
      · exact ⟨_, _, .inl n_BadText, .inl n_BadColumn, ⟨q1_BadText, q2_BadText, sb_BadText, hd_BadText, q5_BadText, q6_BadText, q7_BadText, q8_BadText⟩, (kit_ref ne_BadText_BadColumn hd_BadColumn ty_BadColumn su_BadText_BadColumn)⟩
      · exact ⟨_, _, .inl n_BadText, .inl n_ScoreError, ⟨q1_BadText, q2_BadText, sb_BadText, hd_BadText, q5_BadText, q6_BadText, q7_BadText, q8_BadText⟩, (kit_ref ne_BadText_ScoreError hd_ScoreError ty_ScoreError su_BadText_ScoreError)⟩
      · exact ⟨_, _, .inl n_BadText, .inr ⟨nn_ValueError, by decide +kernel⟩, ⟨q1_BadText, q2_BadText, sb_BadText, hd_BadText, q5_BadText, q6_BadText, q7_BadText, q8_BadText⟩, (kit_ty su_BadText_ValueError)⟩),
    xtok := (fun n f hm => by
      simp only [xxt, List.mem_cons, List.not_mem_nil, or_false, Prod.mk.injEq] at hm
      rcases hm with ⟨rfl, rfl⟩ | ⟨rfl, rfl⟩ | ⟨rfl, rfl⟩
      · exact ⟨_, .inl n_BadColumn, ⟨xa0, xb0, sb_BadColumn, hd_BadColumn⟩, xe0⟩
      · exact ⟨_, .inl n_BadColumn, ⟨xa1, xb1, sb_BadColumn, hd_BadColumn⟩, xe1⟩
      · exact ⟨_, .inl n_BadText, ⟨xa2, xb2, sb_BadText, hd_BadText⟩, xe2⟩),
    c_LETTERS := globD_of X G gc_LETTERS,
    c_FIFTHS := globD_of X G gc_FIFTHS,
    c_MOST := globD_of X G gc_MOST,
    c_MOST_COLUMNS := globD_of X G gc_MOST_COLUMNS,
    c_MOST_PART := globD_of X G gc_MOST_PART }
theorem fin {K : PySem.W.Frag} {mg : Str → Option Value} {fa : Addr} {P : Program} {wd : World} (T : Txt P K mg) (hmg : mg "law" = some (.ref fa)) : ∃ fd : FuncData, (∀ (s : Shared) (u : Value), BindsTo s fd ⟨[u], []⟩ [("script", u)]) ∧ ∀ base : Heap, K.In base → base.Ns mainGlobals mg → FnOk P wd K mg base (L2.CX P wd) 10 fa fd ["script"] (upP K sp_law) := by
  have e := hmg.symm.trans T.g_law
  cases e
  exact ⟨T.fd_law, fun s v => MD.law_binds T.F_law s v (fun _ _ _ _ _ _ => rfl), fun base _ _ => ok_law T⟩
end K12
open PySem PySem.W PyProof.Rows
set_option maxHeartbeats 0 in
theorem PySem.Challenge.cw_counterheld_k12_whole_texts_that_are_no_holds : PySem.Challenge.rw_counterheld_k12_whole_texts_that_are_no.Holds := by
  w_on; o_law; k_head; (case hw => w_witness2)
  k_fill
  refine L2.walk_ofB (l := PySem.Challenge.rw_counterheld_k12_whole_texts_that_are_no) (n := 63) (k := 10) (x := "script") (CX := fun w => L2.CX PySem.Challenge.rw_counterheld_k12_whole_texts_that_are_no.prog w) (sp := fun w => MD.upP _ K12.sp_law) rfl (by decide) rfl ⟨rfl, by decide, by decide⟩ (fun w h Y => PySem.W.kIn_of Y) ?F (fun w H a ns hl hb hO hS => MD.law_start hO hS (K12.law_start ns hl hb)) (fun w H s e s' h => MD.cx_none h)
  case F =>
    intro w mg fa h KX G hmg
    refine' K12.fin (K12.txt_mk KX G ?a_is_fraction ?l_is_fraction ?c_is_fraction ?k_is_fraction ?a_whole ?l_whole ?c_whole ?k_whole ?a_within ?l_within ?c_within ?k_within ?a_read_tone ?l_read_tone ?c_read_tone ?k_read_tone ?a_is_duration ?l_is_duration ?c_is_duration ?k_is_duration ?a_read_entry ?l_read_entry ?c_read_entry ?k_read_entry ?a_read_duration_of ?l_read_duration_of ?c_read_duration_of ?k_read_duration_of ?a_read_duration ?l_read_duration ?c_read_duration ?k_read_duration ?a_read_column ?l_read_column ?c_read_column ?k_read_column ?a_read_bar ?l_read_bar ?c_read_bar ?k_read_bar ?a__law_pool ?l__law_pool ?c__law_pool ?k__law_pool ?a__law_take ?l__law_take ?c__law_take ?k__law_take ?a__law_pick ?l__law_pick ?c__law_pick ?k__law_pick ?a__law_is_integer ?l__law_is_integer ?c__law_is_integer ?k__law_is_integer ?a__law_same ?l__law_same ?c__law_same ?k__law_same ?a__law_lowest ?l__law_lowest ?c__law_lowest ?k__law_lowest ?a__law_duration ?l__law_duration ?c__law_duration ?k__law_duration ?a__law_tone ?l__law_tone ?c__law_tone ?k__law_tone ?a__law_column ?l__law_column ?c__law_column ?k__law_column ?a__law_bar ?l__law_bar ?c__law_bar ?k__law_bar ?a__law_letter ?l__law_letter ?c__law_letter ?k__law_letter ?a__law_far_pair ?l__law_far_pair ?c__law_far_pair ?k__law_far_pair ?a__law_tone_text ?l__law_tone_text ?c__law_tone_text ?k__law_tone_text ?a__law_cell_words ?l__law_cell_words ?c__law_cell_words ?k__law_cell_words ?a__law_pad ?l__law_pad ?c__law_pad ?k__law_pad ?a__law_spaced ?l__law_spaced ?c__law_spaced ?k__law_spaced ?a__law_far_bar ?l__law_far_bar ?c__law_far_bar ?k__law_far_bar ?a__law_wrong_text ?l__law_wrong_text ?c__law_wrong_text ?k__law_wrong_text ?a__law_cells ?l__law_cells ?c__law_cells ?k__law_cells ?a__law_laid ?l__law_laid ?c__law_laid ?k__law_laid ?a__law_told ?l__law_told ?c__law_told ?k__law_told ?a_law ?l_law ?c_law ?k_law ?z_list ?z_tuple ?z_isinstance ?z_len ?z_bool ?z_int ?z_any ?z_all ?z_abs ?z_max ?z_range ?z_str ?z_ValueError ?m_gcd ?n_BadColumn ?n_BadKey ?n_BadName ?n_BadText ?n_ScoreError ?sb_BadColumn ?ty_BadColumn ?hd_BadColumn ?sb_BadKey ?ty_BadKey ?hd_BadKey ?sb_BadName ?ty_BadName ?hd_BadName ?sb_BadText ?ty_BadText ?hd_BadText ?sb_ScoreError ?ty_ScoreError ?hd_ScoreError ?an_ ?su_ ?to_ ?icx_BadColumn ?irv_BadColumn ?isa_BadColumn ?ikp_BadColumn ?ifi_BadColumn ?iti_BadColumn ?ial_BadColumn ?isv_BadColumn ?ims_BadColumn ?ilk_BadColumn ?icd_BadColumn ?ilc_BadColumn ?ivs_BadColumn ?ifl_BadColumn ?ice_BadColumn ?ino0_BadColumn ?ino1_BadColumn ?icx_BadName ?irv_BadName ?isa_BadName ?ikp_BadName ?ifi_BadName ?iti_BadName ?ial_BadName ?isv_BadName ?ims_BadName ?ilk_BadName ?icd_BadName ?ilc_BadName ?ivs_BadName ?ifl_BadName ?ice_BadName ?ino0_BadName ?icx_BadText ?irv_BadText ?isa_BadText ?ikp_BadText ?ifi_BadText ?iti_BadText ?ial_BadText ?isv_BadText ?ims_BadText ?ilk_BadText ?icd_BadText ?ilc_BadText ?ivs_BadText ?ifl_BadText ?ice_BadText ?ino0_BadText ?nn_ValueError ?su_BadColumn_BadColumn ?su_BadColumn_BadKey ?su_BadColumn_BadName ?su_BadColumn_BadText ?su_BadName_BadColumn ?su_BadName_BadKey ?su_BadName_BadName ?su_BadName_BadText ?su_BadText_BadColumn ?su_BadText_BadKey ?su_BadText_BadName ?su_BadText_BadText ?q1_BadColumn ?q2_BadColumn ?q5_BadColumn ?q6_BadColumn ?q7_BadColumn ?q8_BadColumn ?q1_BadName ?q2_BadName ?q5_BadName ?q6_BadName ?q7_BadName ?q8_BadName ?q1_BadText ?q2_BadText ?q5_BadText ?q6_BadText ?q7_BadText ?q8_BadText ?ne_BadColumn_ScoreError ?su_BadColumn_ScoreError ?su_BadColumn_ValueError ?ne_BadName_BadColumn ?ne_BadName_ScoreError ?su_BadName_ScoreError ?su_BadName_ValueError ?ne_BadText_BadColumn ?ne_BadText_ScoreError ?su_BadText_ScoreError ?su_BadText_ValueError ?xa0 ?xb0 ?xe0 ?xa1 ?xb1 ?xe1 ?xa2 ?xb2 ?xe2 ?gc_LETTERS ?gc_FIFTHS ?gc_MOST ?gc_MOST_COLUMNS ?gc_MOST_PART) hmg
    (case a_is_fraction => k_is)
    (case l_is_fraction => k_is)
    (case c_is_fraction => k_is)
    (case k_is_fraction => k_is)
    (case a_whole => k_is)
    (case l_whole => k_is)
    (case c_whole => k_is)
    (case k_whole => k_is)
    (case a_within => k_is)
    (case l_within => k_is)
    (case c_within => k_is)
    (case k_within => k_is)
    (case a_read_tone => k_is)
    (case l_read_tone => k_is)
    (case c_read_tone => k_is)
    (case k_read_tone => k_is)
    (case a_is_duration => k_is)
    (case l_is_duration => k_is)
    (case c_is_duration => k_is)
    (case k_is_duration => k_is)
    (case a_read_entry => k_is)
    (case l_read_entry => k_is)
    (case c_read_entry => k_is)
    (case k_read_entry => k_is)
    (case a_read_duration_of => k_is)
    (case l_read_duration_of => k_is)
    (case c_read_duration_of => k_is)
    (case k_read_duration_of => k_is)
    (case a_read_duration => k_is)
    (case l_read_duration => k_is)
    (case c_read_duration => k_is)
    (case k_read_duration => k_is)
    (case a_read_column => k_is)
    (case l_read_column => k_is)
    (case c_read_column => k_is)
    (case k_read_column => k_is)
    (case a_read_bar => k_is)
    (case l_read_bar => k_is)
    (case c_read_bar => k_is)
    (case k_read_bar => k_is)
    (case a__law_pool => k_is)
    (case l__law_pool => k_is)
    (case c__law_pool => k_is)
    (case k__law_pool => k_is)
    (case a__law_take => k_is)
    (case l__law_take => k_is)
    (case c__law_take => k_is)
    (case k__law_take => k_is)
    (case a__law_pick => k_is)
    (case l__law_pick => k_is)
    (case c__law_pick => k_is)
    (case k__law_pick => k_is)
    (case a__law_is_integer => k_is)
    (case l__law_is_integer => k_is)
    (case c__law_is_integer => k_is)
    (case k__law_is_integer => k_is)
    (case a__law_same => k_is)
    (case l__law_same => k_is)
    (case c__law_same => k_is)
    (case k__law_same => k_is)
    (case a__law_lowest => k_is)
    (case l__law_lowest => k_is)
    (case c__law_lowest => k_is)
    (case k__law_lowest => k_is)
    (case a__law_duration => k_is)
    (case l__law_duration => k_is)
    (case c__law_duration => k_is)
    (case k__law_duration => k_is)
    (case a__law_tone => k_is)
    (case l__law_tone => k_is)
    (case c__law_tone => k_is)
    (case k__law_tone => k_is)
    (case a__law_column => k_is)
    (case l__law_column => k_is)
    (case c__law_column => k_is)
    (case k__law_column => k_is)
    (case a__law_bar => k_is)
    (case l__law_bar => k_is)
    (case c__law_bar => k_is)
    (case k__law_bar => k_is)
    (case a__law_letter => k_is)
    (case l__law_letter => k_is)
    (case c__law_letter => k_is)
    (case k__law_letter => k_is)
    (case a__law_far_pair => k_is)
    (case l__law_far_pair => k_is)
    (case c__law_far_pair => k_is)
    (case k__law_far_pair => k_is)
    (case a__law_tone_text => k_is)
    (case l__law_tone_text => k_is)
    (case c__law_tone_text => k_is)
    (case k__law_tone_text => k_is)
    (case a__law_cell_words => k_is)
    (case l__law_cell_words => k_is)
    (case c__law_cell_words => k_is)
    (case k__law_cell_words => k_is)
    (case a__law_pad => k_is)
    (case l__law_pad => k_is)
    (case c__law_pad => k_is)
    (case k__law_pad => k_is)
    (case a__law_spaced => k_is)
    (case l__law_spaced => k_is)
    (case c__law_spaced => k_is)
    (case k__law_spaced => k_is)
    (case a__law_far_bar => k_is)
    (case l__law_far_bar => k_is)
    (case c__law_far_bar => k_is)
    (case k__law_far_bar => k_is)
    (case a__law_wrong_text => k_is)
    (case l__law_wrong_text => k_is)
    (case c__law_wrong_text => k_is)
    (case k__law_wrong_text => k_is)
    (case a__law_cells => k_is)
    (case l__law_cells => k_is)
    (case c__law_cells => k_is)
    (case k__law_cells => k_is)
    (case a__law_laid => k_is)
    (case l__law_laid => k_is)
    (case c__law_laid => k_is)
    (case k__law_laid => k_is)
    (case a__law_told => k_is)
    (case l__law_told => k_is)
    (case c__law_told => k_is)
    (case k__law_told => k_is)
    (case a_law => k_is)
    (case l_law => k_is)
    (case c_law => k_is)
    (case k_law => k_is)
    (case z_list => k_is)
    (case z_tuple => k_is)
    (case z_isinstance => k_is)
    (case z_len => k_is)
    (case z_bool => k_is)
    (case z_int => k_is)
    (case z_any => k_is)
    (case z_all => k_is)
    (case z_abs => k_is)
    (case z_max => k_is)
    (case z_range => k_is)
    (case z_str => k_is)
    (case z_ValueError => k_is)
    (case m_gcd => k_is)
    (case n_BadColumn => k_is)
    (case n_BadKey => k_is)
    (case n_BadName => k_is)
    (case n_BadText => k_is)
    (case n_ScoreError => k_is)
    (case sb_BadColumn => k_is)
    (case ty_BadColumn => k_is)
    (case hd_BadColumn => k_is)
    (case sb_BadKey => k_is)
    (case ty_BadKey => k_is)
    (case hd_BadKey => k_is)
    (case sb_BadName => k_is)
    (case ty_BadName => k_is)
    (case hd_BadName => k_is)
    (case sb_BadText => k_is)
    (case ty_BadText => k_is)
    (case hd_BadText => k_is)
    (case sb_ScoreError => k_is)
    (case ty_ScoreError => k_is)
    (case hd_ScoreError => k_is)
    (case an_ => k_is)
    (case su_ => k_is)
    (case to_ => first | rfl | decide +kernel)
    (case icx_BadColumn => k_is)
    (case irv_BadColumn => first | rfl | decide +kernel)
    (case isa_BadColumn => k_is)
    (case ikp_BadColumn => k_is)
    (case ifi_BadColumn => k_is)
    (case iti_BadColumn => k_is)
    (case ial_BadColumn => first | kernel_rfl | rfl)
    (case isv_BadColumn => k_is)
    (case ims_BadColumn => k_is)
    (case ilk_BadColumn => k_is)
    (case icd_BadColumn => k_is)
    (case ilc_BadColumn => k_is)
    (case ivs_BadColumn => first | rfl | decide +kernel)
    (case ifl_BadColumn => first | rfl | decide +kernel)
    (case ice_BadColumn => k_is)
    (case ino0_BadColumn => k_is)
    (case ino1_BadColumn => k_is)
    (case icx_BadName => k_is)
    (case irv_BadName => first | rfl | decide +kernel)
    (case isa_BadName => k_is)
    (case ikp_BadName => k_is)
    (case ifi_BadName => k_is)
    (case iti_BadName => k_is)
    (case ial_BadName => first | kernel_rfl | rfl)
    (case isv_BadName => k_is)
    (case ims_BadName => k_is)
    (case ilk_BadName => k_is)
    (case icd_BadName => k_is)
    (case ilc_BadName => k_is)
    (case ivs_BadName => first | rfl | decide +kernel)
    (case ifl_BadName => first | rfl | decide +kernel)
    (case ice_BadName => k_is)
    (case ino0_BadName => k_is)
    (case icx_BadText => k_is)
    (case irv_BadText => first | rfl | decide +kernel)
    (case isa_BadText => k_is)
    (case ikp_BadText => k_is)
    (case ifi_BadText => k_is)
    (case iti_BadText => k_is)
    (case ial_BadText => first | kernel_rfl | rfl)
    (case isv_BadText => k_is)
    (case ims_BadText => k_is)
    (case ilk_BadText => k_is)
    (case icd_BadText => k_is)
    (case ilc_BadText => k_is)
    (case ivs_BadText => first | rfl | decide +kernel)
    (case ifl_BadText => first | rfl | decide +kernel)
    (case ice_BadText => k_is)
    (case ino0_BadText => k_is)
    (case nn_ValueError => k_is)
    (case su_BadColumn_BadColumn => k_is)
    (case su_BadColumn_BadKey => k_is)
    (case su_BadColumn_BadName => k_is)
    (case su_BadColumn_BadText => k_is)
    (case su_BadName_BadColumn => k_is)
    (case su_BadName_BadKey => k_is)
    (case su_BadName_BadName => k_is)
    (case su_BadName_BadText => k_is)
    (case su_BadText_BadColumn => k_is)
    (case su_BadText_BadKey => k_is)
    (case su_BadText_BadName => k_is)
    (case su_BadText_BadText => k_is)
    (case q1_BadColumn => k_is)
    (case q2_BadColumn => k_is)
    (case q5_BadColumn => k_is)
    (case q6_BadColumn => k_is)
    (case q7_BadColumn => k_is)
    (case q8_BadColumn => k_is)
    (case q1_BadName => k_is)
    (case q2_BadName => k_is)
    (case q5_BadName => k_is)
    (case q6_BadName => k_is)
    (case q7_BadName => k_is)
    (case q8_BadName => k_is)
    (case q1_BadText => k_is)
    (case q2_BadText => k_is)
    (case q5_BadText => k_is)
    (case q6_BadText => k_is)
    (case q7_BadText => k_is)
    (case q8_BadText => k_is)
    (case ne_BadColumn_ScoreError => first | rfl | k_is)
    (case su_BadColumn_ScoreError => k_is)
    (case su_BadColumn_ValueError => k_is)
    (case ne_BadName_BadColumn => first | rfl | k_is)
    (case ne_BadName_ScoreError => first | rfl | k_is)
    (case su_BadName_ScoreError => k_is)
    (case su_BadName_ValueError => k_is)
    (case ne_BadText_BadColumn => first | rfl | k_is)
    (case ne_BadText_ScoreError => first | rfl | k_is)
    (case su_BadText_ScoreError => k_is)
    (case su_BadText_ValueError => k_is)
    (case xa0 => k_is)
    (case xb0 => k_is)
    (case xe0 => k_is)
    (case xa1 => k_is)
    (case xb1 => k_is)
    (case xe1 => k_is)
    (case xa2 => k_is)
    (case xb2 => k_is)
    (case xe2 => k_is)
    (case gc_LETTERS => refine' MD.globK_str ?hlt; (case hlt => k_is))
    (case gc_FIFTHS => refine' MD.globK_tup (xs := [.int 0, .int 2, .int 4, .int (-1), .int 1, .int 3, .int 5]) ?hfi ?lfi ?vfi; (case hfi => k_is); (case lfi => k_is); (case vfi => exact ⟨by decide, .cons ⟨_, rfl⟩ (.cons ⟨_, rfl⟩ (.cons ⟨_, rfl⟩ (.cons ⟨_, rfl⟩ (.cons ⟨_, rfl⟩ (.cons ⟨_, rfl⟩ (.cons ⟨_, rfl⟩ .nil)))))), fun _ => MD.RepL.ints [0, 2, 4, -1, 1, 3, 5]⟩))
    (case gc_MOST => refine' MD.globK_int ?hmo; (case hmo => k_is))
    (case gc_MOST_COLUMNS => refine' MD.globK_int ?hmc; (case hmc => k_is))
    (case gc_MOST_PART => refine' MD.globK_int ?hmp; (case hmp => k_is))
