import PyProof.Rows.All
import HandS.ForExc
import HandS.ForMost
import HandS.Wide
import HandS.IsInst
import HandS.Gcd
import HandS.TupAny
import HandS.CallSlots
import HandS.EndBits
import HandS.Deep
import HandS.Replace
import HandS.WideBits
import HandS.StrMore
import HandS.Conv
import HandS.Steps
import HandS.SortRule
import HandS.Style
import KE.GoesMore
import PyProof.EnumMake
import HandS.List
import PyProof.P3In
import HandS.TupMul
import HandS.More
import PySem.Challenge.RW_counterheld_k25_tests
set_option maxHeartbeats 200000
set_option Elab.async false
set_option linter.all false
set_option maxRecDepth 100000
/-! MD: data with cells over the abstract heap: worlds, what stands for what, promises over data. -/
namespace MD
open PySem PySem.Spec PyProof.Rows L2

/-- data; lst: a list that nobody writes any more; scr: the script; ref: a cell; con: a class or a def as it is -/
inductive Lit where
  | non | bl (b : Bool) | int (i : Int) | str (x : Str)
def Lit.v : Lit → V
  | .non => .non
  | .bl b => .bl b
  | .int i => .int i
  | .str x => .str x
/-- exc: an exception that an except suite holds: its address, class, dict, fields -/
inductive D where
  | non | bl (b : Bool) | int (i : Int) | str (x : Str)
  | tup (ds : List D) | lst (ds : List D) | scr (ns : List Int) | ref (i : Nat) | con (v : V) | exc (a : Addr) (cls : Value) (d : Option Addr) (fs : List (Str × Lit)) | dct
inductive Cell where
  | lst (ds : List D) | dic (kvs : List (Key × D)) | dit (kvs : List (List Key × D)) | ins (C : Addr) (fs : List (Str × D)) | dead
abbrev MH := List Cell
/-- cells' addresses, cells, addresses held back, the heap -/
structure Wd where
  m : List Addr
  M : MH
  r : List Addr
  H : Hp
def Live (w : Wd) (a : Addr) : Prop := ∃ (i : Nat) (c : Cell), w.m[i]? = some a ∧ w.M[i]? = some c ∧ c ≠ Cell.dead

mutual
def Rep (K : PySem.W.Frag) (w : Wd) : D → V → Prop
  | .non, v => v = .non
  | .bl b, v => v = .bl b
  | .int i, v => v = .int i
  | .str x, v => v = .str x
  | .con u, v => v = u
  | .dct, v => ∃ a es, v = .ref a ∧ w.H a = some (.dK es) ∧ ¬ Live w a ∧ a ∉ w.r
  | .exc a cls d fs, v => v = .ref a ∧ ((d = none ∧ fs = []) ∨ ∃ dd, d = some dd ∧ w.H dd = some (.xd (fs.map fun p => (p.1, p.2.v))))
  | .tup ds, v => ∃ a xs, v = .ref a ∧ SqT K w.H a xs ∧ RepL K w ds xs
  | .lst ds, v => ∃ a xs, v = .ref a ∧ w.H a = some (.lst xs) ∧ ¬ Live w a ∧ a ∉ w.r ∧ RepL K w ds xs
  | .scr ns, v => ∃ a, v = .ref a ∧ ((∃ o, w.H a = some (.frz o (.lst (ns.map V.int)))) ∨ (∀ H, SqL K H a (ns.map V.int)))
  | .ref i, v => ∃ a, v = .ref a ∧ w.m[i]? = some a
def RepL (K : PySem.W.Frag) (w : Wd) : List D → List V → Prop
  | [], xs => xs = []
  | d :: ds, xs => ∃ x r, xs = x :: r ∧ Rep K w d x ∧ RepL K w ds r
end

def RepF (K : PySem.W.Frag) (w : Wd) (fs : List (Str × D)) (gs : List (Str × V)) : Prop := gs.map (·.1) = fs.map (·.1) ∧ RepL K w (fs.map (·.2)) (gs.map (·.2))
def RepK {κ : Type} (K : PySem.W.Frag) (w : Wd) (kvs : List (κ × D)) (es : List (κ × V)) : Prop := es.map (·.1) = kvs.map (·.1) ∧ RepL K w (kvs.map (·.2)) (es.map (·.2))
def CellOk (K : PySem.W.Frag) (w : Wd) (a : Addr) : Cell → Prop
  | .lst ds => ∃ xs, w.H a = some (.lst xs) ∧ RepL K w ds xs
  | .dic kvs => ∃ es, w.H a = some (.dK es) ∧ RepK K w kvs es
  | .dit kvs => ∃ es, w.H a = some (.dT es) ∧ RepK K w kvs es
  | .ins C fs => ∃ dx gs, w.H a = some (.ins C dx gs) ∧ RepF K w fs gs
  | .dead => ∃ u, w.H a = some u
structure RH (K : PySem.W.Frag) (w : Wd) : Prop where
  len : w.m.length = w.M.length
  nd : w.m.Nodup
  dr : ∀ a ∈ w.m, a ∉ w.r
  ok : ∀ (i : Nat) (a : Addr) (c : Cell), w.m[i]? = some a → w.M[i]? = some c → CellOk K w a c
  rk : ∀ a ∈ w.r, ∃ xs, w.H a = some (.lst xs)
structure Le (w w1 : Wd) : Prop where
  pre : ∃ t, w1.m = w.m ++ t ∧ ∀ a ∈ t, w.H a = none
  dead : ∀ i : Nat, w.M[i]? = some Cell.dead → w1.M[i]? = some Cell.dead
  keep : ∀ a u, w.H a = some u → ¬ Live w a → w1.H a = some u
  rr : ∃ s, w1.r = s ++ w.r ∧ ∀ a ∈ s, w.H a = none

theorem Le.refl (w : Wd) : Le w w := ⟨⟨[], by simp, by simp⟩, fun _ h => h, fun _ _ h _ => h, ⟨[], rfl, by simp⟩⟩
variable {K : PySem.W.Frag} {w w1 w2 : Wd}
theorem CellOk.there {a : Addr} : ∀ {c : Cell}, CellOk K w a c → ∃ u, w.H a = some u
  | .lst _, ⟨_, h, _⟩ => ⟨_, h⟩
  | .dic _, ⟨_, h, _⟩ => ⟨_, h⟩
  | .dit _, ⟨_, h, _⟩ => ⟨_, h⟩
  | .ins _ _, ⟨_, _, h, _⟩ => ⟨_, h⟩
  | .dead, h => h
theorem RH.at_ (r : RH K w) {i : Nat} {a : Addr} (h : w.m[i]? = some a) : ∃ c, w.M[i]? = some c ∧ CellOk K w a c := by
  have hi : i < w.m.length := (List.getElem?_eq_some_iff.mp h).1
  have hM : i < w.M.length := by rw [← r.len]; exact hi
  exact ⟨w.M[i], List.getElem?_eq_getElem hM, r.ok i a _ h (List.getElem?_eq_getElem hM)⟩
theorem RH.there (r : RH K w) {a : Addr} (h : a ∈ w.m) : ∃ u, w.H a = some u := by
  obtain ⟨i, hi, e⟩ := List.getElem_of_mem h
  have h2 : w.m[i]? = some a := by rw [List.getElem?_eq_getElem hi, e]
  obtain ⟨c, _, ok⟩ := r.at_ h2
  exact ok.there
theorem Le.live (r : RH K w) (l : Le w w1) {a : Addr} {u : HO} (h : w.H a = some u) (n : ¬ Live w a) : ¬ Live w1 a := by
  rintro ⟨i, c, e, ec, nd⟩
  obtain ⟨t, et, ft⟩ := l.pre
  rw [et] at e
  by_cases hi : i < w.m.length
  · rw [List.getElem?_append_left hi] at e
    obtain ⟨c2, e2, _⟩ := r.at_ e
    by_cases hd : c2 = Cell.dead
    · rw [hd] at e2
      have := l.dead i e2
      rw [this] at ec; cases ec; exact nd rfl
    · exact n ⟨i, _, e, e2, hd⟩
  · rw [List.getElem?_append_right (by omega)] at e
    have := ft a (List.mem_of_getElem? e)
    rw [h] at this; cases this
theorem Le.back (r : RH K w) (r1 : RH K w1) (a : Le w w1) {x : Addr} (h : w1.H x = none) : w.H x = none := by
  obtain ⟨t, et, ft⟩ := a.pre
  cases q : w.H x with
  | none => rfl
  | some u =>
    by_cases n : Live w x
    · obtain ⟨i, c, e, ec, nd⟩ := n
      have hm : x ∈ w1.m := by rw [et]; exact List.mem_append_left _ (List.mem_of_getElem? e)
      obtain ⟨u1, h1⟩ := r1.there hm
      rw [h] at h1; cases h1
    · have := a.keep x u q n
      rw [h] at this; cases this
theorem Le.trans (r : RH K w) (r1 : RH K w1) (a : Le w w1) (b : Le w1 w2) : Le w w2 := by
  obtain ⟨t, et, ft⟩ := a.pre
  obtain ⟨t2, et2, ft2⟩ := b.pre
  obtain ⟨s, es, fs⟩ := a.rr
  obtain ⟨s2, es2, fs2⟩ := b.rr
  refine ⟨⟨t ++ t2, by rw [et2, et, List.append_assoc], fun x hx => ?_⟩, fun i h => b.dead i (a.dead i h), fun x u h n => b.keep x u (a.keep x u h n) (a.live r h n), ⟨s2 ++ s, by rw [es2, es, List.append_assoc], fun x hx => ?_⟩⟩
  · rcases List.mem_append.mp hx with h | h
    · exact ft x h
    · exact a.back r r1 (ft2 x h)
  · rcases List.mem_append.mp hx with h | h
    · exact a.back r r1 (fs2 x h)
    · exact fs x h
def cellKind : HO → Bool
  | .lst _ | .dK _ | .dT _ | .ins _ _ _ => true
  | _ => false
theorem RH.kind_dead (r : RH K w) {a : Addr} {u : HO} (h : w.H a = some u) (hu : cellKind u = false) : ¬ Live w a := by
  rintro ⟨i, c, e, ec, nd⟩
  have ok := r.ok i a c e ec
  cases c with
  | lst ds => obtain ⟨xs, h1, _⟩ := ok; rw [h] at h1; cases h1; cases hu
  | dic ds => obtain ⟨xs, h1, _⟩ := ok; rw [h] at h1; cases h1; cases hu
  | dit ds => obtain ⟨xs, h1, _⟩ := ok; rw [h] at h1; cases h1; cases hu
  | ins C fs => obtain ⟨_, xs, h1, _⟩ := ok; rw [h] at h1; cases h1; cases hu
  | dead => exact nd rfl

/-- a tuple is no live cell -/
theorem RH.tup_dead (r : RH K w) {a : Addr} {u : HO} (h : w.H a = some u) (hu : (∃ xs, u = .tup xs) ∨ (∃ o v, u = .frz o v)) : ¬ Live w a := by
  rintro ⟨i, c, e, ec, nd⟩
  have ok := r.ok i a c e ec
  cases c with
  | lst ds => obtain ⟨xs, h1, _⟩ := ok; rw [h] at h1; cases h1; rcases hu with ⟨_, z⟩ | ⟨_, _, z⟩ <;> cases z
  | dic ds => obtain ⟨xs, h1, _⟩ := ok; rw [h] at h1; cases h1; rcases hu with ⟨_, z⟩ | ⟨_, _, z⟩ <;> cases z
  | dit ds => obtain ⟨xs, h1, _⟩ := ok; rw [h] at h1; cases h1; rcases hu with ⟨_, z⟩ | ⟨_, _, z⟩ <;> cases z
  | ins C fs => obtain ⟨_, xs, h1, _⟩ := ok; rw [h] at h1; cases h1; rcases hu with ⟨_, z⟩ | ⟨_, _, z⟩ <;> cases z
  | dead => exact nd rfl
theorem Le.nr (l : Le w w1) {a : Addr} {u : HO} (h : w.H a = some u) (n : a ∉ w.r) : a ∉ w1.r := by
  obtain ⟨s, es, fs⟩ := l.rr
  rw [es]
  intro z
  rcases List.mem_append.mp z with z | z
  · rw [fs a z] at h; cases h
  · exact n z
theorem Le.sqT (r : RH K w) (l : Le w w1) {a : Addr} {xs : List V} (h : SqT K w.H a xs) : SqT K w1.H a xs := by
  rcases h with (h | ⟨o, h⟩) | h
  · exact .inl (.inl (l.keep a _ h (r.tup_dead h (.inl ⟨_, rfl⟩))))
  · exact .inl (.inr ⟨o, l.keep a _ h (r.tup_dead h (.inr ⟨_, _, rfl⟩))⟩)
  · exact .inr h
mutual
theorem Rep.le (r : RH K w) (l : Le w w1) : ∀ (d : D) {v : V}, Rep K w d v → Rep K w1 d v
  | .non, _, h => by simpa [Rep] using h
  | .bl b, _, h => by simpa [Rep] using h
  | .int i, _, h => by simpa [Rep] using h
  | .str x, _, h => by simpa [Rep] using h
  | .con u, _, h => by simpa [Rep] using h
  | .dct, _, h => by
    simp only [Rep] at h ⊢
    obtain ⟨a, xs, e, hs, nl, nr⟩ := h
    exact ⟨a, xs, e, l.keep a _ hs nl, l.live r hs nl, l.nr hs nr⟩
  | .exc a cls d fs, _, h => by
    simp only [Rep] at h ⊢
    obtain ⟨e, h | ⟨dd, e1, h1⟩⟩ := h
    · exact ⟨e, .inl h⟩
    · exact ⟨e, .inr ⟨dd, e1, l.keep dd _ h1 (r.kind_dead h1 rfl)⟩⟩
  | .tup ds, _, h => by
    simp only [Rep] at h ⊢
    obtain ⟨a, xs, e, hs, hr⟩ := h
    exact ⟨a, xs, e, l.sqT r hs, RepL.le r l ds hr⟩
  | .lst ds, _, h => by
    simp only [Rep] at h ⊢
    obtain ⟨a, xs, e, hs, nl, nr, hr⟩ := h
    exact ⟨a, xs, e, l.keep a _ hs nl, l.live r hs nl, l.nr hs nr, RepL.le r l ds hr⟩
  | .scr ns, _, h => by
    simp only [Rep] at h ⊢
    obtain ⟨a, e, h | h⟩ := h
    · obtain ⟨o, h⟩ := h
      exact ⟨a, e, .inl ⟨o, l.keep a _ h (r.tup_dead h (.inr ⟨_, _, rfl⟩))⟩⟩
    · exact ⟨a, e, .inr h⟩
  | .ref i, _, h => by
    simp only [Rep] at h ⊢
    obtain ⟨a, e, h⟩ := h
    obtain ⟨t, et, _⟩ := l.pre
    exact ⟨a, e, by rw [et, List.getElem?_append_left (List.getElem?_eq_some_iff.mp h).1]; exact h⟩
theorem RepL.le (r : RH K w) (l : Le w w1) : ∀ (ds : List D) {xs : List V}, RepL K w ds xs → RepL K w1 ds xs
  | [], _, h => by simpa [RepL] using h
  | d :: ds, _, h => by
    simp only [RepL] at h ⊢
    obtain ⟨x, r', e, h1, h2⟩ := h
    exact ⟨x, r', e, Rep.le r l d h1, RepL.le r l ds h2⟩
end
theorem RepL.length : ∀ {ds : List D} {xs : List V}, RepL K w ds xs → xs.length = ds.length
  | [], _, h => by simp only [RepL] at h; subst h; rfl
  | d :: ds, _, h => by
    simp only [RepL] at h
    obtain ⟨x, r, rfl, _, h⟩ := h
    simp [RepL.length h]
theorem RepL.get : ∀ {ds : List D} {xs : List V} {i : Nat} {d : D}, RepL K w ds xs → ds[i]? = some d → ∃ x, xs[i]? = some x ∧ Rep K w d x
  | [], _, _, _, _, e => by simp at e
  | d :: ds, _, 0, _, h, e => by
    simp only [RepL] at h
    obtain ⟨x, r, rfl, h1, h⟩ := h
    simp at e; subst e
    exact ⟨x, rfl, h1⟩
  | d :: ds, _, i + 1, _, h, e => by
    simp only [RepL] at h
    obtain ⟨x, r, rfl, h1, h⟩ := h
    exact RepL.get (i := i) h (by simpa using e)
theorem RepL.back : ∀ {ds : List D} {xs : List V} {i : Nat} {x : V}, RepL K w ds xs → xs[i]? = some x → ∃ d, ds[i]? = some d ∧ Rep K w d x
  | [], _, _, _, h, e => by simp only [RepL] at h; subst h; simp at e
  | d :: ds, _, 0, _, h, e => by
    simp only [RepL] at h
    obtain ⟨x, r, rfl, h1, h⟩ := h
    simp at e; subst e
    exact ⟨d, rfl, h1⟩
  | d :: ds, _, i + 1, _, h, e => by
    simp only [RepL] at h
    obtain ⟨x, r, rfl, h1, h⟩ := h
    exact RepL.back (i := i) h (by simpa using e)
theorem RepL.append : ∀ {ds es : List D} {xs ys : List V}, RepL K w ds xs → RepL K w es ys → RepL K w (ds ++ es) (xs ++ ys)
  | [], _, _, _, h, q => by simp only [RepL] at h; subst h; exact q
  | d :: ds, _, _, _, h, q => by
    simp only [RepL] at h
    obtain ⟨x, r, rfl, h1, h⟩ := h
    exact ⟨x, r ++ _, rfl, h1, RepL.append h q⟩
theorem RepL.cons {d : D} {ds : List D} {x : V} {xs : List V} (h : Rep K w d x) (q : RepL K w ds xs) : RepL K w (d :: ds) (x :: xs) := ⟨x, xs, rfl, h, q⟩
theorem RepL.nil : RepL K w [] [] := rfl
theorem RepL.take : ∀ (n : Nat) {ds : List D} {xs : List V}, RepL K w ds xs → RepL K w (ds.take n) (xs.take n)
  | 0, _, _, _ => by simp [RepL]
  | n + 1, [], _, h => by simp only [RepL] at h; subst h; simp [RepL]
  | n + 1, d :: ds, _, h => by
    simp only [RepL] at h
    obtain ⟨x, r, rfl, h1, h⟩ := h
    exact ⟨x, r.take n, rfl, h1, RepL.take n h⟩
theorem RepL.drop : ∀ (n : Nat) {ds : List D} {xs : List V}, RepL K w ds xs → RepL K w (ds.drop n) (xs.drop n)
  | 0, _, _, h => by simpa using h
  | n + 1, [], _, h => by simp only [RepL] at h; subst h; simp [RepL]
  | n + 1, d :: ds, _, h => by
    simp only [RepL] at h
    obtain ⟨x, r, rfl, h1, h⟩ := h
    exact RepL.drop n h
theorem RepL.set {d : D} {x : V} (hd : Rep K w d x) : ∀ (i : Nat) {ds : List D} {xs : List V}, RepL K w ds xs → RepL K w (ds.set i d) (xs.set i x)
  | _, [], _, h => by simp only [RepL] at h; subst h; simp [RepL]
  | 0, e :: ds, _, h => by
    simp only [RepL] at h
    obtain ⟨y, r, rfl, h1, h⟩ := h
    exact ⟨x, r, rfl, hd, h⟩
  | i + 1, e :: ds, _, h => by
    simp only [RepL] at h
    obtain ⟨y, r, rfl, h1, h⟩ := h
    exact ⟨y, r.set i x, rfl, h1, RepL.set hd i h⟩
theorem RepL.eraseIdx : ∀ (i : Nat) {ds : List D} {xs : List V}, RepL K w ds xs → RepL K w (ds.eraseIdx i) (xs.eraseIdx i)
  | _, [], _, h => by simp only [RepL] at h; subst h; simp [RepL]
  | 0, e :: ds, _, h => by
    simp only [RepL] at h
    obtain ⟨y, r, rfl, h1, h⟩ := h
    simpa using h
  | i + 1, e :: ds, _, h => by
    simp only [RepL] at h
    obtain ⟨y, r, rfl, h1, h⟩ := h
    exact ⟨y, r.eraseIdx i, rfl, h1, RepL.eraseIdx i h⟩
theorem RepL.ints : ∀ (ns : List Int), RepL K w (ns.map D.int) (ns.map V.int)
  | [] => rfl
  | n :: ns => ⟨.int n, ns.map V.int, rfl, rfl, RepL.ints ns⟩
theorem CellOk.le (r : RH K w) (l : Le w w1) {a : Addr} {c : Cell} (e : w1.H a = w.H a) (h : CellOk K w a c) : CellOk K w1 a c := by
  cases c with
  | lst ds => obtain ⟨xs, h1, h2⟩ := h; exact ⟨xs, e.trans h1, RepL.le r l _ h2⟩
  | dic kvs => obtain ⟨xs, h1, h2⟩ := h; exact ⟨xs, e.trans h1, h2.1, RepL.le r l _ h2.2⟩
  | dit kvs => obtain ⟨xs, h1, h2⟩ := h; exact ⟨xs, e.trans h1, h2.1, RepL.le r l _ h2.2⟩
  | ins C fs => obtain ⟨dx, gs, h1, h2⟩ := h; exact ⟨dx, gs, e.trans h1, h2.1, RepL.le r l _ h2.2⟩
  | dead => obtain ⟨u, h⟩ := h; exact ⟨u, e.trans h⟩
/-! ### steps of worlds -/
/-- a new object that is no cell -/
def Wd.new (w : Wd) (p : Addr) (o : HO) : Wd := { w with H := upd w.H p o }
theorem Le.new {p : Addr} {o : HO} (h : w.H p = none) : Le w (w.new p o) :=
  ⟨⟨[], by simp [Wd.new], by simp⟩, fun _ h => h, fun a u e _ => by
    show upd w.H p o a = some u
    rw [upd_ne (ne_of_none e h)]; exact e, ⟨[], rfl, by simp⟩⟩
theorem RH.new {p : Addr} {o : HO} (r : RH K w) (h : w.H p = none) : RH K (w.new p o) := by
  refine ⟨r.len, r.nd, r.dr, fun i a c e ec => (r.ok i a c e ec).le r (Le.new h) ?_, fun a ha => ?_⟩
  · obtain ⟨u, hu⟩ := (r.ok i a c e ec).there
    show upd w.H p o a = w.H a
    rw [upd_ne (ne_of_none hu h)]
  · obtain ⟨xs, hx⟩ := r.rk a ha
    exact ⟨xs, by show upd w.H p o a = _; rw [upd_ne (ne_of_none hx h)]; exact hx⟩
theorem RH.not_live_new {p : Addr} (r : RH K w) (h : w.H p = none) : ¬ Live w p := by
  rintro ⟨i, c, e, ec, _⟩
  obtain ⟨u, hu⟩ := (r.ok i p c e ec).there
  rw [h] at hu; cases hu
theorem RH.not_r_new {p : Addr} (r : RH K w) (h : w.H p = none) : p ∉ w.r := fun hp => by
  obtain ⟨xs, hx⟩ := r.rk p hp
  rw [h] at hx; cases hx
theorem rep_new_tup {p : Addr} {ds : List D} {xs : List V} (r : RH K w) (h : w.H p = none) (hr : RepL K w ds xs) : Rep K (w.new p (.tup xs)) (.tup ds) (.ref p) := by
  simp only [Rep]
  exact ⟨p, xs, rfl, .inl (.inl upd_same), RepL.le r (Le.new h) _ hr⟩
theorem rep_new_lst {p : Addr} {ds : List D} {xs : List V} (r : RH K w) (h : w.H p = none) (hr : RepL K w ds xs) : Rep K (w.new p (.lst xs)) (.lst ds) (.ref p) := by
  simp only [Rep]
  refine ⟨p, xs, rfl, upd_same, ?_, r.not_r_new h, RepL.le r (Le.new h) _ hr⟩
  exact fun z => r.not_live_new h z
/-- a new cell -/
def Wd.cell (w : Wd) (p : Addr) (o : HO) (c : Cell) : Wd := { w with m := w.m ++ [p], M := w.M ++ [c], H := upd w.H p o }
theorem Le.cell {p : Addr} {o : HO} {c : Cell} (r : RH K w) (h : w.H p = none) : Le w (w.cell p o c) :=
  ⟨⟨[p], rfl, fun a ha => by rw [List.mem_singleton.mp ha]; exact h⟩, fun i e => by
    show (w.M ++ [c])[i]? = _
    rw [List.getElem?_append_left (List.getElem?_eq_some_iff.mp e).1]; exact e, fun a u e _ => by
    show upd w.H p o a = some u
    rw [upd_ne (ne_of_none e h)]; exact e, ⟨[], rfl, by simp⟩⟩
theorem RH.cell {p : Addr} {o : HO} {c : Cell} (r : RH K w) (h : w.H p = none) (hc : CellOk K (w.cell p o c) p c) : RH K (w.cell p o c) := by
  have hne : ∀ {a : Addr}, a ∈ w.m → a ≠ p := fun {a} ha z => by
    obtain ⟨u, hu⟩ := r.there ha
    rw [z, h] at hu; cases hu
  refine ⟨by simp [Wd.cell, r.len], ?_, fun a ha => ?_, fun i a c' e ec => ?_, fun a ha => ?_⟩
  · show (w.m ++ [p]).Nodup
    rw [List.nodup_append]
    refine ⟨r.nd, by simp, fun a ha b hb => ?_⟩
    rw [List.mem_singleton.mp hb]; exact hne ha
  · rcases List.mem_append.mp ha with ha | ha
    · exact r.dr a ha
    · rw [List.mem_singleton.mp ha]; exact r.not_r_new h
  · by_cases hi : i < w.m.length
    · have e' : w.m[i]? = some a := by
        have : (w.m ++ [p])[i]? = some a := e
        rwa [List.getElem?_append_left hi] at this
      have ec' : w.M[i]? = some c' := by
        have : (w.M ++ [c])[i]? = some c' := ec
        rwa [List.getElem?_append_left (by rw [← r.len]; exact hi)] at this
      refine (r.ok i a c' e' ec').le r (Le.cell r h) ?_
      show upd w.H p o a = w.H a
      rw [upd_ne (hne (List.mem_of_getElem? e'))]
    · have e' : (w.m ++ [p])[i]? = some a := e
      have ec' : (w.M ++ [c])[i]? = some c' := ec
      rw [List.getElem?_append_right (by omega)] at e'
      rw [List.getElem?_append_right (by rw [← r.len]; omega)] at ec'
      have h0 : i - w.m.length = 0 := by
        have := (List.getElem?_eq_some_iff.mp e').1
        simp at this; omega
      rw [h0] at e'
      rw [← r.len, h0] at ec'
      simp at e' ec'
      subst e' ec'
      exact hc
  · obtain ⟨xs, hx⟩ := r.rk a ha
    exact ⟨xs, by show upd w.H p o a = _; rw [upd_ne (ne_of_none hx h)]; exact hx⟩
theorem RH.cell_ix (r : RH K w) {p : Addr} {o : HO} {c : Cell} : Rep K (w.cell p o c) (.ref w.M.length) (.ref p) := by
  simp only [Rep]
  refine ⟨p, rfl, ?_⟩
  show (w.m ++ [p])[w.M.length]? = some p
  rw [← r.len]; simp
/-- a cell is written -/
def Wd.put (w : Wd) (i : Nat) (a : Addr) (o : HO) (c : Cell) : Wd := { w with M := w.M.set i c, H := upd w.H a o }
theorem Le.put {i : Nat} {a : Addr} {o : HO} {c c0 : Cell} (r : RH K w) (e : w.m[i]? = some a) (e0 : w.M[i]? = some c0) (h0 : c0 ≠ Cell.dead) : Le w (w.put i a o c) :=
  ⟨⟨[], by simp [Wd.put], by simp⟩, fun j h => by
    show (w.M.set i c)[j]? = _
    have hne : i ≠ j := fun z => by subst z; rw [e0] at h; cases h; exact h0 rfl
    rw [List.getElem?_set_ne hne]; exact h, fun b u hb n => by
    show upd w.H a o b = some u
    rw [upd_ne fun z => n (by subst z; exact ⟨i, c0, e, e0, h0⟩)]; exact hb, ⟨[], rfl, by simp⟩⟩
theorem nd_ix' {α : Type} {l : List α} (hN : l.Nodup) {i j : Nat} {x : α} (a : l[i]? = some x) (b : l[j]? = some x) : i = j := nd_ix hN a b
theorem RH.put {i : Nat} {a : Addr} {o : HO} {c c0 : Cell} (r : RH K w) (e : w.m[i]? = some a) (e0 : w.M[i]? = some c0) (h0 : c0 ≠ Cell.dead) (hc : CellOk K (w.put i a o c) a c) : RH K (w.put i a o c) := by
  refine ⟨by simp [Wd.put, r.len], r.nd, r.dr, fun j b c' ej ec => ?_, fun b hb => ?_⟩
  · by_cases hji : j = i
    · subst hji
      have : b = a := Option.some.inj ((show w.m[j]? = some b from ej).symm.trans e)
      subst this
      have ec' : (w.M.set j c)[j]? = some c' := ec
      rw [List.getElem?_set_self (List.getElem?_eq_some_iff.mp e0).1] at ec'
      cases ec'; exact hc
    · have ec' : (w.M.set i c)[j]? = some c' := ec
      rw [List.getElem?_set_ne (Ne.symm hji)] at ec'
      refine (r.ok j b c' ej ec').le r (Le.put r e e0 h0) ?_
      show upd w.H a o b = w.H b
      rw [upd_ne]
      rintro rfl
      exact hji (nd_ix r.nd ej e)
  · obtain ⟨xs, hx⟩ := r.rk b hb
    refine ⟨xs, ?_⟩
    show upd w.H a o b = _
    rw [upd_ne]; exact hx
    rintro rfl
    exact r.dr b (List.mem_of_getElem? e) hb
/-- a cell is never written again -/
def Wd.kill (w : Wd) (i : Nat) : Wd := { w with M := w.M.set i Cell.dead }
theorem Le.kill {i : Nat} : Le w (w.kill i) :=
  ⟨⟨[], by simp [Wd.kill], by simp⟩, fun j h => by
    show (w.M.set i Cell.dead)[j]? = _
    by_cases hj : i = j
    · subst hj; exact List.getElem?_set_self (List.getElem?_eq_some_iff.mp h).1
    · rw [List.getElem?_set_ne hj]; exact h, fun _ _ h _ => h, ⟨[], rfl, by simp⟩⟩
theorem RH.kill {i : Nat} (r : RH K w) : RH K (w.kill i) := by
  refine ⟨by simp [Wd.kill, r.len], r.nd, r.dr, fun j b c' ej ec => ?_, r.rk⟩
  have ec' : (w.M.set i Cell.dead)[j]? = some c' := ec
  by_cases hj : i = j
  · subst hj
    have hl : i < w.M.length := by
      have := (List.getElem?_eq_some_iff.mp ec').1
      simpa using this
    rw [List.getElem?_set_self hl] at ec'
    cases ec'
    obtain ⟨c, _, ok⟩ := r.at_ ej
    exact ok.there
  · rw [List.getElem?_set_ne hj] at ec'
    exact (r.ok j b c' ej ec').le r Le.kill rfl
theorem rep_kill {i : Nat} {a : Addr} {ds : List D} (r : RH K w) (e : w.m[i]? = some a) (ec : w.M[i]? = some (Cell.lst ds)) : Rep K (w.kill i) (.lst ds) (.ref a) := by
  obtain ⟨xs, h1, h2⟩ := r.ok i a _ e ec
  simp only [Rep]
  refine ⟨a, xs, rfl, h1, ?_, r.dr a (List.mem_of_getElem? e), RepL.le r Le.kill _ h2⟩
  rintro ⟨j, c, ej, ecj, nd⟩
  have hj : j = i := nd_ix r.nd ej e
  subst hj
  have ecj' : (w.M.set j Cell.dead)[j]? = some c := ecj
  rw [List.getElem?_set_self (List.getElem?_eq_some_iff.mp ec).1] at ecj'
  cases ecj'; exact nd rfl
/-! ### a list held back -/
def Wd.hold (w : Wd) (p : Addr) : Wd := { w with H := upd w.H p (.lst []), r := p :: w.r }
theorem Le.hold {p : Addr} (h : w.H p = none) : Le w (w.hold p) :=
  ⟨⟨[], by simp [Wd.hold], by simp⟩, fun _ h => h, fun a u e _ => by
    show upd w.H p _ a = some u
    rw [upd_ne (ne_of_none e h)]; exact e, ⟨[p], rfl, fun a ha => by rw [List.mem_singleton.mp ha]; exact h⟩⟩
theorem RH.hold {p : Addr} (r : RH K w) (h : w.H p = none) : RH K (w.hold p) := by
  refine ⟨r.len, r.nd, fun a ha z => ?_, fun i a c e ec => (r.ok i a c e ec).le r (Le.hold h) ?_, fun a ha => ?_⟩
  · rcases List.mem_cons.mp z with z | z
    · obtain ⟨u, hu⟩ := r.there ha
      rw [z, h] at hu; cases hu
    · exact r.dr a ha z
  · obtain ⟨u, hu⟩ := (r.ok i a c e ec).there
    show upd w.H p _ a = w.H a
    rw [upd_ne (ne_of_none hu h)]
  · rcases List.mem_cons.mp ha with z | z
    · subst z; exact ⟨[], upd_same⟩
    · obtain ⟨xs, hx⟩ := r.rk a z
      exact ⟨xs, by show upd w.H p _ a = _; rw [upd_ne (ne_of_none hx h)]; exact hx⟩
theorem RH.r_dead (r : RH K w) {p : Addr} (h : p ∈ w.r) : ¬ Live w p := by
  rintro ⟨i, c, e, _, _⟩
  exact r.dr p (List.mem_of_getElem? e) h
/-- the held list changes -/
def Wd.turn (w : Wd) (p : Addr) (ys : List V) : Wd := { w with H := upd w.H p (.lst ys) }
mutual
theorem Rep.turn {p : Addr} {xs ys : List V} (hp : p ∈ w.r) (hl : w.H p = some (.lst xs)) : ∀ (d : D) {v : V}, Rep K w d v → Rep K (w.turn p ys) d v
  | .non, _, h => by simpa [Rep] using h
  | .bl b, _, h => by simpa [Rep] using h
  | .int i, _, h => by simpa [Rep] using h
  | .str x, _, h => by simpa [Rep] using h
  | .con u, _, h => by simpa [Rep] using h
  | .exc a cls d fs, _, h => by
    simp only [Rep] at h ⊢
    obtain ⟨e, h | ⟨dd, e1, h1⟩⟩ := h
    · exact ⟨e, .inl h⟩
    · exact ⟨e, .inr ⟨dd, e1, by show upd w.H p _ dd = _; rw [upd_ne (ne_of h1 hl (by intro z; cases z))]; exact h1⟩⟩
  | .dct, _, h => by
    simp only [Rep] at h ⊢
    obtain ⟨a, zs, e, hs, nl, nr⟩ := h
    exact ⟨a, zs, e, by show upd w.H p _ a = _; rw [upd_ne (fun z => nr (by rw [z]; exact hp))]; exact hs, nl, nr⟩
  | .tup ds, _, h => by
    simp only [Rep] at h ⊢
    obtain ⟨a, zs, e, hs, hr⟩ := h
    refine ⟨a, zs, e, ?_, RepL.turn hp hl ds hr⟩
    rcases hs with (hs | ⟨o, hs⟩) | hs
    · exact .inl (.inl (by show upd w.H p _ a = _; rw [upd_ne (ne_of hs hl (by intro z; cases z))]; exact hs))
    · exact .inl (.inr ⟨o, by show upd w.H p _ a = _; rw [upd_ne (ne_of hs hl (by intro z; cases z))]; exact hs⟩)
    · exact .inr hs
  | .lst ds, _, h => by
    simp only [Rep] at h ⊢
    obtain ⟨a, zs, e, hs, nl, nr, hr⟩ := h
    refine ⟨a, zs, e, by show upd w.H p _ a = _; rw [upd_ne (fun z => nr (by rw [z]; exact hp))]; exact hs, nl, nr, RepL.turn hp hl ds hr⟩
  | .scr ns, _, h => by
    simp only [Rep] at h ⊢
    obtain ⟨a, e, h | h⟩ := h
    · obtain ⟨o, h⟩ := h
      exact ⟨a, e, .inl ⟨o, by show upd w.H p _ a = _; rw [upd_ne (ne_of h hl (by intro z; cases z))]; exact h⟩⟩
    · exact ⟨a, e, .inr h⟩
  | .ref i, _, h => by simp only [Rep] at h ⊢; exact h
theorem RepL.turn {p : Addr} {xs ys : List V} (hp : p ∈ w.r) (hl : w.H p = some (.lst xs)) : ∀ (ds : List D) {vs : List V}, RepL K w ds vs → RepL K (w.turn p ys) ds vs
  | [], _, h => by simpa [RepL] using h
  | d :: ds, _, h => by
    simp only [RepL] at h ⊢
    obtain ⟨x, r', e, h1, h2⟩ := h
    exact ⟨x, r', e, Rep.turn hp hl d h1, RepL.turn hp hl ds h2⟩
end
theorem RH.turn {p : Addr} {xs ys : List V} (r : RH K w) (hp : p ∈ w.r) (hl : w.H p = some (.lst xs)) : RH K (w.turn p ys) := by
  have hne : ∀ {a : Addr}, a ∈ w.m → upd w.H p (.lst ys) a = w.H a := fun {a} ha => upd_ne fun z => r.dr a ha (by rw [z]; exact hp)
  refine ⟨r.len, r.nd, r.dr, fun i a c e ec => ?_, fun a ha => ?_⟩
  · have h := r.ok i a c e ec
    have e2 : (w.turn p ys).H a = w.H a := hne (List.mem_of_getElem? e)
    cases c with
    | lst ds => obtain ⟨xs, h1, h2⟩ := h; exact ⟨xs, e2.trans h1, RepL.turn hp hl _ h2⟩
    | dic kvs => obtain ⟨xs, h1, h2⟩ := h; exact ⟨xs, e2.trans h1, h2.1, RepL.turn hp hl _ h2.2⟩
    | dit kvs => obtain ⟨xs, h1, h2⟩ := h; exact ⟨xs, e2.trans h1, h2.1, RepL.turn hp hl _ h2.2⟩
    | ins C fs => obtain ⟨dx, gs, h1, h2⟩ := h; exact ⟨dx, gs, e2.trans h1, h2.1, RepL.turn hp hl _ h2.2⟩
    | dead => obtain ⟨u, h⟩ := h; exact ⟨u, e2.trans h⟩
  · by_cases z : a = p
    · subst z; exact ⟨ys, upd_same⟩
    · obtain ⟨xs, hx⟩ := r.rk a ha
      exact ⟨xs, by show upd w.H p _ a = _; rw [upd_ne z]; exact hx⟩
/-! what is held back is let go -/
mutual
theorem Rep.drop {s : List Addr} (hs : ∀ a ∈ s, a ∈ w.r) : ∀ (d : D) {v : V}, Rep K w d v → Rep K { w with r := s } d v
  | .non, _, h => by simpa [Rep] using h
  | .bl b, _, h => by simpa [Rep] using h
  | .int i, _, h => by simpa [Rep] using h
  | .str x, _, h => by simpa [Rep] using h
  | .con u, _, h => by simpa [Rep] using h
  | .exc a cls d fs, _, h => by simp only [Rep] at h ⊢; exact h
  | .dct, _, h => by
    simp only [Rep] at h ⊢
    obtain ⟨a, zs, e, h1, nl, nr⟩ := h
    exact ⟨a, zs, e, h1, nl, fun z => nr (hs a z)⟩
  | .tup ds, _, h => by
    simp only [Rep] at h ⊢
    obtain ⟨a, zs, e, h1, hr⟩ := h
    exact ⟨a, zs, e, h1, RepL.dropr hs ds hr⟩
  | .lst ds, _, h => by
    simp only [Rep] at h ⊢
    obtain ⟨a, zs, e, h1, nl, nr, hr⟩ := h
    exact ⟨a, zs, e, h1, nl, fun z => nr (hs a z), RepL.dropr hs ds hr⟩
  | .scr ns, _, h => by simp only [Rep] at h ⊢; exact h
  | .ref i, _, h => by simp only [Rep] at h ⊢; exact h
theorem RepL.dropr {s : List Addr} (hs : ∀ a ∈ s, a ∈ w.r) : ∀ (ds : List D) {vs : List V}, RepL K w ds vs → RepL K { w with r := s } ds vs
  | [], _, h => by simpa [RepL] using h
  | d :: ds, _, h => by
    simp only [RepL] at h ⊢
    obtain ⟨x, r', e, h1, h2⟩ := h
    exact ⟨x, r', e, Rep.drop hs d h1, RepL.dropr hs ds h2⟩
end
theorem RH.drop {s : List Addr} (r : RH K w) (hs : ∀ a ∈ s, a ∈ w.r) : RH K { w with r := s } := by
  refine ⟨r.len, r.nd, fun a ha z => r.dr a ha (hs a z), fun i a c e ec => ?_, fun a ha => r.rk a (hs a ha)⟩
  have h := r.ok i a c e ec
  cases c with
  | lst ds => obtain ⟨xs, h1, h2⟩ := h; exact ⟨xs, h1, RepL.dropr hs _ h2⟩
  | dic kvs => obtain ⟨xs, h1, h2⟩ := h; exact ⟨xs, h1, h2.1, RepL.dropr hs _ h2.2⟩
  | dit kvs => obtain ⟨xs, h1, h2⟩ := h; exact ⟨xs, h1, h2.1, RepL.dropr hs _ h2.2⟩
  | ins C fs => obtain ⟨dx, gs, h1, h2⟩ := h; exact ⟨dx, gs, h1, h2.1, RepL.dropr hs _ h2.2⟩
  | dead => exact h
end MD
/-! MD: judgements over data, their lifting to the layer's readings. -/
namespace MD
open PySem PySem.Spec PyProof.Rows L2

variable {K : PySem.W.Frag} {w w1 w2 : Wd}
/-- the class that a name of the module, or of the built-ins, stands for -/
def ClsOf (K : PySem.W.Frag) (n : Str) (c : Value) : Prop := PySem.W.nsIn K mainGlobals n = some (some c) ∨ (PySem.W.nsIn K mainGlobals n = some none ∧ bootBuiltins n = some c)
theorem ClsOf.one {K : PySem.W.Frag} {n : Str} {c c' : Value} (h : ClsOf K n c) (k : ClsOf K n c') : c = c' := by
  rcases h with h | ⟨h, h2⟩ <;> rcases k with k | ⟨k, k2⟩
  · rw [h] at k; exact Option.some.inj (Option.some.inj k)
  · rw [h] at k; cases k
  · rw [h] at k; cases k
  · rw [h2] at k2; exact Option.some.inj k2
/-- an exception: its class by name, its fields -/
structure Xc where
  cls : Str
  fs : List (Str × Lit)
def fsV (fs : List (Str × Lit)) : List (Str × V) := fs.map fun p => (p.1, p.2.v)
def RepX (K : PySem.W.Frag) (w : Wd) (x : Xc) (cls : Value) (dx : Option Addr) : Prop :=
  ClsOf K x.cls cls ∧ ((dx = none ∧ x.fs = []) ∨ ∃ a, dx = some a ∧ w.H a = some (.xd (fsV x.fs)))
theorem RepX.le (r : RH K w) (l : Le w w1) {x : Xc} {cls : Value} {dx : Option Addr} (h : RepX K w x cls dx) : RepX K w1 x cls dx := by
  obtain ⟨e, h | ⟨a, e1, h1⟩⟩ := h
  · exact ⟨e, .inl h⟩
  · exact ⟨e, .inr ⟨a, e1, l.keep a _ h1 (r.kind_dead h1 rfl)⟩⟩

abbrev EnvD := List (Option D)
abbrev QE := D → MH → Prop
abbrev QX := Xc → MH → Prop
abbrev TE' := EnvD → MH → QE → QX → Prop
abbrev TT' := EnvD → MH → (Bool → MH → Prop) → QX → Prop
abbrev TA' := EnvD → MH → (List D → MH → Prop) → QX → Prop
structure Ends' where
  nx : EnvD → MH → Prop
  rt : QE
  bk : EnvD → MH → Prop := fun _ _ => False
  ct : EnvD → MH → Prop := fun _ _ => False
  ex : Xc → EnvD → MH → Prop := fun _ _ _ => False
abbrev TS' := Ends' → EnvD → MH → Prop
abbrev TG' := D → EnvD → MH → (EnvD → MH → Prop) → Prop

def MonoE (t : TE') : Prop := ∀ δ M (Q Q' : QE) (E E' : QX), (∀ d M, Q d M → Q' d M) → (∀ x M, E x M → E' x M) → t δ M Q E → t δ M Q' E'
def MonoT (t : TT') : Prop := ∀ δ M (Q Q' : Bool → MH → Prop) (E E' : QX), (∀ d M, Q d M → Q' d M) → (∀ x M, E x M → E' x M) → t δ M Q E → t δ M Q' E'
def MonoA (t : TA') : Prop := ∀ δ M (Q Q' : List D → MH → Prop) (E E' : QX), (∀ d M, Q d M → Q' d M) → (∀ x M, E x M → E' x M) → t δ M Q E → t δ M Q' E'
structure Ends'.le (D D' : Ends') : Prop where
  nx : ∀ δ M, D.nx δ M → D'.nx δ M
  rt : ∀ d M, D.rt d M → D'.rt d M
  bk : ∀ δ M, D.bk δ M → D'.bk δ M
  ct : ∀ δ M, D.ct δ M → D'.ct δ M
  ex : ∀ x δ M, D.ex x δ M → D'.ex x δ M
theorem Ends'.le.refl (D : Ends') : D.le D := ⟨fun _ _ h => h, fun _ _ h => h, fun _ _ h => h, fun _ _ h => h, fun _ _ _ h => h⟩
def MonoS (t : TS') : Prop := ∀ δ M (D D' : Ends'), D.le D' → t D δ M → t D' δ M
def MonoG (g : TG') : Prop := ∀ d δ M (Q Q' : EnvD → MH → Prop), (∀ δ M, Q δ M → Q' δ M) → g d δ M Q → g d δ M Q'

/-! ### slots -/
def RepS (K : PySem.W.Frag) (w : Wd) (δ : EnvD) (σ : L2.St) : Prop := δ.length = σ.length ∧ ∀ (i : Nat) (d : D), δ[i]? = some (some d) → ∃ v, σ[i]? = some (some v) ∧ Rep K w d v
theorem RepS.le {δ : EnvD} {σ : L2.St} (r : RH K w) (l : Le w w1) (h : RepS K w δ σ) : RepS K w1 δ σ :=
  ⟨h.1, fun i d e => let ⟨v, e1, h1⟩ := h.2 i d e; ⟨v, e1, Rep.le r l d h1⟩⟩
theorem RepS.set {δ : EnvD} {σ : L2.St} (h : RepS K w δ σ) (i : Nat) {d : D} {v : V} (hd : Rep K w d v) : RepS K w (δ.set i (some d)) (σ.set i (some v)) := by
  refine ⟨by simp [h.1], fun j e q => ?_⟩
  by_cases hj : i = j
  · subst hj
    have hi : i < δ.length := by
      have := (List.getElem?_eq_some_iff.mp q).1
      simpa using this
    rw [List.getElem?_set_self hi] at q
    cases q
    exact ⟨v, List.getElem?_set_self (by rw [← h.1]; exact hi), hd⟩
  · rw [List.getElem?_set_ne hj] at q
    obtain ⟨u, e1, h1⟩ := h.2 j e q
    exact ⟨u, by rw [List.getElem?_set_ne hj]; exact e1, h1⟩
theorem RepS.wipe1 {δ : EnvD} {σ : L2.St} (h : RepS K w δ σ) (i : Nat) (x : Option V) : RepS K w (δ.set i none) (σ.set i x) := by
  refine ⟨by simp [h.1], fun j e q => ?_⟩
  by_cases hj : i = j
  · subst hj
    have hi : i < δ.length := by
      have := (List.getElem?_eq_some_iff.mp q).1
      simpa using this
    rw [List.getElem?_set_self hi] at q
    cases q
  · rw [List.getElem?_set_ne hj] at q
    obtain ⟨u, e1, h1⟩ := h.2 j e q
    exact ⟨u, by rw [List.getElem?_set_ne hj]; exact e1, h1⟩

/-! ### lifted wishes -/
def PV (K : PySem.W.Frag) (w : Wd) (Q : VK) : QE := fun d M1 => ∀ v w1, w1.M = M1 → Le w w1 → RH K w1 → Rep K w1 d v → Q v w1.H
def PB (K : PySem.W.Frag) (w : Wd) (Q : Bool → Hp → Prop) : Bool → MH → Prop := fun b M1 => ∀ w1, w1.M = M1 → Le w w1 → RH K w1 → Q b w1.H
def PL (K : PySem.W.Frag) (w : Wd) (Q : List V → Hp → Prop) : List D → MH → Prop := fun ds M1 => ∀ vs w1, w1.M = M1 → Le w w1 → RH K w1 → RepL K w1 ds vs → Q vs w1.H
def PX (K : PySem.W.Frag) (w : Wd) (W : Value → Option Addr → Hp → Prop) : QX := fun x M1 => ∀ cls dx w1, w1.M = M1 → Le w w1 → RH K w1 → RepX K w1 x cls dx → W cls dx w1.H
def PN (K : PySem.W.Frag) (w : Wd) (Q : L2.St → Hp → Prop) : EnvD → MH → Prop := fun δ M1 => ∀ σ w1, w1.M = M1 → Le w w1 → RH K w1 → RepS K w1 δ σ → Q σ w1.H
theorem PV.le {Q : VK} {d : D} {M : MH} (r : RH K w) (r1 : RH K w1) (l : Le w w1) (h : PV K w Q d M) : PV K w1 Q d M := fun v w2 e l2 r2 q => h v w2 e (l.trans r r1 l2) r2 q
theorem PB.le {Q : Bool → Hp → Prop} {d : Bool} {M : MH} (r : RH K w) (r1 : RH K w1) (l : Le w w1) (h : PB K w Q d M) : PB K w1 Q d M := fun w2 e l2 r2 => h w2 e (l.trans r r1 l2) r2
theorem PL.le {Q : List V → Hp → Prop} {d : List D} {M : MH} (r : RH K w) (r1 : RH K w1) (l : Le w w1) (h : PL K w Q d M) : PL K w1 Q d M := fun v w2 e l2 r2 q => h v w2 e (l.trans r r1 l2) r2 q
theorem PX.le {W : Value → Option Addr → Hp → Prop} {d : Xc} {M : MH} (r : RH K w) (r1 : RH K w1) (l : Le w w1) (h : PX K w W d M) : PX K w1 W d M := fun c v w2 e l2 r2 q => h c v w2 e (l.trans r r1 l2) r2 q
theorem PN.le {Q : L2.St → Hp → Prop} {δ : EnvD} {M : MH} (r : RH K w) (r1 : RH K w1) (l : Le w w1) (h : PN K w Q δ M) : PN K w1 Q δ M := fun v w2 e l2 r2 q => h v w2 e (l.trans r r1 l2) r2 q

def up (K : PySem.W.Frag) (W : WX) (t : TE') : TE := fun σ H Q => ∃ (w : Wd) (δ : EnvD), w.H = H ∧ RH K w ∧ RepS K w δ σ ∧ t δ w.M (PV K w Q) (PX K w fun c d H => W c d σ H)
def upT (K : PySem.W.Frag) (W : WX) (t : TT') : TT := fun σ H Q => ∃ (w : Wd) (δ : EnvD), w.H = H ∧ RH K w ∧ RepS K w δ σ ∧ t δ w.M (PB K w Q) (PX K w fun c d H => W c d σ H)
def upA (K : PySem.W.Frag) (W : WX) (t : TA') : TA := fun σ H Q => ∃ (w : Wd) (δ : EnvD), w.H = H ∧ RH K w ∧ RepS K w δ σ ∧ t δ w.M (PL K w Q) (PX K w fun c d H => W c d σ H)
def PXS (K : PySem.W.Frag) (w : Wd) (W : WX) : Xc → EnvD → MH → Prop := fun x δ M1 => ∀ cls dx σ w1, w1.M = M1 → Le w w1 → RH K w1 → RepS K w1 δ σ → RepX K w1 x cls dx → W cls dx σ w1.H
theorem PXS.le {W : WX} {d : Xc} {δ : EnvD} {M : MH} (r : RH K w) (r1 : RH K w1) (l : Le w w1) (h : PXS K w W d δ M) : PXS K w1 W d δ M := fun c v σ w2 e l2 r2 s q => h c v σ w2 e (l.trans r r1 l2) r2 s q
def endsD (K : PySem.W.Frag) (w : Wd) (W : WX) (D : Ends) : Ends' := { nx := PN K w D.nx, rt := PV K w D.rt, bk := PN K w D.bk, ct := PN K w D.ct, ex := PXS K w W }
theorem endsD.le {W : WX} {D : Ends} (r : RH K w) (r1 : RH K w1) (l : Le w w1) : (endsD K w W D).le (endsD K w1 W D) :=
  ⟨fun _ _ h => h.le r r1 l, fun _ _ h => h.le r r1 l, fun _ _ h => h.le r r1 l, fun _ _ h => h.le r r1 l, fun _ _ _ h => h.le r r1 l⟩
def upS (K : PySem.W.Frag) (W : WX) (t : TS') : TS := fun D σ H => ∃ (w : Wd) (δ : EnvD), w.H = H ∧ RH K w ∧ RepS K w δ σ ∧ t (endsD K w W D) δ w.M
def upG (K : PySem.W.Frag) (g : TG') : TG := fun v σ H Q => ∃ (w : Wd) (δ : EnvD) (d : D), w.H = H ∧ RH K w ∧ RepS K w δ σ ∧ Rep K w d v ∧ g d δ w.M (PN K w Q)

structure ME (X : Cx) (W : WX) (e : Expr) (t : TE') : Prop where
  pe : PE X e (up X.K W t)
  mono : MonoE t
structure MT (X : Cx) (W : WX) (e : Expr) (t : TT') : Prop where
  pt : PT X e (upT X.K W t)
  mono : MonoT t
structure MW (X : Cx) (W : WX) (e : Expr) (t : TT') : Prop where
  pw : PW X e (upT X.K W t)
  mono : MonoT t
structure MA (X : Cx) (W : WX) (e : List Expr) (t : TA') : Prop where
  pa : PA X e (upA X.K W t)
  mono : MonoA t
structure MS (X : Cx) (W : WX) (st : Stmt) (t : TS') : Prop where
  ps : PS X st (upS X.K W t)
  mono : MonoS t
structure MSs (X : Cx) (W : WX) (st : List Stmt) (t : TS') : Prop where
  ps : PSs X st (upS X.K W t)
  mono : MonoS t
structure MG (X : Cx) (e : Expr) (g : TG') : Prop where
  pg : PG X e (upG X.K g)
  mono : MonoG g

/-! ### weaker readings -/
variable {X : Cx} {W : WX} {e a b c : Expr} {pos : Pos}
theorem PE.imp {t t' : TE} (h : PE X e t) (i : ∀ σ H Q, t' σ H Q → t σ H Q) : PE X e t' := ⟨fun pins s σ H Q I q => h.run pins s σ H Q I (i _ _ _ q)⟩
theorem PT.imp {t t' : TT} (h : PT X e t) (i : ∀ σ H Q, t' σ H Q → t σ H Q) : PT X e t' := ⟨fun pins s σ H Q I q => h.run pins s σ H Q I (i _ _ _ q)⟩
theorem PW.imp {t t' : TT} (h : PW X e t) (i : ∀ σ H Q, t' σ H Q → t σ H Q) : PW X e t' := ⟨fun wh pins s σ H Q I q => h.run wh pins s σ H Q I (i _ _ _ q)⟩
theorem PA.imp {es : List Expr} {t t' : TA} (h : PA X es t) (i : ∀ σ H Q, t' σ H Q → t σ H Q) : PA X es t' := ⟨fun p pins s σ H Q I q => h.run p pins s σ H Q I (i _ _ _ q)⟩
theorem PS.imp {st : Stmt} {t t' : TS} (h : PS X st t) (i : ∀ D σ H, t' D σ H → t D σ H) : PS X st t' := ⟨fun pins s σ H Q I q => h.run pins s σ H Q I (i _ _ _ q)⟩
theorem PSs.imp {st : List Stmt} {t t' : TS} (h : PSs X st t) (i : ∀ D σ H, t' D σ H → t D σ H) : PSs X st t' := ⟨fun pins s σ H Q I q => h.run pins s σ H Q I (i _ _ _ q)⟩

/-! ### values -/
def tVar' (i : Nat) : TE' := fun δ M Q _ => ∃ d, δ[i]? = some (some d) ∧ Q d M
def tC' (d : D) : TE' := fun _ M Q _ => Q d M
theorem mono_var {i : Nat} : MonoE (tVar' i) := fun _ _ _ _ _ _ q _ ⟨d, e, h⟩ => ⟨d, e, q _ _ h⟩
theorem mono_c {d : D} : MonoE (tC' d) := fun _ _ _ _ _ _ q _ h => q _ _ h
theorem mv (i : Nat) {x : Str} {pos : Pos} (hN : X.N[i]? = some x := by rfl) (hv : Vis X.env.scope x := by first | exact Or.inl rfl | exact Or.inr (Or.inl rfl) | exact Or.inr (Or.inr rfl)) (hd : (x == ("__debug__" : Str)) = false := by decide)
    (hcd : (x == ("__classdict__" : Str)) = false := by decide) : ME X W (.Name x pos) (tVar' i) :=
  ⟨PE.imp (pe_var hN hv hd hcd) fun σ H Q ⟨w, δ, e, r, s, d, ed, q⟩ => by
    obtain ⟨v, ev, hr⟩ := s.2 i d ed
    subst e
    exact ⟨v, ev, q v w rfl (Le.refl w) r hr⟩, mono_var⟩
theorem me_c {v : V} {d : D} (h : PE X e (tC v)) (hr : ∀ w, Rep X.K w d v) : ME X W e (tC' d) :=
  ⟨PE.imp h fun σ H Q ⟨w, δ, e, r, s, q⟩ => by
    subst e
    exact q v w rfl (Le.refl w) r (hr w), mono_c⟩
theorem me_int {i : Int} {j : Nat} : ME X W (.Constant (.int i) j pos) (tC' (.int i)) := me_c pe_int fun _ => by simp [Rep]
theorem me_bl {i : Bool} {j : Nat} : ME X W (.Constant (.bool i) j pos) (tC' (.bl i)) := me_c pe_bl fun _ => by simp [Rep]
theorem me_non {j : Nat} : ME X W (.Constant .none j pos) (tC' .non) := me_c pe_non fun _ => by simp [Rep]
theorem me_str {x : Str} {j : Nat} : ME X W (.Constant (.str x) j pos) (tC' (.str x)) := me_c pe_str fun _ => by simp [Rep]
/-- a constant of the module -/
theorem me_glob {x : Str} {d : D} {v : V} {u : Value} (hg : Gl X x) (hm : X.mg x = some u) (r : RelV v u) (hr : ∀ w, Rep X.K w d v) (hd : (x == ("__debug__" : Str)) = false := by decide) : ME X W (.Name x pos) (tC' d) := me_c (pe_glob hg hm r hd) hr

/-! ### operators by values -/
abbrev R2' := D → D → MH → QE → Prop
abbrev R1' := D → MH → QE → Prop
abbrev RA' := List D → MH → QE → Prop
def Lift2 (K : PySem.W.Frag) (r : R2) (r' : R2') : Prop := ∀ (w : Wd) (x y : V) (dx dy : D) (Q : VK), RH K w → Rep K w dx x → Rep K w dy y → r' dx dy w.M (PV K w Q) → r x y w.H Q
def Lift1 (K : PySem.W.Frag) (r : V → Hp → VK → Prop) (r' : R1') : Prop := ∀ (w : Wd) (x : V) (dx : D) (Q : VK), RH K w → Rep K w dx x → r' dx w.M (PV K w Q) → r x w.H Q
def LiftA (K : PySem.W.Frag) (r : List V → Hp → VK → Prop) (r' : RA') : Prop := ∀ (w : Wd) (xs : List V) (ds : List D) (Q : VK), RH K w → RepL K w ds xs → r' ds w.M (PV K w Q) → r xs w.H Q
def Mono2 (r : R2') : Prop := ∀ x y M (Q Q' : QE), (∀ d M, Q d M → Q' d M) → r x y M Q → r x y M Q'
def Mono1 (r : R1') : Prop := ∀ x M (Q Q' : QE), (∀ d M, Q d M → Q' d M) → r x M Q → r x M Q'
def MonoR (r : RA') : Prop := ∀ x M (Q Q' : QE), (∀ d M, Q d M → Q' d M) → r x M Q → r x M Q'
def tOp' (r : R2') (ta tb : TE') : TE' := fun δ M Q E => ta δ M (fun x M1 => tb δ M1 (fun y M2 => r x y M2 Q) E) E
def tUn' (r : R1') (ta : TE') : TE' := fun δ M Q E => ta δ M (fun x M1 => r x M1 Q) E
theorem mono_op {r : R2'} {ta tb : TE'} (hr : Mono2 r) (ha : MonoE ta) (hb : MonoE tb) : MonoE (tOp' r ta tb) := fun δ M Q Q' E E' q x h =>
  ha δ M _ _ E E' (fun d M1 h1 => hb δ M1 _ _ E E' (fun d2 M2 h2 => hr _ _ _ _ _ q h2) x h1) x h
theorem mono_un {r : R1'} {ta : TE'} (hr : Mono1 r) (ha : MonoE ta) : MonoE (tUn' r ta) := fun δ M Q Q' E E' q x h =>
  ha δ M _ _ E E' (fun d M1 h1 => hr _ _ _ _ q h1) x h
/-- the step: what holds of an expression's data, at its end -/
theorem up_go {ta : TE'} (ma : MonoE ta) {σ : L2.St} {δ : EnvD} {G : VK} {Q0 : QE} {E0 : QX} {w : Wd} (r : RH K w) (s : RepS K w δ σ) (h : ta δ w.M Q0 E0)
    (hE : ∀ x M, E0 x M → PX K w (fun c d H => W c d σ H) x M)
    (hG : ∀ d v w1, Le w w1 → RH K w1 → RepS K w1 δ σ → Rep K w1 d v → Q0 d w1.M → G v w1.H) : up K W ta σ w.H G :=
  ⟨w, δ, rfl, r, s, ma _ _ _ _ _ _ (fun d M q v w1 e l r1 rv => by subst e; exact hG d v w1 l r1 (s.le r l) rv q) hE h⟩
theorem op2_lift {r : R2} {r' : R2'} {ta tb : TE'} (L : Lift2 K r r') (mr : Mono2 r') (ma : MonoE ta) (mb : MonoE tb) (σ : L2.St) (H : Hp) (Q : VK) (h : up K W (tOp' r' ta tb) σ H Q) : tOp r (up K W ta) (up K W tb) σ H Q := by
  obtain ⟨w, δ, rfl, rh, rs, h⟩ := h
  refine up_go ma rh rs h (fun _ _ x => x) fun dx vx w1 l1 rh1 rs1 rx h1 => ?_
  refine up_go mb rh1 rs1 h1 (fun _ _ x => x.le rh rh1 l1) fun dy vy w2 l2 rh2 rs2 ry h2 => ?_
  refine L w2 vx vy dx dy Q rh2 (rx.le rh1 l2) ry (mr _ _ _ _ _ (fun d M q => (q.le rh rh1 l1).le rh1 rh2 l2) h2)
theorem me_op {op : Operator} {r : R2} {r' : R2'} {ta tb : TE'} (ho : OpR X (binaryOp op) r) (L : Lift2 X.K r r') (mr : Mono2 r') (ha : ME X W a ta) (hb : ME X W b tb) : ME X W (.BinOp a op b pos) (tOp' r' ta tb) :=
  ⟨PE.imp (pe_op ho ha.pe hb.pe) (op2_lift L mr ha.mono hb.mono), mono_op mr ha.mono hb.mono⟩
theorem me_cmp {op : CmpOp} {r : R2} {r' : R2'} {ta tb : TE'} (ho : OpR X (compareOp op) r) (L : Lift2 X.K r r') (mr : Mono2 r') (ha : ME X W a ta) (hb : ME X W b tb) (hm : behindInMarks op b = false) : ME X W (.Compare a [op] [b] pos) (tOp' r' ta tb) :=
  ⟨PE.imp (pe_cmpR ho ha.pe hb.pe hm) (op2_lift L mr ha.mono hb.mono), mono_op mr ha.mono hb.mono⟩
theorem me_ix {r : R2} {r' : R2'} {ta tb : TE'} (ho : IxR X r) (L : Lift2 X.K r r') (mr : Mono2 r') (ha : ME X W a ta) (hb : ME X W b tb) (hs : PlainIx b) : ME X W (.Subscript a b pos) (tOp' r' ta tb) :=
  ⟨PE.imp (pe_ix ho ha.pe hb.pe hs) (op2_lift L mr ha.mono hb.mono), mono_op mr ha.mono hb.mono⟩
theorem me_un {op : UnaryOp} {r : V → Hp → VK → Prop} {r' : R1'} {ta : TE'} (ho : UnR X (unaryOp op) r) (L : Lift1 X.K r r') (mr : Mono1 r') (ha : ME X W a ta) : ME X W (.UnaryOp op a pos) (tUn' r' ta) :=
  ⟨PE.imp (pe_un ho ha.pe) fun σ H Q ⟨w, δ, e, rh, rs, h⟩ => by
    subst e
    refine up_go ha.mono rh rs h (fun _ _ x => x) fun dx vx w1 l1 rh1 rs1 rx h1 => ?_
    exact L w1 vx dx Q rh1 rx (mr _ _ _ _ (fun d M q => q.le rh rh1 l1) h1), mono_un mr ha.mono⟩

/-! ### tests -/
def tB' (t : TE') : TT' := fun δ M Q E => t δ M (fun d M1 => ∃ c, d = .bl c ∧ Q c M1) E
theorem mono_B {t : TE'} (h : MonoE t) : MonoT (tB' t) := fun δ M Q Q' E E' q x hh => h δ M _ _ E E' (fun d M1 ⟨c, e, h1⟩ => ⟨c, e, q _ _ h1⟩) x hh
theorem rep_bl {v : V} {b : Bool} (h : Rep K w (.bl b) v) : v = .bl b := by simpa [Rep] using h
theorem rep_int {v : V} {i : Int} (h : Rep K w (.int i) v) : v = .int i := by simpa [Rep] using h
theorem rep_str {v : V} {i : Str} (h : Rep K w (.str i) v) : v = .str i := by simpa [Rep] using h
theorem rep_non {v : V} (h : Rep K w .non v) : v = .non := by simpa [Rep] using h
theorem mt_cmp {op : CmpOp} {r : R2} {r' : R2'} {ta tb : TE'} (ho : OpR X (compareOp op) r) (L : Lift2 X.K r r') (mr : Mono2 r') (ha : ME X W a ta) (hb : ME X W b tb) (hm : behindInMarks op b = false) : MT X W (.Compare a [op] [b] pos) (tB' (tOp' r' ta tb)) :=
  ⟨PT.imp (pt_cmpR ho ha.pe hb.pe hm) fun σ H Q ⟨w, δ, e, rh, rs, h⟩ => by
    refine op2_lift L mr ha.mono hb.mono σ H (fun x H' => ∃ k, x = .bl k ∧ Q k H') ⟨w, δ, e, rh, rs, ?_⟩
    refine mono_op mr ha.mono hb.mono _ _ _ _ _ _ (fun d M ⟨c, e, h1⟩ v w1 e1 l r1 rv => ?_) (fun _ _ x => x) h
    subst e
    exact ⟨c, rep_bl rv, h1 w1 e1 l r1⟩, mono_B (mono_op mr ha.mono hb.mono)⟩
theorem mt_val {t : TE'} (h : ME X W e t) (he : ∀ whole, isTrue e X.env whole = (do let v ← whole; standAt e.pos; holding [v] (truthy v)) := by intro _; rfl) : MT X W e (tB' t) :=
  ⟨PT.imp (pt_val h.pe he) fun σ H Q ⟨w, δ, e, rh, rs, h1⟩ => ⟨w, δ, e, rh, rs, h.mono _ _ _ _ _ _ (fun d M ⟨c, e2, h2⟩ v w1 e1 l r1 rv => by
    subst e2; exact ⟨c, rep_bl rv, h2 w1 e1 l r1⟩) (fun _ _ x => x) h1⟩, mono_B h.mono⟩
def tAnd' (t u : TT') : TT' := fun δ M Q E => t δ M (fun c M1 => if c = true then u δ M1 Q E else Q false M1) E
def tOr' (t u : TT') : TT' := fun δ M Q E => t δ M (fun c M1 => if c = true then Q true M1 else u δ M1 Q E) E
def tNot' (t : TT') : TT' := fun δ M Q E => t δ M (fun c M1 => Q (!c) M1) E
theorem mono_and {t u : TT'} (h : MonoT t) (k : MonoT u) : MonoT (tAnd' t u) := fun δ M Q Q' E E' q x hh => h δ M _ _ E E' (fun c M1 h1 => by
  cases c with
  | true => exact k _ _ _ _ _ _ q x h1
  | false => exact q _ _ h1) x hh
theorem mono_or {t u : TT'} (h : MonoT t) (k : MonoT u) : MonoT (tOr' t u) := fun δ M Q Q' E E' q x hh => h δ M _ _ E E' (fun c M1 h1 => by
  cases c with
  | false => exact k _ _ _ _ _ _ q x h1
  | true => exact q _ _ h1) x hh
theorem mono_not {t : TT'} (h : MonoT t) : MonoT (tNot' t) := fun δ M Q Q' E E' q x hh => h δ M _ _ E E' (fun c M1 h1 => q _ _ h1) x hh
theorem upT_go {t : TT'} (ma : MonoT t) {σ : L2.St} {δ : EnvD} {G : Bool → Hp → Prop} {Q0 : Bool → MH → Prop} {E0 : QX} {w : Wd} (r : RH K w) (s : RepS K w δ σ) (h : t δ w.M Q0 E0)
    (hE : ∀ x M, E0 x M → PX K w (fun c d H => W c d σ H) x M)
    (hG : ∀ b w1, Le w w1 → RH K w1 → RepS K w1 δ σ → Q0 b w1.M → G b w1.H) : upT K W t σ w.H G :=
  ⟨w, δ, rfl, r, s, ma _ _ _ _ _ _ (fun d M q w1 e l r1 => by subst e; exact hG d w1 l r1 (s.le r l) q) hE h⟩
theorem and_lift {t u : TT'} (mt : MonoT t) (mu : MonoT u) (σ : L2.St) (H : Hp) (Q : Bool → Hp → Prop) (h : upT K W (tAnd' t u) σ H Q) : tAnd (upT K W t) (upT K W u) σ H Q := by
  obtain ⟨w, δ, rfl, rh, rs, h⟩ := h
  refine upT_go mt rh rs h (fun _ _ x => x) fun c w1 l1 rh1 rs1 h1 => ?_
  cases c with
  | true => exact upT_go mu rh1 rs1 h1 (fun _ _ x => x.le rh rh1 l1) fun c w2 l2 rh2 rs2 h2 => h2 w2 rfl (l1.trans rh rh1 l2) rh2
  | false => exact h1 w1 rfl l1 rh1
theorem or_lift {t u : TT'} (mt : MonoT t) (mu : MonoT u) (σ : L2.St) (H : Hp) (Q : Bool → Hp → Prop) (h : upT K W (tOr' t u) σ H Q) : tOr (upT K W t) (upT K W u) σ H Q := by
  obtain ⟨w, δ, rfl, rh, rs, h⟩ := h
  refine upT_go mt rh rs h (fun _ _ x => x) fun c w1 l1 rh1 rs1 h1 => ?_
  cases c with
  | false => exact upT_go mu rh1 rs1 h1 (fun _ _ x => x.le rh rh1 l1) fun c w2 l2 rh2 rs2 h2 => h2 w2 rfl (l1.trans rh rh1 l2) rh2
  | true => exact h1 w1 rfl l1 rh1
theorem mw_and1 {t : TT'} (h : MT X W a t) : MW X W (.BoolOp .And [a] pos) t := ⟨pw_and1 h.pt, h.mono⟩
theorem mw_or1 {t : TT'} (h : MT X W a t) : MW X W (.BoolOp .Or [a] pos) t := ⟨pw_or1 h.pt, h.mono⟩
theorem mw_and {rest : List Expr} {t u : TT'} (h : MT X W a t) (k : MW X W (.BoolOp .And (b :: rest) pos) u) : MW X W (.BoolOp .And (a :: b :: rest) pos) (tAnd' t u) := ⟨PW.imp (pw_and h.pt k.pw) (and_lift h.mono k.mono), mono_and h.mono k.mono⟩
theorem mw_or {rest : List Expr} {t u : TT'} (h : MT X W a t) (k : MW X W (.BoolOp .Or (b :: rest) pos) u) : MW X W (.BoolOp .Or (a :: b :: rest) pos) (tOr' t u) := ⟨PW.imp (pw_or h.pt k.pw) (or_lift h.mono k.mono), mono_or h.mono k.mono⟩
theorem MW.mt {t : TT'} (h : MW X W e t) : MT X W e t := ⟨h.pw.pt, h.mono⟩
theorem mt_not {t : TT'} (h : MT X W a t) : MT X W (.UnaryOp .Not a pos) (tNot' t) :=
  ⟨PT.imp (pt_not h.pt) fun σ H Q ⟨w, δ, e, rh, rs, h1⟩ => ⟨w, δ, e, rh, rs, h.mono _ _ _ _ _ _ (fun c M q w1 e1 l r1 => q w1 e1 l r1) (fun _ _ x => x) h1⟩, mono_not h.mono⟩
/-- and, or, not as values -/
def tAndV' (ta tb : TE') : TE' := fun δ M Q E => ta δ M (fun x M1 => ∃ c, x = .bl c ∧ if c = true then tb δ M1 Q E else Q (.bl false) M1) E
def tOrV' (ta tb : TE') : TE' := fun δ M Q E => ta δ M (fun x M1 => ∃ c, x = .bl c ∧ if c = true then Q (.bl true) M1 else tb δ M1 Q E) E
def tNotV' (ta : TE') : TE' := fun δ M Q E => ta δ M (fun x M1 => ∃ c, x = .bl c ∧ Q (.bl (!c)) M1) E
theorem me_one {op : BoolOp} {t : TE'} (h : ME X W a t) : ME X W (.BoolOp op [a] pos) t := ⟨pe_one h.pe, h.mono⟩
theorem mono_andV {ta tb : TE'} (h : MonoE ta) (k : MonoE tb) : MonoE (tAndV' ta tb) := fun δ M Q Q' E E' q x hh => h δ M _ _ E E' (fun d M1 ⟨c, e, h1⟩ => ⟨c, e, by
  cases c with
  | true => exact k _ _ _ _ _ _ q x h1
  | false => exact q _ _ h1⟩) x hh
theorem mono_orV {ta tb : TE'} (h : MonoE ta) (k : MonoE tb) : MonoE (tOrV' ta tb) := fun δ M Q Q' E E' q x hh => h δ M _ _ E E' (fun d M1 ⟨c, e, h1⟩ => ⟨c, e, by
  cases c with
  | false => exact k _ _ _ _ _ _ q x h1
  | true => exact q _ _ h1⟩) x hh
theorem me_and {rest : List Expr} {ta tb : TE'} (ha : ME X W a ta) (hb : ME X W (.BoolOp .And (b :: rest) pos) tb) : ME X W (.BoolOp .And (a :: b :: rest) pos) (tAndV' ta tb) :=
  ⟨PE.imp (pe_and ha.pe hb.pe) fun σ H Q ⟨w, δ, e, rh, rs, h⟩ => by
    subst e
    refine up_go ha.mono rh rs h (fun _ _ x => x) fun d v w1 l1 rh1 rs1 rv ⟨c, e, h1⟩ => ?_
    subst e
    refine ⟨c, rep_bl rv, ?_⟩
    cases c with
    | true => exact up_go hb.mono rh1 rs1 h1 (fun _ _ x => x.le rh rh1 l1) fun d2 v2 w2 l2 rh2 rs2 rv2 h2 => h2 v2 w2 rfl (l1.trans rh rh1 l2) rh2 rv2
    | false => exact h1 _ w1 rfl l1 rh1 (by simp [Rep]), mono_andV ha.mono hb.mono⟩
theorem me_or {rest : List Expr} {ta tb : TE'} (ha : ME X W a ta) (hb : ME X W (.BoolOp .Or (b :: rest) pos) tb) : ME X W (.BoolOp .Or (a :: b :: rest) pos) (tOrV' ta tb) :=
  ⟨PE.imp (pe_or ha.pe hb.pe) fun σ H Q ⟨w, δ, e, rh, rs, h⟩ => by
    subst e
    refine up_go ha.mono rh rs h (fun _ _ x => x) fun d v w1 l1 rh1 rs1 rv ⟨c, e, h1⟩ => ?_
    subst e
    refine ⟨c, rep_bl rv, ?_⟩
    cases c with
    | false => exact up_go hb.mono rh1 rs1 h1 (fun _ _ x => x.le rh rh1 l1) fun d2 v2 w2 l2 rh2 rs2 rv2 h2 => h2 v2 w2 rfl (l1.trans rh rh1 l2) rh2 rv2
    | true => exact h1 _ w1 rfl l1 rh1 (by simp [Rep]), mono_orV ha.mono hb.mono⟩
theorem me_not {ta : TE'} (ha : ME X W a ta) : ME X W (.UnaryOp .Not a pos) (tNotV' ta) :=
  ⟨PE.imp (pe_not ha.pe) fun σ H Q ⟨w, δ, e, rh, rs, h⟩ => by
    subst e
    refine up_go ha.mono rh rs h (fun _ _ x => x) fun d v w1 l1 rh1 rs1 rv ⟨c, e, h1⟩ => ?_
    subst e
    exact ⟨c, rep_bl rv, h1 _ w1 rfl l1 rh1 (by simp [Rep])⟩, fun δ M Q Q' E E' q x hh => ha.mono δ M _ _ E E' (fun d M1 ⟨c, e, h1⟩ => ⟨c, e, q _ _ h1⟩) x hh⟩
def tIf' (t : TT') (ta tb : TE') : TE' := fun δ M Q E => t δ M (fun c M1 => if c = true then ta δ M1 Q E else tb δ M1 Q E) E
theorem me_if {t : TT'} {ta tb : TE'} (hc : MT X W c t) (ha : ME X W a ta) (hb : ME X W b tb) : ME X W (.IfExp c a b pos) (tIf' t ta tb) :=
  ⟨PE.imp (pe_ifExp hc.pt ha.pe hb.pe) fun σ H Q ⟨w, δ, e, rh, rs, h⟩ => by
    subst e
    refine upT_go hc.mono rh rs h (fun _ _ x => x) fun c w1 l1 rh1 rs1 h1 => ?_
    cases c with
    | true => exact up_go ha.mono rh1 rs1 h1 (fun _ _ x => x.le rh rh1 l1) fun d2 v2 w2 l2 rh2 rs2 rv2 h2 => h2 v2 w2 rfl (l1.trans rh rh1 l2) rh2 rv2
    | false => exact up_go hb.mono rh1 rs1 h1 (fun _ _ x => x.le rh rh1 l1) fun d2 v2 w2 l2 rh2 rs2 rv2 h2 => h2 v2 w2 rfl (l1.trans rh rh1 l2) rh2 rv2,
   fun δ M Q Q' E E' q x hh => hc.mono δ M _ _ E E' (fun c M1 h1 => by
    cases c with
    | true => exact ha.mono _ _ _ _ _ _ q x h1
    | false => exact hb.mono _ _ _ _ _ _ q x h1) x hh⟩

/-! ### arguments, displays -/
def tNil' : TA' := fun _ M Q _ => Q [] M
def tCons' (t : TE') (u : TA') : TA' := fun δ M Q E => t δ M (fun d M1 => u δ M1 (fun ds M2 => Q (d :: ds) M2) E) E
theorem mono_cons {t : TE'} {u : TA'} (h : MonoE t) (k : MonoA u) : MonoA (tCons' t u) := fun δ M Q Q' E E' q x hh => h _ _ _ _ _ _ (fun d M1 h1 => k _ _ _ _ _ _ (fun ds M2 h2 => q _ _ h2) x h1) x hh
theorem upA_go {ta : TA'} (ma : MonoA ta) {σ : L2.St} {δ : EnvD} {G : List V → Hp → Prop} {Q0 : List D → MH → Prop} {E0 : QX} {w : Wd} (r : RH K w) (s : RepS K w δ σ) (h : ta δ w.M Q0 E0)
    (hE : ∀ x M, E0 x M → PX K w (fun c d H => W c d σ H) x M)
    (hG : ∀ d v w1, Le w w1 → RH K w1 → RepS K w1 δ σ → RepL K w1 d v → Q0 d w1.M → G v w1.H) : upA K W ta σ w.H G :=
  ⟨w, δ, rfl, r, s, ma _ _ _ _ _ _ (fun d M q v w1 e l r1 rv => by subst e; exact hG d v w1 l r1 (s.le r l) rv q) hE h⟩
theorem ma_nil : MA X W [] tNil' := ⟨PA.imp pa_nil fun σ H Q ⟨w, δ, e, rh, rs, h⟩ => by subst e; exact h [] w rfl (Le.refl w) rh rfl, fun _ _ _ _ _ _ q _ h => q _ _ h⟩
theorem ma_cons {es : List Expr} {t : TE'} {u : TA'} (h : ME X W e t) (k : MA X W es u) (hs : starEach (e :: es) X.env = (false, eval e X.env) :: starEach es X.env := by rfl) : MA X W (e :: es) (tCons' t u) :=
  ⟨PA.imp (pa_cons h.pe k.pa hs) fun σ H Q ⟨w, δ, e, rh, rs, h1⟩ => by
    subst e
    refine up_go h.mono rh rs h1 (fun _ _ x => x) fun d v w1 l1 rh1 rs1 rv h1 => ?_
    refine upA_go k.mono rh1 rs1 h1 (fun _ _ x => x.le rh rh1 l1) fun d2 v2 w2 l2 rh2 rs2 rv2 h2 => ?_
    exact h2 _ w2 rfl (l1.trans rh rh1 l2) rh2 (RepL.cons (rv.le rh1 l2) rv2), mono_cons h.mono k.mono⟩
/-- a new list: a cell, or one that stays as it is -/
def newL (cell : Bool) (ds : List D) (M : MH) (Q : QE) : Prop := if cell = true then Q (.ref M.length) (M ++ [.lst ds]) else Q (.lst ds) M
theorem newL.mono {cell : Bool} {ds : List D} {M : MH} {Q Q' : QE} (q : ∀ d M, Q d M → Q' d M) (h : newL cell ds M Q) : newL cell ds M Q' := by
  cases cell with
  | true => exact q _ _ h
  | false => exact q _ _ h
theorem newL.lift {cell : Bool} {ds : List D} {xs : List V} {Q : VK} (rh : RH K w) (hr : RepL K w ds xs) (h : newL cell ds w.M (PV K w Q)) : ∀ p, w.H p = none → Q (.ref p) (upd w.H p (.lst xs)) := by
  intro p hp
  cases cell with
  | true =>
    have h : PV K w Q (.ref w.M.length) (w.M ++ [.lst ds]) := h
    have l : Le w (w.cell p (.lst xs) (.lst ds)) := Le.cell rh hp
    exact h (.ref p) (w.cell p (.lst xs) (.lst ds)) rfl l (rh.cell hp ⟨xs, upd_same, RepL.le rh l _ hr⟩) rh.cell_ix
  | false =>
    have h : PV K w Q (.lst ds) w.M := h
    exact h (.ref p) (w.new p (.lst xs)) rfl (Le.new hp) (rh.new hp) (rep_new_lst rh hp hr)
def newT (ds : List D) (M : MH) (Q : QE) : Prop := Q (.tup ds) M
theorem newT.lift {ds : List D} {xs : List V} {Q : VK} (rh : RH K w) (hr : RepL K w ds xs) (h : PV K w Q (.tup ds) w.M) : ∀ p, w.H p = none → Q (.ref p) (upd w.H p (.tup xs)) := fun p hp =>
  h (.ref p) (w.new p (.tup xs)) rfl (Le.new hp) (rh.new hp) (rep_new_tup rh hp hr)
def tTup' (t : TA') : TE' := fun δ M Q E => t δ M (fun ds M1 => ds.length ≤ sizeLine ∧ Q (.tup ds) M1) E
def tLst' (cell : Bool) (t : TA') : TE' := fun δ M Q E => t δ M (fun ds M1 => ds.length ≤ sizeLine ∧ newL cell ds M1 Q) E
theorem me_tup {es : List Expr} {x1} {t : TA'} (h : MA X W es t) : ME X W (.Tuple es x1 pos) (tTup' t) :=
  ⟨PE.imp (pe_tup h.pa) fun σ H Q ⟨w, δ, e, rh, rs, h1⟩ => by
    subst e
    refine upA_go h.mono rh rs h1 (fun _ _ x => x) fun d v w1 l1 rh1 rs1 rv ⟨hz, h2⟩ => ⟨by rw [rv.length]; exact hz, ?_⟩
    exact newT.lift rh1 rv (h2.le rh rh1 l1), fun δ M Q Q' E E' q x hh => h.mono _ _ _ _ _ _ (fun d M1 ⟨z, h1⟩ => ⟨z, q _ _ h1⟩) x hh⟩
theorem me_lst (cell : Bool) {es : List Expr} {t : TA'} (h : MA X W es t) : ME X W (.List es pos) (tLst' cell t) :=
  ⟨PE.imp (pe_lst h.pa) fun σ H Q ⟨w, δ, e, rh, rs, h1⟩ => by
    subst e
    refine upA_go h.mono rh rs h1 (fun _ _ x => x) fun d v w1 l1 rh1 rs1 rv ⟨hz, h2⟩ => ⟨by rw [rv.length]; exact hz, ?_⟩
    exact newL.lift rh1 rv (newL.mono (fun d M q => q.le rh rh1 l1) h2), fun δ M Q Q' E E' q x hh => h.mono _ _ _ _ _ _ (fun d M1 ⟨z, h1⟩ => ⟨z, h1.mono q⟩) x hh⟩
/-- a list that no one writes from here on -/
def tFrz (t : TE') : TE' := fun δ M Q E => t δ M (fun d M1 => ∃ i ds, d = .ref i ∧ M1[i]? = some (.lst ds) ∧ Q (.lst ds) (M1.set i .dead)) E
theorem me_frz {t : TE'} (h : ME X W e t) : ME X W e (tFrz t) :=
  ⟨PE.imp h.pe fun σ H Q ⟨w, δ, e, rh, rs, h1⟩ => by
    subst e
    refine up_go h.mono rh rs h1 (fun _ _ x => x) fun d v w1 l1 rh1 rs1 rv ⟨i, ds, e, ei, h2⟩ => ?_
    subst e
    simp only [Rep] at rv
    obtain ⟨a, e, em⟩ := rv
    subst e
    exact h2 (.ref a) (w1.kill i) rfl (l1.trans rh rh1 Le.kill) rh1.kill (rep_kill rh1 em ei), fun δ M Q Q' E E' q x hh => h.mono _ _ _ _ _ _ (fun d M1 ⟨i, ds, e, z, h1⟩ => ⟨i, ds, e, z, q _ _ h1⟩) x hh⟩

/-! ### calls of built-ins by values -/
def tCB' (r : RA') (t : TA') : TE' := fun δ M Q E => t δ M (fun ds M1 => r ds M1 Q) E
theorem mono_CB {r : RA'} {t : TA'} (hr : MonoR r) (h : MonoA t) : MonoE (tCB' r t) := fun δ M Q Q' E E' q x hh => h _ _ _ _ _ _ (fun d M1 h1 => hr _ _ _ _ q h1) x hh
theorem cb_lift {r : List V → Hp → VK → Prop} {r' : RA'} {t : TA'} (L : LiftA K r r') (mr : MonoR r') (m : MonoA t) (σ : L2.St) (H : Hp) (Q : VK) (h : up K W (tCB' r' t) σ H Q) : tCB r (upA K W t) σ H Q := by
  obtain ⟨w, δ, rfl, rh, rs, h1⟩ := h
  refine upA_go m rh rs h1 (fun _ _ x => x) fun d v w1 l1 rh1 rs1 rv h2 => ?_
  exact L w1 v d Q rh1 rv (mr _ _ _ _ (fun d M q => q.le rh rh1 l1) h2)
theorem me_callB {x : Str} {p : Pos} {es : List Expr} {id : String} {r : List V → Hp → VK → Prop} {r' : RA'} {t : TA'} (hc : CallR X (.builtin id) r) (L : LiftA X.K r r') (mr : MonoR r') (hg : Gl X x) (hm : X.mg x = none) (hv : bootBuiltins x = some (.builtin id)) (ha : MA X W (e :: es) t)
    (hn : x ≠ "__name__" := by decide) (hdb : (x == ("__debug__" : Str)) = false := by decide)
    (he : starEach (e :: es) X.env = (false, eval e X.env) :: starEach es X.env := by rfl) (hpl : (backTo pos (starEach es X.env)).any (·.1) = false := by rfl) : ME X W (.Call (.Name x p) (e :: es) [] pos) (tCB' r' t) :=
  ⟨PE.imp (pe_callB hc hg hm hv ha.pa hn hdb he hpl) (cb_lift L mr ha.mono), mono_CB mr ha.mono⟩
theorem me_callBfun {x : Str} {p : Pos} {es : List Expr} {id : String} {r : List V → Hp → VK → Prop} {r' : RA'} {t : TA'} (hc : CallR X (.builtin id) r) (L : LiftA X.K r r') (mr : MonoR r') (hg : Gl X x) (hm : X.mg x = some (.builtin id)) (ha : MA X W (e :: es) t)
    (hdb : (x == ("__debug__" : Str)) = false := by decide)
    (he : starEach (e :: es) X.env = (false, eval e X.env) :: starEach es X.env := by rfl) (hpl : (backTo pos (starEach es X.env)).any (·.1) = false := by rfl) : ME X W (.Call (.Name x p) (e :: es) [] pos) (tCB' r' t) :=
  ⟨PE.imp (pe_callBfun hc hg hm ha.pa hdb he hpl) (cb_lift L mr ha.mono), mono_CB mr ha.mono⟩
theorem me_callTy {x : Str} {p : Pos} {es : List Expr} {T : String} {r : List V → Hp → VK → Prop} {r' : RA'} {t : TA'} (hc : CallR X (.type T) r) (L : LiftA X.K r r') (mr : MonoR r') (hg : Gl X x) (hm : X.mg x = none) (hv : bootBuiltins x = some (.type T)) (ha : MA X W (e :: es) t)
    (hn : x ≠ "__name__" := by decide) (hdb : (x == ("__debug__" : Str)) = false := by decide)
    (he : starEach (e :: es) X.env = (false, eval e X.env) :: starEach es X.env := by rfl) (hpl : (backTo pos (starEach es X.env)).any (·.1) = false := by rfl) : ME X W (.Call (.Name x p) (e :: es) [] pos) (tCB' r' t) :=
  ⟨PE.imp (pe_callTy hc hg hm hv ha.pa hn hdb he hpl) (cb_lift L mr ha.mono), mono_CB mr ha.mono⟩

/-! ### defs -/
abbrev SpD := List D → MH → QE → QX → Prop
def MonoP (sp : SpD) : Prop := ∀ ds M (Q Q' : QE) (E E' : QX), (∀ d M, Q d M → Q' d M) → (∀ x M, E x M → E' x M) → sp ds M Q E → sp ds M Q' E'
def upP (K : PySem.W.Frag) (sp : SpD) : Sp := fun vs H Q E => ∃ (w : Wd) (ds : List D), w.H = H ∧ RH K w ∧ RepL K w ds vs ∧ sp ds w.M (PV K w Q) (PX K w E)
def tCall' (sp : SpD) (t : TA') : TE' := fun δ M Q E => t δ M (fun ds M1 => sp ds M1 Q E) E
theorem me_call {x : Str} {p : Pos} {es : List Expr} {k : Nat} {f : Addr} {fd : FuncData} {ps : List Str} {sp : SpD} {t : TA'} (F : FnOk X.prog X.w X.K X.mg X.base (L2.CX X.prog X.w) k f fd ps (upP X.K sp)) (ms : MonoP sp) (hr : Room k X.A) (tk : Takes X W)
    (hg : Gl X x) (hm : X.mg x = some (.ref f)) (hk : PySem.W.keepIn X.K (.ref f) = true) (hb : Binds X.K fd ps []) (ha : MA X W (e :: es) t)
    (hdb : (x == ("__debug__" : Str)) = false := by decide) (he : starEach (e :: es) X.env = (false, eval e X.env) :: starEach es X.env := by rfl) (hpl : (backTo pos (starEach es X.env)).any (·.1) = false := by rfl) :
    ME X W (.Call (.Name x p) (e :: es) [] pos) (tCall' sp t) :=
  ⟨PE.imp (pe_callSD (E := fun σ c d H => W c d σ H) F hr hg hm hk hb .nil (fun σ pins H s e s' I c => tk e s' (XE.of_call I (fun _ _ _ h => h) c)) ha.pa hdb he hpl) fun σ H Q ⟨w, δ, e, rh, rs, h1⟩ => by
    subst e
    refine upA_go ha.mono rh rs h1 (fun _ _ x => x) fun d v w1 l1 rh1 rs1 rv h2 => ?_
    exact ⟨w1, d, rfl, rh1, by rw [List.append_nil]; exact rv, ms _ _ _ _ _ _ (fun d M q => q.le rh rh1 l1) (fun x M q => q.le rh rh1 l1) h2⟩,
   fun δ M Q Q' E E' q x hh => ha.mono _ _ _ _ _ _ (fun d M1 h1 => ms _ _ _ _ _ _ q x h1) x hh⟩
end MD
/-! MD: targets, statements, loops, comprehensions, defs. -/
namespace MD
open PySem PySem.Spec PyProof.Rows L2
variable {K : PySem.W.Frag} {w w1 w2 : Wd} {X : Cx} {W : WX} {e a b c : Expr} {pos : Pos}

/-! ### targets -/
def gName' (i : Nat) : TG' := fun d δ M Q => Q (δ.set i (some d)) M
theorem mg_name {i : Nat} {x : Str} (hN : X.N.Nodup) (hi : X.N[i]? = some x) (hx : Loc X.env.scope x) (hf : X.fn x = true ∨ X.env.scope.names.lookup x = some .local := by first | exact .inl rfl | exact .inr rfl | assumption) : MG X (.Name x pos) (gName' i) :=
  ⟨⟨fun pins s σ H v u Q I r ⟨w, δ, d, e, rh, rs, rd, q⟩ => by
    subst e
    exact (pg_name hN hi hx hf).run pins s σ w.H v u Q I r (q _ w rfl (Le.refl w) rh (rs.set i rd))⟩, fun d δ M Q Q' q h => q _ _ h⟩
def gAll' : List TG' → List D → EnvD → MH → (EnvD → MH → Prop) → Prop
  | [], ds, δ, M, Q => ds = [] ∧ Q δ M
  | g :: gs, ds, δ, M, Q => ∃ d r, ds = d :: r ∧ g d δ M fun δ1 M1 => gAll' gs r δ1 M1 Q
def upGs (K : PySem.W.Frag) (gs : List TG') : TGs := fun vs σ H Q => ∃ (w : Wd) (δ : EnvD) (ds : List D), w.H = H ∧ RH K w ∧ RepS K w δ σ ∧ RepL K w ds vs ∧ gAll' gs ds δ w.M (PN K w Q)
structure MGs (X : Cx) (es : List Expr) (gs : List TG') : Prop where
  pg : PGs X es (upGs X.K gs)
  mono : ∀ ds δ M (Q Q' : EnvD → MH → Prop), (∀ δ M, Q δ M → Q' δ M) → gAll' gs ds δ M Q → gAll' gs ds δ M Q'
theorem mgs_nil : MGs X [] [] := ⟨⟨fun pins s σ H vs us Q I r ⟨w, δ, ds, e, rh, rs, rd, e2, q⟩ => by
    subst e e2
    have : vs = [] := rd
    subst this
    exact pgs_nil.run pins s σ w.H [] us Q I r ⟨rfl, q σ w rfl (Le.refl w) rh rs⟩⟩, fun ds δ M Q Q' q ⟨e, h⟩ => ⟨e, q _ _ h⟩⟩
theorem mgs_cons {es : List Expr} {g : TG'} {gs : List TG'} (h1 : MG X e g) (h2 : MGs X es gs)
    (hs : (assignEach (e :: es) X.env).map (·.2) = assign e X.env :: (assignEach es X.env).map (·.2) := by rfl) : MGs X (e :: es) (g :: gs) :=
  ⟨⟨fun pins s σ H vs us Q I r ⟨w, δ, ds, eH, rh, rs, rd, d, r', eD, q⟩ => by
    subst eH eD
    obtain ⟨v, vr, rfl, rv, rvr⟩ := rd
    refine (pgs_cons h1.pg h2.pg hs).run pins s σ w.H _ us Q I r ⟨v, vr, rfl, w, δ, d, rfl, rh, rs, rv, h1.mono _ _ _ _ _ (fun δ1 M1 q1 σ1 w1 e1 l r1 s1 => ?_) q⟩
    subst e1
    exact ⟨w1, δ1, r', rfl, r1, s1, RepL.le rh l _ rvr, h2.mono _ _ _ _ _ (fun δ2 M2 q2 => q2.le rh r1 l) q1⟩⟩,
   fun ds δ M Q Q' q ⟨d, r, e, h⟩ => ⟨d, r, e, h1.mono _ _ _ _ _ (fun δ1 M1 h3 => h2.mono _ _ _ _ _ q h3) h⟩⟩
/-- x, y = a tuple, a list -/
def gTup' (n : Nat) (gs : List TG') : TG' := fun d δ M Q => ∃ ds, (d = .tup ds ∨ d = .lst ds) ∧ ds.length = n ∧ gAll' gs ds δ M Q
theorem mg_tup {es : List Expr} {k : Nat} {gs : List TG'} {n : Nat} (hc : X.calm = true) (h : MGs X es gs)
    (hn : (assignEach es X.env).length = n := by rfl) (hst : (assignEach es X.env).findIdx? (·.1) = none := by rfl) : MG X (.Tuple es k pos) (gTup' n gs) :=
  ⟨⟨fun pins s σ H v u Q I r ⟨w, δ, d, e, rh, rs, rd, ds, ed, hl, q⟩ => by
    subst e
    rcases ed with ed | ed
    · subst ed
      obtain ⟨a, xs, e, hq, hr⟩ := rd
      exact (pg_tup hc h.pg hn hst).run pins s σ w.H v u Q I r ⟨a, xs, e, hq, by rw [hr.length]; exact hl, w, δ, ds, rfl, rh, rs, hr, q⟩
    · subst ed
      obtain ⟨a, xs, e, hq, _, _, hr⟩ := rd
      exact (pg_lst hc h.pg hn hst).run pins s σ w.H v u Q I r ⟨a, xs, e, SqL.of hq, by rw [hr.length]; exact hl, w, δ, ds, rfl, rh, rs, hr, q⟩⟩,
   fun d δ M Q Q' q ⟨ds, e, hl, h1⟩ => ⟨ds, e, hl, h.mono _ _ _ _ _ q h1⟩⟩
/-- o[i] = v -/
abbrev TSet' := D → D → D → MH → (MH → Prop) → Prop
def LiftS (K : PySem.W.Frag) (t : TSet) (t' : TSet') : Prop := ∀ (w : Wd) (o i v : V) (do_ di dv : D) (Q : Hp → Prop), RH K w → Rep K w do_ o → Rep K w di i → Rep K w dv v →
  t' do_ di dv w.M (fun M1 => ∀ w1, w1.M = M1 → Le w w1 → RH K w1 → Q w1.H) → t o i v w.H Q
def gSub' (to ti : TE') (t : TSet') : TG' := fun v δ M Q => to δ M (fun o M1 => ti δ M1 (fun i M2 => t o i v M2 fun M3 => Q δ M3) fun _ _ => False) fun _ _ => False
theorem mg_sub {o i : Expr} {to ti : TE'} {t : TSet} {t' : TSet'} (ho : ME X (fun _ _ _ _ => False) o to) (hi : ME X (fun _ _ _ _ => False) i ti) (hs : PSet X t) (L : LiftS X.K t t')
    (ms : ∀ o i v M (Q Q' : MH → Prop), (∀ M, Q M → Q' M) → t' o i v M Q → t' o i v M Q')
    (ha : ∀ v, assign (.Subscript o i pos) X.env v = (do
      let ov ← holding [v] (eval o X.env)
      let iv ← holding [v, ov] (eval i X.env)
      standAt pos
      holding [v, ov, iv] (setItem ov iv v)
      release [v, ov, iv] []) := by intro _; rfl) : MG X (.Subscript o i pos) (gSub' to ti t') :=
  ⟨⟨fun pins s σ H v u Q I r ⟨w, δ, d, e, rh, rs, rd, q⟩ => by
    subst e
    refine (pg_sub ho.pe hi.pe hs ha).run pins s σ w.H v u Q I r ?_
    refine up_go ho.mono rh rs q (fun _ _ z => z.elim) fun do_ vo w1 l1 rh1 rs1 ro h1 => ?_
    refine up_go hi.mono rh1 rs1 h1 (fun _ _ z => z.elim) fun di vi w2 l2 rh2 rs2 ri h2 => ?_
    refine L w2 vo vi v do_ di d _ rh2 (ro.le rh1 l2) ri ((rd.le rh l1).le rh1 l2) (ms _ _ _ _ _ _ (fun M3 q3 w3 e3 l3 rh3 => ?_) h2)
    subst e3
    exact q3 σ w3 rfl ((l1.trans rh rh1 l2).trans rh rh2 l3) rh3 (rs2.le rh2 l3)⟩,
   fun d δ M Q Q' q h => ho.mono _ _ _ _ _ _ (fun o M1 h1 => hi.mono _ _ _ _ _ _ (fun i M2 h2 => ms _ _ _ _ _ _ (fun M3 h3 => q _ _ h3) h2) (fun _ _ z => z) h1) (fun _ _ z => z) h⟩

/-! ### statements -/
def tNext' : TS' := fun D δ M => D.nx δ M
def tSeq' (t u : TS') : TS' := fun D δ M => t { D with nx := u D } δ M
theorem upS_go {t : TS'} (ma : MonoS t) {σ : L2.St} {δ : EnvD} {D : Ends} {D0 : Ends'} {w : Wd} (r : RH K w) (s : RepS K w δ σ) (h : t D0 δ w.M) (hD : D0.le (endsD K w W D)) : upS K W t D σ w.H :=
  ⟨w, δ, rfl, r, s, ma _ _ _ _ hD h⟩
theorem mss_nil : MSs X W [] tNext' := ⟨PSs.imp pss_nil fun D σ H ⟨w, δ, e, rh, rs, h⟩ => by subst e; exact h σ w rfl (Le.refl w) rh rs, fun _ _ _ _ l h => l.nx _ _ h⟩
theorem mono_seq {t u : TS'} (h : MonoS t) (k : MonoS u) : MonoS (tSeq' t u) := fun δ M D D' l q =>
  h δ M { D with nx := u D } { D' with nx := u D' } ⟨fun δ M q => k δ M D D' l q, l.rt, l.bk, l.ct, l.ex⟩ q
theorem mss_cons {st : Stmt} {rest : List Stmt} {t u : TS'} (h : MS X W st t) (k : MSs X W rest u) : MSs X W (st :: rest) (tSeq' t u) :=
  ⟨PSs.imp (pss_cons h.ps k.ps) fun D σ H ⟨w, δ, e, rh, rs, q⟩ => by
    subst e
    refine upS_go h.mono rh rs q ⟨fun δ1 M1 q1 σ1 w1 e1 l r1 s1 => ?_, fun _ _ h => h, fun _ _ h => h, fun _ _ h => h, fun _ _ _ h => h⟩
    subst e1
    exact ⟨w1, δ1, rfl, r1, s1, k.mono _ _ _ _ (endsD.le rh r1 l) q1⟩, mono_seq h.mono k.mono⟩
theorem mss_one {st : Stmt} {t : TS'} (h : MS X W st t) : MSs X W [st] t := ⟨pss_one h.ps, h.mono⟩
def tBreak' : TS' := fun D δ M => D.bk δ M
def tCont' : TS' := fun D δ M => D.ct δ M
theorem ms_pass : MS X W (.Pass pos) tNext' := ⟨PS.imp ps_pass fun D σ H ⟨w, δ, e, rh, rs, h⟩ => by subst e; exact h σ w rfl (Le.refl w) rh rs, fun _ _ _ _ l h => l.nx _ _ h⟩
theorem ms_break : MS X W (.Break pos) tBreak' := ⟨PS.imp ps_break fun D σ H ⟨w, δ, e, rh, rs, h⟩ => by subst e; exact h σ w rfl (Le.refl w) rh rs, fun _ _ _ _ l h => l.bk _ _ h⟩
theorem ms_continue : MS X W (.Continue pos) tCont' := ⟨PS.imp ps_continue fun D σ H ⟨w, δ, e, rh, rs, h⟩ => by subst e; exact h σ w rfl (Le.refl w) rh rs, fun _ _ _ _ l h => l.ct _ _ h⟩
def tNever' : TS' := fun _ _ _ => False
theorem ms_never {st : Stmt} : MS X W st tNever' := ⟨PS.imp (t := fun _ _ _ => False) ⟨fun _ _ _ _ _ _ h => h.elim⟩ fun D σ H ⟨w, δ, e, rh, rs, h⟩ => h, fun _ _ _ _ _ h => h⟩
theorem mss_never {sts : List Stmt} : MSs X W sts tNever' := ⟨PSs.imp (t := fun _ _ _ => False) ⟨fun _ _ _ _ _ _ h => h.elim⟩ fun D σ H ⟨w, δ, e, rh, rs, h⟩ => h, fun _ _ _ _ _ h => h⟩
def tDrop' (te : TE') : TS' := fun D δ M => te δ M (fun _ M1 => D.nx δ M1) (fun x M1 => D.ex x δ M1)
/-- exceptions of an expression, as a statement's -/
theorem ex_of {D0 : Ends'} {D : Ends} {σ : L2.St} {δ : EnvD} (rs : RepS K w δ σ) (rh : RH K w) (l : D0.le (endsD K w W D)) : ∀ x M, D0.ex x δ M → PX K w (fun c d H => W c d σ H) x M :=
  fun x M h cls dx w1 e1 l1 r1 q => l.ex x δ M h cls dx σ w1 e1 l1 r1 (rs.le rh l1) q
theorem ms_expr {te : TE'} (he : ME X W e te) (hs : swapsWith e none pos.line X.env = pure false := by rfl) : MS X W (.Expr e pos) (tDrop' te) :=
  ⟨PS.imp (ps_expr he.pe hs) fun D σ H ⟨w, δ, e, rh, rs, h⟩ => by
    subst e
    exact up_go he.mono rh rs h (ex_of rs rh (Ends'.le.refl _)) fun d v w1 l1 rh1 rs1 rv h1 => h1 σ w1 rfl l1 rh1 rs1,
   fun δ M D D' l h => he.mono _ _ _ _ _ _ (fun d M1 h1 => l.nx _ _ h1) (fun x M1 h1 => l.ex _ _ _ h1) h⟩
def tRet' (te : TE') : TS' := fun D δ M => te δ M D.rt (fun x M1 => D.ex x δ M1)
theorem ms_ret {te : TE'} (he : ME X W e te) : MS X W (.Return (some e) pos) (tRet' te) :=
  ⟨PS.imp (ps_ret he.pe) fun D σ H ⟨w, δ, e, rh, rs, h⟩ => by
    subst e
    exact up_go he.mono rh rs h (ex_of rs rh (Ends'.le.refl _)) fun d v w1 l1 rh1 rs1 rv h1 => h1 v w1 rfl l1 rh1 rv,
   fun δ M D D' l h => he.mono _ _ _ _ _ _ (fun d M1 h1 => l.rt _ _ h1) (fun x M1 h1 => l.ex _ _ _ h1) h⟩
def tRetN' : TS' := fun D _ M => D.rt .non M
theorem ms_retN : MS X W (.Return none pos) tRetN' := ⟨PS.imp ps_retN fun D σ H ⟨w, δ, e, rh, rs, h⟩ => by subst e; exact h .non w rfl (Le.refl w) rh (by simp [Rep]), fun _ _ _ _ l h => l.rt _ _ h⟩
def tIfS' (c : TT') (t u : TS') : TS' := fun D δ M => c δ M (fun b M1 => if b = true then t D δ M1 else u D δ M1) (fun x M1 => D.ex x δ M1)
theorem mono_ifS {c : TT'} {t u : TS'} (hc : MonoT c) (ht : MonoS t) (hu : MonoS u) : MonoS (tIfS' c t u) := fun δ M D D' l h => hc _ _ _ _ _ _ (fun b M1 h1 => by
  cases b with
  | true => exact ht _ _ _ _ l h1
  | false => exact hu _ _ _ _ l h1) (fun x M1 h1 => l.ex _ _ _ h1) h
theorem ms_if {p q : List Stmt} {tc : TT'} {t u : TS'} (hc : MT X W c tc) (ha : MSs X W p t) (hb : MSs X W q u) : MS X W (.If c p q pos) (tIfS' tc t u) :=
  ⟨PS.imp (ps_if hc.pt ha.ps hb.ps) fun D σ H ⟨w, δ, e, rh, rs, h⟩ => by
    subst e
    refine upT_go hc.mono rh rs h (ex_of rs rh (Ends'.le.refl _)) fun b w1 l1 rh1 rs1 h1 => ?_
    cases b with
    | true => exact upS_go ha.mono rh1 rs1 h1 (endsD.le rh rh1 l1)
    | false => exact upS_go hb.mono rh1 rs1 h1 (endsD.le rh rh1 l1), mono_ifS hc.mono ha.mono hb.mono⟩
def tAsg' (te : TE') (g : TG') : TS' := fun D δ M => te δ M (fun d M1 => g d δ M1 D.nx) (fun x M1 => D.ex x δ M1)
theorem mono_asg {te : TE'} {g : TG'} (he : MonoE te) (hg : MonoG g) : MonoS (tAsg' te g) := fun δ M D D' l h => he _ _ _ _ _ _ (fun d M1 h1 => hg _ _ _ _ _ l.nx h1) (fun x M1 h1 => l.ex _ _ _ h1) h
theorem asg_lift {te : TE'} {g : TG'} (he : MonoE te) (hg : MonoG g) (D : Ends) (σ : L2.St) (H : Hp) (h : upS K W (tAsg' te g) D σ H) : tAsg (up K W te) (upG K g) D σ H := by
  obtain ⟨w, δ, rfl, rh, rs, h⟩ := h
  refine up_go he rh rs h (ex_of rs rh (Ends'.le.refl _)) fun d v w1 l1 rh1 rs1 rv h1 => ?_
  exact ⟨w1, δ, d, rfl, rh1, rs1, rv, hg _ _ _ _ _ (fun δ2 M2 q => q.le rh rh1 l1) h1⟩
theorem ms_asg {tg : Expr} {te : TE'} {g : TG'} (he : ME X W e te) (hg : MG X tg g) (hs : swapsWithSole [tg] e pos.line X.env = pure false := by rfl) (hw : swappedStores [tg] e X.env = pure none := by rfl)
    (h1 : (assignEach [tg] X.env).map (·.2) = [assign tg X.env] := by rfl) : MS X W (.Assign [tg] e pos) (tAsg' te g) :=
  ⟨PS.imp (ps_asg he.pe hg.pg hs hw h1) (asg_lift he.mono hg.mono), mono_asg he.mono hg.mono⟩
theorem ms_set {i : Nat} {x : Str} {te : TE'} {pos' : Pos} (hN : X.N.Nodup) (hi : X.N[i]? = some x) (hx : Loc X.env.scope x) (he : ME X W e te) (hs : swapsWith e (some (.Name x pos')) pos.line X.env = pure false := by rfl)
    (hf : X.fn x = true ∨ X.env.scope.names.lookup x = some .local := by first | exact .inl rfl | exact .inr rfl | assumption) : MS X W (.Assign [.Name x pos'] e pos) (tAsg' te (gName' i)) :=
  ⟨PS.imp (ps_set hN hi hx he.pe hs hf) fun D σ H ⟨w, δ, eH, rh, rs, h⟩ => by
    subst eH
    refine up_go he.mono rh rs h (ex_of rs rh (Ends'.le.refl _)) fun d v w1 l1 rh1 rs1 rv h1 => ?_
    exact h1 _ w1 rfl l1 rh1 (rs1.set i rv), mono_asg he.mono fun d δ M Q Q' q h => q _ _ h⟩
/-- a, b = x, y -/
def tPar' (i j : Nat) (ta : TA') : TS' := fun D δ M => ta δ M (fun ds M1 => ∃ d d', ds = [d, d'] ∧ D.nx ((δ.set i (some d)).set j (some d')) M1) (fun x M1 => D.ex x δ M1)
theorem ms_par {i j : Nat} {x y : Str} {ta : TA'} {px py pt : Pos} {kt k2 pt2} (hc : X.calm = true) (hN : X.N.Nodup) (hi : X.N[i]? = some x) (hj : X.N[j]? = some y) (hij : i ≠ j)
    (hx : X.env.scope.names.lookup x = some .local) (hy : X.env.scope.names.lookup y = some .local) (ha : MA X W [a, b] ta)
    (hw : swappedStores [.Tuple [.Name x px, .Name y py] kt pt] (.Tuple [a, b] k2 pt2) X.env = pure (some [x, y]))
    (hs : swapsWithSole [.Tuple [.Name x px, .Name y py] kt pt] (.Tuple [a, b] k2 pt2) pos.line X.env = pure false := by rfl) :
    MS X W (.Assign [.Tuple [.Name x px, .Name y py] kt pt] (.Tuple [a, b] k2 pt2) pos) (tPar' i j ta) :=
  ⟨PS.imp (ps_par hc hN hi hj hij hx hy ha.pa hw hs) fun D σ H ⟨w, δ, eH, rh, rs, h⟩ => by
    subst eH
    refine upA_go ha.mono rh rs h (ex_of rs rh (Ends'.le.refl _)) fun d v w1 l1 rh1 rs1 rv ⟨d1, d2, e, h1⟩ => ?_
    subst e
    obtain ⟨v1, r1, e, rv1, v2, r2, e2, rv2, e3⟩ := rv
    have e3 : r2 = [] := e3
    subst e e2 e3
    exact ⟨v1, v2, rfl, h1 _ w1 rfl l1 rh1 ((rs1.set i rv1).set j rv2)⟩,
   fun δ M D D' l h => ha.mono _ _ _ _ _ _ (fun ds M1 ⟨d, d', e, h1⟩ => ⟨d, d', e, l.nx _ _ h1⟩) (fun x M1 h1 => l.ex _ _ _ h1) h⟩

/-! ### while -/
def whileN (c : TT') (tb : TS') (D : Ends') : Nat → EnvD → MH → Prop
  | 0, _, _ => False
  | n + 1, δ, M => c δ M (fun b M1 => if b = true then tb { D with nx := whileN c tb D n, ct := whileN c tb D n, bk := D.nx } δ M1 else D.nx δ M1) (fun x M1 => D.ex x δ M1)
def tWhile' (c : TT') (tb : TS') : TS' := fun D δ M => ∃ n, whileN c tb D n δ M
theorem mono_whileN {c : TT'} {tb : TS'} (hc : MonoT c) (hb : MonoS tb) {D D' : Ends'} (l : D.le D') : ∀ n δ M, whileN c tb D n δ M → whileN c tb D' n δ M
  | 0, _, _, h => h
  | n + 1, δ, M, h => hc _ _ _ _ _ _ (fun b M1 h1 => by
    cases b with
    | true => exact hb _ _ { D with nx := whileN c tb D n, ct := whileN c tb D n, bk := D.nx } { D' with nx := whileN c tb D' n, ct := whileN c tb D' n, bk := D'.nx } ⟨mono_whileN hc hb l n, l.rt, l.nx, mono_whileN hc hb l n, l.ex⟩ h1
    | false => exact l.nx _ _ h1) (fun x M1 h1 => l.ex _ _ _ h1) h
theorem ms_while {body : List Stmt} {tc : TT'} {tb : TS'} (hp : PassesOwn (model X.prog X.w) X.A X.env X.xe) (hc : MT X W c tc) (hb : MSs X W body tb) : MS X W (.While c body [] pos) (tWhile' tc tb) :=
  ⟨PS.imp (ps_while hp hc.pt hb.ps) fun D σ H ⟨w, δ, eH, rh, rs, n, h⟩ => by
    subst eH
    refine ⟨fun m σ H => ∃ (w1 : Wd) (δ1 : EnvD), w1.H = H ∧ Le w w1 ∧ RH X.K w1 ∧ RepS X.K w1 δ1 σ ∧ whileN tc tb (endsD X.K w W D) m δ1 w1.M, ⟨n, w, δ, rfl, Le.refl w, rh, rs, h⟩, ?_⟩
    rintro m σ1 H1 ⟨w1, δ1, rfl, l1, rh1, rs1, h1⟩
    cases m with
    | zero => exact h1.elim
    | succ m =>
      refine upT_go hc.mono rh1 rs1 h1 (fun x M q cls dx w2 e2 l2 r2 q2 => q cls dx σ1 w2 e2 (l1.trans rh rh1 l2) r2 (rs1.le rh1 l2) q2) fun b w2 l2 rh2 rs2 h2 => ?_
      have l02 := l1.trans rh rh1 l2
      cases b with
      | false => exact h2 σ1 w2 rfl l02 rh2 rs2
      | true =>
        rw [if_pos rfl]
        refine ⟨fun σ' H' => ∃ (w3 : Wd) (δ3 : EnvD), w3.H = H' ∧ Le w w3 ∧ RH X.K w3 ∧ RepS X.K w3 δ3 σ' ∧ whileN tc tb (endsD X.K w W D) m δ3 w3.M, fun σ' H' ⟨w3, δ3, e3, l3, r3, s3, q3⟩ => ⟨m, Nat.lt_succ_self m, w3, δ3, e3, l3, r3, s3, q3⟩, ?_⟩
        refine upS_go hb.mono rh2 rs2 h2 ⟨fun δ3 M3 q3 σ3 w3 e3 l3 r3 s3 => ?_, fun _ _ h => PV.le rh rh2 l02 h, fun _ _ h => PN.le rh rh2 l02 h, fun δ3 M3 q3 σ3 w3 e3 l3 r3 s3 => ?_, fun _ _ _ h => PXS.le rh rh2 l02 h⟩
        · subst e3; exact ⟨w3, δ3, rfl, l02.trans rh rh2 l3, r3, s3, q3⟩
        · subst e3; exact ⟨w3, δ3, rfl, l02.trans rh rh2 l3, r3, s3, q3⟩,
   fun δ M D D' l ⟨n, h⟩ => ⟨n, mono_whileN hc.mono hb.mono l n _ _ h⟩⟩

/-! ### what a loop walks -/
structure ItD where
  items : List D
  src : Option Nat
def ItD.still (it : ItD) (M : MH) : Prop := match it.src with
  | none => True
  | some c => M[c]? = some (.lst it.items)
def ItOk (K : PySem.W.Frag) (it : ItD) (J : It) (w0 : Wd) : Prop := ∀ w2, Le w0 w2 → RH K w2 → it.still w2.M →
  J.stop it.items.length w2.H ∧ ∀ i d, it.items[i]? = some d → J.go i w2.H ∧ ∀ x H', J.yld i w2.H x H' → ∃ w3, w3.H = H' ∧ w3.M = w2.M ∧ Le w2 w3 ∧ RH K w3 ∧ Rep K w3 d x
abbrev TI' := EnvD → MH → (ItD → MH → Prop) → QX → Prop
def MonoI (t : TI') : Prop := ∀ δ M (Q Q' : ItD → MH → Prop) (E E' : QX), (∀ d M, Q d M → Q' d M) → (∀ x M, E x M → E' x M) → t δ M Q E → t δ M Q' E'
def upI (K : PySem.W.Frag) (W : WX) (t : TI') : TI := fun σ H R => ∃ (w : Wd) (δ : EnvD), w.H = H ∧ RH K w ∧ RepS K w δ σ ∧
  t δ w.M (fun it M1 => ∀ J w1, w1.M = M1 → Le w w1 → RH K w1 → ItOk K it J w1 → it.still w1.M → R J w1.H) (PX K w fun c d H => W c d σ H)
structure MI (X : Cx) (W : WX) (tg iter : Expr) (t : TI') : Prop where
  pi : PI X tg iter (upI X.K W t)
  mono : MonoI t
theorem PI.imp {tg iter : Expr} {t t' : TI} (h : PI X tg iter t) (i : ∀ σ H Q, t' σ H Q → t σ H Q) : PI X tg iter t' := ⟨fun pins s σ H Q I q => h.run pins s σ H Q I (i _ _ _ q)⟩

/-- a list, a tuple, a text: what walks it -/
inductive SeqJ (K : PySem.W.Frag) (H : Hp) : V → It → Prop where
  | lst {a : Addr} {xs : List V} (h : SqL K H a xs) : SeqJ K H (.ref a) (Itl K a)
  | tup {a : Addr} {xs : List V} (h : SqT K H a xs) : SeqJ K H (.ref a) (Itt K a)
  | str (x : Str) : SeqJ K H (.str x) (Its x)
def iSeq (K : PySem.W.Frag) (tl : TE) : TI := fun σ H R => tl σ H fun x H1 => ∃ J, SeqJ K H1 x J ∧ R J H1
theorem pi_seq {tg l : Expr} {tl : TE} (hl : PE X l tl) : PI X tg l (iSeq X.K tl) := by
  refine ⟨fun pins s σ H R I h => ?_⟩
  refine thn (hl.run pins s σ H _ I h) fun v s1 ⟨x, H1, I1, r1, q1⟩ => ?_
  obtain ⟨J, hj, q⟩ := q1
  have v0 : PE { X with } l (fun σ' H' Q' => σ' = σ ∧ H' = H1 ∧ Q' x H1) → True := fun _ => trivial
  cases hj with
  | @lst a xs hq =>
    cases r1
    obtain ⟨its, rv, p, hz⟩ := I1.list hq
    refine wpAny_pyIter_list p.isList ?_
    refine ⟨s1.heap.objs.size, [s1.heap.objs.size], _, _, H1, rfl, I1.kept (t' := s1.toks) fun b o e => Heap.get?_push_of_some _ e, turn_list a _, ⟨_, Heap.get?_push_size _ rfl, rfl, rfl⟩, fun b hb => ?_, q⟩
    have e : b = s1.heap.objs.size := by simpa using hb
    subst e
    exact I1.fpOk (Nat.le_refl _) (I1.hok.fresh (Nat.le_refl _))
  | @tup a xs hq =>
    cases r1
    obtain ⟨its, rv, p, hz⟩ := I1.tuple hq
    refine wpAny_pyIter_tuple (show s1.heap.IsTuple a its.toArray from p) ?_
    refine ⟨s1.heap.objs.size, [s1.heap.objs.size], _, _, H1, rfl, I1.kept (t' := s1.toks) fun b o e => Heap.get?_push_of_some _ e, turn_tuple a _, ⟨_, Heap.get?_push_size _ rfl, rfl, rfl⟩, fun b hb => ?_, q⟩
    have e : b = s1.heap.objs.size := by simpa using hb
    subst e
    exact I1.fpOk (Nat.le_refl _) (I1.hok.fresh (Nat.le_refl _))
  | str x =>
    obtain ⟨t, rfl⟩ := r1
    cases ha : x.cps.all (· < 128)
    · exact wpAny_pyIter_wide ha (pi_one (tk := s1.toks) I1 _ (turn_str _ x t "str_iterator" (.inr rfl)) ⟨_, Heap.get?_push_size _ rfl, rfl, rfl⟩ q)
    · exact wpAny_pyIter_ascii ha (pi_one (tk := s1.toks) I1 _ (turn_str _ x t "str_ascii_iterator" (.inl rfl)) ⟨_, Heap.get?_push_size _ rfl, rfl, rfl⟩ q)
/-- what a datum is walked as -/
def seqD (d : D) (M : MH) (R : ItD → MH → Prop) : Prop := match d with
  | .tup ds => R ⟨ds, none⟩ M
  | .lst ds => R ⟨ds, none⟩ M
  | .scr ns => R ⟨ns.map D.int, none⟩ M
  | .str x => R ⟨x.cps.toList.map fun c => D.str ⟨#[c]⟩, none⟩ M
  | .ref i => ∃ ds, M[i]? = some (.lst ds) ∧ R ⟨ds, some i⟩ M
  | _ => False
def tIt' (te : TE') : TI' := fun δ M R E => te δ M (fun d M1 => seqD d M1 R) E
theorem mono_seqD {d : D} {M : MH} {R R' : ItD → MH → Prop} (q : ∀ d M, R d M → R' d M) (h : seqD d M R) : seqD d M R' := by
  cases d with
  | ref i => obtain ⟨ds, e, h⟩ := h; exact ⟨ds, e, q _ _ h⟩
  | tup ds => exact q _ _ h
  | lst ds => exact q _ _ h
  | scr ds => exact q _ _ h
  | str ds => exact q _ _ h
  | _ => exact h.elim
theorem itOk_list {a : Addr} {ds : List D} {src : Option Nat} {w0 : Wd} (h : ∀ w2, Le w0 w2 → RH K w2 → (ItD.still ⟨ds, src⟩ w2.M) → ∃ xs, SqL K w2.H a xs ∧ RepL K w2 ds xs) : ItOk K ⟨ds, src⟩ (Itl K a) w0 := by
  intro w2 l r st
  obtain ⟨xs, hx, hr⟩ := h w2 l r st
  refine ⟨⟨xs, hx, by rw [hr.length]; exact Nat.le_refl _⟩, fun i d hd => ?_⟩
  obtain ⟨x, ex, rx⟩ := hr.get hd
  refine ⟨⟨xs, x, hx, ex⟩, fun y H' ⟨e, hy⟩ => ⟨w2, e.symm, rfl, Le.refl _, r, ?_⟩⟩
  rw [show y = x from Option.some.inj ((hy xs hx).symm.trans ex)]; exact rx
theorem itOk_tup {a : Addr} {ds : List D} {src : Option Nat} {w0 : Wd} (h : ∀ w2, Le w0 w2 → RH K w2 → (ItD.still ⟨ds, src⟩ w2.M) → ∃ xs, SqT K w2.H a xs ∧ RepL K w2 ds xs) : ItOk K ⟨ds, src⟩ (Itt K a) w0 := by
  intro w2 l r st
  obtain ⟨xs, hx, hr⟩ := h w2 l r st
  refine ⟨⟨xs, hx, by rw [hr.length]; exact Nat.le_refl _⟩, fun i d hd => ?_⟩
  obtain ⟨x, ex, rx⟩ := hr.get hd
  refine ⟨⟨xs, x, hx, ex⟩, fun y H' ⟨e, hy⟩ => ⟨w2, e.symm, rfl, Le.refl _, r, ?_⟩⟩
  rw [show y = x from Option.some.inj ((hy xs hx).symm.trans ex)]; exact rx
theorem itOk_str {x : Str} {src : Option Nat} {w0 : Wd} : ItOk K ⟨x.cps.toList.map fun c => D.str ⟨#[c]⟩, src⟩ (Its x) w0 := by
  intro w2 l r st
  refine ⟨by show x.cps.size ≤ _; simp, fun i d hd => ?_⟩
  rw [List.getElem?_map] at hd
  cases hc : x.cps.toList[i]? with
  | none => rw [hc] at hd; cases hd
  | some c =>
    rw [hc] at hd
    cases hd
    have hc' : x.cps[i]? = some c := by simpa using hc
    refine ⟨(Array.getElem?_eq_some_iff.mp hc').1, fun y H' ⟨e, c', ec, ey⟩ => ⟨w2, e.symm, rfl, Le.refl _, r, ?_⟩⟩
    rw [hc'] at ec; cases ec; subst ey; simp [Rep]
theorem seqD_lift {d : D} {v : V} {R : ItD → MH → Prop} (rh : RH K w) (rv : Rep K w d v) (h : seqD d w.M R) : ∃ J it, SeqJ K w.H v J ∧ ItOk K it J w ∧ it.still w.M ∧ R it w.M := by
  cases d with
  | tup ds =>
    obtain ⟨a, xs, e, hs, hr⟩ := rv
    subst e
    exact ⟨_, ⟨ds, none⟩, .tup hs, itOk_tup fun w2 l r st => ⟨xs, l.sqT rh hs, RepL.le rh l _ hr⟩, trivial, h⟩
  | lst ds =>
    obtain ⟨a, xs, e, hs, nl, nr, hr⟩ := rv
    subst e
    exact ⟨_, ⟨ds, none⟩, .lst (SqL.of hs), itOk_list fun w2 l r st => ⟨xs, SqL.of (l.keep a _ hs nl), RepL.le rh l _ hr⟩, trivial, h⟩
  | scr ns =>
    obtain ⟨a, e, hs⟩ := rv
    subst e
    rcases hs with ⟨o, hs⟩ | hs
    · exact ⟨_, ⟨ns.map D.int, none⟩, .lst (xs := ns.map V.int) (.inl (.inr ⟨o, hs⟩)), itOk_list fun w2 l r st => ⟨ns.map V.int, .inl (.inr ⟨o, l.keep a _ hs (rh.kind_dead hs rfl)⟩), RepL.ints ns⟩, trivial, h⟩
    · exact ⟨_, ⟨ns.map D.int, none⟩, .lst (hs w.H), itOk_list fun w2 l r st => ⟨ns.map V.int, hs _, RepL.ints ns⟩, trivial, h⟩
  | str x =>
    have : v = .str x := by simpa [Rep] using rv
    subst this
    exact ⟨_, ⟨x.cps.toList.map fun c => D.str ⟨#[c]⟩, none⟩, .str x, itOk_str, trivial, h⟩
  | ref i =>
    obtain ⟨a, e, em⟩ := rv
    subst e
    obtain ⟨ds, ec, h⟩ := h
    obtain ⟨xs, hx, hr⟩ := rh.ok i a _ em ec
    refine ⟨_, ⟨ds, some i⟩, .lst (SqL.of hx), itOk_list fun w2 l r st => ?_, ec, h⟩
    obtain ⟨t, et, _⟩ := l.pre
    have em2 : w2.m[i]? = some a := by rw [et, List.getElem?_append_left (List.getElem?_eq_some_iff.mp em).1]; exact em
    obtain ⟨xs2, hx2, hr2⟩ := r.ok i a _ em2 st
    exact ⟨xs2, SqL.of hx2, hr2⟩
  | _ => exact h.elim
theorem mi_seq {tg l : Expr} {te : TE'} (h : ME X W l te) : MI X W tg l (tIt' te) :=
  ⟨PI.imp (pi_seq h.pe) fun σ H R ⟨w, δ, eH, rh, rs, q⟩ => by
    subst eH
    refine up_go h.mono rh rs q (fun _ _ x => x) fun d v w1 l1 rh1 rs1 rv h1 => ?_
    obtain ⟨J, it, hj, ok, st, q2⟩ := seqD_lift rh1 rv h1
    exact ⟨J, hj, q2 J w1 rfl l1 rh1 ok st⟩, fun δ M Q Q' E E' q x hh => h.mono _ _ _ _ _ _ (fun d M1 h1 => mono_seqD q h1) x hh⟩
/-- ranges -/
def rangeD (lo : Int) (n : Nat) : List D := (List.range n).map fun (i : Nat) => D.int (lo + (i : Int))
theorem rangeD_length {lo : Int} {n : Nat} : (rangeD lo n).length = n := by simp [rangeD]
theorem itOk_range {lo : Int} {n : Nat} {w0 : Wd} : ItOk K ⟨rangeD lo n, none⟩ (Itr lo n) w0 := by
  intro w2 l r st
  refine ⟨by show n ≤ (rangeD lo n).length; rw [rangeD_length]; exact Nat.le_refl _, fun i d hd => ?_⟩
  have hd' : (rangeD lo n)[i]? = some d := hd
  unfold rangeD at hd'
  rw [List.getElem?_map] at hd'
  have hi : i < n := by
    by_cases hi : i < n
    · exact hi
    · rw [List.getElem?_eq_none (by simp; omega)] at hd'; cases hd'
  rw [List.getElem?_range hi] at hd'
  cases hd'
  refine ⟨hi, fun y H' ⟨e, ey⟩ => ⟨w2, e.symm, rfl, Le.refl _, r, ?_⟩⟩
  subst ey; simp [Rep]
def tRng1' (ta : TA') : TI' := fun δ M R E => ta δ M (fun ds M1 => ∃ j : Int, ds = [.int j] ∧ -(2 ^ 62) ≤ j ∧ j < 2 ^ 62 ∧ R ⟨rangeD 0 j.toNat, none⟩ M1) E
def tRng2' (ta : TA') : TI' := fun δ M R E => ta δ M (fun ds M1 => ∃ i j : Int, ds = [.int i, .int j] ∧ (-(2 ^ 62) ≤ i ∧ i < 2 ^ 62 ∧ -(2 ^ 62) ≤ j ∧ j < 2 ^ 62) ∧ R ⟨rangeD i (j - i).toNat, none⟩ M1) E
theorem mi_range1 {tg : Expr} {ta : TA'} {p pos : Pos} (hg : Gl X "range") (hm : X.mg "range" = none) (ha : MA X W [a] ta) (hs : starEach [a] X.env = [(false, eval a X.env)] := by rfl) : MI X W tg (.Call (.Name "range" p) [a] [] pos) (tRng1' ta) :=
  ⟨PI.imp (pi_range1 hg hm ha.pa hs) fun σ H R ⟨w, δ, eH, rh, rs, q⟩ => by
    subst eH
    refine upA_go ha.mono rh rs q (fun _ _ x => x) fun d v w1 l1 rh1 rs1 rv ⟨j, e, h1, h2, h3⟩ => ?_
    subst e
    obtain ⟨v1, r1, e, rv1, e3⟩ := rv
    have e3 : r1 = [] := e3
    subst e e3
    exact ⟨j, by rw [rep_int rv1], h1, h2, h3 _ w1 rfl l1 rh1 itOk_range trivial⟩,
   fun δ M Q Q' E E' q x hh => ha.mono _ _ _ _ _ _ (fun d M1 ⟨j, e, h1, h2, h3⟩ => ⟨j, e, h1, h2, q _ _ h3⟩) x hh⟩
theorem mi_range2 {tg : Expr} {ta : TA'} {p pos : Pos} (hg : Gl X "range") (hm : X.mg "range" = none) (ha : MA X W [a, b] ta) (hs : starEach [a, b] X.env = [(false, eval a X.env), (false, eval b X.env)] := by rfl)
    (hs2 : starEach [b] X.env = [(false, eval b X.env)] := by rfl) : MI X W tg (.Call (.Name "range" p) [a, b] [] pos) (tRng2' ta) :=
  ⟨PI.imp (pi_range2 hg hm ha.pa hs hs2) fun σ H R ⟨w, δ, eH, rh, rs, q⟩ => by
    subst eH
    refine upA_go ha.mono rh rs q (fun _ _ x => x) fun d v w1 l1 rh1 rs1 rv ⟨i, j, e, h1, h3⟩ => ?_
    subst e
    obtain ⟨v1, r1, e, rv1, v2, r2, e2, rv2, e3⟩ := rv
    have e3 : r2 = [] := e3
    subst e e2 e3
    exact ⟨i, j, by rw [rep_int rv1, rep_int rv2], h1, h3 _ w1 rfl l1 rh1 itOk_range trivial⟩,
   fun δ M Q Q' E E' q x hh => ha.mono _ _ _ _ _ _ (fun d M1 ⟨i, j, e, h1, h3⟩ => ⟨i, j, e, h1, q _ _ h3⟩) x hh⟩

/-! ### for -/
def forL (it : ItD) (g : TG') (tb : TS') (D : Ends') : List MD.D → EnvD → MH → Prop
  | [], δ, M => it.still M ∧ D.nx δ M
  | d :: r, δ, M => it.still M ∧ g d δ M fun δ1 M1 => tb { D with nx := forL it g tb D r, ct := forL it g tb D r, bk := D.nx } δ1 M1
def tFor' (ti : TI') (g : TG') (tb : TS') : TS' := fun D δ M => ti δ M (fun it M1 => forL it g tb D it.items δ M1) (fun x M1 => D.ex x δ M1)
theorem mono_forL {it : ItD} {g : TG'} {tb : TS'} (hg : MonoG g) (hb : MonoS tb) {D D' : Ends'} (l : D.le D') : ∀ ds δ M, forL it g tb D ds δ M → forL it g tb D' ds δ M
  | [], _, _, h => ⟨h.1, l.nx _ _ h.2⟩
  | d :: r, δ, M, h => ⟨h.1, hg _ _ _ _ _ (fun δ1 M1 h1 => hb _ _ { D with nx := forL it g tb D r, ct := forL it g tb D r, bk := D.nx } { D' with nx := forL it g tb D' r, ct := forL it g tb D' r, bk := D'.nx } ⟨mono_forL hg hb l r, l.rt, l.nx, mono_forL hg hb l r, l.ex⟩ h1) h.2⟩
theorem ms_for {tg iter : Expr} {body : List Stmt} {ti : TI'} {g : TG'} {tb : TS'} (hp : PassesOwn (model X.prog X.w) X.A X.env X.xe) (hc : X.calm = true) (hi : MI X W tg iter ti) (hg : MG X tg g) (hb : MSs X W body tb)
    (hs : ∀ x, foldedSetIterable iter X.env x = pure x := by intro _; rfl) : MS X W (.For tg iter body [] pos) (tFor' ti g tb) :=
  ⟨PS.imp (ps_for hp hc hi.pi hg.pg hb.ps hs) fun D σ H ⟨w, δ, eH, rh, rs, h⟩ => by
    subst eH
    refine ⟨w, δ, rfl, rh, rs, hi.mono _ _ _ _ _ _ (fun it M1 h1 J w1 e1 l1 rh1 ok st => ?_) (ex_of rs rh (Ends'.le.refl _)) h⟩
    subst e1
    refine ⟨fun i m σ H => ∃ (w2 : Wd) (δ2 : EnvD) (r : List MD.D), w2.H = H ∧ Le w w2 ∧ Le w1 w2 ∧ RH X.K w2 ∧ RepS X.K w2 δ2 σ ∧ r = it.items.drop i ∧ i ≤ it.items.length ∧ m = r.length ∧ forL it g tb (endsD X.K w W D) r δ2 w2.M,
      ⟨it.items.length, w1, δ, it.items, rfl, l1, Le.refl _, rh1, rs.le rh l1, by simp, Nat.zero_le _, rfl, h1⟩, ?_⟩
    rintro i m σ2 H2 ⟨w2, δ2, r, rfl, l2, l12, rh2, rs2, er, hi, rfl, h2⟩
    cases r with
    | nil =>
      have hl : it.items.length ≤ i := by
        have := congrArg List.length er
        simp at this; omega
      have : i = it.items.length := by omega
      subst this
      exact .inl ⟨(ok w2 l12 rh2 h2.1).1, h2.2 σ2 w2 rfl l2 rh2 rs2⟩
    | cons d r =>
      have hd : it.items[i]? = some d := by
        have : (it.items.drop i)[0]? = some d := by rw [← er]; rfl
        simpa using this
      have hr : r = it.items.drop (i + 1) := by
        have : (it.items.drop i).drop 1 = r := by rw [← er]; rfl
        rw [← this, List.drop_drop]
      have hlt : i < it.items.length := (List.getElem?_eq_some_iff.mp hd).1
      obtain ⟨go, yl⟩ := (ok w2 l12 rh2 h2.1).2 i d hd
      refine .inr ⟨go, fun σ' H' => ∃ (w3 : Wd) (δ3 : EnvD), w3.H = H' ∧ Le w w3 ∧ Le w1 w3 ∧ RH X.K w3 ∧ RepS X.K w3 δ3 σ' ∧ forL it g tb (endsD X.K w W D) r δ3 w3.M,
        fun σ' H' ⟨w3, δ3, e3, l3, l13, r3, s3, q3⟩ => ⟨r.length, Nat.lt_succ_self _, w3, δ3, r, e3, l3, l13, r3, s3, hr, hlt, rfl, q3⟩, fun x H' hy => ?_⟩
      obtain ⟨w3, e3, eM, l3, rh3, rx⟩ := yl x H' hy
      subst e3
      have l03 := l2.trans rh rh2 l3
      have l13 := l12.trans rh1 rh2 l3
      have h2' := h2.2
      rw [← eM] at h2'
      refine ⟨w3, δ2, d, rfl, rh3, rs2.le rh2 l3, rx, hg.mono _ _ _ _ _ (fun δ4 M4 h4 σ4 w4 e4 l4 rh4 rs4 => ?_) h2'⟩
      subst e4
      have l04 := l03.trans rh rh3 l4
      have l14 := l13.trans rh1 rh3 l4
      refine upS_go hb.mono rh4 rs4 h4 ⟨fun δ5 M5 q5 σ5 w5 e5 l5 r5 s5 => ?_, fun _ _ h => PV.le rh rh4 l04 h, fun _ _ h => PN.le rh rh4 l04 h, fun δ5 M5 q5 σ5 w5 e5 l5 r5 s5 => ?_, fun _ _ _ h => PXS.le rh rh4 l04 h⟩
      · subst e5; exact ⟨w5, δ5, rfl, l04.trans rh rh4 l5, l14.trans rh1 rh4 l5, r5, s5, q5⟩
      · subst e5; exact ⟨w5, δ5, rfl, l04.trans rh rh4 l5, l14.trans rh1 rh4 l5, r5, s5, q5⟩,
   fun δ M D D' l h => hi.mono _ _ _ _ _ _ (fun it M1 h1 => mono_forL hg.mono hb.mono l _ _ _ h1) (fun x M1 h1 => l.ex _ _ _ h1) h⟩
end MD
/-! MD: comprehensions, defs, methods of built-ins, fields. -/
namespace MD
open PySem PySem.Spec PyProof.Rows L2
variable {K : PySem.W.Frag} {w w1 w2 : Wd} {X : Cx} {W : WX} {e a b c : Expr} {pos : Pos}

/-! ### comprehensions -/
abbrev WF : WX := fun _ _ _ _ => False
def wipeD (δ : EnvD) : List Nat → EnvD
  | [] => δ
  | v :: vs => (wipeD δ vs).set v none
theorem RepS.wipe {δ : EnvD} {σ : L2.St} (h : RepS K w δ σ) : ∀ vs, RepS K w (wipeD δ vs) (wipe σ vs)
  | [] => h
  | v :: vs => (RepS.wipe h vs).wipe1 v none
theorem wipe_get (σ : L2.St) (j : Nat) : ∀ vs : List Nat, (wipe σ vs)[j]? = if j ∈ vs then (σ[j]?).map (fun _ => none) else σ[j]?
  | [] => by simp [wipe]
  | v :: vs => by
    unfold wipe
    by_cases hv : v = j
    · subst hv
      rw [if_pos List.mem_cons_self]
      by_cases hl : v < σ.length
      · rw [List.getElem?_set_self (by rw [wipe_length]; exact hl), List.getElem?_eq_getElem hl]; rfl
      · rw [List.getElem?_eq_none (by rw [List.length_set, wipe_length]; omega), List.getElem?_eq_none (by omega)]; rfl
    · rw [List.getElem?_set_ne hv, wipe_get σ j vs]
      have : (j ∈ v :: vs) ↔ j ∈ vs := by
        rw [List.mem_cons]
        exact ⟨fun h => h.resolve_left (fun z => hv z.symm), .inr⟩
      by_cases hm : j ∈ vs
      · rw [if_pos hm, if_pos (this.mpr hm)]
      · rw [if_neg hm, if_neg (fun z => hm (this.mp z))]
theorem wipe_set {σ : L2.St} {vs : List Nat} {i : Nat} {x : Option V} (h : i ∈ vs) : wipe (σ.set i x) vs = wipe σ vs := by
  apply List.ext_getElem?
  intro j
  rw [wipe_get, wipe_get]
  by_cases hj : j ∈ vs
  · rw [if_pos hj, if_pos hj]
    by_cases e : i = j
    · subst e
      by_cases hl : i < σ.length
      · rw [List.getElem?_set_self hl, List.getElem?_eq_getElem hl]; rfl
      · rw [List.getElem?_eq_none (by simp; omega), List.getElem?_eq_none (by omega)]
    · rw [List.getElem?_set_ne e]
  · rw [if_neg hj, if_neg hj, List.getElem?_set_ne (fun z => hj (by rw [← z]; exact h))]
theorem wipe_wipe {σ : L2.St} {vs : List Nat} : wipe (wipe σ vs) vs = wipe σ vs := by
  apply List.ext_getElem?
  intro j
  rw [wipe_get, wipe_get]
  by_cases hj : j ∈ vs
  · rw [if_pos hj, if_pos hj, Option.map_map]; rfl
  · rw [if_neg hj, if_neg hj]
structure CompG (K : PySem.W.Frag) (vs : List Nat) (gH : TG) (g' : TG') : Prop where
  run : ∀ (w : Wd) (σ : L2.St) (δ : EnvD) (d : D) (v : V) (Q' : EnvD → MH → Prop), RH K w → RepS K w δ σ → Rep K w d v → g' d δ w.M Q' →
    gH v σ w.H fun σ2 H2 => wipe σ2 vs = wipe σ vs ∧ H2 = w.H ∧ ∃ δ2, RepS K w δ2 σ2 ∧ Q' δ2 w.M
  mono : MonoG g'
  hm : ∀ v σ H (P P' : L2.St → Hp → Prop), (∀ σ2 H2, P σ2 H2 → P' σ2 H2) → gH v σ H P → gH v σ H P'
theorem cg_name {vs : List Nat} {i : Nat} (h : i ∈ vs := by simp) : CompG K vs (gName i) (gName' i) :=
  ⟨fun w σ δ d v Q' rh rs rd q => ⟨wipe_set h, rfl, _, rs.set i rd, q⟩, fun d δ M Q Q' q h => q _ _ h, fun v σ H P P' q h => q _ _ h⟩
structure CompGs (K : PySem.W.Frag) (vs : List Nat) (gH : TGs) (gs : List TG') : Prop where
  run : ∀ (w : Wd) (σ : L2.St) (δ : EnvD) (ds : List D) (us : List V) (Q' : EnvD → MH → Prop), RH K w → RepS K w δ σ → RepL K w ds us → gAll' gs ds δ w.M Q' →
    gH us σ w.H fun σ2 H2 => wipe σ2 vs = wipe σ vs ∧ H2 = w.H ∧ ∃ δ2, RepS K w δ2 σ2 ∧ Q' δ2 w.M
  mono : ∀ ds δ M (Q Q' : EnvD → MH → Prop), (∀ δ M, Q δ M → Q' δ M) → gAll' gs ds δ M Q → gAll' gs ds δ M Q'
  hm : ∀ v σ H (P P' : L2.St → Hp → Prop), (∀ σ2 H2, P σ2 H2 → P' σ2 H2) → gH v σ H P → gH v σ H P'
theorem cgs_nil {vs : List Nat} : CompGs K vs gNil [] :=
  ⟨fun w σ δ ds us Q' rh rs rd ⟨e, q⟩ => by subst e; exact ⟨rd, rfl, rfl, δ, rs, q⟩, fun ds δ M Q Q' q ⟨e, h⟩ => ⟨e, q _ _ h⟩, fun v σ H P P' q ⟨e, h⟩ => ⟨e, q _ _ h⟩⟩
theorem cgs_cons {vs : List Nat} {i : Nat} {gH : TGs} {gs : List TG'} (k : CompGs K vs gH gs) (h : i ∈ vs := by simp) : CompGs K vs (gCons (gName i) gH) (gName' i :: gs) :=
  ⟨fun w σ δ ds us Q' rh rs rd ⟨d, r, e, q⟩ => by
    subst e
    obtain ⟨x, xr, rfl, rx, rr⟩ := rd
    refine ⟨x, xr, rfl, ?_⟩
    have := k.run w (σ.set i (some x)) (δ.set i (some d)) r xr Q' rh (rs.set i rx) rr q
    rw [wipe_set h] at this
    exact this, fun ds δ M Q Q' q ⟨d, r, e, h⟩ => ⟨d, r, e, k.mono _ _ _ _ _ q h⟩, fun v σ H P P' q ⟨x, r, e, h⟩ => ⟨x, r, e, k.hm _ _ _ _ _ q h⟩⟩
/-- the tuples that a loop makes or holds -/
theorem cg_tup {vs : List Nat} {n : Nat} {gH : TGs} {gs : List TG'} (k : CompGs K vs gH gs) : CompG K vs (fun v σ H Q => gTup K n gH v σ H Q ∨ gLst K n gH v σ H Q) (gTup' n gs) :=
  ⟨fun w σ δ d v Q' rh rs rd ⟨ds, ed, hl, q⟩ => by
    rcases ed with ed | ed
    · subst ed
      obtain ⟨a, xs, e, hq, hr⟩ := rd
      exact .inl ⟨a, xs, e, hq, by rw [hr.length]; exact hl, k.run w σ δ ds xs Q' rh rs hr q⟩
    · subst ed
      obtain ⟨a, xs, e, hq, _, _, hr⟩ := rd
      exact .inr ⟨a, xs, e, SqL.of hq, by rw [hr.length]; exact hl, k.run w σ δ ds xs Q' rh rs hr q⟩,
   fun d δ M Q Q' q ⟨ds, e, hl, h1⟩ => ⟨ds, e, hl, k.mono _ _ _ _ _ q h1⟩,
   fun v σ H P P' q h => by
    rcases h with ⟨a, xs, e, hs, hl, h⟩ | ⟨a, xs, e, hs, hl, h⟩
    · exact .inl ⟨a, xs, e, hs, hl, k.hm _ _ _ _ _ q h⟩
    · exact .inr ⟨a, xs, e, hs, hl, k.hm _ _ _ _ _ q h⟩⟩
theorem RepL.le' {w w1 : Wd} {ds : List D} {xs : List V} (h : RepL K w ds xs) (r : RH K w) (l : Le w w1) : RepL K w1 ds xs := RepL.le r l _ h
theorem Rep.le' {w w1 : Wd} {ds : D} {xs : V} (h : Rep K w ds xs) (r : RH K w) (l : Le w w1) : Rep K w1 ds xs := Rep.le r l _ h
theorem PG.or {t t' : TG} (h : PG X e t) (h' : PG X e t') : PG X e (fun v σ H Q => t v σ H Q ∨ t' v σ H Q) :=
  ⟨fun pins s σ H v u Q I r q => by
    rcases q with q | q
    · exact h.run pins s σ H v u Q I r q
    · exact h'.run pins s σ H v u Q I r q⟩
structure MTs (X : Cx) (W : WX) (ifs : List Expr) (t : TT') : Prop where
  pts : PTs X ifs (upT X.K W t)
  mono : MonoT t
def tYes' : TT' := fun _ M Q _ => Q true M
theorem mts_nil : MTs X W [] tYes' :=
  ⟨⟨fun pins s σ H Q I ⟨w, δ, e, rh, rs, h⟩ => by subst e; exact pts_nil.run pins s σ w.H Q I (h w rfl (Le.refl w) rh)⟩, fun _ _ _ _ _ _ q _ h => q _ _ h⟩
theorem mts_one {t : TT'} (h : MT X W c t) : MTs X W [c] t := ⟨pts_one h.pt, h.mono⟩
def lcL (it : ItD) (g : TG') (tt : TT') (te : TE') (vs : List Nat) (δ : EnvD) (Q : List D → MH → Prop) : List MD.D → List MD.D → MH → Prop
  | [], acc, M => it.still M ∧ Q acc M
  | d :: r, acc, M => it.still M ∧ g d (wipeD δ vs) M fun δ2 M2 => tt δ2 M2 (fun b M3 =>
      if b = true then te δ2 M3 (fun y M4 => acc.length < sizeLine ∧ lcL it g tt te vs δ Q r (acc ++ [y]) M4) (fun _ _ => False) else lcL it g tt te vs δ Q r acc M3) (fun _ _ => False)
theorem mono_lcL {it : ItD} {g : TG'} {tt : TT'} {te : TE'} {vs : List Nat} {δ : EnvD} (hg : MonoG g) (ht : MonoT tt) (he : MonoE te) {Q Q' : List D → MH → Prop} (q : ∀ a M, Q a M → Q' a M) : ∀ ds acc M, lcL it g tt te vs δ Q ds acc M → lcL it g tt te vs δ Q' ds acc M
  | [], _, _, h => ⟨h.1, q _ _ h.2⟩
  | d :: r, acc, M, h => ⟨h.1, hg _ _ _ _ _ (fun δ2 M2 h2 => ht _ _ _ _ _ _ (fun b M3 h3 => by
    cases b with
    | true => exact he _ _ _ _ _ _ (fun y M4 h4 => ⟨h4.1, mono_lcL hg ht he q r _ _ h4.2⟩) (fun _ _ z => z) h3
    | false => exact mono_lcL hg ht he q r _ _ h3) (fun _ _ z => z) h2) h.2⟩
def tLc' (cell : Bool) (ti : TI') (g : TG') (tt : TT') (te : TE') (vs : List Nat) : TE' := fun δ M Q E => ti δ M (fun it M1 => lcL it g tt te vs δ (fun acc M2 => newL cell acc M2 Q) it.items [] M1) E
structure Keeps (K : PySem.W.Frag) (w w' : Wd) : Prop where
  t : ∀ a xs, SqT K w.H a xs → SqT K w'.H a xs
  l : ∀ a xs, w.H a = some (.lst xs) → ¬ Live w a → a ∉ w.r → w'.H a = some (.lst xs) ∧ ¬ Live w' a ∧ a ∉ w'.r
  f : ∀ a o u, w.H a = some (.frz o u) → w'.H a = some (.frz o u)
  m : ∀ (i : Nat) a, w.m[i]? = some a → w'.m[i]? = some a
  x : ∀ a gs, w.H a = some (.xd gs) → w'.H a = some (.xd gs)
  d : ∀ a xs, w.H a = some (.dK xs) → ¬ Live w a → a ∉ w.r → w'.H a = some (.dK xs) ∧ ¬ Live w' a ∧ a ∉ w'.r
mutual
theorem Rep.keeps {w' : Wd} (k : Keeps K w w') : ∀ (d : D) {v : V}, Rep K w d v → Rep K w' d v
  | .non, _, h => by simpa [Rep] using h
  | .bl b, _, h => by simpa [Rep] using h
  | .int i, _, h => by simpa [Rep] using h
  | .str x, _, h => by simpa [Rep] using h
  | .con u, _, h => by simpa [Rep] using h
  | .exc a cls d fs, _, h => by
    simp only [Rep] at h ⊢
    obtain ⟨e, h | ⟨dd, e1, h1⟩⟩ := h
    · exact ⟨e, .inl h⟩
    · exact ⟨e, .inr ⟨dd, e1, k.x _ _ h1⟩⟩
  | .dct, _, h => by
    simp only [Rep] at h ⊢
    obtain ⟨a, zs, e, h1, nl, nr⟩ := h
    obtain ⟨h2, h3, h4⟩ := k.d _ _ h1 nl nr
    exact ⟨a, zs, e, h2, h3, h4⟩
  | .tup ds, _, h => by
    simp only [Rep] at h ⊢
    obtain ⟨a, zs, e, h1, hr⟩ := h
    exact ⟨a, zs, e, k.t _ _ h1, RepL.keeps k ds hr⟩
  | .lst ds, _, h => by
    simp only [Rep] at h ⊢
    obtain ⟨a, zs, e, h1, nl, nr, hr⟩ := h
    obtain ⟨h2, h3, h4⟩ := k.l _ _ h1 nl nr
    exact ⟨a, zs, e, h2, h3, h4, RepL.keeps k ds hr⟩
  | .scr ns, _, h => by
    simp only [Rep] at h ⊢
    obtain ⟨a, e, h | h⟩ := h
    · obtain ⟨o, h⟩ := h
      exact ⟨a, e, .inl ⟨o, k.f _ _ _ h⟩⟩
    · exact ⟨a, e, .inr h⟩
  | .ref i, _, h => by
    simp only [Rep] at h ⊢
    obtain ⟨a, e, h⟩ := h
    exact ⟨a, e, k.m _ _ h⟩
theorem RepL.keeps {w' : Wd} (k : Keeps K w w') : ∀ (ds : List D) {vs : List V}, RepL K w ds vs → RepL K w' ds vs
  | [], _, h => by simpa [RepL] using h
  | d :: ds, _, h => by
    simp only [RepL] at h ⊢
    obtain ⟨x, r', e, h1, h2⟩ := h
    exact ⟨x, r', e, Rep.keeps k d h1, RepL.keeps k ds h2⟩
end
theorem CellOk.keeps {w' : Wd} (k : Keeps K w w') {a : Addr} {c : Cell} (e : w'.H a = w.H a) (h : CellOk K w a c) : CellOk K w' a c := by
  cases c with
  | lst ds => obtain ⟨xs, h1, h2⟩ := h; exact ⟨xs, e.trans h1, RepL.keeps k _ h2⟩
  | dic kvs => obtain ⟨xs, h1, h2⟩ := h; exact ⟨xs, e.trans h1, h2.1, RepL.keeps k _ h2.2⟩
  | dit kvs => obtain ⟨xs, h1, h2⟩ := h; exact ⟨xs, e.trans h1, h2.1, RepL.keeps k _ h2.2⟩
  | ins C fs => obtain ⟨dx, gs, h1, h2⟩ := h; exact ⟨dx, gs, e.trans h1, h2.1, RepL.keeps k _ h2.2⟩
  | dead => obtain ⟨u, h⟩ := h; exact ⟨u, e.trans h⟩
/-- a held list becomes a cell -/
def Wd.adopt (w : Wd) (p : Addr) (ds : List D) (s : List Addr) : Wd := ⟨w.m ++ [p], w.M ++ [.lst ds], s, w.H⟩
theorem keeps_adopt {p : Addr} {ds : List D} {s : List Addr} (hp : p ∈ w.r) (hs : ∀ a ∈ s, a ∈ w.r) (hlen : w.m.length = w.M.length) : Keeps K w (w.adopt p ds s) := by
  have lv : ∀ a, ¬ Live w a → a ∉ w.r → ¬ Live (w.adopt p ds s) a := by
    intro a nl nr
    rintro ⟨i, c, e, ec, nd⟩
    have e : (w.m ++ [p])[i]? = some a := e
    have ec : (w.M ++ [Cell.lst ds])[i]? = some c := ec
    by_cases hi : i < w.m.length
    · rw [List.getElem?_append_left hi] at e
      rw [List.getElem?_append_left (by omega)] at ec
      exact nl ⟨i, c, e, ec, nd⟩
    · rw [List.getElem?_append_right (by omega)] at e
      have := List.mem_of_getElem? e
      rw [List.mem_singleton.mp this] at nr
      exact nr hp
  refine ⟨fun _ _ h => h, fun a xs h nl nr => ⟨h, lv a nl nr, fun z => nr (hs a z)⟩, fun _ _ _ h => h, fun i a h => ?_, fun _ _ h => h, fun a xs h nl nr => ⟨h, lv a nl nr, fun z => nr (hs a z)⟩⟩
  · show (w.m ++ [p])[i]? = some a
    rw [List.getElem?_append_left (List.getElem?_eq_some_iff.mp h).1]; exact h
theorem RH.adopt {p : Addr} {xs : List V} {ds : List D} {s : List Addr} (r : RH K w) (hp : p ∈ w.r) (hl : w.H p = some (.lst xs)) (hr : RepL K w ds xs) (hs : ∀ a ∈ s, a ∈ w.r) (ps : p ∉ s) : RH K (w.adopt p ds s) := by
  have hpm : p ∉ w.m := fun z => r.dr p z hp
  have k : Keeps K w (w.adopt p ds s) := keeps_adopt hp hs r.len
  refine ⟨by simp [Wd.adopt, r.len], ?_, fun a ha z => ?_, fun i a c e ec => ?_, fun a ha => r.rk a (hs a ha)⟩
  · show (w.m ++ [p]).Nodup
    rw [List.nodup_append]
    refine ⟨r.nd, by simp, fun a ha b hb => ?_⟩
    rw [List.mem_singleton.mp hb]
    exact fun z => hpm (by rw [← z]; exact ha)
  · rcases List.mem_append.mp ha with h | h
    · exact r.dr a h (hs a z)
    · rw [List.mem_singleton.mp h] at z; exact ps z
  · have e : (w.m ++ [p])[i]? = some a := e
    have ec : (w.M ++ [Cell.lst ds])[i]? = some c := ec
    by_cases hi : i < w.m.length
    · rw [List.getElem?_append_left hi] at e
      rw [List.getElem?_append_left (by rw [← r.len]; exact hi)] at ec
      exact (r.ok i a c e ec).keeps k rfl
    · rw [List.getElem?_append_right (by omega)] at e
      rw [List.getElem?_append_right (by rw [← r.len]; omega)] at ec
      have h0 : i - w.m.length = 0 := by
        have := (List.getElem?_eq_some_iff.mp e).1
        simp at this; omega
      rw [h0] at e
      rw [← r.len, h0] at ec
      simp at e ec
      subst e ec
      exact ⟨xs, hl, RepL.keeps k _ hr⟩
/-- the end of a comprehension -/
theorem lc_end {p : Addr} {xs : List V} {ds : List D} {cell : Bool} {Q : VK} {w0 : Wd} (rh0 : RH K w0) (rh1 : RH K w1) (l1 : Le w0 w1) (hp1 : w1.H p = none) (r : RH K w) (l : Le w1 w) (hp : p ∈ w.r) (hl : w.H p = some (.lst xs)) (hr : RepL K w ds xs)
    (hs : ∀ a ∈ w1.r, a ∈ w.r) (h : newL cell ds w.M (PV K w0 Q)) : Q (.ref p) w.H := by
  have ps : p ∉ w1.r := rh1.not_r_new hp1
  have hpm : p ∉ w.m := fun z => r.dr p z hp
  cases cell with
  | false =>
    have h : PV K w0 Q (.lst ds) w.M := h
    have l2 : Le w1 { w with r := w1.r } := ⟨l.pre, l.dead, l.keep, ⟨[], rfl, by simp⟩⟩
    refine h (.ref p) { w with r := w1.r } rfl (l1.trans rh0 rh1 l2) (r.drop hs) ?_
    simp only [Rep]
    exact ⟨p, xs, rfl, hl, fun z => r.r_dead hp z, ps, RepL.dropr hs _ hr⟩
  | true =>
    have h : PV K w0 Q (.ref w.M.length) (w.M ++ [.lst ds]) := h
    have l2 : Le w1 (w.adopt p ds w1.r) := by
      obtain ⟨t, et, ft⟩ := l.pre
      refine ⟨⟨t ++ [p], ?_, fun a ha => ?_⟩, fun i e => ?_, l.keep, ⟨[], rfl, by simp⟩⟩
      · show w.m ++ [p] = w1.m ++ (t ++ [p])
        rw [et, List.append_assoc]
      · rcases List.mem_append.mp ha with z | z
        · exact ft a z
        · rw [List.mem_singleton.mp z]; exact hp1
      · have := l.dead i e
        show (w.M ++ [Cell.lst ds])[i]? = _
        rw [List.getElem?_append_left (List.getElem?_eq_some_iff.mp this).1]; exact this
    refine h (.ref p) (w.adopt p ds w1.r) rfl (l1.trans rh0 rh1 l2) (r.adopt hp hl hr hs ps) ?_
    simp only [Rep]
    refine ⟨p, rfl, ?_⟩
    show (w.m ++ [p])[w.M.length]? = some p
    rw [← r.len]; simp
theorem Le.turn {p : Addr} {ys : List V} (hp : w.H p = none) (l : Le w w1) : Le w (w1.turn p ys) :=
  ⟨l.pre, l.dead, fun a u e n => by
    show upd w1.H p _ a = some u
    rw [upd_ne (ne_of_none e hp)]; exact l.keep a u e n, l.rr⟩
theorem me_lc (cell : Bool) {elt tg iter : Expr} {ifs : List Expr} {scope : Scope} {own : List (Str × Nat)} {ti : TI'} {gH : TG} {g : TG'} {tt : TT'} {te : TE'} (hc : X.calm = true) (hN : X.N.Nodup) (hi : MI X W tg iter ti) (ok : BlkOk X.N X.env.scope scope own)
    (hg : ∀ (s : Shared) (H : Hp) (C : Addr) (cl : List (Str × Addr)) (fp : List Addr), PG (X.blk s H scope (compEnvC scope cl C X.env) fp) tg gH) (cg : CompG X.K (own.map (·.2)) gH g)
    (ht : ∀ (s : Shared) (H : Hp) (C : Addr) (cl : List (Str × Addr)) (fp : List Addr), MTs (X.blk s H scope (compEnvC scope cl C X.env) fp) WF ifs tt)
    (he : ∀ (s : Shared) (H : Hp) (C : Addr) (cl : List (Str × Addr)) (fp : List Addr), ME (X.blk s H scope (compEnvC scope cl C X.env) fp) WF elt te) (hs : ∀ x, foldedSetIterable iter X.env x = pure x := by intro _; rfl) :
    ME X W (.ListComp elt [⟨tg, iter, ifs, 0⟩] scope pos) (tLc' cell ti g tt te (own.map (·.2))) :=
  ⟨PE.imp (pe_lc (tt := upT X.K WF tt) (te := up X.K WF te) hc hN hi.pi ok hg (fun s H C cl fp => (ht s H C cl fp).pts) (fun s H C cl fp => (he s H C cl fp).pe) hs) fun σ H Q ⟨w, δ, eH, rh, rs, h⟩ => by
    subst eH
    have mt : MonoT tt := (ht X.s_0 X.H_0 0 [] []).mono
    have me : MonoE te := (he X.s_0 X.H_0 0 [] []).mono
    refine ⟨w, δ, rfl, rh, rs, hi.mono _ _ _ _ _ _ (fun it M1 h1 J w1 e1 l1 rh1 ok1 st p hp => ?_) (fun _ _ x => x) h⟩
    subst e1
    refine ⟨fun i m H => ∃ (w2 : Wd) (r acc : List MD.D) (accv : List V), w2.H = H ∧ Le w1 w2 ∧ RH X.K w2 ∧ p ∈ w2.r ∧ w2.H p = some (.lst accv) ∧ RepL X.K w2 acc accv ∧ (∀ a ∈ w1.r, a ∈ w2.r) ∧ r = it.items.drop i ∧ i ≤ it.items.length ∧ m = r.length ∧
        lcL it g tt te (own.map (·.2)) δ (fun acc M2 => newL cell acc M2 (PV X.K w Q)) r acc w2.M,
      ⟨it.items.length, w1.hold p, it.items, [], [], rfl, Le.hold hp, rh1.hold hp, List.mem_cons_self, upd_same, RepL.nil, fun a ha => List.mem_cons_of_mem _ ha, by simp, Nat.zero_le _, rfl, h1⟩, ?_⟩
    rintro i m H2 ⟨w2, r, acc, accv, rfl, l2, rh2, hp2, hl2, hr2, hs2, er, hi2, rfl, h2⟩
    cases r with
    | nil =>
      have hl : it.items.length ≤ i := by
        have := congrArg List.length er
        simp at this; omega
      have : i = it.items.length := by omega
      subst this
      exact .inl ⟨(ok1 w2 l2 rh2 h2.1).1, lc_end rh rh1 l1 hp rh2 l2 hp2 hl2 hr2 hs2 h2.2⟩
    | cons d r =>
      have hd : it.items[i]? = some d := by
        have : (it.items.drop i)[0]? = some d := by rw [← er]; rfl
        simpa using this
      have hr : r = it.items.drop (i + 1) := by
        have : (it.items.drop i).drop 1 = r := by rw [← er]; rfl
        rw [← this, List.drop_drop]
      have hlt : i < it.items.length := (List.getElem?_eq_some_iff.mp hd).1
      obtain ⟨go, yl⟩ := (ok1 w2 l2 rh2 h2.1).2 i d hd
      refine .inr ⟨go, fun H' => ∃ (w5 : Wd) (acc : List MD.D) (accv : List V), w5.H = H' ∧ Le w1 w5 ∧ RH X.K w5 ∧ p ∈ w5.r ∧ w5.H p = some (.lst accv) ∧ RepL X.K w5 acc accv ∧ (∀ a ∈ w1.r, a ∈ w5.r) ∧
          lcL it g tt te (own.map (·.2)) δ (fun acc M2 => newL cell acc M2 (PV X.K w Q)) r acc w5.M,
        fun H' ⟨w5, acc5, accv5, e5, l5, rh5, hp5, hl5, hr5, hs5, q5⟩ => ⟨r.length, Nat.lt_succ_self _, w5, r, acc5, accv5, e5, l5, rh5, hp5, hl5, hr5, hs5, hr, hlt, rfl, q5⟩, fun x H' hy => ?_⟩
      obtain ⟨w3, e3, eM, l3, rh3, rx⟩ := yl x H' hy
      subst e3
      have lr3 : ∀ a ∈ w2.r, a ∈ w3.r := fun a ha => by
        obtain ⟨s, es, _⟩ := l3.rr
        rw [es]; exact List.mem_append_right _ ha
      have hp3 := lr3 p hp2
      have hl3 : w3.H p = some (.lst accv) := l3.keep p _ hl2 (rh2.r_dead hp2)
      have l13 := l2.trans rh1 rh2 l3
      have h2' := h2.2
      rw [← eM] at h2'
      have rsw : RepS X.K w3 (wipeD δ (own.map (·.2))) (wipe σ (own.map (·.2))) := (((rs.le rh l1).le rh1 l13)).wipe _
      have q := cg.run w3 (wipe σ (own.map (·.2))) (wipeD δ (own.map (·.2))) d x _ rh3 rsw rx h2'
      have key : ∀ σ2 H2, (wipe σ2 (own.map (·.2)) = wipe (wipe σ (own.map (·.2))) (own.map (·.2)) ∧ H2 = w3.H ∧ ∃ δ2, RepS X.K w3 δ2 σ2 ∧ tt δ2 w3.M (fun b M3 =>
          if b = true then te δ2 M3 (fun y M4 => acc.length < sizeLine ∧ lcL it g tt te (own.map (·.2)) δ (fun acc M2 => newL cell acc M2 (PV X.K w Q)) r (acc ++ [y]) M4) (fun _ _ => False) else lcL it g tt te (own.map (·.2)) δ (fun acc M2 => newL cell acc M2 (PV X.K w Q)) r acc M3) (fun _ _ => False)) →
          wipe σ2 (own.map (·.2)) = wipe σ (own.map (·.2)) ∧ upT X.K WF tt σ2 H2 fun b H3 => if b = true then up X.K WF te σ2 H3 fun y H4 => ∃ acc, H4 p = some (.lst acc) ∧ acc.length < sizeLine ∧
            (fun H' => ∃ (w5 : Wd) (acc : List MD.D) (accv : List V), w5.H = H' ∧ Le w1 w5 ∧ RH X.K w5 ∧ p ∈ w5.r ∧ w5.H p = some (.lst accv) ∧ RepL X.K w5 acc accv ∧ (∀ a ∈ w1.r, a ∈ w5.r) ∧
              lcL it g tt te (own.map (·.2)) δ (fun acc M2 => newL cell acc M2 (PV X.K w Q)) r acc w5.M) (upd H4 p (.lst (acc ++ [y]))) else
            (fun H' => ∃ (w5 : Wd) (acc : List MD.D) (accv : List V), w5.H = H' ∧ Le w1 w5 ∧ RH X.K w5 ∧ p ∈ w5.r ∧ w5.H p = some (.lst accv) ∧ RepL X.K w5 acc accv ∧ (∀ a ∈ w1.r, a ∈ w5.r) ∧
              lcL it g tt te (own.map (·.2)) δ (fun acc M2 => newL cell acc M2 (PV X.K w Q)) r acc w5.M) H3 := by
        rintro σ2 _ ⟨ew, rfl, δ2, rs2, q2⟩
        refine ⟨by rw [ew, wipe_wipe], upT_go mt rh3 rs2 q2 (fun _ _ z => z.elim) fun b w4 l4 rh4 rs4 q4 => ?_⟩
        have lr4 : ∀ a ∈ w3.r, a ∈ w4.r := fun a ha => by
          obtain ⟨s, es, _⟩ := l4.rr
          rw [es]; exact List.mem_append_right _ ha
        have hp4 := lr4 p hp3
        have hl4 : w4.H p = some (.lst accv) := l4.keep p _ hl3 (rh3.r_dead hp3)
        have l14 := l13.trans rh1 rh3 l4
        cases b with
        | false =>
          exact ⟨w4, acc, accv, rfl, l14, rh4, hp4, hl4, (RepL.le rh2 l3 _ hr2).le' rh3 l4, fun a ha => lr4 a (lr3 a (hs2 a ha)), q4⟩
        | true =>
          refine up_go me rh4 rs4 q4 (fun _ _ z => z.elim) fun dy vy w6 l6 rh6 rs6 ry ⟨q6, q7⟩ => ?_
          have lr6 : ∀ a ∈ w4.r, a ∈ w6.r := fun a ha => by
            obtain ⟨s, es, _⟩ := l6.rr
            rw [es]; exact List.mem_append_right _ ha
          have hp6 := lr6 p hp4
          have hl6 : w6.H p = some (.lst accv) := l6.keep p _ hl4 (rh4.r_dead hp4)
          have l16 := l14.trans rh1 rh4 l6
          have ra : RepL X.K w6 acc accv := ((RepL.le rh2 l3 _ hr2).le' rh3 l4).le' rh4 l6
          refine ⟨accv, hl6, by rw [ra.length]; exact q6, w6.turn p (accv ++ [vy]), acc ++ [dy], accv ++ [vy], rfl, l16.turn hp, rh6.turn hp6 hl6, hp6, upd_same, RepL.turn hp6 hl6 _ (ra.append (RepL.cons ry RepL.nil)), fun a ha => lr6 a (lr4 a (lr3 a (hs2 a ha))), q7⟩
      exact cg.hm _ _ _ _ _ key q, fun δ M Q Q' E E' q x hh => hi.mono _ _ _ _ _ _ (fun it M1 h1 => mono_lcL cg.mono (ht X.s_0 X.H_0 0 [] []).mono (he X.s_0 X.H_0 0 [] []).mono (fun a M h2 => h2.mono q) _ _ _ h1) x hh⟩
end MD
/-! MD: defs' promises, methods of built-ins. -/
namespace MD
open PySem PySem.Spec PyProof.Rows L2
variable {K : PySem.W.Frag} {w w1 w2 : Wd} {X : Cx} {W : WX} {e a b c : Expr} {pos : Pos}

/-! ### what a def leaves -/
mutual
def D.bel (n : Nat) : D → Bool
  | .ref i => decide (i < n)
  | .tup ds => D.belL n ds
  | .lst ds => D.belL n ds
  | _ => true
def D.belL (n : Nat) : List D → Bool
  | [] => true
  | d :: ds => D.bel n d && D.belL n ds
end
def Cell.below (n : Nat) : Cell → Bool
  | .lst ds => D.belL n ds
  | .dic kvs => D.belL n (kvs.map (·.2))
  | .dit kvs => D.belL n (kvs.map (·.2))
  | .ins _ fs => D.belL n (fs.map (·.2))
  | .dead => true
def WFM (M : MH) : Prop := ∀ c ∈ M, Cell.below M.length c = true
open Classical in
noncomputable def popM (n : Nat) (d : D) (M : MH) : MH := if d.bel n = true ∧ ∀ c ∈ M.take n, Cell.below n c = true then M.take n else M
theorem popM_same {n : Nat} {d : D} {M : MH} (h : M.length ≤ n) : popM n d M = M := by
  unfold popM
  split
  · exact List.take_of_length_le h
  · rfl
theorem popM_pop {n : Nat} {d : D} {M M' : MH} (hd : d.bel n = true) (hM : ∀ c ∈ M.take n, Cell.below n c = true) (e : M.take n = M') : popM n d M = M' := by
  unfold popM
  rw [if_pos ⟨hd, hM⟩, e]
mutual
theorem Rep.below (rh : RH K w) : ∀ (d : D) {v : V}, Rep K w d v → d.bel w.M.length = true
  | .ref i, _, h => by
    obtain ⟨a, _, h⟩ := h
    unfold D.bel
    rw [← rh.len]
    exact decide_eq_true (List.getElem?_eq_some_iff.mp h).1
  | .tup ds, _, h => by
    obtain ⟨a, zs, e, h1, hr⟩ := h
    unfold D.bel
    exact RepL.below rh ds hr
  | .lst ds, _, h => by
    obtain ⟨a, zs, e, h1, nl, nr, hr⟩ := h
    unfold D.bel
    exact RepL.below rh ds hr
  | .non, _, _ => by unfold D.bel; rfl
  | .bl _, _, _ => by unfold D.bel; rfl
  | .int _, _, _ => by unfold D.bel; rfl
  | .str _, _, _ => by unfold D.bel; rfl
  | .scr _, _, _ => by unfold D.bel; rfl
  | .con _, _, _ => by unfold D.bel; rfl
  | .exc _ _ _ _, _, _ => by unfold D.bel; rfl
  | .dct, _, _ => by unfold D.bel; rfl
theorem RepL.below (rh : RH K w) : ∀ (ds : List D) {vs : List V}, RepL K w ds vs → D.belL w.M.length ds = true
  | [], _, _ => by unfold D.belL; rfl
  | d :: ds, _, h => by
    obtain ⟨x, r', e, h1, h2⟩ := h
    unfold D.belL
    rw [Rep.below rh d h1, RepL.below rh ds h2]; rfl
end
theorem RH.wfm (rh : RH K w) : WFM w.M := fun c hc => by
  obtain ⟨i, hi, e⟩ := List.getElem_of_mem hc
  have hm : i < w.m.length := by rw [rh.len]; exact hi
  have ok := rh.ok i w.m[i] c (List.getElem?_eq_getElem hm) (by rw [List.getElem?_eq_getElem hi, e])
  cases c with
  | lst ds => obtain ⟨_, _, h⟩ := ok; exact RepL.below rh _ h
  | dic ds => obtain ⟨_, _, h⟩ := ok; exact RepL.below rh _ h.2
  | dit ds => obtain ⟨_, _, h⟩ := ok; exact RepL.below rh _ h.2
  | ins C fs => obtain ⟨_, _, _, h⟩ := ok; exact RepL.below rh _ h.2
  | dead => rfl
def Wd.pop (w : Wd) (n : Nat) : Wd := { w with m := w.m.take n, M := w.M.take n }
theorem live_pop {n : Nat} {a : Addr} (h : Live (w.pop n) a) : Live w a := by
  obtain ⟨i, c, e, ec, nd⟩ := h
  have e : (w.m.take n)[i]? = some a := e
  have ec : (w.M.take n)[i]? = some c := ec
  have hi : i < n := by
    by_cases hi : i < n
    · exact hi
    · rw [List.getElem?_take_eq_none (by omega)] at e; cases e
  rw [List.getElem?_take_of_lt hi] at e ec
  exact ⟨i, c, e, ec, nd⟩
mutual
theorem Rep.pop {n : Nat} : ∀ (d : D) {v : V}, d.bel n = true → Rep K w d v → Rep K (w.pop n) d v
  | .ref i, _, hb, h => by
    simp only [Rep] at h ⊢
    obtain ⟨a, e, h⟩ := h
    unfold D.bel at hb
    refine ⟨a, e, ?_⟩
    show (w.m.take n)[i]? = _
    rw [List.getElem?_take_of_lt (of_decide_eq_true hb)]; exact h
  | .tup ds, _, hb, h => by
    simp only [Rep] at h ⊢
    obtain ⟨a, zs, e, h1, hr⟩ := h
    unfold D.bel at hb
    exact ⟨a, zs, e, h1, RepL.pop ds hb hr⟩
  | .lst ds, _, hb, h => by
    simp only [Rep] at h ⊢
    obtain ⟨a, zs, e, h1, nl, nr, hr⟩ := h
    unfold D.bel at hb
    exact ⟨a, zs, e, h1, fun z => nl (live_pop z), nr, RepL.pop ds hb hr⟩
  | .non, _, _, h => by simpa [Rep] using h
  | .bl b, _, _, h => by simpa [Rep] using h
  | .int i, _, _, h => by simpa [Rep] using h
  | .str x, _, _, h => by simpa [Rep] using h
  | .con u, _, _, h => by simpa [Rep] using h
  | .exc _ _ _ _, _, _, h => by simp only [Rep] at h ⊢; exact h
  | .dct, _, _, h => by
    simp only [Rep] at h ⊢
    obtain ⟨a, zs, e, h1, nl, nr⟩ := h
    exact ⟨a, zs, e, h1, fun z => nl (live_pop z), nr⟩
  | .scr ns, _, _, h => by simp only [Rep] at h ⊢; exact h
theorem RepL.pop {n : Nat} : ∀ (ds : List D) {vs : List V}, D.belL n ds = true → RepL K w ds vs → RepL K (w.pop n) ds vs
  | [], _, _, h => h
  | d :: ds, _, hb, h => by
    simp only [RepL] at h ⊢
    obtain ⟨x, r', e, h1, h2⟩ := h
    unfold D.belL at hb
    rw [Bool.and_eq_true] at hb
    exact ⟨x, r', e, Rep.pop d hb.1 h1, RepL.pop ds hb.2 h2⟩
end
theorem RH.pop {n : Nat} (r : RH K w) (hM : ∀ c ∈ w.M.take n, Cell.below n c = true) : RH K (w.pop n) := by
  refine ⟨by simp [Wd.pop, r.len], r.nd.sublist (List.take_sublist n w.m), fun a ha => r.dr a (List.mem_of_mem_take ha), fun i a c e ec => ?_, r.rk⟩
  have e : (w.m.take n)[i]? = some a := e
  have ec : (w.M.take n)[i]? = some c := ec
  have hi : i < n := by
    by_cases hi : i < n
    · exact hi
    · rw [List.getElem?_take_eq_none (by omega)] at e; cases e
  have hb := hM c (List.mem_of_getElem? ec)
  rw [List.getElem?_take_of_lt hi] at e ec
  have ok := r.ok i a c e ec
  cases c with
  | lst ds => obtain ⟨xs, h1, h2⟩ := ok; exact ⟨xs, h1, RepL.pop _ hb h2⟩
  | dic ds => obtain ⟨xs, h1, h2⟩ := ok; exact ⟨xs, h1, h2.1, RepL.pop _ hb h2.2⟩
  | dit ds => obtain ⟨xs, h1, h2⟩ := ok; exact ⟨xs, h1, h2.1, RepL.pop _ hb h2.2⟩
  | ins C fs => obtain ⟨dx, xs, h1, h2⟩ := ok; exact ⟨dx, xs, h1, h2.1, RepL.pop _ hb h2.2⟩
  | dead => exact ok
theorem Le.pop {w0 : Wd} (r0 : RH K w0) (l : Le w0 w) : Le w0 (w.pop w0.M.length) := by
  obtain ⟨t, et, ft⟩ := l.pre
  refine ⟨⟨[], ?_, by simp⟩, fun i h => ?_, l.keep, l.rr⟩
  · show w.m.take w0.M.length = w0.m ++ []
    rw [et, ← r0.len, List.take_left', List.append_nil]; rfl
  · have := l.dead i h
    show (w.M.take w0.M.length)[i]? = _
    rw [List.getElem?_take_of_lt (List.getElem?_eq_some_iff.mp h).1]; exact this
theorem PV.pop {w0 : Wd} (r0 : RH K w0) {Q : VK} {d : D} {M : MH} (h : PV K w0 Q d (popM w0.M.length d M)) : PV K w0 Q d M := by
  intro v w1 e l r1 rv
  subst e
  unfold popM at h
  by_cases hc : d.bel w0.M.length = true ∧ ∀ c ∈ w1.M.take w0.M.length, Cell.below w0.M.length c = true
  · rw [if_pos hc] at h
    exact h v (w1.pop w0.M.length) rfl (l.pop r0) (r1.pop hc.2) (Rep.pop d hc.1 rv)
  · rw [if_neg hc] at h
    exact h v w1 rfl l r1 rv
open Classical in
noncomputable def popX (n : Nat) (x : Xc) (M : MH) : MH := if ∀ c ∈ M.take n, Cell.below n c = true then M.take n else M
theorem popX_same {n : Nat} {x : Xc} {M : MH} (h : M.length ≤ n) : popX n x M = M := by
  unfold popX
  split
  · exact List.take_of_length_le h
  · rfl
theorem RepX.pop {n : Nat} {x : Xc} {cls : Value} {dx : Option Addr} (h : RepX K w x cls dx) : RepX K (w.pop n) x cls dx := h
theorem PX.pop {w0 : Wd} (r0 : RH K w0) {Q : Value → Option Addr → Hp → Prop} {x : Xc} {M : MH} (h : PX K w0 Q x (popX w0.M.length x M)) : PX K w0 Q x M := by
  intro c v w1 e l r1 rv
  subst e
  unfold popX at h
  by_cases hc : ∀ c ∈ w1.M.take w0.M.length, Cell.below w0.M.length c = true
  · rw [if_pos hc] at h
    exact h c v (w1.pop w0.M.length) rfl (l.pop r0) (r1.pop hc) (RepX.pop rv)
  · rw [if_neg hc] at h
    exact h c v w1 rfl l r1 rv

/-! ### a def keeps its promise -/
noncomputable def retE (n : Nat) (Q : QE) (E : QX) : Ends' := { nx := fun _ M => Q .non (popM n .non M), rt := fun d M => Q d (popM n d M), ex := fun x _ M => E x (popX n x M) }
def startD (N : List Str) (ds : List D) : EnvD := ds.map some ++ List.replicate (N.length - ds.length) none
theorem RepL.start {ds : List D} {vs : List V} (h : RepL K w ds vs) (N : List Str) : RepS K w (startD N ds) (L2.start N vs) := by
  refine ⟨by simp [startD, L2.start, h.length], fun i d e => ?_⟩
  unfold startD at e
  by_cases hi : i < ds.length
  · rw [List.getElem?_append_left (by simpa using hi), List.getElem?_map] at e
    cases hd : ds[i]? with
    | none => rw [hd] at e; cases e
    | some d' =>
      rw [hd] at e
      have : d' = d := Option.some.inj (Option.some.inj e)
      subst this
      obtain ⟨v, ev, rv⟩ := h.get hd
      refine ⟨v, ?_, rv⟩
      unfold L2.start
      rw [List.getElem?_append_left (by rw [List.length_map, h.length]; exact hi), List.getElem?_map, ev]; rfl
  · rw [List.getElem?_append_right (by simpa using hi)] at e
    have := List.mem_of_getElem? e
    rw [List.mem_replicate] at this
    cases this.2
section
variable {P : Program} {wd : World} {mg : Str → Option Value} {base : Heap}
theorem okM {x qual : Str} {st : Stmt} {f : Addr} {fd : FuncData} {N ps : List Str} {k : Nat} {sp : SpD} (F : Fun K x qual st f fd) (S : FnScope N ps (defScope st)) (len : ∀ ds M Q E, sp ds M Q E → ds.length = ps.length)
    (hbody : ∀ (cdv : Value) (A : Around) (outer : List Env) (s : Shared) (H : Hp) (E : XK), Room k (A.deeper (envOfC qual (defScope st) s.heap.objs.size f cdv)) →
      ∃ ts, MSs (cxOf (L2.CX P wd) P wd K mg base N qual (defScope st) f cdv A outer s H E) (fun c d _ H => E c d H) (defBody st) ts ∧
        ∀ ds M Q' E', WFM M → D.belL M.length ds = true → sp ds M Q' E' → ts (retE M.length Q' E') (startD N ds) M) : FnOk P wd K mg base (L2.CX P wd) (k + 1) f fd ps (upP K sp) := by
  refine F.okX S (fun vs H Q E ⟨w, ds, _, _, hr, h⟩ => by rw [hr.length]; exact len _ _ _ _ h) fun cdv A outer s H vs Q E hr h => ?_
  obtain ⟨w, ds, rfl, rh, hd, h⟩ := h
  obtain ⟨ts, hs, q⟩ := hbody cdv A outer s w.H E hr
  refine ⟨_, hs.ps, w, startD N ds, rfl, rh, hd.start N, hs.mono _ _ _ _ ?_ (q ds w.M _ _ rh.wfm (RepL.below rh ds hd) h)⟩
  exact ⟨fun δ M h1 σ w1 e l r1 s1 => PV.pop rh h1 .non w1 e l r1 (by simp [Rep]), fun d M h1 => PV.pop rh h1, fun _ _ h => h.elim, fun _ _ h => h.elim, fun x δ M h1 cls dx σ w1 e l r1 s1 rx => PX.pop rh h1 cls dx w1 e l r1 rx⟩
end

/-! ### methods of built-ins -/
def tyD (T : String) (d : D) (M : MH) : Prop := match d with
  | .str _ => T = "str"
  | .lst _ => T = "list"
  | .ref i => (T = "list" ∧ ∃ ds, M[i]? = some (.lst ds)) ∨ (T = "dict" ∧ ((∃ kvs, M[i]? = some (.dic kvs)) ∨ ∃ kvs, M[i]? = some (.dit kvs)))
  | _ => False
theorem tyD_tyV {T : String} {d : D} {v : V} (rh : RH K w) (r : Rep K w d v) (h : tyD T d w.M) : tyV K T v w.H := by
  cases d with
  | str x => rw [rep_str r]; exact h
  | lst ds =>
    obtain ⟨a, xs, e, hx, _⟩ := r
    subst e
    exact .inl ⟨h, xs, SqL.of hx⟩
  | ref i =>
    obtain ⟨a, e, em⟩ := r
    subst e
    rcases h with ⟨h, ds, ec⟩ | ⟨h, ⟨ds, ec⟩ | ⟨ds, ec⟩⟩
    · obtain ⟨xs, hx, _⟩ := rh.ok i a _ em ec
      exact .inl ⟨h, xs, SqL.of hx⟩
    · obtain ⟨xs, hx, _⟩ := rh.ok i a _ em ec
      exact .inr (.inr (.inl ⟨h, .inl ⟨xs, hx⟩⟩))
    · obtain ⟨xs, hx, _⟩ := rh.ok i a _ em ec
      exact .inr (.inr (.inl ⟨h, .inr ⟨xs, hx⟩⟩))
  | _ => exact h.elim
abbrev RM' := D → List D → MH → QE → Prop
def LiftM (K : PySem.W.Frag) (r : V → List V → Hp → VK → Prop) (r' : RM') : Prop := ∀ (w : Wd) (x : V) (xs : List V) (d : D) (ds : List D) (Q : VK), RH K w → Rep K w d x → RepL K w ds xs → r' d ds w.M (PV K w Q) → r x xs w.H Q
def MonoM (r : RM') : Prop := ∀ x ds M (Q Q' : QE), (∀ d M, Q d M → Q' d M) → r x ds M Q → r x ds M Q'
def tBM' (T : String) (r : RM') (to : TE') (t : TA') : TE' := fun δ M Q E => to δ M (fun x M1 => tyD T x M1 ∧ t δ M1 (fun ds M2 => r x ds M2 Q) E) E
theorem me_bm {T id : String} {name : Str} {apos cpos : Pos} {o e : Expr} {es : List Expr} {r : V → List V → Hp → VK → Prop} {r' : RM'} {to : TE'} {t : TA'} (pa : PlainAttrs T) (slot : Slot T name id) (hty : typeOf (.builtin id) = pure (.type "method_descriptor")) (hm : MtR X id r) (L : LiftM X.K r r') (mr : MonoM r')
    (ho : ME X W o to) (ha : MA X W (e :: es) t)
    (hbase : attributeBase o name X.env (eval o X.env) = eval o X.env := by rfl)
    (hfew : ((backTo cpos (starEach (e :: es) X.env)).all (fun x => !x.1) && (backToKw cpos (keywordEach [] X.env)).all (fun x => x.1.isSome)
      && decide ((e :: es).length + ([] : List Keyword).length + (if ([] : List Keyword).isEmpty then 0 else 1) < 30)) = true := by rfl)
    (hline : (apos.endLine == cpos.line) = true := by rfl) (hs : starEach (e :: es) X.env = (false, eval e X.env) :: starEach es X.env := by rfl) (hplain : (backTo cpos (starEach es X.env)).any (·.1) = false := by rfl) :
    ME X W (.Call (.Attribute o name apos) (e :: es) [] cpos) (tBM' T r' to t) :=
  ⟨PE.imp (pe_bm pa slot hty hm ho.pe ha.pa hbase hfew hline hs hplain) fun σ H Q ⟨w, δ, eH, rh, rs, h⟩ => by
    subst eH
    refine up_go ho.mono rh rs h (fun _ _ x => x) fun d v w1 l1 rh1 rs1 rv ⟨h1, h2⟩ => ⟨tyD_tyV rh1 rv h1, ?_⟩
    refine upA_go ha.mono rh1 rs1 h2 (fun _ _ x => x.le rh rh1 l1) fun ds vs w2 l2 rh2 rs2 rvs h3 => ?_
    exact L w2 v vs d ds Q rh2 (rv.le' rh1 l2) rvs (mr _ _ _ _ _ (fun d M q => (q.le rh rh1 l1).le rh1 rh2 l2) h3),
   fun δ M Q Q' E E' q x hh => ho.mono _ _ _ _ _ _ (fun d M1 ⟨h1, h2⟩ => ⟨h1, ha.mono _ _ _ _ _ _ (fun ds M2 h3 => mr _ _ _ _ _ q h3) x h2⟩) x hh⟩
theorem me_bm0 {T id : String} {name : Str} {apos cpos : Pos} {o : Expr} {r : V → List V → Hp → VK → Prop} {r' : RM'} {to : TE'} (pa : PlainAttrs T) (slot : Slot T name id) (hty : typeOf (.builtin id) = pure (.type "method_descriptor")) (hm : MtR X id r) (L : LiftM X.K r r') (mr : MonoM r')
    (ho : ME X W o to)
    (hbase : attributeBase o name X.env (eval o X.env) = eval o X.env := by rfl) (hline : (apos.endLine == cpos.line) = true := by rfl) :
    ME X W (.Call (.Attribute o name apos) [] [] cpos) (tBM' T r' to tNil') :=
  ⟨PE.imp (pe_bm0 pa slot hty hm ho.pe hbase hline) fun σ H Q ⟨w, δ, eH, rh, rs, h⟩ => by
    subst eH
    refine up_go ho.mono rh rs h (fun _ _ x => x) fun d v w1 l1 rh1 rs1 rv ⟨h1, h2⟩ => ⟨tyD_tyV rh1 rv h1, ?_⟩
    exact L w1 v [] d [] Q rh1 rv RepL.nil (mr _ _ _ _ _ (fun d M q => q.le rh rh1 l1) h2),
   fun δ M Q Q' E E' q x hh => ho.mono _ _ _ _ _ _ (fun d M1 ⟨h1, h2⟩ => ⟨h1, mr _ _ _ _ _ q h2⟩) x hh⟩

/-! ### slices -/
abbrev TO' := EnvD → MH → (Option Int → MH → Prop) → QX → Prop
def MonoO (t : TO') : Prop := ∀ δ M (Q Q' : Option Int → MH → Prop) (E E' : QX), (∀ d M, Q d M → Q' d M) → (∀ x M, E x M → E' x M) → t δ M Q E → t δ M Q' E'
def upO (K : PySem.W.Frag) (W : WX) (t : TO') : TO := fun σ H Q => ∃ (w : Wd) (δ : EnvD), w.H = H ∧ RH K w ∧ RepS K w δ σ ∧ t δ w.M (fun o M1 => ∀ w1, w1.M = M1 → Le w w1 → RH K w1 → Q o w1.H) (PX K w fun c d H => W c d σ H)
structure MO (X : Cx) (W : WX) (e : Option Expr) (t : TO') : Prop where
  po : PO X e (upO X.K W t)
  mono : MonoO t
theorem PO.imp {e : Option Expr} {t t' : TO} (h : PO X e t) (i : ∀ σ H Q, t' σ H Q → t σ H Q) : PO X e t' := ⟨fun pins s σ H Q I q => h.run pins s σ H Q I (i _ _ _ q)⟩
def tNoPart' : TO' := fun _ M Q _ => Q none M
def tPart' (t : TE') : TO' := fun δ M Q E => t δ M (fun d M1 => ∃ i, d = .int i ∧ Q (some i) M1) E
theorem mo_none : MO X W none tNoPart' := ⟨PO.imp po_none fun σ H Q ⟨w, δ, eH, rh, rs, h⟩ => by subst eH; exact h w rfl (Le.refl w) rh, fun _ _ _ _ _ _ q _ h => q _ _ h⟩
theorem mo_some {t : TE'} (h : ME X W e t) : MO X W (some e) (tPart' t) :=
  ⟨PO.imp (po_some h.pe) fun σ H Q ⟨w, δ, eH, rh, rs, h1⟩ => by
    subst eH
    refine up_go h.mono rh rs h1 (fun _ _ x => x) fun d v w1 l1 rh1 rs1 rv ⟨i, e, h2⟩ => ?_
    subst e
    exact ⟨i, rep_int rv, h2 w1 rfl l1 rh1⟩, fun δ M Q Q' E E' q x hh => h.mono _ _ _ _ _ _ (fun d M1 ⟨i, e, h1⟩ => ⟨i, e, q _ _ h1⟩) x hh⟩
abbrev RS' := D → Option Int → Option Int → MH → QE → Prop
def LiftSl (K : PySem.W.Frag) (r : V → Option Int → Option Int → Hp → VK → Prop) (r' : RS') : Prop := ∀ (w : Wd) (x : V) (d : D) (lo hi : Option Int) (Q : VK), RH K w → Rep K w d x → r' d lo hi w.M (PV K w Q) → r x lo hi w.H Q
def MonoSl (r : RS') : Prop := ∀ d lo hi M (Q Q' : QE), (∀ d M, Q d M → Q' d M) → r d lo hi M Q → r d lo hi M Q'
def tSl' (r : RS') (te : TE') (tl th : TO') : TE' := fun δ M Q E => te δ M (fun d M1 => tl δ M1 (fun lo M2 => th δ M2 (fun hi M3 => r d lo hi M3 Q) E) E) E
theorem upO_go {t : TO'} (ma : MonoO t) {σ : L2.St} {δ : EnvD} {G : Option Int → Hp → Prop} {Q0 : Option Int → MH → Prop} {E0 : QX} {w : Wd} (r : RH K w) (s : RepS K w δ σ) (h : t δ w.M Q0 E0)
    (hE : ∀ x M, E0 x M → PX K w (fun c d H => W c d σ H) x M)
    (hG : ∀ b w1, Le w w1 → RH K w1 → RepS K w1 δ σ → Q0 b w1.M → G b w1.H) : upO K W t σ w.H G :=
  ⟨w, δ, rfl, r, s, ma _ _ _ _ _ _ (fun d M q w1 e l r1 => by subst e; exact hG d w1 l r1 (s.le r l) q) hE h⟩
theorem me_slice {lo hi : Option Expr} {p2 : Pos} {r : V → Option Int → Option Int → Hp → VK → Prop} {r' : RS'} {te : TE'} {tl th : TO'} (hr : SlR X r) (L : LiftSl X.K r r') (mr : MonoSl r') (he : ME X W e te) (hl : MO X W lo tl) (hu : MO X W hi th) :
    ME X W (.Subscript e (.Slice lo hi none p2) pos) (tSl' r' te tl th) :=
  ⟨PE.imp (pe_slice hr he.pe hl.po hu.po) fun σ H Q ⟨w, δ, eH, rh, rs, h⟩ => by
    subst eH
    refine up_go he.mono rh rs h (fun _ _ x => x) fun d v w1 l1 rh1 rs1 rv h1 => ?_
    refine upO_go hl.mono rh1 rs1 h1 (fun _ _ x => x.le rh rh1 l1) fun lo w2 l2 rh2 rs2 h2 => ?_
    have l02 := l1.trans rh rh1 l2
    refine upO_go hu.mono rh2 rs2 h2 (fun _ _ x => x.le rh rh2 l02) fun hi w3 l3 rh3 rs3 h3 => ?_
    exact L w3 v d lo hi Q rh3 ((rv.le' rh1 l2).le' rh2 l3) (mr _ _ _ _ _ _ (fun d M q => (q.le rh rh2 l02).le rh2 rh3 l3) h3),
   fun δ M Q Q' E E' q x hh => he.mono _ _ _ _ _ _ (fun d M1 h1 => hl.mono _ _ _ _ _ _ (fun o M2 h2 => hu.mono _ _ _ _ _ _ (fun o M3 h3 => mr _ _ _ _ _ _ q h3) x h2) x h1) x hh⟩
/-- a comparison of three -/
def tChain' (r r' : R2') (ta tb tc : TE') : TE' := fun δ M Q E => ta δ M (fun x M1 => tb δ M1 (fun y M2 => r x y M2 fun z M3 => ∃ k, z = .bl k ∧ if k = true then tc δ M3 (fun u M4 => r' y u M4 Q) E else Q (.bl false) M3) E) E
theorem mono_chain {r r' : R2'} {ta tb tc : TE'} (hr : Mono2 r) (hr' : Mono2 r') (ha : MonoE ta) (hb : MonoE tb) (hc : MonoE tc) : MonoE (tChain' r r' ta tb tc) := fun δ M Q Q' E E' q x h =>
  ha _ _ _ _ _ _ (fun d M1 h1 => hb _ _ _ _ _ _ (fun d2 M2 h2 => hr _ _ _ _ _ (fun z M3 ⟨k, e, h3⟩ => ⟨k, e, by
    cases k with
    | true => exact hc _ _ _ _ _ _ (fun u M4 h4 => hr' _ _ _ _ _ q h4) x h3
    | false => exact q _ _ h3⟩) h2) x h1) x h
theorem chain_lift {r1 r2 : R2} {r1' r2' : R2'} {ta tb tc : TE'} (L1 : Lift2 K r1 r1') (L2' : Lift2 K r2 r2') (m1 : Mono2 r1') (m2 : Mono2 r2') (ma : MonoE ta) (mb : MonoE tb) (mc : MonoE tc) (σ : L2.St) (H : Hp) (Q : VK)
    (h : up K W (tChain' r1' r2' ta tb tc) σ H Q) : tChain r1 r2 (up K W ta) (up K W tb) (up K W tc) σ H Q := by
  obtain ⟨w, δ, rfl, rh, rs, h⟩ := h
  refine up_go ma rh rs h (fun _ _ x => x) fun dx vx w1 l1 rh1 rs1 rx h1 => ?_
  refine up_go mb rh1 rs1 h1 (fun _ _ x => x.le rh rh1 l1) fun dy vy w2 l2 rh2 rs2 ry h2 => ?_
  have l02 := l1.trans rh rh1 l2
  refine L1 w2 vx vy dx dy _ rh2 (rx.le' rh1 l2) ry (m1 _ _ _ _ _ (fun z M3 ⟨k, e, h3⟩ v3 w3 e3 l3 rh3 rv3 => ?_) h2)
  subst e e3
  refine ⟨k, rep_bl rv3, ?_⟩
  have l03 := l02.trans rh rh2 l3
  cases k with
  | false => exact h3 _ w3 rfl l03 rh3 (by simp [Rep])
  | true =>
    refine up_go mc rh3 (rs2.le rh2 l3) h3 (fun _ _ x => x.le rh rh3 l03) fun dz vz w4 l4 rh4 rs4 rz h4 => ?_
    exact L2' w4 vy vz dy dz Q rh4 ((ry.le' rh2 l3).le' rh3 l4) rz (m2 _ _ _ _ _ (fun d M q => (q.le rh rh3 l03).le rh3 rh4 l4) h4)
theorem me_chain {op op' : CmpOp} {r1 r2 : R2} {r1' r2' : R2'} {ta tb tc : TE'} (ho : OpR X (compareOp op) r1) (ho' : OpR X (compareOp op') r2) (L1 : Lift2 X.K r1 r1') (L2' : Lift2 X.K r2 r2') (m1 : Mono2 r1') (m2 : Mono2 r2') (ha : ME X W a ta) (hb : ME X W b tb) (hc : ME X W c tc)
    (hm : lastMarks [op, op'] [b, c] = false := by with_unfolding_all rfl) : ME X W (.Compare a [op, op'] [b, c] pos) (tChain' r1' r2' ta tb tc) :=
  ⟨PE.imp (pe_chain ho ho' ha.pe hb.pe hc.pe hm) (chain_lift L1 L2' m1 m2 ha.mono hb.mono hc.mono), mono_chain m1 m2 ha.mono hb.mono hc.mono⟩
theorem mt_chain {op op' : CmpOp} {r1 r2 : R2} {r1' r2' : R2'} {ta tb tc : TE'} (ho : OpR X (compareOp op) r1) (ho' : OpR X (compareOp op') r2) (L1 : Lift2 X.K r1 r1') (L2' : Lift2 X.K r2 r2') (m1 : Mono2 r1') (m2 : Mono2 r2') (ha : ME X W a ta) (hb : ME X W b tb) (hc : ME X W c tc)
    (hm : lastMarks [op, op'] [b, c] = false := by with_unfolding_all rfl) : MT X W (.Compare a [op, op'] [b, c] pos) (tB' (tChain' r1' r2' ta tb tc)) :=
  ⟨PT.imp (pt_chain ho ho' ha.pe hb.pe hc.pe hm) fun σ H Q ⟨w, δ, e, rh, rs, h⟩ => by
    refine chain_lift L1 L2' m1 m2 ha.mono hb.mono hc.mono σ H (fun x H' => ∃ k, x = .bl k ∧ Q k H') ⟨w, δ, e, rh, rs, ?_⟩
    refine mono_chain m1 m2 ha.mono hb.mono hc.mono _ _ _ _ _ _ (fun d M ⟨c, e, h1⟩ v w1 e1 l r1 rv => ?_) (fun _ _ x => x) h
    subst e
    exact ⟨c, rep_bl rv, h1 w1 e1 l r1⟩, mono_B (mono_chain m1 m2 ha.mono hb.mono hc.mono)⟩
end MD
/-! MD: operators and built-ins over data. -/
namespace MD
open PySem PySem.Spec PyProof.Rows L2
variable {K : PySem.W.Frag} {w w1 w2 : Wd} {X : Cx} {W : WX} {e a b c : Expr} {pos : Pos}

/-! ### what is a list, a tuple -/
def lstOf (d : D) (M : MH) : Option (List D) := match d with
  | .lst ds => some ds
  | .ref i => match M[i]? with
    | some (.lst ds) => some ds
    | _ => none
  | _ => none
theorem lstOf_rep {d : D} {v : V} {ds : List D} (rh : RH K w) (r : Rep K w d v) (h : lstOf d w.M = some ds) : ∃ a xs, v = .ref a ∧ w.H a = some (.lst xs) ∧ RepL K w ds xs := by
  cases d with
  | lst es =>
    obtain ⟨a, xs, e, hx, _, _, hr⟩ := r
    cases h
    exact ⟨a, xs, e, hx, hr⟩
  | ref i =>
    obtain ⟨a, e, em⟩ := r
    unfold lstOf at h
    simp only at h
    split at h
    · rename_i es ec
      cases h
      obtain ⟨xs, hx, hr⟩ := rh.ok i a _ em ec
      exact ⟨a, xs, e, hx, hr⟩
    · cases h
  | _ => cases h
/-- a list, a tuple or the script, to be read -/
def seqOf (d : D) (M : MH) : Option (List D) := match d with
  | .tup ds => some ds
  | .scr ns => some (ns.map D.int)
  | d => lstOf d M
theorem seqOf_rep {d : D} {v : V} {ds : List D} (rh : RH K w) (r : Rep K w d v) (h : seqOf d w.M = some ds) : ∃ a xs, v = .ref a ∧ (SqL K w.H a xs ∨ SqT K w.H a xs) ∧ RepL K w ds xs := by
  cases d with
  | tup es =>
    obtain ⟨a, xs, e, hx, hr⟩ := r
    cases h
    exact ⟨a, xs, e, .inr hx, hr⟩
  | scr ns =>
    obtain ⟨a, e, hx⟩ := r
    cases h
    rcases hx with ⟨o, hx⟩ | hx
    · exact ⟨a, _, e, .inl (.inl (.inr ⟨o, hx⟩)), RepL.ints ns⟩
    · exact ⟨a, _, e, .inl (hx w.H), RepL.ints ns⟩
  | lst es => obtain ⟨a, xs, e, hx, hr⟩ := lstOf_rep rh r h; exact ⟨a, xs, e, .inl (SqL.of hx), hr⟩
  | ref i => obtain ⟨a, xs, e, hx, hr⟩ := lstOf_rep rh r h; exact ⟨a, xs, e, .inl (SqL.of hx), hr⟩
  | _ => cases h

/-! ### arithmetic -/
def MulOk (i j : Int) : Prop := CMul i j ∨ CMulX i j
theorem op_mulA {X : Cx} : OpR X (binaryOp .Mult) (rI MulOk fun i j => .int (i * j)) := opI fun _ _ _ _ _ _ _ hc q => mul_int q (hc.elim CMul.ok CMulX.ok)
def DivOk (j : Int) : Prop := j ≠ 0 ∧ j.natAbs < 2 ^ 9000
theorem op_fdivA {X : Cx} : OpR X (binaryOp .FloorDiv) (rI (fun _ j => DivOk j) fun i j => .int (i.fdiv j)) := opI fun i j _ _ _ _ _ hc q =>
  floordiv_int hc.1 q (.inl (PyProof.noPylong_of_log2 (PySem.Flt.log2_lt_of (by decide) hc.2)))
theorem rep_mk_int {i : Int} : Rep K w (.int i) (.int i) := by simp [Rep]
theorem rep_mk_bl {i : Bool} : Rep K w (.bl i) (.bl i) := by simp [Rep]
theorem rep_mk_str {i : Str} : Rep K w (.str i) (.str i) := by simp [Rep]
theorem rep_mk_non : Rep K w .non .non := by simp [Rep]
theorem PV.here {Q : VK} {d : D} {v : V} (rh : RH K w) (h : PV K w Q d w.M) (r : Rep K w d v) : Q v w.H := h v w rfl (Le.refl w) rh r

def oAdd (cell : Bool) : R2'
  | .int i, .int j, M, Q => Q (.int (i + j)) M
  | .str a, .str b, M, Q => a.length + b.length ≤ sizeLine ∧ Q (.str (a ++ b)) M
  | .tup a, .tup b, M, Q => a.length + b.length ≤ sizeLine ∧ Q (.tup (a ++ b)) M
  | .lst a, y, M, Q => ∃ b, lstOf y M = some b ∧ a.length + b.length ≤ sizeLine ∧ newL cell (a ++ b) M Q
  | .ref i, y, M, Q => ∃ a b, lstOf (.ref i) M = some a ∧ lstOf y M = some b ∧ a.length + b.length ≤ sizeLine ∧ newL cell (a ++ b) M Q
  | _, _, _, _ => False
abbrev rAddAll (K : PySem.W.Frag) : R2 := fun x y H Q => (rI0 fun i j => .int (i + j)) x y H Q ∨ (∃ i j, x = .str i ∧ y = .str j ∧ i.length + j.length ≤ sizeLine ∧ Q (.str (i ++ j)) H) ∨ rCatA K x y H Q ∨ rCat x y H Q
theorem op_addAll {X : Cx} : OpR X (binaryOp .Add) (rAddAll X.K) := OpR.or op_add (OpR.or op_add_str (OpR.or op_catA op_cat))
theorem lf_add {cell : Bool} : Lift2 K (rAddAll K) (oAdd cell) := by
  intro w x y dx dy Q rh rx ry h
  have cat : ∀ {a b : List D}, lstOf dx w.M = some a → lstOf dy w.M = some b → a.length + b.length ≤ sizeLine → newL cell (a ++ b) w.M (PV K w Q) → rAddAll K x y w.H Q := by
    intro a b ea eb hl h
    obtain ⟨p, xs, rfl, hx, hr⟩ := lstOf_rep rh rx ea
    obtain ⟨q, ys, rfl, hy, hs⟩ := lstOf_rep rh ry eb
    exact .inr (.inr (.inr ⟨p, q, xs, ys, rfl, rfl, hx, hy, by rw [hr.length, hs.length]; exact hl, newL.lift rh (hr.append hs) h⟩))
  cases dx with
  | int i =>
    cases dy with
    | int j => exact .inl ⟨i, j, rep_int rx, rep_int ry, PV.here rh h rep_mk_int⟩
    | _ => exact h.elim
  | str i =>
    cases dy with
    | str j => exact .inr (.inl ⟨i, j, rep_str rx, rep_str ry, h.1, PV.here rh h.2 rep_mk_str⟩)
    | _ => exact h.elim
  | tup ds =>
    cases dy with
    | tup es =>
      obtain ⟨a, xs, e, hx, hr⟩ := rx
      obtain ⟨b, ys, e2, hy, hs⟩ := ry
      subst e e2
      refine .inr (.inr (.inl ⟨a, b, xs, ys, rfl, rfl, hx, hy, by rw [hr.length, hs.length]; exact h.1, fun z => ?_, fun z z2 => ?_, fun _ _ => newT.lift rh (hr.append hs) h.2⟩))
      · subst z
        refine PV.here rh h.2 ⟨b, ys, rfl, hy, ?_⟩
        have : ds = [] := by
          have := hr.length
          exact List.length_eq_zero_iff.mp this.symm
        subst this
        exact hs
      · subst z2
        have : es = [] := by
          have := hs.length
          exact List.length_eq_zero_iff.mp this.symm
        subst this
        refine PV.here rh h.2 ⟨a, xs, rfl, hx, ?_⟩
        rw [List.append_nil]; exact hr
    | _ => exact h.elim
  | lst ds => obtain ⟨b, eb, hl, h⟩ := h; exact cat rfl eb hl h
  | ref i => obtain ⟨a, b, ea, eb, hl, h⟩ := h; exact cat ea eb hl h
  | _ => exact h.elim
theorem mn_add {cell : Bool} : Mono2 (oAdd cell) := by
  intro x y M Q Q' q h
  cases x with
  | int i => cases y with
    | int j => exact q _ _ h
    | _ => exact h.elim
  | str i => cases y with
    | str j => exact ⟨h.1, q _ _ h.2⟩
    | _ => exact h.elim
  | tup i => cases y with
    | tup j => exact ⟨h.1, q _ _ h.2⟩
    | _ => exact h.elim
  | lst ds => obtain ⟨b, eb, hl, h⟩ := h; exact ⟨b, eb, hl, h.mono q⟩
  | ref i => obtain ⟨a, b, ea, eb, hl, h⟩ := h; exact ⟨a, b, ea, eb, hl, h.mono q⟩
  | _ => exact h.elim
/-- operators on ints -/
def oI (C : Int → Int → Prop) (g : Int → Int → D) : R2'
  | .int i, .int j, M, Q => C i j ∧ Q (g i j) M
  | _, _, _, _ => False
def oI0 (g : Int → Int → D) : R2'
  | .int i, .int j, M, Q => Q (g i j) M
  | _, _, _, _ => False
theorem mn_I {C : Int → Int → Prop} {g : Int → Int → D} : Mono2 (oI C g) := by
  intro x y M Q Q' q h
  cases x with
  | int i => cases y with
    | int j => exact ⟨h.1, q _ _ h.2⟩
    | _ => exact h.elim
  | _ => exact h.elim
theorem mn_I0 {g : Int → Int → D} : Mono2 (oI0 g) := by
  intro x y M Q Q' q h
  cases x with
  | int i => cases y with
    | int j => exact q _ _ h
    | _ => exact h.elim
  | _ => exact h.elim
theorem lf_I {C : Int → Int → Prop} {g : Int → Int → Int} : Lift2 K (rI C fun i j => .int (g i j)) (oI C fun i j => .int (g i j)) := by
  intro w x y dx dy Q rh rx ry h
  cases dx with
  | int i => cases dy with
    | int j => exact ⟨i, j, rep_int rx, rep_int ry, h.1, PV.here rh h.2 rep_mk_int⟩
    | _ => exact h.elim
  | _ => exact h.elim
theorem lf_I0 {g : Int → Int → Int} : Lift2 K (rI0 fun i j => .int (g i j)) (oI0 fun i j => .int (g i j)) := by
  intro w x y dx dy Q rh rx ry h
  cases dx with
  | int i => cases dy with
    | int j => exact ⟨i, j, rep_int rx, rep_int ry, PV.here rh h rep_mk_int⟩
    | _ => exact h.elim
  | _ => exact h.elim
theorem lf_B0 {g : Int → Int → Bool} : Lift2 K (rI0 fun i j => .bl (g i j)) (oI0 fun i j => .bl (g i j)) := by
  intro w x y dx dy Q rh rx ry h
  cases dx with
  | int i => cases dy with
    | int j => exact ⟨i, j, rep_int rx, rep_int ry, PV.here rh h rep_mk_bl⟩
    | _ => exact h.elim
  | _ => exact h.elim
abbrev oSub := oI0 fun i j => .int (i - j)
abbrev oFdiv := oI (fun _ j => DivOk j) fun i j => .int (i.fdiv j)
abbrev oMod := oI (fun _ j => j ≠ 0) fun i j => .int (i.fmod j)
abbrev oPow := oI CPow fun i j => .int (i ^ j.toNat)
/-- text times int -/
def strRep (x : Str) (n : Int) : Str := ⟨(List.replicate n.toNat x.cps.toList).flatten.toArray⟩
theorem foldl_cps (x : Array Nat) : ∀ (n : Nat) (acc : Array Nat), (List.replicate n x).foldl (· ++ ·) acc = ⟨acc.toList ++ (List.replicate n x.toList).flatten⟩
  | 0, acc => by simp
  | n + 1, acc => by
    rw [List.replicate_succ, List.foldl_cons, foldl_cps x n, List.replicate_succ, List.flatten_cons]
    simp
def rStrRep : R2 := fun x y H Q => ∃ a n, x = .str a ∧ y = .int n ∧ -(2 ^ 62) < n ∧ n < 2 ^ 62 ∧ a.length * n.toNat ≤ sizeLine ∧ Q (.str (strRep a n)) H
theorem op_strRep {X : Cx} : OpR X (binaryOp .Mult) rStrRep := by
  intro pins s σ H x y v u Q I rx ry h
  obtain ⟨a, n, rfl, rfl, h1, h2, h3, q⟩ := h
  obtain ⟨t, rfl⟩ := rx
  obtain ⟨t', rfl⟩ := ry
  have hz : (sizeLine : Nat) = 16777216 := by decide
  refine PySem.P.mul_str ?_ (fun hn hc => ?_) (fun hn hc => ?_) ?_
  · rw [decide_eq_false (by omega), decide_eq_false (by omega)]; rfl
  · intro hgt
    have hn1 : 1 ≤ n := by omega
    have hk : ((2 : Int) ^ 63 - 1) / n * n > 2 ^ 63 - 1 - n := by
      have := Int.emod_add_mul_ediv ((2 : Int) ^ 63 - 1) n
      have hlt := Int.emod_lt_of_pos ((2 : Int) ^ 63 - 1) (show (0 : Int) < n by omega)
      rw [Int.mul_comm n] at this
      omega
    have hm : (a.length : Int) * n ≥ (((2 : Int) ^ 63 - 1) / n + 1) * n := Int.mul_le_mul_of_nonneg_right (by omega) (by omega)
    rw [Int.add_mul, Int.one_mul] at hm
    have hmul : ((a.length * n.toNat : Nat) : Int) = (a.length : Int) * n := by
      rw [Int.natCast_mul, Int.toNat_of_nonneg (by omega)]
    omega
  · unfold Builtin.Str.tooLong
    exact decide_eq_false (by omega)
  · by_cases hn : n < 1
    · rw [if_pos hn]
      have e : strRep a n = Str.empty := by
        unfold strRep
        rw [show n.toNat = 0 by omega]; rfl
      rw [e] at q
      exact ⟨by decide, .str Str.empty, H, I.tok _, ⟨_, rfl⟩, q⟩
    · rw [if_neg hn]
      by_cases hc : (n == 1 || a.length == 0) = true
      · rw [if_pos hc]
        refine ⟨.str a, H, I, ⟨t, rfl⟩, ?_⟩
        have e : strRep a n = a := by
          unfold strRep
          rcases Bool.or_eq_true .. |>.mp hc with h | h
          · rw [eq_of_beq h]; simp
          · have : a.cps = #[] := Array.size_eq_zero_iff.mp (eq_of_beq h)
            obtain ⟨cps⟩ := a
            simp only at this
            subst this
            simp
        rw [← e]; exact q
      · rw [if_neg hc]
        have e : (⟨(List.replicate n.toNat a.cps).foldl (· ++ ·) #[]⟩ : Str) = strRep a n := by
          rw [foldl_cps]; unfold strRep; simp
        rw [e]
        refine ⟨?_, .str (strRep a n), H, I.tok _, ⟨_, rfl⟩, q⟩
        show (strRep a n).cps.size ≤ _
        unfold strRep
        simp
        rw [Nat.mul_comm]; exact h3
def oMul (cell : Bool) : R2'
  | .int i, .int j, M, Q => MulOk i j ∧ Q (.int (i * j)) M
  | .str a, .int n, M, Q => (-(2 ^ 62) < n ∧ n < 2 ^ 62 ∧ a.length * n.toNat ≤ sizeLine) ∧ Q (.str (strRep a n)) M
  | .lst ds, .int k, M, Q => (-(2 ^ 63) ≤ k ∧ k < 2 ^ 63 ∧ ds.length * k.toNat ≤ sizeLine) ∧ newL cell (List.replicate k.toNat ds).flatten M Q
  | _, _, _, _ => False
abbrev rMulAll : R2 := fun x y H Q => rI MulOk (fun i j => .int (i * j)) x y H Q ∨ rStrRep x y H Q ∨ rRep x y H Q
theorem op_mulAll {X : Cx} : OpR X (binaryOp .Mult) rMulAll := OpR.or op_mulA (OpR.or op_strRep op_rep)
theorem RepL.replicate {ds : List D} {xs : List V} (h : RepL K w ds xs) : ∀ n, RepL K w (List.replicate n ds).flatten (List.replicate n xs).flatten
  | 0 => RepL.nil
  | n + 1 => by rw [List.replicate_succ, List.replicate_succ, List.flatten_cons, List.flatten_cons]; exact h.append (RepL.replicate h n)
theorem lf_mul {cell : Bool} : Lift2 K rMulAll (oMul cell) := by
  intro w x y dx dy Q rh rx ry h
  cases dx with
  | int i => cases dy with
    | int j => exact .inl ⟨i, j, rep_int rx, rep_int ry, h.1, PV.here rh h.2 rep_mk_int⟩
    | _ => exact h.elim
  | str i => cases dy with
    | int j => exact .inr (.inl ⟨i, j, rep_str rx, rep_int ry, h.1.1, h.1.2.1, h.1.2.2, PV.here rh h.2 rep_mk_str⟩)
    | _ => exact h.elim
  | lst ds => cases dy with
    | int j =>
      obtain ⟨a, xs, e, hx, _, _, hr⟩ := rx
      exact .inr (.inr ⟨a, j, xs, e, rep_int ry, hx, h.1.1, h.1.2.1, by rw [hr.length]; exact h.1.2.2, newL.lift rh (hr.replicate _) h.2⟩)
    | _ => exact h.elim
  | _ => exact h.elim
theorem mn_mul {cell : Bool} : Mono2 (oMul cell) := by
  intro x y M Q Q' q h
  cases x with
  | int i => cases y with
    | int j => exact ⟨h.1, q _ _ h.2⟩
    | _ => exact h.elim
  | str i => cases y with
    | int j => exact ⟨h.1, q _ _ h.2⟩
    | _ => exact h.elim
  | lst ds => cases y with
    | int j => exact ⟨h.1, h.2.mono q⟩
    | _ => exact h.elim
  | _ => exact h.elim
/-- minus -/
def oNeg : R1'
  | .int i, M, Q => Q (.int (-i)) M
  | _, _, _ => False
theorem lf_neg : Lift1 K (rU fun i => .int (-i)) oNeg := by
  intro w x dx Q rh rx h
  cases dx with
  | int i => exact ⟨i, rep_int rx, PV.here rh h rep_mk_int⟩
  | _ => exact h.elim
theorem mn_neg : Mono1 oNeg := by
  intro x M Q Q' q h
  cases x with
  | int i => exact q _ _ h
  | _ => exact h.elim

/-! ### comparisons -/
mutual
def D.py : D → PyData
  | .non => .none
  | .bl b => .bool b
  | .int i => .int i
  | .str x => .str x
  | .tup ds => .tuple (D.pyL ds)
  | .lst ds => .list (D.pyL ds)
  | .scr ns => .list (ns.map PyData.int)
  | .ref _ => .none
  | .con _ => .none
  | .exc _ _ _ _ => .none
  | .dct => .none
def D.pyL : List D → List PyData
  | [] => []
  | d :: ds => D.py d :: D.pyL ds
end
mutual
/-- no cell in it -/
def D.flat : D → Bool
  | .ref _ => false
  | .con _ => false
  | .exc _ _ _ _ => false
  | .dct => false
  | .scr _ => false
  | .tup ds => D.flatL ds
  | .lst ds => D.flatL ds
  | _ => true
def D.flatL : List D → Bool
  | [] => true
  | d :: ds => D.flat d && D.flatL ds
end
mutual
theorem Rep.dp : ∀ (d : D) {v : V}, d.flat = true → Rep K w d v → Dp K w.H v d.py
  | .non, _, _, h => by rw [rep_non h]; unfold D.py; exact .non
  | .bl b, _, _, h => by rw [rep_bl h]; unfold D.py; exact .bl b
  | .int i, _, _, h => by rw [rep_int h]; unfold D.py; exact .int i
  | .str i, _, _, h => by rw [rep_str h]; unfold D.py; exact .str i
  | .tup ds, _, hf, h => by
    obtain ⟨a, xs, e, hx, hr⟩ := h
    subst e
    unfold D.flat at hf
    unfold D.py
    exact .tup hx (RepL.dp ds hf hr)
  | .lst ds, _, hf, h => by
    obtain ⟨a, xs, e, hx, _, _, hr⟩ := h
    subst e
    unfold D.flat at hf
    unfold D.py
    exact .lst (SqL.of hx) (RepL.dp ds hf hr)
  | .ref _, _, hf, _ => by unfold D.flat at hf; cases hf
  | .con _, _, hf, _ => by unfold D.flat at hf; cases hf
  | .exc _ _ _ _, _, hf, _ => by unfold D.flat at hf; cases hf
  | .dct, _, hf, _ => by unfold D.flat at hf; cases hf
  | .scr _, _, hf, _ => by unfold D.flat at hf; cases hf
theorem RepL.dp : ∀ (ds : List D) {vs : List V}, D.flatL ds = true → RepL K w ds vs → DpAll K w.H vs (D.pyL ds)
  | [], _, _, h => by
    have h : _ = [] := h
    subst h
    unfold D.pyL
    exact .nil
  | d :: ds, _, hf, h => by
    obtain ⟨x, r', rfl, h1, h2⟩ := h
    unfold D.flatL at hf
    rw [Bool.and_eq_true] at hf
    unfold D.pyL
    exact .cons (Rep.dp d hf.1 h1) (RepL.dp ds hf.2 h2)
end
/-- == of data -/
def deq (x y : D) : Bool := PyData.eqv x.py y.py
def eqOk (x : D) : Prop := x.flat = true ∧ SeqAt.shaped x.py = true
def oEq (neg : Bool) : R2'
  | .int i, .int j, M, Q => Q (.bl (if neg then !decide (i = j) else decide (i = j))) M
  | .str i, .str j, M, Q => Q (.bl (if neg then !decide (i = j) else decide (i = j))) M
  | .bl i, .bl j, M, Q => Q (.bl (if neg then !decide (i = j) else decide (i = j))) M
  | .non, .non, M, Q => Q (.bl (!neg)) M
  | .non, .int _, M, Q => Q (.bl neg) M
  | .int _, .non, M, Q => Q (.bl neg) M
  | .non, .str _, M, Q => Q (.bl neg) M
  | .str _, .non, M, Q => Q (.bl neg) M
  | x, y, M, Q => eqOk x ∧ eqOk y ∧ Q (.bl (if neg then !deq x y else deq x y)) M
abbrev rEqAll (K : PySem.W.Frag) : R2 := fun x y H Q => rEq x y H Q ∨ rEqD K x y H Q
abbrev rNeAll (K : PySem.W.Frag) : R2 := fun x y H Q => rNe x y H Q ∨ rNeD K x y H Q
theorem op_eqAll {X : Cx} (hu : X.A.units + 64 < cLine) : OpR X (compareOp .Eq) (rEqAll X.K) := OpR.or op_eq (op_eqD hu)
theorem op_neAll {X : Cx} (hu : X.A.units + 64 < cLine) : OpR X (compareOp .NotEq) (rNeAll X.K) := OpR.or op_ne (op_neD hu)
theorem oEq_cases {neg : Bool} {x y : D} {M : MH} {Q : QE} (h : oEq neg x y M Q) :
    (∃ i j, x = .int i ∧ y = .int j ∧ Q (.bl (if neg then !decide (i = j) else decide (i = j))) M) ∨ (∃ i j, x = .str i ∧ y = .str j ∧ Q (.bl (if neg then !decide (i = j) else decide (i = j))) M) ∨
    (∃ i j, x = .bl i ∧ y = .bl j ∧ Q (.bl (if neg then !decide (i = j) else decide (i = j))) M) ∨ (x = .non ∧ y = .non ∧ Q (.bl (!neg)) M) ∨ (x = .non ∧ (∃ i, y = .int i) ∧ Q (.bl neg) M) ∨ ((∃ i, x = .int i) ∧ y = .non ∧ Q (.bl neg) M) ∨
    (x = .non ∧ (∃ i, y = .str i) ∧ Q (.bl neg) M) ∨ ((∃ i, x = .str i) ∧ y = .non ∧ Q (.bl neg) M) ∨ (eqOk x ∧ eqOk y ∧ Q (.bl (if neg then !deq x y else deq x y)) M) := by
  unfold oEq at h
  split at h <;> simp_all
theorem lf_eq : Lift2 K (rEqAll K) (oEq false) := by
  intro w x y dx dy Q rh rx ry h
  have sc : ∀ {b : Bool}, scal x y = true → decide (x = y) = b → Q (.bl b) w.H → rEqAll K x y w.H Q := fun hs hd q => .inl ⟨hs, by rw [hd]; exact q⟩
  rcases oEq_cases h with ⟨i, j, rfl, rfl, q⟩ | ⟨i, j, rfl, rfl, q⟩ | ⟨i, j, rfl, rfl, q⟩ | ⟨rfl, rfl, q⟩ | ⟨rfl, ⟨i, rfl⟩, q⟩ | ⟨⟨i, rfl⟩, rfl, q⟩ | ⟨rfl, ⟨i, rfl⟩, q⟩ | ⟨⟨i, rfl⟩, rfl, q⟩ | ⟨ox, oy, q⟩
  · have e1 := rep_int rx; have e2 := rep_int ry; subst e1 e2; exact sc rfl (by by_cases e : i = j <;> simp [e]) (PV.here rh q rep_mk_bl)
  · have e1 := rep_str rx; have e2 := rep_str ry; subst e1 e2; exact sc rfl (by by_cases e : i = j <;> simp [e]) (PV.here rh q rep_mk_bl)
  · have e1 := rep_bl rx; have e2 := rep_bl ry; subst e1 e2; exact sc rfl (by by_cases e : i = j <;> simp [e]) (PV.here rh q rep_mk_bl)
  · have e1 := rep_non rx; have e2 := rep_non ry; subst e1 e2; exact sc rfl (by simp) (PV.here rh q rep_mk_bl)
  · have e1 := rep_non rx; have e2 := rep_int ry; subst e1 e2; exact sc rfl (by simp) (PV.here rh q rep_mk_bl)
  · have e1 := rep_int rx; have e2 := rep_non ry; subst e1 e2; exact sc rfl (by simp) (PV.here rh q rep_mk_bl)
  · have e1 := rep_non rx; have e2 := rep_str ry; subst e1 e2; exact sc rfl (by simp) (PV.here rh q rep_mk_bl)
  · have e1 := rep_str rx; have e2 := rep_non ry; subst e1 e2; exact sc rfl (by simp) (PV.here rh q rep_mk_bl)
  · exact .inr ⟨_, _, Rep.dp dx ox.1 rx, Rep.dp dy oy.1 ry, ox.2, oy.2, PV.here rh q rep_mk_bl⟩
theorem lf_ne : Lift2 K (rNeAll K) (oEq true) := by
  intro w x y dx dy Q rh rx ry h
  have sc : ∀ {b : Bool}, scal x y = true → (!decide (x = y)) = b → Q (.bl b) w.H → rNeAll K x y w.H Q := fun hs hd q => .inl ⟨hs, by rw [hd]; exact q⟩
  rcases oEq_cases h with ⟨i, j, rfl, rfl, q⟩ | ⟨i, j, rfl, rfl, q⟩ | ⟨i, j, rfl, rfl, q⟩ | ⟨rfl, rfl, q⟩ | ⟨rfl, ⟨i, rfl⟩, q⟩ | ⟨⟨i, rfl⟩, rfl, q⟩ | ⟨rfl, ⟨i, rfl⟩, q⟩ | ⟨⟨i, rfl⟩, rfl, q⟩ | ⟨ox, oy, q⟩
  · have e1 := rep_int rx; have e2 := rep_int ry; subst e1 e2; exact sc rfl (by by_cases e : i = j <;> simp [e]) (PV.here rh q rep_mk_bl)
  · have e1 := rep_str rx; have e2 := rep_str ry; subst e1 e2; exact sc rfl (by by_cases e : i = j <;> simp [e]) (PV.here rh q rep_mk_bl)
  · have e1 := rep_bl rx; have e2 := rep_bl ry; subst e1 e2; exact sc rfl (by by_cases e : i = j <;> simp [e]) (PV.here rh q rep_mk_bl)
  · have e1 := rep_non rx; have e2 := rep_non ry; subst e1 e2; exact sc rfl (by simp) (PV.here rh q rep_mk_bl)
  · have e1 := rep_non rx; have e2 := rep_int ry; subst e1 e2; exact sc rfl (by simp) (PV.here rh q rep_mk_bl)
  · have e1 := rep_int rx; have e2 := rep_non ry; subst e1 e2; exact sc rfl (by simp) (PV.here rh q rep_mk_bl)
  · have e1 := rep_non rx; have e2 := rep_str ry; subst e1 e2; exact sc rfl (by simp) (PV.here rh q rep_mk_bl)
  · have e1 := rep_str rx; have e2 := rep_non ry; subst e1 e2; exact sc rfl (by simp) (PV.here rh q rep_mk_bl)
  · exact .inr ⟨_, _, Rep.dp dx ox.1 rx, Rep.dp dy oy.1 ry, ox.2, oy.2, PV.here rh q rep_mk_bl⟩
theorem mn_eq {neg : Bool} : Mono2 (oEq neg) := by
  intro x y M Q Q' q h
  unfold oEq at h ⊢
  split at h <;> first | exact q _ _ h | exact ⟨h.1, h.2.1, q _ _ h.2.2⟩
/-- is None -/
def nonD : D → Bool
  | .non => true
  | _ => false
def oIsN (neg : Bool) : R2'
  | x, .non, M, Q => Q (.bl (if neg then !nonD x else nonD x)) M
  | _, _, _, _ => False
theorem rep_non_iff {d : D} {v : V} (h : Rep K w d v) (hc : ∀ u, d ≠ .con u) : decide (v = .non) = nonD d := by
  cases d with
  | non => have e := rep_non h; subst e; rfl
  | int i => have e := rep_int h; subst e; rfl
  | bl i => have e := rep_bl h; subst e; rfl
  | str i => have e := rep_str h; subst e; rfl
  | tup ds => obtain ⟨a, xs, e, _⟩ := h; subst e; rfl
  | lst ds => obtain ⟨a, xs, e, _⟩ := h; subst e; rfl
  | scr ds => obtain ⟨a, e, _⟩ := h; subst e; rfl
  | ref ds => obtain ⟨a, e, _⟩ := h; subst e; rfl
  | con u => exact absurd rfl (hc u)
  | exc a cls d fs => obtain ⟨e, _⟩ := h; subst e; rfl
  | dct => obtain ⟨a, es, e, _⟩ := h; subst e; rfl
def oIsN' (neg : Bool) : R2' := fun x y M Q => (∀ u, x ≠ .con u) ∧ oIsN neg x y M Q
theorem lf_isN : Lift2 K rIsN (oIsN' false) := by
  intro w x y dx dy Q rh rx ry ⟨hc, h⟩
  cases dy with
  | non =>
    refine ⟨rep_non ry, ?_⟩
    rw [rep_non_iff rx hc]
    have h : PV K w Q (.bl (nonD dx)) w.M := h
    exact PV.here rh h rep_mk_bl
  | _ => exact h.elim
theorem lf_notN : Lift2 K rNotN (oIsN' true) := by
  intro w x y dx dy Q rh rx ry ⟨hc, h⟩
  cases dy with
  | non =>
    refine ⟨rep_non ry, ?_⟩
    rw [rep_non_iff rx hc]
    have h : PV K w Q (.bl (!nonD dx)) w.M := h
    exact PV.here rh h rep_mk_bl
  | _ => exact h.elim
theorem mn_isN {neg : Bool} : Mono2 (oIsN' neg) := by
  intro x y M Q Q' q ⟨hc, h⟩
  refine ⟨hc, ?_⟩
  cases y with
  | non => exact q _ _ h
  | _ => exact h.elim
/-- a sign in a text -/
def oInS (neg : Bool) : R2' := fun x y M Q => ∃ (c : Nat) (z : Str), x = .str ⟨#[c]⟩ ∧ y = .str z ∧ Q (.bl (if neg then !decide (c ∈ z.cps.toList) else decide (c ∈ z.cps.toList))) M
theorem lf_inS : Lift2 K rInS (oInS false) := by
  intro w x y dx dy Q rh rx ry ⟨c, z, e1, e2, h⟩
  subst e1 e2
  exact ⟨c, z, rep_str rx, rep_str ry, PV.here rh h rep_mk_bl⟩
theorem lf_notInS : Lift2 K rNotInS (oInS true) := by
  intro w x y dx dy Q rh rx ry ⟨c, z, e1, e2, h⟩
  subst e1 e2
  exact ⟨c, z, rep_str rx, rep_str ry, PV.here rh h rep_mk_bl⟩
theorem mn_inS {neg : Bool} : Mono2 (oInS neg) := fun x y M Q Q' q ⟨c, z, e1, e2, h⟩ => ⟨c, z, e1, e2, q _ _ h⟩

/-! ### subscripts -/
def oIx : R2' := fun x y M Q => ∃ i, y = .int i ∧ ((∃ ds d, seqOf x M = some ds ∧ atI ds i = some d ∧ Q d M) ∨ (∃ (z : Str) (c : Nat), x = .str z ∧ z.length ≤ sizeLine ∧ atI z.cps.toList i = some c ∧ Q (.str ⟨#[c]⟩) M))
theorem atI_rep {ds : List D} {xs : List V} {i : Int} {d : D} (h : RepL K w ds xs) (e : atI ds i = some d) : ∃ x, atI xs i = some x ∧ Rep K w d x := by
  unfold atI at e ⊢
  rw [h.length]
  cases hj : ixN ds.length i with
  | none => rw [hj] at e; cases e
  | some j =>
    rw [hj] at e
    exact h.get e
theorem lf_ix : Lift2 K (rIx K) oIx := by
  intro w x y dx dy Q rh rx ry ⟨i, ey, h⟩
  subst ey
  have ry := rep_int ry
  subst ry
  rcases h with ⟨ds, d, e1, e2, q⟩ | ⟨z, c, e1, hz, e2, q⟩
  · obtain ⟨a, xs, rfl, hx, hr⟩ := seqOf_rep rh rx e1
    obtain ⟨v, ev, rv⟩ := atI_rep hr e2
    rcases hx with hx | hx
    · exact .inl ⟨a, xs, i, v, rfl, rfl, hx, ev, PV.here rh q rv⟩
    · exact .inr (.inl ⟨a, xs, i, v, rfl, rfl, hx, ev, PV.here rh q rv⟩)
  · subst e1
    exact .inr (.inr ⟨z, i, c, rep_str rx, rfl, hz, e2, PV.here rh q rep_mk_str⟩)
theorem mn_ix : Mono2 oIx := fun x y M Q Q' q ⟨i, e, h⟩ => ⟨i, e, by
  rcases h with ⟨ds, d, e1, e2, h⟩ | ⟨z, c, e1, hz, e2, h⟩
  · exact .inl ⟨ds, d, e1, e2, q _ _ h⟩
  · exact .inr ⟨z, c, e1, hz, e2, q _ _ h⟩⟩
def oSetL : TSet' := fun o i v M Q => ∃ c ds k j, o = .ref c ∧ i = .int k ∧ M[c]? = some (.lst ds) ∧ ixN ds.length k = some j ∧ Q (M.set c (.lst (ds.set j v)))
theorem ls_list : LiftS K rSetL oSetL := by
  intro w o i v do_ di dv Q rh ro ri rv ⟨c, ds, k, j, e1, e2, ec, hj, q⟩
  subst e1 e2
  obtain ⟨a, e, em⟩ := ro
  subst e
  obtain ⟨xs, hx, hr⟩ := rh.ok c a _ em ec
  refine ⟨a, xs, k, j, rfl, rep_int ri, hx, by rw [hr.length]; exact hj, ?_⟩
  have nd : (Cell.lst ds) ≠ Cell.dead := fun z => by cases z
  have l : Le w (w.put c a (.lst (xs.set j v)) (.lst (ds.set j dv))) := Le.put rh em ec nd
  exact q (w.put c a (.lst (xs.set j v)) (.lst (ds.set j dv))) rfl l (rh.put em ec nd ⟨_, upd_same, RepL.le rh l _ (hr.set rv j)⟩)
theorem ms_list : ∀ o i v M (Q Q' : MH → Prop), (∀ M, Q M → Q' M) → oSetL o i v M Q → oSetL o i v M Q' := fun o i v M Q Q' q ⟨c, ds, k, j, e1, e2, ec, hj, h⟩ => ⟨c, ds, k, j, e1, e2, ec, hj, q _ h⟩
/-- text[lo:hi] -/
def oSlS : RS' := fun d lo hi M Q => ∃ z, d = .str z ∧ z.length ≤ sizeLine ∧ Q (.str (cutS z lo hi)) M
theorem lsl_str : LiftSl K rSlS oSlS := by
  intro w x d lo hi Q rh rx ⟨z, e, hz, q⟩
  subst e
  exact ⟨z, rep_str rx, hz, PV.here rh q rep_mk_str⟩
theorem msl_str : MonoSl oSlS := fun d lo hi M Q Q' q ⟨z, e, hz, h⟩ => ⟨z, e, hz, q _ _ h⟩

/-! ### truth -/
def truD (d : D) (M : MH) : Option Bool := match d with
  | .non => some false
  | .bl b => some b
  | .int i => some (i != 0)
  | .str y => some ((y.length : Int) != 0)
  | d => (seqOf d M).map fun ds => !ds.isEmpty
def tTru' (t : TE') : TT' := fun δ M Q E => t δ M (fun d M1 => (∀ y, d = .str y → y.length ≤ sizeLine) ∧ ∃ b, truD d M1 = some b ∧ Q b M1) E
theorem isEmpty_rep {ds : List D} {xs : List V} (h : RepL K w ds xs) : xs.isEmpty = ds.isEmpty := by
  have := h.length
  cases xs <;> cases ds <;> simp_all
theorem truD_rep {d : D} {v : V} {b : Bool} (rh : RH K w) (r : Rep K w d v) (hl : ∀ y, d = .str y → y.length ≤ sizeLine) (h : truD d w.M = some b) : TruV K v w.H b := by
  have sq : ∀ ds, seqOf d w.M = some ds → b = (!ds.isEmpty) → TruV K v w.H b := fun ds e eb => by
    obtain ⟨a, xs, rfl, hx, hr⟩ := seqOf_rep rh r e
    rcases hx with hx | hx
    · exact .inl ⟨xs, hx, by rw [isEmpty_rep hr]; exact eb⟩
    · exact .inr (.inl ⟨xs, hx, by rw [isEmpty_rep hr]; exact eb⟩)
  cases d with
  | non => rw [rep_non r]; exact (Option.some.inj h).symm
  | bl b => rw [rep_bl r]; exact (Option.some.inj h).symm
  | int b => rw [rep_int r]; exact (Option.some.inj h).symm
  | str y => rw [rep_str r]; exact ⟨hl y rfl, (Option.some.inj h).symm⟩
  | tup ds => exact sq ds rfl (Option.some.inj h).symm
  | lst ds => exact sq ds rfl (Option.some.inj h).symm
  | scr ds => exact sq _ rfl (Option.some.inj h).symm
  | ref i =>
    unfold truD at h
    simp only at h
    cases hs : seqOf (.ref i) w.M with
    | none => rw [hs] at h; cases h
    | some ds => rw [hs] at h; exact sq ds hs (Option.some.inj h).symm
  | con u => cases h
  | exc a c d fs => cases h
  | dct => cases h
theorem mt_tru {t : TE'} (h : ME X W e t) (he : ∀ whole, isTrue e X.env whole = (do let v ← whole; standAt e.pos; holding [v] (truthy v)) := by intro _; rfl) : MT X W e (tTru' t) :=
  ⟨PT.imp (pt_truth h.pe he) fun σ H Q ⟨w, δ, eH, rh, rs, h1⟩ => by
    subst eH
    refine up_go h.mono rh rs h1 (fun _ _ x => x) fun d v w1 l1 rh1 rs1 rv ⟨hl, b, eb, q⟩ => ?_
    exact ⟨b, truD_rep rh1 rv hl eb, q w1 rfl l1 rh1⟩, fun δ M Q Q' E E' q x hh => h.mono _ _ _ _ _ _ (fun d M1 ⟨hl, b, eb, h1⟩ => ⟨hl, b, eb, q _ _ h1⟩) x hh⟩

/-! ### built-ins -/
theorem rep1 {d : D} {xs : List V} (h : RepL K w [d] xs) : ∃ v, xs = [v] ∧ Rep K w d v := by
  obtain ⟨v, r, e, rv, er⟩ := h
  have er : r = [] := er
  subst er
  exact ⟨v, e, rv⟩
theorem rep2 {d d' : D} {xs : List V} (h : RepL K w [d, d'] xs) : ∃ v v', xs = [v, v'] ∧ Rep K w d v ∧ Rep K w d' v' := by
  obtain ⟨v, r, e, rv, h⟩ := h
  obtain ⟨v', e2, rv'⟩ := rep1 h
  subst e2
  exact ⟨v, v', e, rv, rv'⟩
def lenD (d : D) (M : MH) : Option Nat := match d with
  | .str y => some y.length
  | d => (seqOf d M).map List.length
def cLen : RA' := fun ds M Q => ∃ d n, ds = [d] ∧ lenD d M = some n ∧ (∀ y, d = .str y → y.length ≤ sizeLine) ∧ Q (.int (n : Int)) M
theorem la_len : LiftA K (fun xs H Q => ∃ x n, xs = [x] ∧ LenV K x H n ∧ Q (.int (n : Nat)) H) cLen := by
  intro w xs ds Q rh r ⟨d, n, e, en, hl, q⟩
  subst e
  obtain ⟨v, rfl, rv⟩ := rep1 r
  refine ⟨v, n, rfl, ?_, PV.here rh q rep_mk_int⟩
  have sq : ∀ es, seqOf d w.M = some es → n = es.length → LenV K v w.H n := fun es e eb => by
    obtain ⟨a, xs, rfl, hx, hr⟩ := seqOf_rep rh rv e
    rcases hx with hx | hx
    · exact .inl ⟨xs, hx, by rw [hr.length]; exact eb⟩
    · exact .inr ⟨xs, hx, by rw [hr.length]; exact eb⟩
  cases d with
  | str y => rw [rep_str rv]; exact ⟨hl y rfl, (Option.some.inj en).symm⟩
  | tup ds => exact sq ds rfl (Option.some.inj en).symm
  | lst ds => exact sq ds rfl (Option.some.inj en).symm
  | scr ds => exact sq _ rfl (Option.some.inj en).symm
  | ref i =>
    unfold lenD at en
    simp only at en
    cases hs : seqOf (.ref i) w.M with
    | none => rw [hs] at en; cases en
    | some ds => rw [hs] at en; exact sq ds hs (Option.some.inj en).symm
  | _ => cases en
theorem mr_len : MonoR cLen := fun ds M Q Q' q ⟨d, n, e, en, hl, h⟩ => ⟨d, n, e, en, hl, q _ _ h⟩
/-- a function of one int -/
def cI1 (g : Int → D) : RA' := fun ds M Q => ∃ i, ds = [.int i] ∧ Q (g i) M
theorem mr_I1 {g : Int → D} : MonoR (cI1 g) := fun ds M Q Q' q ⟨i, e, h⟩ => ⟨i, e, q _ _ h⟩
theorem la_abs : LiftA K (fun xs H Q => ∃ i, xs = [.int i] ∧ Q (.int (if i < 0 then -i else i)) H) (cI1 fun i => .int (if i < 0 then -i else i)) := by
  intro w xs ds Q rh r ⟨i, e, q⟩
  subst e
  obtain ⟨v, rfl, rv⟩ := rep1 r
  exact ⟨i, by rw [rep_int rv], PV.here rh q rep_mk_int⟩
def cInt : RA' := fun ds M Q => (∃ i, ds = [.int i] ∧ Q (.int i) M) ∨ (∃ k, ds = [.bl k] ∧ Q (.int (if k then 1 else 0)) M) ∨ (∃ a n, ds = [.str a] ∧ PySem.intText? a = some n ∧ a.length ≤ 640 ∧ Q (.int n) M)
theorem call_intAll {X : Cx} : CallR X (.type "int") (fun xs H Q => ((∃ i, xs = [.int i] ∧ Q (.int i) H) ∨ ∃ k, xs = [.bl k] ∧ Q (.int (if k then 1 else 0)) H) ∨ ∃ a n, xs = [.str a] ∧ PySem.intText? a = some n ∧ a.length ≤ 640 ∧ Q (.int n) H) := CallR.or call_int1 call_int_str
theorem la_int : LiftA K (fun xs H Q => ((∃ i, xs = [.int i] ∧ Q (.int i) H) ∨ ∃ k, xs = [.bl k] ∧ Q (.int (if k then 1 else 0)) H) ∨ ∃ a n, xs = [.str a] ∧ PySem.intText? a = some n ∧ a.length ≤ 640 ∧ Q (.int n) H) cInt := by
  intro w xs ds Q rh r h
  rcases h with ⟨i, e, q⟩ | ⟨i, e, q⟩ | ⟨a, n, e, h1, h2, q⟩ <;> subst e <;> obtain ⟨v, rfl, rv⟩ := rep1 r
  · exact .inl (.inl ⟨i, by rw [rep_int rv], PV.here rh q rep_mk_int⟩)
  · exact .inl (.inr ⟨i, by rw [rep_bl rv], PV.here rh q rep_mk_int⟩)
  · exact .inr ⟨a, n, by rw [rep_str rv], h1, h2, PV.here rh q rep_mk_int⟩
theorem mr_int : MonoR cInt := fun ds M Q Q' q h => by
  rcases h with ⟨i, e, h⟩ | ⟨i, e, h⟩ | ⟨a, n, e, h1, h2, h⟩
  · exact .inl ⟨i, e, q _ _ h⟩
  · exact .inr (.inl ⟨i, e, q _ _ h⟩)
  · exact .inr (.inr ⟨a, n, e, h1, h2, q _ _ h⟩)
def cStr : RA' := fun ds M Q => ∃ i, ds = [.int i] ∧ i.natAbs < 2 ^ 1920 ∧ Q (.str (toString i)) M
theorem la_str : LiftA K (fun xs H Q => ∃ i, xs = [.int i] ∧ i.natAbs.log2 < 1920 ∧ Q (.str (toString i)) H) cStr := by
  intro w xs ds Q rh r ⟨i, e, h1, q⟩
  subst e
  obtain ⟨v, rfl, rv⟩ := rep1 r
  exact ⟨i, by rw [rep_int rv], PySem.Flt.log2_lt_of (by decide) h1, PV.here rh q rep_mk_str⟩
theorem mr_str : MonoR cStr := fun ds M Q Q' q ⟨i, e, h1, h⟩ => ⟨i, e, h1, q _ _ h⟩
def cI2 (g : Int → Int → D) : RA' := fun ds M Q => ∃ i j, ds = [.int i, .int j] ∧ Q (g i j) M
theorem mr_I2 {g : Int → Int → D} : MonoR (cI2 g) := fun ds M Q Q' q ⟨i, j, e, h⟩ => ⟨i, j, e, q _ _ h⟩
theorem la_max2 : LiftA K (fun xs H Q => ∃ i j, xs = [.int i, .int j] ∧ Q (.int (if j > i then j else i)) H) (cI2 fun i j => .int (if j > i then j else i)) := by
  intro w xs ds Q rh r ⟨i, j, e, q⟩
  subst e
  obtain ⟨v, v', rfl, rv, rv'⟩ := rep2 r
  exact ⟨i, j, by rw [rep_int rv, rep_int rv'], PV.here rh q rep_mk_int⟩
theorem la_min2 : LiftA K (fun xs H Q => ∃ i j, xs = [.int i, .int j] ∧ Q (.int (if j < i then j else i)) H) (cI2 fun i j => .int (if j < i then j else i)) := by
  intro w xs ds Q rh r ⟨i, j, e, q⟩
  subst e
  obtain ⟨v, v', rfl, rv, rv'⟩ := rep2 r
  exact ⟨i, j, by rw [rep_int rv, rep_int rv'], PV.here rh q rep_mk_int⟩
/-- all, any of truth values -/
def blsD : List D → Option (List Bool)
  | [] => some []
  | .bl b :: r => (blsD r).map (b :: ·)
  | _ :: _ => none
theorem blsD_rep : ∀ {ds : List D} {xs : List V} {bs : List Bool}, RepL K w ds xs → blsD ds = some bs → xs = bs.map V.bl
  | [], xs, bs, h, e => by cases e; exact h
  | d :: r, xs, bs, h, e => by
    obtain ⟨x, xr, rfl, rx, h⟩ := h
    cases d with
    | bl b =>
      unfold blsD at e
      cases hr : blsD r with
      | none => rw [hr] at e; cases e
      | some bs' =>
        rw [hr] at e
        cases e
        rw [rep_bl rx, blsD_rep h hr]; rfl
    | _ => unfold blsD at e; cases e
def cBls (f : List Bool → Bool) : RA' := fun ds M Q => ∃ d es bs, ds = [d] ∧ lstOf d M = some es ∧ blsD es = some bs ∧ Q (.bl (f bs)) M
theorem mr_bls {f : List Bool → Bool} : MonoR (cBls f) := fun ds M Q Q' q ⟨d, es, bs, e, e1, e2, h⟩ => ⟨d, es, bs, e, e1, e2, q _ _ h⟩
theorem la_all : LiftA K (rAll K) (cBls fun bs => bs.all id) := by
  intro w xs ds Q rh r ⟨d, es, bs, e, e1, e2, q⟩
  subst e
  obtain ⟨v, rfl, rv⟩ := rep1 r
  obtain ⟨a, ys, rfl, hy, hr⟩ := lstOf_rep rh rv e1
  exact ⟨a, bs, rfl, by rw [← blsD_rep hr e2]; exact SqL.of hy, PV.here rh q rep_mk_bl⟩
theorem la_any : LiftA K (rAny K) (cBls fun bs => bs.any id) := by
  intro w xs ds Q rh r ⟨d, es, bs, e, e1, e2, q⟩
  subst e
  obtain ⟨v, rfl, rv⟩ := rep1 r
  obtain ⟨a, ys, rfl, hy, hr⟩ := lstOf_rep rh rv e1
  exact ⟨a, bs, rfl, by rw [← blsD_rep hr e2]; exact SqL.of hy, PV.here rh q rep_mk_bl⟩
/-- list(x), tuple(x) -/
def cList (cell : Bool) : RA' := fun ds M Q => ∃ d es, ds = [d] ∧ seqOf d M = some es ∧ newL cell es M Q
theorem mr_list {cell : Bool} : MonoR (cList cell) := fun ds M Q Q' q ⟨d, es, e, e1, h⟩ => ⟨d, es, e, e1, h.mono q⟩
theorem la_list {cell : Bool} : LiftA K (fun xs H Q => ∃ p ys, xs = [.ref p] ∧ (SqL K H p ys ∨ SqT K H p ys) ∧ ∀ l, H l = none → Q (.ref l) (upd H l (.lst ys))) (cList cell) := by
  intro w xs ds Q rh r ⟨d, es, e, e1, q⟩
  subst e
  obtain ⟨v, rfl, rv⟩ := rep1 r
  obtain ⟨a, ys, rfl, hy, hr⟩ := seqOf_rep rh rv e1
  exact ⟨a, ys, rfl, hy, newL.lift rh hr q⟩
def cTuple : RA' := fun ds M Q => ∃ d es, ds = [d] ∧ seqOf d M = some es ∧ Q (.tup es) M
theorem mr_tuple : MonoR cTuple := fun ds M Q Q' q ⟨d, es, e, e1, h⟩ => ⟨d, es, e, e1, q _ _ h⟩
theorem la_tuple : LiftA K (fun xs H Q => ∃ p ys, xs = [.ref p] ∧ ((SqL K H p ys ∧ ∀ l, H l = none → Q (.ref l) (upd H l (.tup ys))) ∨ (SqT K H p ys ∧ Q (.ref p) H))) cTuple := by
  intro w xs ds Q rh r ⟨d, es, e, e1, q⟩
  subst e
  obtain ⟨v, rfl, rv⟩ := rep1 r
  obtain ⟨a, ys, rfl, hy, hr⟩ := seqOf_rep rh rv e1
  rcases hy with hy | hy
  · exact ⟨a, ys, rfl, .inl ⟨hy, newT.lift rh hr q⟩⟩
  · exact ⟨a, ys, rfl, .inr ⟨hy, PV.here rh q ⟨a, ys, rfl, hy, hr⟩⟩⟩
/-- isinstance -/
def tyStr (d : D) (M : MH) : Option String := match d with
  | .non => some "NoneType"
  | .bl _ => some "bool"
  | .int _ => some "int"
  | .str _ => some "str"
  | .tup _ => some "tuple"
  | .lst _ => some "list"
  | .scr _ => some "list"
  | .ref i => match M[i]? with
    | some (.lst _) => some "list"
    | some (.dic _) => some "dict"
    | some (.dit _) => some "dict"
    | _ => none
  | .con _ => none
  | .exc _ _ _ _ => none
  | .dct => some "dict"
theorem sqT_ty {a : Addr} {xs : List V} {H : Hp} (h : SqT K H a xs) : TyX K H (.ref a) (.type "tuple") := by
  rcases h with (h | ⟨o, h⟩) | ⟨o, its, n, h, hc, _⟩
  · exact .base (.tup h)
  · exact .fTuple h
  · exact .kTuple h hc
theorem tyStr_rep {d : D} {v : V} {n : String} (rh : RH K w) (r : Rep K w d v) (h : tyStr d w.M = some n) : TyX K w.H v (.type n) := by
  cases d with
  | non => rw [rep_non r]; cases h; exact .base .non
  | bl b => rw [rep_bl r]; cases h; exact .base (.bl b)
  | int b => rw [rep_int r]; cases h; exact .base (.int b)
  | str b => rw [rep_str r]; cases h; exact .base (.str b)
  | tup ds => obtain ⟨a, xs, e, hx, _⟩ := r; subst e; cases h; exact sqT_ty hx
  | lst ds => obtain ⟨a, xs, e, hx, _⟩ := r; subst e; cases h; exact .base (.lst hx)
  | scr ns =>
    obtain ⟨a, e, hx⟩ := r
    subst e; cases h
    rcases hx with ⟨o, hx⟩ | hx
    · exact .base (.frz hx)
    · rcases hx (fun _ => none) with (z | ⟨o, z⟩) | ⟨o, its, n, hk, hc, _⟩
      · cases z
      · cases z
      · exact .kList hk hc
  | ref i =>
    obtain ⟨a, e, em⟩ := r
    subst e
    unfold tyStr at h
    simp only at h
    split at h
    · rename_i ds ec; cases h; obtain ⟨xs, hx, _⟩ := rh.ok i a _ em ec; exact .base (.lst hx)
    · rename_i ds ec; cases h; obtain ⟨xs, hx, _⟩ := rh.ok i a _ em ec; exact .base (.dK hx)
    · rename_i ds ec; cases h; obtain ⟨xs, hx, _⟩ := rh.ok i a _ em ec; exact .base (.dT hx)
    · cases h
  | con u => cases h
  | exc a c d fs => cases h
  | dct => obtain ⟨a, es, e, hx, _⟩ := r; subst e; cases h; exact .base (.dK hx)
/-- is n the type T or under it -/
def subTy (n T : String) : Bool := n == T || (n == "bool" && T == "int")
def knownTy (n : String) : Bool := ["NoneType", "bool", "int", "str", "tuple", "list", "dict"].contains n
theorem kit_tab {n T : String} (hn : knownTy n = true) (hT : ["bool", "int", "str", "tuple", "list", "dict"].contains T = true) : PySem.W.kitOne K (.type n) (.type T) = some (subTy n T) := by
  have a : n = "NoneType" ∨ n = "bool" ∨ n = "int" ∨ n = "str" ∨ n = "tuple" ∨ n = "list" ∨ n = "dict" := by simpa [knownTy] using hn
  have b : T = "bool" ∨ T = "int" ∨ T = "str" ∨ T = "tuple" ∨ T = "list" ∨ T = "dict" := by simpa using hT
  rcases a with rfl | rfl | rfl | rfl | rfl | rfl | rfl <;> rcases b with rfl | rfl | rfl | rfl | rfl | rfl <;> rfl
theorem tyStr_known {d : D} {M : MH} {n : String} (h : tyStr d M = some n) : knownTy n = true := by
  cases d with
  | ref i =>
    unfold tyStr at h
    simp only at h
    split at h
    · cases h; rfl
    · cases h; rfl
    · cases h; rfl
    · cases h
  | con u => cases h
  | exc a c d fs => cases h
  | _ => cases h; rfl
def cIsi : RA' := fun ds M Q => ∃ d T n, ds = [d, .con (.ty T)] ∧ ["bool", "int", "str", "tuple", "list", "dict"].contains T = true ∧ tyStr d M = some n ∧ Q (.bl (subTy n T)) M
theorem mr_isi : MonoR cIsi := fun ds M Q Q' q ⟨d, T, n, e, hT, en, h⟩ => ⟨d, T, n, e, hT, en, q _ _ h⟩
theorem la_isi : LiftA K (rIsi K) cIsi := by
  intro w xs ds Q rh r ⟨d, T, n, e, hT, en, q⟩
  subst e
  obtain ⟨v, v', rfl, rv, rv'⟩ := rep2 r
  have : v' = .ty T := by simpa [Rep] using rv'
  subst this
  exact ⟨v, .ty T, .type n, .type T, subTy n T, rfl, .ty T, tyStr_rep rh rv en, kit_tab (tyStr_known en) hT, PV.here rh q rep_mk_bl⟩
/-- a built-in type as a value -/
theorem me_ty {x : Str} {T : String} (hg : Gl X x) (hm : X.mg x = none) (hv : bootBuiltins x = some (.type T)) (hn : x ≠ "__name__" := by decide) (hd : (x == ("__debug__" : Str)) = false := by decide) : ME X W (.Name x pos) (tC' (.con (.ty T))) :=
  me_c (v := .ty T) (pe_bltn hg hm hv rfl hn hd) fun _ => by simp [Rep]
/-- isinstance(x, (T1, T2)) -/
def tysD : List D → Option (List String)
  | [] => some []
  | .con (.ty T) :: r => (tysD r).map (T :: ·)
  | _ :: _ => none
theorem tysD_rep : ∀ {ds : List D} {xs : List V} {ts : List String}, RepL K w ds xs → tysD ds = some ts → xs = ts.map V.ty
  | [], xs, ts, h, e => by cases e; exact h
  | d :: r, xs, ts, h, e => by
    obtain ⟨x, xr, rfl, rx, h⟩ := h
    cases d with
    | con u =>
      cases u with
      | ty T =>
        unfold tysD at e
        cases hr : tysD r with
        | none => rw [hr] at e; cases e
        | some ts' =>
          rw [hr] at e
          cases e
          rw [show x = .ty T by simpa [Rep] using rx, tysD_rep h hr]; rfl
      | _ => unfold tysD at e; cases e
    | _ => unfold tysD at e; cases e
def okTys (ts : List String) : Bool := ts.all fun T => ["bool", "int", "str", "tuple", "list", "dict"].contains T
theorem kitAny_tab {n : String} (hn : knownTy n = true) : ∀ {ts : List String}, okTys ts = true → PySem.W.kitAny K (.type n) (ts.map Value.type) = some (ts.any fun T => subTy n T)
  | [], _ => rfl
  | T :: r, h => by
    unfold okTys at h
    rw [List.all_cons, Bool.and_eq_true] at h
    have ih : PySem.W.kitAny K (.type n) (r.map Value.type) = some (r.any fun T => subTy n T) := kitAny_tab hn (ts := r) h.2
    show (match PySem.W.kitOne K (.type n) (.type T) with | some true => some true | some false => PySem.W.kitAny K (.type n) (r.map Value.type) | none => none) = _
    rw [kit_tab hn h.1, List.any_cons]
    cases subTy n T with
    | true => rfl
    | false => simp [ih]
theorem paired_ty : ∀ ts : List String, Paired ClsV (ts.map V.ty) (ts.map Value.type)
  | [] => .nil
  | T :: r => .cons (.ty T) (paired_ty r)
/-- the written tuple of types is just laid -/
def cIsiT : RA' := fun ds M Q => ∃ d es ts n, ds = [d, .tup es] ∧ tysD es = some ts ∧ okTys ts = true ∧ tyStr d M = some n ∧ Q (.bl (ts.any fun T => subTy n T)) M
theorem mr_isiT : MonoR cIsiT := fun ds M Q Q' q ⟨d, es, ts, n, e, e1, e2, en, h⟩ => ⟨d, es, ts, n, e, e1, e2, en, q _ _ h⟩
/-- the layer's rule asks for a tracked tuple -/
def rIsiT2 (K : PySem.W.Frag) : List V → Hp → VK → Prop := fun xs H Q => ∃ (x : V) (tp : Addr) (cs : List V) (t : Value) (us : List Value) (b : Bool), xs = [x, .ref tp] ∧ SqT K H tp cs ∧ Paired ClsV cs us ∧ TyX K H x t ∧ PySem.W.kitAny K t us = some b ∧ Q (.bl b) H
theorem call_isiT2 {X : Cx} : CallR X (.builtin "isinstance") (rIsiT2 X.K) := by
  intro pins s σ H xs us Q I r h
  obtain ⟨x, tp, cs, t, ws, b, rfl, hT, k, ty, e, q⟩ := h
  obtain ⟨u1, u2, rfl, r1, r2⟩ := vals2 r
  rcases hT with (hT | ⟨o, hT⟩) | ⟨o, its, n, hk, hc, hd, hz, hv⟩
  · exact call_isiT pins s σ H _ _ Q I r ⟨x, tp, cs, t, ws, b, rfl, hT, k, ty, e, q⟩
  · cases (show u2 = Value.ref tp from r2)
    obtain ⟨P, Z, p, hx⟩ := kit_of I r1 ty
    obtain ⟨_, _, its, rv, o2, h1, h2, n, h3⟩ := (show ObjOk X.prog X.w H s.heap tp (.frz o (.tup cs)) from I.hok tp _ hT)
    have e3 := ClsV.all k rv
    subst e3
    obtain ⟨oc, od, dt, sl⟩ := o2
    simp only at h2 h3
    subst h2 h3
    exact PySem.W.kia_tup Z I.kIn p h1 e hx fun tk => ⟨.bl b, H, I.tok tk, rfl, q⟩
  · cases (show u2 = Value.ref tp from r2)
    obtain ⟨P, Z, p, hx⟩ := kit_of I r1 ty
    have e3 := ClsV.all k hv
    subst e3
    obtain ⟨oc, od, dt, sl⟩ := o
    simp only at hc hd
    subst hc hd
    exact PySem.W.kia_tup Z I.kIn p (I.kIn tp _ hk) e hx fun tk => ⟨.bl b, H, I.tok tk, rfl, q⟩
theorem la_isiT : LiftA K (rIsiT2 K) cIsiT := by
  intro w xs ds Q rh r ⟨d, es, ts, n, e, e1, e2, en, q⟩
  subst e
  obtain ⟨v, v', rfl, rv, rv'⟩ := rep2 r
  obtain ⟨a, cs, e, hx, hr⟩ := rv'
  subst e
  have := tysD_rep hr e1
  subst this
  exact ⟨v, a, _, .type n, _, _, rfl, hx, paired_ty ts, tyStr_rep rh rv en, kitAny_tab (tyStr_known en) e2, PV.here rh q rep_mk_bl⟩
/-! ### methods -/
def mAppend : RM' := fun x ds M Q => ∃ c es d, x = .ref c ∧ ds = [d] ∧ M[c]? = some (.lst es) ∧ es.length < sizeLine ∧ Q .non (M.set c (.lst (es ++ [d])))
theorem lm_append : LiftM K rAppend mAppend := by
  intro w x xs d ds Q rh rx rs ⟨c, es, d1, e1, e2, ec, hl, q⟩
  subst e1 e2
  obtain ⟨a, e, em⟩ := rx
  subst e
  obtain ⟨v, rfl, rv⟩ := rep1 rs
  obtain ⟨ys, hy, hr⟩ := rh.ok c a _ em ec
  have nd : (Cell.lst es) ≠ Cell.dead := fun z => by cases z
  have l : Le w (w.put c a (.lst (ys ++ [v])) (.lst (es ++ [d1]))) := Le.put rh em ec nd
  exact ⟨a, ys, v, rfl, rfl, hy, by rw [hr.length]; exact hl, q .non (w.put c a (.lst (ys ++ [v])) (.lst (es ++ [d1]))) rfl l (rh.put em ec nd ⟨_, upd_same, RepL.le rh l _ (hr.append (RepL.cons rv RepL.nil))⟩) rep_mk_non⟩
theorem mm_append : MonoM mAppend := fun x ds M Q Q' q ⟨c, es, d, e1, e2, ec, hl, h⟩ => ⟨c, es, d, e1, e2, ec, hl, q _ _ h⟩
def mPopAt : RM' := fun x ds M Q => ∃ c es i k d, x = .ref c ∧ ds = [.int i] ∧ M[c]? = some (.lst es) ∧ ixN es.length i = some k ∧ -(2 ^ 63) ≤ i ∧ i < 2 ^ 63 ∧ es[k]? = some d ∧ Q d (M.set c (.lst (es.eraseIdx k)))
theorem lm_popAt : LiftM K rPopAt mPopAt := by
  intro w x xs d ds Q rh rx rs ⟨c, es, i, k, d1, e1, e2, ec, hk, h1, h2, hd, q⟩
  subst e1 e2
  obtain ⟨a, e, em⟩ := rx
  subst e
  obtain ⟨v, rfl, rv⟩ := rep1 rs
  obtain ⟨ys, hy, hr⟩ := rh.ok c a _ em ec
  obtain ⟨y, ey, ry⟩ := hr.get hd
  have nd : (Cell.lst es) ≠ Cell.dead := fun z => by cases z
  have l : Le w (w.put c a (.lst (ys.eraseIdx k)) (.lst (es.eraseIdx k))) := Le.put rh em ec nd
  exact ⟨a, ys, i, k, y, rfl, by rw [rep_int rv], hy, h1, h2, by rw [hr.length]; exact (ixN_seq hk).1, ey, q y (w.put c a (.lst (ys.eraseIdx k)) (.lst (es.eraseIdx k))) rfl l (rh.put em ec nd ⟨_, upd_same, RepL.le rh l _ (hr.eraseIdx k)⟩) (ry.le' rh l)⟩
theorem mm_popAt : MonoM mPopAt := fun x ds M Q Q' q ⟨c, es, i, k, d, e1, e2, ec, hk, h1, h2, hd, h⟩ => ⟨c, es, i, k, d, e1, e2, ec, hk, h1, h2, hd, q _ _ h⟩
def mStarts : RM' := fun x ds M Q => ∃ a b, x = .str a ∧ ds = [.str b] ∧ Q (.bl (Txt.startswith a b)) M
theorem lm_starts : LiftM K (fun x xs H Q => ∃ a b, x = .str a ∧ xs = [.str b] ∧ Q (.bl (Txt.startswith a b)) H) mStarts := by
  intro w x xs d ds Q rh rx rs ⟨a, b, e1, e2, q⟩
  subst e1 e2
  obtain ⟨v, rfl, rv⟩ := rep1 rs
  exact ⟨a, b, rep_str rx, by rw [rep_str rv], PV.here rh q rep_mk_bl⟩
theorem mm_starts : MonoM mStarts := fun x ds M Q Q' q ⟨a, b, e1, e2, h⟩ => ⟨a, b, e1, e2, q _ _ h⟩
def mSIndex : RM' := fun x ds M Q => ∃ (a b : Str) (i : Nat) (rest : List Nat), x = .str a ∧ ds = [.str b] ∧ Builtin.Str.occurrences a b 0 a.length 1 = i :: rest ∧ Q (.int (i : Int)) M
theorem lm_sindex : LiftM K (fun x xs H Q => ∃ a b i rest, x = .str a ∧ xs = [.str b] ∧ Builtin.Str.occurrences a b 0 a.length 1 = i :: rest ∧ Q (.int (i : Nat)) H) mSIndex := by
  intro w x xs d ds Q rh rx rs ⟨a, b, i, rest, e1, e2, ho, q⟩
  subst e1 e2
  obtain ⟨v, rfl, rv⟩ := rep1 rs
  exact ⟨a, b, i, rest, rep_str rx, by rw [rep_str rv], ho, PV.here rh q rep_mk_int⟩
theorem mm_sindex : MonoM mSIndex := fun x ds M Q Q' q ⟨a, b, i, rest, e1, e2, ho, h⟩ => ⟨a, b, i, rest, e1, e2, ho, q _ _ h⟩
/-! ### list(range(..)), tuple(range(..)) -/
def tRg1' (ta : TE') : EnvD → MH → (Int → Int → MH → Prop) → QX → Prop := fun δ M Q E => ta δ M (fun d M1 => ∃ n, d = .int n ∧ Q 0 n M1) E
def tRg2' (ta tb : TE') : EnvD → MH → (Int → Int → MH → Prop) → QX → Prop := fun δ M Q E => ta δ M (fun d M1 => tb δ M1 (fun d2 M2 => ∃ i j, d = .int i ∧ d2 = .int j ∧ Q i j M2) E) E
def tListRg' (cell : Bool) (t : EnvD → MH → (Int → Int → MH → Prop) → QX → Prop) : TE' := fun δ M Q E => t δ M (fun a b M1 => RgOk a b ∧ newL cell (rangeD a (b - a).toNat) M1 Q) E
def tTupRg' (t : EnvD → MH → (Int → Int → MH → Prop) → QX → Prop) : TE' := fun δ M Q E => t δ M (fun a b M1 => RgOk a b ∧ Q (.tup (rangeD a (b - a).toNat)) M1) E
theorem rep_range {a b : Int} : RepL K w (rangeD a (b - a).toNat) (rgV a b) := by
  unfold rangeD rgV
  generalize List.range (b - a).toNat = l
  induction l with
  | nil => exact RepL.nil
  | cons i r ih => exact RepL.cons rep_mk_int ih
theorem me_listRg1 (cell : Bool) {p p2 pos2 : Pos} {ta : TE'} (hc : X.calm = true) (hg : Gl X "list") (hm : X.mg "list" = none) (hg2 : Gl X "range") (hm2 : X.mg "range" = none) (ha : ME X W a ta)
    (na : starEach [a] X.env = (false, eval a X.env) :: starEach [] X.env := by rfl) (na2 : starEach [.Call (.Name "range" p2) [a] [] pos2] X.env = (false, eval (.Call (.Name "range" p2) [a] [] pos2) X.env) :: starEach [] X.env := by rfl) :
    ME X W (.Call (.Name "list" p) [.Call (.Name "range" p2) [a] [] pos2] [] pos) (tListRg' cell (tRg1' ta)) :=
  ⟨PE.imp (pe_listRg hc hg hm (prg_1 hg2 hm2 ha.pe na) na2) fun σ H Q ⟨w, δ, eH, rh, rs, h⟩ => by
    subst eH
    refine up_go ha.mono rh rs h (fun _ _ x => x) fun d v w1 l1 rh1 rs1 rv ⟨n, e, ok, q⟩ => ?_
    subst e
    exact ⟨n, rep_int rv, ok, newL.lift rh1 rep_range (newL.mono (fun d M q => q.le rh rh1 l1) q)⟩,
   fun δ M Q Q' E E' q x hh => ha.mono _ _ _ _ _ _ (fun d M1 ⟨n, e, ok, h⟩ => ⟨n, e, ok, h.mono q⟩) x hh⟩
theorem me_tupRg1 {p p2 pos2 : Pos} {ta : TE'} (hc : X.calm = true) (hg : Gl X "tuple") (hm : X.mg "tuple" = none) (hg2 : Gl X "range") (hm2 : X.mg "range" = none) (ha : ME X W a ta)
    (na : starEach [a] X.env = (false, eval a X.env) :: starEach [] X.env := by rfl) (na2 : starEach [.Call (.Name "range" p2) [a] [] pos2] X.env = (false, eval (.Call (.Name "range" p2) [a] [] pos2) X.env) :: starEach [] X.env := by rfl) :
    ME X W (.Call (.Name "tuple" p) [.Call (.Name "range" p2) [a] [] pos2] [] pos) (tTupRg' (tRg1' ta)) :=
  ⟨PE.imp (pe_tupRg hc hg hm (prg_1 hg2 hm2 ha.pe na) na2) fun σ H Q ⟨w, δ, eH, rh, rs, h⟩ => by
    subst eH
    refine up_go ha.mono rh rs h (fun _ _ x => x) fun d v w1 l1 rh1 rs1 rv ⟨n, e, ok, q⟩ => ?_
    subst e
    exact ⟨n, rep_int rv, ok, newT.lift rh1 rep_range (q.le rh rh1 l1)⟩,
   fun δ M Q Q' E E' q x hh => ha.mono _ _ _ _ _ _ (fun d M1 ⟨n, e, ok, h⟩ => ⟨n, e, ok, q _ _ h⟩) x hh⟩
end MD
/-! MD: slices of all kinds, constants of the module, the ends. -/
namespace MD
open PySem PySem.Spec PyProof.Rows L2
variable {K : PySem.W.Frag} {w w1 w2 : Wd} {X : Cx} {W : WX} {e a b c : Expr} {pos : Pos}
def cutD (xs : List D) (lo hi : Option Int) : List D := (xs.drop (HT.sIx xs.length 0 lo)).take (HT.sIx xs.length xs.length hi - HT.sIx xs.length 0 lo)
theorem RepL.cut {ds : List D} {xs : List V} (h : RepL K w ds xs) (lo hi : Option Int) : RepL K w (cutD ds lo hi) (cutV xs lo hi) := by
  unfold cutD cutV
  rw [h.length]
  exact (h.drop _).take _
abbrev rSlAll (K : PySem.W.Frag) : V → Option Int → Option Int → Hp → VK → Prop := fun x lo hi H Q => rSlS x lo hi H Q ∨ rSlA K x lo hi H Q ∨ rSlL K x lo hi H Q
theorem sl_all : SlR X (rSlAll X.K) := SlR.or sl_str (SlR.or sl_tupA sl_list)
def oSl (cell : Bool) : RS' := fun d lo hi M Q => match d with
  | .str z => z.length ≤ sizeLine ∧ Q (.str (cutS z lo hi)) M
  | .tup ds => Q (.tup (cutD ds lo hi)) M
  | d => ∃ ds, lstOf d M = some ds ∧ newL cell (cutD ds lo hi) M Q
theorem cut_all {xs : List V} {lo hi : Option Int} (h : HT.sIx xs.length 0 lo = 0 ∧ HT.sIx xs.length xs.length hi = xs.length) : cutV xs lo hi = xs := by
  unfold cutV
  rw [h.1, h.2]; simp
theorem lsl_all {cell : Bool} : LiftSl K (rSlAll K) (oSl cell) := by
  intro w x d lo hi Q rh rx h
  have lst : ∀ ds, lstOf d w.M = some ds → newL cell (cutD ds lo hi) w.M (PV K w Q) → rSlAll K x lo hi w.H Q := by
    intro ds e h
    obtain ⟨a, xs, rfl, hx, hr⟩ := lstOf_rep rh rx e
    exact .inr (.inr ⟨a, xs, rfl, SqL.of hx, newL.lift rh (hr.cut lo hi) h⟩)
  cases d with
  | str z => exact .inl ⟨z, rep_str rx, h.1, PV.here rh h.2 rep_mk_str⟩
  | tup ds =>
    obtain ⟨a, xs, e, hx, hr⟩ := rx
    have h : PV K w Q (.tup (cutD ds lo hi)) w.M := h
    refine .inr (.inl ⟨a, xs, e, hx, fun hc => ?_, fun _ => newT.lift rh (hr.cut lo hi) h⟩)
    have hr2 := hr.cut lo hi
    rw [cut_all hc] at hr2
    exact PV.here rh h ⟨a, xs, rfl, hx, hr2⟩
  | lst ds => obtain ⟨es, e, h⟩ := h; exact lst es e h
  | ref i => obtain ⟨es, e, h⟩ := h; exact lst es e h
  | _ => obtain ⟨es, e, h⟩ := h; cases e
theorem msl_all {cell : Bool} : MonoSl (oSl cell) := by
  intro d lo hi M Q Q' q h
  cases d with
  | str z => exact ⟨h.1, q _ _ h.2⟩
  | tup ds => exact q _ _ h
  | lst ds => obtain ⟨es, e, h⟩ := h; exact ⟨es, e, h.mono q⟩
  | ref ds => obtain ⟨es, e, h⟩ := h; exact ⟨es, e, h.mono q⟩
  | _ => obtain ⟨es, e, h⟩ := h; cases e

/-! ### constants of the module -/
def GlobD (K : PySem.W.Frag) (mg : Str → Option Value) (x : Str) (d : D) : Prop := ∃ (u : Value) (v : V), mg x = some u ∧ RelV v u ∧ ∀ w, Rep K w d v
theorem me_globD {x : Str} {d : D} (hg : Gl X x) (h : GlobD X.K X.mg x d) (hd : (x == ("__debug__" : Str)) = false := by decide) : ME X W (.Name x pos) (tC' d) := by
  obtain ⟨u, v, hm, r, hr⟩ := h
  exact me_glob hg hm r hr hd
def GlobK (K : PySem.W.Frag) (x : Str) (d : D) : Prop := ∃ (u : Value) (v : V), PySem.W.nsIn K mainGlobals x = some (some u) ∧ RelV v u ∧ ∀ w, Rep K w d v
theorem globD_of {h : Heap} {mg : Str → Option Value} {x : Str} {d : D} (X : K.In h) (G : h.Ns mainGlobals mg) (g : GlobK K x d) : GlobD K mg x d := by
  obtain ⟨u, v, hm, r, hr⟩ := g
  exact ⟨u, v, PySem.W.mg_of X G hm, r, hr⟩
theorem globK_str {x y : Str} {t : Tok} (h : PySem.W.nsIn K mainGlobals x = some (some (.str y t))) : GlobK K x (.str y) := ⟨_, .str y, h, ⟨t, rfl⟩, fun _ => rep_mk_str⟩
theorem globK_int {x : Str} {y : Int} {t : Tok} (h : PySem.W.nsIn K mainGlobals x = some (some (.int y t))) : GlobK K x (.int y) := ⟨_, .int y, h, ⟨t, rfl⟩, fun _ => rep_mk_int⟩
theorem globK_tup {x : Str} {ds : List D} {xs : List V} {its : Array Value} {a : Addr} {dd : Option Addr} {n : Nat} {sl : Array (Option Value)} (h : PySem.W.nsIn K mainGlobals x = some (some (.ref a)))
    (l : K.lookup a = some ⟨.type "tuple", dd, .seq its n, sl⟩) (hv : its.size ≤ sizeLine ∧ Vals xs its.toList ∧ ∀ w, RepL K w ds xs) : GlobK K x (.tup ds) :=
  ⟨_, .ref a, h, rfl, fun w => by
    simp only [Rep]
    exact ⟨a, xs, rfl, .inr ⟨_, its, n, l, rfl, rfl, hv.1, hv.2.1⟩, hv.2.2 w⟩⟩

/-! ### the ends -/
theorem upP_imp {sp sp' : SpD} (h : ∀ ds M Q E, sp' ds M Q E → sp ds M Q E) {vs : List V} {H : Hp} {Q : VK} {E : XK} (q : upP K sp' vs H Q E) : upP K sp vs H Q E := by
  obtain ⟨w, ds, e, rh, hr, q⟩ := q
  exact ⟨w, ds, e, rh, hr, h _ _ _ _ q⟩
theorem law_start {sp : SpD} {H : Hp} {a : Addr} {ns : List Int} (hO : Only H) (hS : SqL K H a (ns.map V.int)) (h : ∀ Q E, (∀ M, Q (.bl true) M) → sp [.scr ns] [] Q E) : upP K sp [.ref a] H (fun v _ => v = .bl true) fun _ _ _ => False := by
  refine ⟨⟨[], [], [], H⟩, [.scr ns], rfl, ⟨rfl, List.nodup_nil, (fun _ h => nomatch h), (fun i a c e => by simp at e), (fun _ h => nomatch h)⟩, ?_, h _ _ fun M v w1 _ _ _ r => rep_bl r⟩
  refine ⟨.ref a, [], rfl, ?_, rfl⟩
  simp only [Rep]
  refine ⟨a, rfl, ?_⟩
  rcases hS with (hS | ⟨o, hS⟩) | hS
  · rcases hO a with z | ⟨o, xs, z⟩
    · rw [z] at hS; cases hS
    · rw [z] at hS; cases hS
  · exact .inl ⟨o, hS⟩
  · exact .inr fun H => .inr hS
theorem cx_none {P : Program} {wd : World} {H : Hp} {s s' : Shared} {e : Value} (h : L2.CX P wd [] H s (fun _ _ _ => False) e s') : False := by
  obtain ⟨_, _, _, _, _, _, _, _, _, _, _, _, z⟩ := h
  exact z
theorem law_binds {x qual : Str} {st : Stmt} {f : Addr} {fd : FuncData} {y : Str} (F : Fun K x qual st f fd) (s : Shared) (u : Value)
    (h : ∀ (kV doc pm : Value) (an : Option Addr) (cdv ct : Value), bindArgs (PySem.W.fnOf x qual (defArgs st) (defBody st) (defScope st) .none kV doc pm an cdv ct) ⟨[u], []⟩ = pure [(y, u)]) : BindsTo s fd ⟨[u], []⟩ [(y, u)] := by
  obtain ⟨oc, od, kV, doc, pm, an, cdv, ct, osl, rfl, _, _⟩ := F.ex
  exact .of_eq (h kV doc pm an cdv ct)
end MD
/-! MD: rules for simp, loops by induction. -/
namespace MD
open PySem PySem.Spec PyProof.Rows L2
def asB (d : D) (P : Bool → Prop) : Prop := match d with
  | .bl c => P c
  | _ => False
@[simp] theorem asB_bl {c : Bool} {P : Bool → Prop} : asB (.bl c) P ↔ P c := Iff.rfl
theorem asB_iff {d : D} {P : Bool → Prop} : (∃ c, d = .bl c ∧ P c) ↔ asB d P := by
  constructor
  · rintro ⟨c, rfl, h⟩; exact h
  · intro h
    cases d with
    | bl c => exact ⟨c, rfl, h⟩
    | _ => exact h.elim
def onB (o : Option Bool) (P : Bool → Prop) : Prop := match o with
  | some c => P c
  | none => False
@[simp] theorem onB_some {c : Bool} {P : Bool → Prop} : onB (some c) P ↔ P c := Iff.rfl
theorem onB_iff {d : Option Bool} {P : Bool → Prop} : (∃ c, d = some c ∧ P c) ↔ onB d P := by
  constructor
  · rintro ⟨c, rfl, h⟩; exact h
  · intro h
    cases d with
    | some c => exact ⟨c, rfl, h⟩
    | none => exact h.elim
section
variable {δ : EnvD} {M : MH} {Q : QE} {E : QX} {i : Nat} {d : D} {ta tb te : TE'} {t u : TT'} {a b : TA'} {DD : Ends'} {s1 s2 : TS'} {QB : Bool → MH → Prop} {QA : List D → MH → Prop} {r : R2'} {r1 : R1'} {g : TG'}
@[simp] theorem u_var : tVar' i δ M Q E ↔ ∃ d, δ[i]? = some (some d) ∧ Q d M := Iff.rfl
@[simp] theorem u_c : tC' d δ M Q E ↔ Q d M := Iff.rfl
@[simp] theorem u_op : tOp' r ta tb δ M Q E ↔ ta δ M (fun x M1 => tb δ M1 (fun y M2 => r x y M2 Q) E) E := Iff.rfl
@[simp] theorem u_un : tUn' r1 ta δ M Q E ↔ ta δ M (fun x M1 => r1 x M1 Q) E := Iff.rfl
@[simp] theorem u_B : tB' te δ M QB E ↔ te δ M (fun d M1 => asB d fun c => QB c M1) E := by unfold tB'; simp only [asB_iff]
@[simp] theorem u_and : tAnd' t u δ M QB E ↔ t δ M (fun c M1 => if c = true then u δ M1 QB E else QB false M1) E := Iff.rfl
@[simp] theorem u_or : tOr' t u δ M QB E ↔ t δ M (fun c M1 => if c = true then QB true M1 else u δ M1 QB E) E := Iff.rfl
@[simp] theorem u_not : tNot' t δ M QB E ↔ t δ M (fun c M1 => QB (!c) M1) E := Iff.rfl
@[simp] theorem u_andV : tAndV' ta tb δ M Q E ↔ ta δ M (fun x M1 => asB x fun c => if c = true then tb δ M1 Q E else Q (.bl false) M1) E := by unfold tAndV'; simp only [asB_iff]
@[simp] theorem u_orV : tOrV' ta tb δ M Q E ↔ ta δ M (fun x M1 => asB x fun c => if c = true then Q (.bl true) M1 else tb δ M1 Q E) E := by unfold tOrV'; simp only [asB_iff]
@[simp] theorem u_notV : tNotV' ta δ M Q E ↔ ta δ M (fun x M1 => asB x fun c => Q (.bl (!c)) M1) E := by unfold tNotV'; simp only [asB_iff]
@[simp] theorem u_if : tIf' t ta tb δ M Q E ↔ t δ M (fun c M1 => if c = true then ta δ M1 Q E else tb δ M1 Q E) E := Iff.rfl
@[simp] theorem u_nil : tNil' δ M QA E ↔ QA [] M := Iff.rfl
@[simp] theorem u_cons : tCons' te a δ M QA E ↔ te δ M (fun d M1 => a δ M1 (fun ds M2 => QA (d :: ds) M2) E) E := Iff.rfl
@[simp] theorem u_tup : tTup' a δ M Q E ↔ a δ M (fun ds M1 => ds.length ≤ sizeLine ∧ Q (.tup ds) M1) E := Iff.rfl
@[simp] theorem u_lst {c : Bool} : tLst' c a δ M Q E ↔ a δ M (fun ds M1 => ds.length ≤ sizeLine ∧ newL c ds M1 Q) E := Iff.rfl
@[simp] theorem u_newF {ds : List D} : newL false ds M Q ↔ Q (.lst ds) M := Iff.rfl
@[simp] theorem u_newT {ds : List D} : newL true ds M Q ↔ Q (.ref M.length) (M ++ [.lst ds]) := Iff.rfl
@[simp] theorem u_frz : tFrz te δ M Q E ↔ te δ M (fun d M1 => ∃ i ds, d = .ref i ∧ M1[i]? = some (.lst ds) ∧ Q (.lst ds) (M1.set i .dead)) E := Iff.rfl
@[simp] theorem u_CB {r : RA'} : tCB' r a δ M Q E ↔ a δ M (fun ds M1 => r ds M1 Q) E := Iff.rfl
@[simp] theorem u_call {sp : SpD} : tCall' sp a δ M Q E ↔ a δ M (fun ds M1 => sp ds M1 Q E) E := Iff.rfl
@[simp] theorem u_gname {QG : EnvD → MH → Prop} : gName' i d δ M QG ↔ QG (δ.set i (some d)) M := Iff.rfl
theorem u_gnil {ds : List D} {QG : EnvD → MH → Prop} : gAll' [] ds δ M QG ↔ ds = [] ∧ QG δ M := Iff.rfl
theorem u_gcons {gs : List TG'} {ds : List D} {QG : EnvD → MH → Prop} : gAll' (g :: gs) ds δ M QG ↔ ∃ d r, ds = d :: r ∧ g d δ M fun δ1 M1 => gAll' gs r δ1 M1 QG := Iff.rfl
theorem u_gtup {n : Nat} {gs : List TG'} {QG : EnvD → MH → Prop} : gTup' n gs d δ M QG ↔ ∃ ds, (d = .tup ds ∨ d = .lst ds) ∧ ds.length = n ∧ gAll' gs ds δ M QG := Iff.rfl
@[simp] theorem u_gsub {ts : TSet'} {QG : EnvD → MH → Prop} : gSub' ta tb ts d δ M QG ↔ ta δ M (fun o M1 => tb δ M1 (fun i M2 => ts o i d M2 fun M3 => QG δ M3) fun _ _ => False) fun _ _ => False := Iff.rfl
@[simp] theorem u_next : tNext' DD δ M ↔ DD.nx δ M := Iff.rfl
@[simp] theorem u_seq : tSeq' s1 s2 DD δ M ↔ s1 { DD with nx := s2 DD } δ M := Iff.rfl
@[simp] theorem u_break : tBreak' DD δ M ↔ DD.bk δ M := Iff.rfl
@[simp] theorem u_cont : tCont' DD δ M ↔ DD.ct δ M := Iff.rfl
@[simp] theorem u_never : tNever' DD δ M ↔ False := Iff.rfl
@[simp] theorem u_drop : tDrop' te DD δ M ↔ te δ M (fun _ M1 => DD.nx δ M1) (fun x M1 => DD.ex x δ M1) := Iff.rfl
@[simp] theorem u_ret : tRet' te DD δ M ↔ te δ M DD.rt (fun x M1 => DD.ex x δ M1) := Iff.rfl
@[simp] theorem u_retN : tRetN' DD δ M ↔ DD.rt .non M := Iff.rfl
@[simp] theorem u_ifS : tIfS' t s1 s2 DD δ M ↔ t δ M (fun b M1 => if b = true then s1 DD δ M1 else s2 DD δ M1) (fun x M1 => DD.ex x δ M1) := Iff.rfl
@[simp] theorem u_asg : tAsg' te g DD δ M ↔ te δ M (fun d M1 => g d δ M1 DD.nx) (fun x M1 => DD.ex x δ M1) := Iff.rfl
@[simp] theorem u_par {j : Nat} : tPar' i j a DD δ M ↔ a δ M (fun ds M1 => ∃ d d', ds = [d, d'] ∧ DD.nx ((δ.set i (some d)).set j (some d')) M1) (fun x M1 => DD.ex x δ M1) := Iff.rfl
@[simp] theorem u_it {R : ItD → MH → Prop} : tIt' te δ M R E ↔ te δ M (fun d M1 => seqD d M1 R) E := Iff.rfl
@[simp] theorem u_seqT {ds : List D} {R : ItD → MH → Prop} : seqD (.tup ds) M R ↔ R ⟨ds, none⟩ M := Iff.rfl
@[simp] theorem u_seqL {ds : List D} {R : ItD → MH → Prop} : seqD (.lst ds) M R ↔ R ⟨ds, none⟩ M := Iff.rfl
@[simp] theorem u_seqScr {ns : List Int} {R : ItD → MH → Prop} : seqD (.scr ns) M R ↔ R ⟨ns.map D.int, none⟩ M := Iff.rfl
@[simp] theorem u_seqStr {x : Str} {R : ItD → MH → Prop} : seqD (.str x) M R ↔ R ⟨x.cps.toList.map fun c => D.str ⟨#[c]⟩, none⟩ M := Iff.rfl
@[simp] theorem u_seqRef {R : ItD → MH → Prop} : seqD (.ref i) M R ↔ ∃ ds, M[i]? = some (.lst ds) ∧ R ⟨ds, some i⟩ M := Iff.rfl
@[simp] theorem u_rng1 {R : ItD → MH → Prop} : tRng1' a δ M R E ↔ a δ M (fun ds M1 => ∃ j : Int, ds = [.int j] ∧ -(2 ^ 62) ≤ j ∧ j < 2 ^ 62 ∧ R ⟨rangeD 0 j.toNat, none⟩ M1) E := Iff.rfl
@[simp] theorem u_rng2 {R : ItD → MH → Prop} : tRng2' a δ M R E ↔ a δ M (fun ds M1 => ∃ i j : Int, ds = [.int i, .int j] ∧ (-(2 ^ 62) ≤ i ∧ i < 2 ^ 62 ∧ -(2 ^ 62) ≤ j ∧ j < 2 ^ 62) ∧ R ⟨rangeD i (j - i).toNat, none⟩ M1) E := Iff.rfl
@[simp] theorem u_for {ti : TI'} : tFor' ti g s1 DD δ M ↔ ti δ M (fun it M1 => forL it g s1 DD it.items δ M1) (fun x M1 => DD.ex x δ M1) := Iff.rfl
@[simp] theorem u_while : tWhile' t s1 DD δ M ↔ ∃ n, whileN t s1 DD n δ M := Iff.rfl
@[simp] theorem u_lc {c : Bool} {ti : TI'} {vs : List Nat} : tLc' c ti g t te vs δ M Q E ↔ ti δ M (fun it M1 => lcL it g t te vs δ (fun acc M2 => newL c acc M2 Q) it.items [] M1) E := Iff.rfl
@[simp] theorem u_yes : tYes' δ M QB E ↔ QB true M := Iff.rfl
@[simp] theorem u_BM {T : String} {rm : RM'} : tBM' T rm te a δ M Q E ↔ te δ M (fun x M1 => tyD T x M1 ∧ a δ M1 (fun ds M2 => rm x ds M2 Q) E) E := Iff.rfl
@[simp] theorem u_tyS {x : Str} : tyD "str" (.str x) M ↔ True := ⟨fun _ => trivial, fun _ => rfl⟩
@[simp] theorem u_tyL {ds : List D} : tyD "list" (.lst ds) M ↔ True := ⟨fun _ => trivial, fun _ => rfl⟩
@[simp] theorem u_tyR : tyD "list" (.ref i) M ↔ ∃ ds, M[i]? = some (.lst ds) := ⟨fun h => h.elim (fun h => h.2) (fun h => absurd h.1 (by decide)), fun h => .inl ⟨rfl, h⟩⟩
@[simp] theorem u_sl {rs : RS'} {tl th : TO'} : tSl' rs te tl th δ M Q E ↔ te δ M (fun d M1 => tl δ M1 (fun lo M2 => th δ M2 (fun hi M3 => rs d lo hi M3 Q) E) E) E := Iff.rfl
@[simp] theorem u_part {QO : Option Int → MH → Prop} : tPart' te δ M QO E ↔ te δ M (fun d M1 => ∃ i, d = .int i ∧ QO (some i) M1) E := Iff.rfl
@[simp] theorem u_nopart {QO : Option Int → MH → Prop} : tNoPart' δ M QO E ↔ QO none M := Iff.rfl
@[simp] theorem u_chain {r r' : R2'} {tc : TE'} : tChain' r r' ta tb tc δ M Q E ↔ ta δ M (fun x M1 => tb δ M1 (fun y M2 => r x y M2 fun z M3 => asB z fun k => if k = true then tc δ M3 (fun u M4 => r' y u M4 Q) E else Q (.bl false) M3) E) E := by unfold tChain'; simp only [asB_iff]
@[simp] theorem u_tru : tTru' te δ M QB E ↔ te δ M (fun d M1 => (∀ y, d = .str y → y.length ≤ sizeLine) ∧ onB (truD d M1) fun b => QB b M1) E := by unfold tTru'; simp only [onB_iff]
@[simp] theorem u_truB {c : Bool} : truD (.bl c) M = some c := rfl
@[simp] theorem u_truN : truD .non M = some false := rfl
@[simp] theorem u_truS {x : Str} : truD (.str x) M = some ((x.length : Int) != 0) := rfl
@[simp] theorem u_truI {x : Int} : truD (.int x) M = some (x != 0) := rfl
@[simp] theorem u_truT {ds : List D} : truD (.tup ds) M = some (!ds.isEmpty) := rfl
@[simp] theorem u_truL {ds : List D} : truD (.lst ds) M = some (!ds.isEmpty) := rfl
/-! operators -/
@[simp] theorem u_addI {c : Bool} {i j : Int} : oAdd c (.int i) (.int j) M Q ↔ Q (.int (i + j)) M := Iff.rfl
@[simp] theorem u_addS {c : Bool} {i j : Str} : oAdd c (.str i) (.str j) M Q ↔ i.length + j.length ≤ sizeLine ∧ Q (.str (i ++ j)) M := Iff.rfl
@[simp] theorem u_addT {c : Bool} {i j : List D} : oAdd c (.tup i) (.tup j) M Q ↔ i.length + j.length ≤ sizeLine ∧ Q (.tup (i ++ j)) M := Iff.rfl
@[simp] theorem u_I {C : Int → Int → Prop} {gg : Int → Int → D} {i j : Int} : oI C gg (.int i) (.int j) M Q ↔ C i j ∧ Q (gg i j) M := Iff.rfl
@[simp] theorem u_I0 {gg : Int → Int → D} {i j : Int} : oI0 gg (.int i) (.int j) M Q ↔ Q (gg i j) M := Iff.rfl
@[simp] theorem u_mulI {c : Bool} {i j : Int} : oMul c (.int i) (.int j) M Q ↔ MulOk i j ∧ Q (.int (i * j)) M := Iff.rfl
@[simp] theorem u_mulS {c : Bool} {i : Str} {j : Int} : oMul c (.str i) (.int j) M Q ↔ (-(2 ^ 62) < j ∧ j < 2 ^ 62 ∧ i.length * j.toNat ≤ sizeLine) ∧ Q (.str (strRep i j)) M := Iff.rfl
@[simp] theorem u_neg {i : Int} : oNeg (.int i) M Q ↔ Q (.int (-i)) M := Iff.rfl
@[simp] theorem u_eqI {i j : Int} : oEq false (.int i) (.int j) M Q ↔ Q (.bl (decide (i = j))) M := Iff.rfl
@[simp] theorem u_neI {i j : Int} : oEq true (.int i) (.int j) M Q ↔ Q (.bl (!decide (i = j))) M := Iff.rfl
@[simp] theorem u_eqS {i j : Str} : oEq false (.str i) (.str j) M Q ↔ Q (.bl (decide (i = j))) M := Iff.rfl
@[simp] theorem u_neS {i j : Str} : oEq true (.str i) (.str j) M Q ↔ Q (.bl (!decide (i = j))) M := Iff.rfl
@[simp] theorem u_eqB {i j : Bool} : oEq false (.bl i) (.bl j) M Q ↔ Q (.bl (decide (i = j))) M := Iff.rfl
@[simp] theorem u_eqT {i j : List D} {n : Bool} : oEq n (.tup i) (.tup j) M Q ↔ eqOk (.tup i) ∧ eqOk (.tup j) ∧ Q (.bl (if n then !deq (.tup i) (.tup j) else deq (.tup i) (.tup j))) M := Iff.rfl
@[simp] theorem u_eqL {i j : List D} {n : Bool} : oEq n (.lst i) (.lst j) M Q ↔ eqOk (.lst i) ∧ eqOk (.lst j) ∧ Q (.bl (if n then !deq (.lst i) (.lst j) else deq (.lst i) (.lst j))) M := Iff.rfl
@[simp] theorem u_isN {n : Bool} : oIsN' n d .non M Q ↔ (∀ u, d ≠ .con u) ∧ Q (.bl (if n then !nonD d else nonD d)) M := Iff.rfl
@[simp] theorem u_nonN : nonD .non = true := rfl
@[simp] theorem u_nonI {x : Int} : nonD (.int x) = false := rfl
@[simp] theorem u_nonB {x : Bool} : nonD (.bl x) = false := rfl
@[simp] theorem u_nonS {x : Str} : nonD (.str x) = false := rfl
@[simp] theorem u_nonT {ds : List D} : nonD (.tup ds) = false := rfl
@[simp] theorem u_nonL {ds : List D} : nonD (.lst ds) = false := rfl
@[simp] theorem u_ix {x y : D} : oIx x y M Q ↔ ∃ i, y = .int i ∧ ((∃ ds d, seqOf x M = some ds ∧ atI ds i = some d ∧ Q d M) ∨ (∃ (z : Str) (c : Nat), x = .str z ∧ z.length ≤ sizeLine ∧ atI z.cps.toList i = some c ∧ Q (.str ⟨#[c]⟩) M)) := Iff.rfl
@[simp] theorem u_sqT {ds : List D} : seqOf (.tup ds) M = some ds := rfl
@[simp] theorem u_sqL {ds : List D} : seqOf (.lst ds) M = some ds := rfl
@[simp] theorem u_sqI {x : Int} : seqOf (.int x) M = none := rfl
@[simp] theorem u_sqS {x : Str} : seqOf (.str x) M = none := rfl
@[simp] theorem u_sqR : seqOf (.ref i) M = lstOf (.ref i) M := rfl
@[simp] theorem u_lL {ds : List D} : lstOf (.lst ds) M = some ds := rfl
theorem lstOf_ref {i : Nat} {ds : List D} (h : M[i]? = some (.lst ds)) : lstOf (.ref i) M = some ds := by unfold lstOf; simp only [h]
theorem seqOf_ref {i : Nat} {ds : List D} (h : M[i]? = some (.lst ds)) : seqOf (.ref i) M = some ds := lstOf_ref h
@[simp] theorem u_setL {o i v : D} {QM : MH → Prop} : oSetL o i v M QM ↔ ∃ c ds k j, o = .ref c ∧ i = .int k ∧ M[c]? = some (.lst ds) ∧ ixN ds.length k = some j ∧ QM (M.set c (.lst (ds.set j v))) := Iff.rfl
@[simp] theorem u_len {ds : List D} : cLen ds M Q ↔ ∃ d n, ds = [d] ∧ lenD d M = some n ∧ (∀ y, d = .str y → y.length ≤ sizeLine) ∧ Q (.int (n : Int)) M := Iff.rfl
@[simp] theorem u_lenS {x : Str} : lenD (.str x) M = some x.length := rfl
@[simp] theorem u_lenT {ds : List D} : lenD (.tup ds) M = some ds.length := rfl
@[simp] theorem u_lenL {ds : List D} : lenD (.lst ds) M = some ds.length := rfl
@[simp] theorem u_lenR : lenD (.ref i) M = (lstOf (.ref i) M).map List.length := rfl
@[simp] theorem u_int1 {i : Int} : cInt [.int i] M Q ↔ Q (.int i) M := by
  constructor
  · rintro (⟨j, e, h⟩ | ⟨k, e, _⟩ | ⟨a, n, e, _⟩)
    · cases e; exact h
    · cases e
    · cases e
  · exact fun h => .inl ⟨i, rfl, h⟩
@[simp] theorem u_int2 {i : Bool} : cInt [.bl i] M Q ↔ Q (.int (if i then 1 else 0)) M := by
  constructor
  · rintro (⟨j, e, h⟩ | ⟨k, e, h⟩ | ⟨a, n, e, _⟩)
    · cases e
    · cases e; exact h
    · cases e
  · exact fun h => .inr (.inl ⟨i, rfl, h⟩)
@[simp] theorem u_I1 {gg : Int → D} {ds : List D} : cI1 gg ds M Q ↔ ∃ i, ds = [.int i] ∧ Q (gg i) M := Iff.rfl
@[simp] theorem u_I2 {gg : Int → Int → D} {ds : List D} : cI2 gg ds M Q ↔ ∃ i j, ds = [.int i, .int j] ∧ Q (gg i j) M := Iff.rfl
@[simp] theorem u_str {ds : List D} : cStr ds M Q ↔ ∃ i, ds = [.int i] ∧ i.natAbs < 2 ^ 1920 ∧ Q (.str (toString i)) M := Iff.rfl
@[simp] theorem u_bls {f : List Bool → Bool} {ds : List D} : cBls f ds M Q ↔ ∃ d es bs, ds = [d] ∧ lstOf d M = some es ∧ blsD es = some bs ∧ Q (.bl (f bs)) M := Iff.rfl
@[simp] theorem u_list {c : Bool} {ds : List D} : cList c ds M Q ↔ ∃ d es, ds = [d] ∧ seqOf d M = some es ∧ newL c es M Q := Iff.rfl
@[simp] theorem u_tuple {ds : List D} : cTuple ds M Q ↔ ∃ d es, ds = [d] ∧ seqOf d M = some es ∧ Q (.tup es) M := Iff.rfl
def onN (o : Option String) (P : String → Prop) : Prop := match o with
  | some c => P c
  | none => False
@[simp] theorem onN_some {c : String} {P : String → Prop} : onN (some c) P ↔ P c := Iff.rfl
theorem isi_iff {d : D} {T : String} (hT : ["bool", "int", "str", "tuple", "list", "dict"].contains T = true) : cIsi [d, .con (.ty T)] M Q ↔ onN (tyStr d M) fun n => Q (.bl (subTy n T)) M := by
  constructor
  · rintro ⟨d', T', n, e, _, en, h⟩
    cases e
    rw [en]; exact h
  · intro h
    cases hn : tyStr d M with
    | none => rw [hn] at h; exact h.elim
    | some n => rw [hn] at h; exact ⟨d, T, n, rfl, hT, hn, h⟩
@[simp] theorem isi_int {d : D} : cIsi [d, .con (.ty "int")] M Q ↔ onN (tyStr d M) fun n => Q (.bl (subTy n "int")) M := isi_iff rfl
@[simp] theorem isi_bool {d : D} : cIsi [d, .con (.ty "bool")] M Q ↔ onN (tyStr d M) fun n => Q (.bl (subTy n "bool")) M := isi_iff rfl
@[simp] theorem isi_str {d : D} : cIsi [d, .con (.ty "str")] M Q ↔ onN (tyStr d M) fun n => Q (.bl (subTy n "str")) M := isi_iff rfl
@[simp] theorem isi_tuple {d : D} : cIsi [d, .con (.ty "tuple")] M Q ↔ onN (tyStr d M) fun n => Q (.bl (subTy n "tuple")) M := isi_iff rfl
@[simp] theorem isi_list {d : D} : cIsi [d, .con (.ty "list")] M Q ↔ onN (tyStr d M) fun n => Q (.bl (subTy n "list")) M := isi_iff rfl
@[simp] theorem isi_dict {d : D} : cIsi [d, .con (.ty "dict")] M Q ↔ onN (tyStr d M) fun n => Q (.bl (subTy n "dict")) M := isi_iff rfl
@[simp] theorem u_append {x : D} {ds : List D} : mAppend x ds M Q ↔ ∃ c es d, x = .ref c ∧ ds = [d] ∧ M[c]? = some (.lst es) ∧ es.length < sizeLine ∧ Q .non (M.set c (.lst (es ++ [d]))) := Iff.rfl
@[simp] theorem u_popAt {x : D} {ds : List D} : mPopAt x ds M Q ↔ ∃ c es i k d, x = .ref c ∧ ds = [.int i] ∧ M[c]? = some (.lst es) ∧ ixN es.length i = some k ∧ -(2 ^ 63) ≤ i ∧ i < 2 ^ 63 ∧ es[k]? = some d ∧ Q d (M.set c (.lst (es.eraseIdx k))) := Iff.rfl
@[simp] theorem u_lrg {c : Bool} {tr : EnvD → MH → (Int → Int → MH → Prop) → QX → Prop} : tListRg' c tr δ M Q E ↔ tr δ M (fun a b M1 => RgOk a b ∧ newL c (rangeD a (b - a).toNat) M1 Q) E := Iff.rfl
@[simp] theorem u_trg {tr : EnvD → MH → (Int → Int → MH → Prop) → QX → Prop} : tTupRg' tr δ M Q E ↔ tr δ M (fun a b M1 => RgOk a b ∧ Q (.tup (rangeD a (b - a).toNat)) M1) E := Iff.rfl
@[simp] theorem u_rg1 {QR : Int → Int → MH → Prop} : tRg1' te δ M QR E ↔ te δ M (fun d M1 => ∃ n, d = .int n ∧ QR 0 n M1) E := Iff.rfl
@[simp] theorem u_rt {n : Nat} : (retE n Q E).rt d M ↔ Q d (popM n d M) := Iff.rfl
@[simp] theorem u_nx {n : Nat} : (retE n Q E).nx δ M ↔ Q .non (popM n .non M) := Iff.rfl
@[simp] theorem u_ex {n : Nat} {x : Xc} : (retE n Q E).ex x δ M ↔ E x (popX n x M) := Iff.rfl
end
/-! numbers -/
theorem e_fdiv {i j : Int} (h : 0 < j) : i.fdiv j = i / j := Int.fdiv_eq_ediv_of_nonneg i (by omega)
theorem e_fmod {i j : Int} (h : 0 < j) : i.fmod j = i % j := Int.fmod_eq_emod_of_nonneg i (by omega)
theorem mulOk_l {i j : Int} (h : -(2 ^ 64) < i ∧ i < 2 ^ 64) : MulOk i j := .inl (.inl h)
theorem mulOk_r {i j : Int} (h : -(2 ^ 64) < j ∧ j < 2 ^ 64) : MulOk i j := .inl (.inr h)
set_option exponentiation.threshold 10000 in
theorem pow_9000 : (2 : Nat) ^ 64 ≤ 2 ^ 9000 := Nat.pow_le_pow_right (by decide) (by decide)
theorem divOk_of {j : Int} (h : 0 < j) (h2 : j < 2 ^ 64) : DivOk j := ⟨by omega, Nat.lt_of_lt_of_le (by omega) pow_9000⟩
theorem atI_n {α : Type} {xs : List α} {i : Int} {x : α} (h0 : 0 ≤ i) (h : xs[i.toNat]? = some x) : atI xs i = some x := by
  unfold atI ixN
  have := (List.getElem?_eq_some_iff.mp h).1
  rw [if_pos h0, if_pos (by omega)]
  exact h
theorem ixN_n {n : Nat} {i : Int} (h0 : 0 ≤ i) (h : i < n) : ixN n i = some i.toNat := by
  unfold ixN
  rw [if_pos h0, if_pos h]
@[simp] theorem atI_0 {α : Type} {x : α} {r : List α} : atI (x :: r) 0 = some x := atI_n (by decide) rfl
@[simp] theorem atI_1 {α : Type} {x y : α} {r : List α} : atI (x :: y :: r) 1 = some y := atI_n (by decide) rfl
@[simp] theorem atI_2 {α : Type} {x y z : α} {r : List α} : atI (x :: y :: z :: r) 2 = some z := atI_n (by decide) rfl
@[simp] theorem atI_3 {α : Type} {x y z u : α} {r : List α} : atI (x :: y :: z :: u :: r) 3 = some u := atI_n (by decide) rfl
/-! one statement at a time -/
theorem seq_step {s1 s2 : TS'} {DD : Ends'} {δ : EnvD} {M : MH} (h : ∀ S : TS', S = s2 → s1 { DD with nx := S DD } δ M) : tSeq' s1 s2 DD δ M := h s2 rfl
/-! loops -/
theorem forL_ind {it : ItD} {g : TG'} {tb : TS'} {DD : Ends'} (P : List D → EnvD → MH → Prop) (h0 : ∀ δ M, P [] δ M → it.still M ∧ DD.nx δ M)
    (hs : ∀ d r δ M (F : EnvD → MH → Prop), P (d :: r) δ M → (∀ δ' M', P r δ' M' → F δ' M') → it.still M ∧ g d δ M (fun δ1 M1 => tb { DD with nx := F, ct := F, bk := DD.nx } δ1 M1)) :
    ∀ ds δ M, P ds δ M → forL it g tb DD ds δ M
  | [], δ, M, h => h0 δ M h
  | d :: r, δ, M, h => hs d r δ M _ h (fun δ' M' h' => forL_ind P h0 hs r δ' M' h')
theorem lcL_ind {it : ItD} {g : TG'} {tt : TT'} {te : TE'} {vs : List Nat} {δ : EnvD} {Q : List D → MH → Prop} (P : List D → List D → MH → Prop) (h0 : ∀ acc M, P [] acc M → it.still M ∧ Q acc M)
    (hs : ∀ d r acc M (F : List D → MH → Prop), P (d :: r) acc M → (∀ acc' M', P r acc' M' → F acc' M') → it.still M ∧ g d (wipeD δ vs) M fun δ2 M2 => tt δ2 M2 (fun b M3 =>
      if b = true then te δ2 M3 (fun y M4 => acc.length < sizeLine ∧ F (acc ++ [y]) M4) (fun _ _ => False) else F acc M3) (fun _ _ => False)) :
    ∀ ds acc M, P ds acc M → lcL it g tt te vs δ Q ds acc M
  | [], acc, M, h => h0 acc M h
  | d :: r, acc, M, h => hs d r acc M _ h (fun acc' M' h' => lcL_ind P h0 hs r acc' M' h')
/-- a comprehension of one name whose element is a function of the item -/
theorem lcL_map {it : ItD} {te : TE'} {i : Nat} {vs : List Nat} {δ : EnvD} {M : MH} {Q : List D → MH → Prop} (f : D → D) (hst : it.still M) :
    ∀ (ds acc : List D), (∀ d ∈ ds, ∀ Q' : QE, Q' (f d) M → te ((wipeD δ vs).set i (some d)) M Q' (fun _ _ => False)) → acc.length + ds.length ≤ sizeLine → Q (acc ++ ds.map f) M → lcL it (gName' i) tYes' te vs δ Q ds acc M
  | [], acc, _, _, q => ⟨hst, by simpa using q⟩
  | d :: r, acc, h, hl, q => ⟨hst, by
    show te ((wipeD δ vs).set i (some d)) M _ _
    refine h d List.mem_cons_self _ ⟨by simp at hl; omega, ?_⟩
    refine lcL_map f hst r (acc ++ [f d]) (fun e he => h e (List.mem_cons_of_mem _ he)) (by simp at hl ⊢; omega) ?_
    simpa using q⟩
theorem whileN_ind {c : TT'} {tb : TS'} {DD : Ends'} (P : EnvD → MH → Prop) (μ : EnvD → MH → Nat)
    (hs : ∀ δ M (F : EnvD → MH → Prop), P δ M → (∀ δ' M', P δ' M' → μ δ' M' < μ δ M → F δ' M') →
      c δ M (fun b M1 => if b = true then tb { DD with nx := F, ct := F, bk := DD.nx } δ M1 else DD.nx δ M1) (fun x M1 => DD.ex x δ M1)) :
    ∀ n δ M, P δ M → μ δ M < n → whileN c tb DD n δ M
  | 0, _, _, _, h => absurd h (Nat.not_lt_zero _)
  | n + 1, δ, M, p, h => hs δ M _ p (fun δ' M' p' l => whileN_ind P μ hs n δ' M' p' (by omega))
theorem while_ind {c : TT'} {tb : TS'} {DD : Ends'} (P : EnvD → MH → Prop) (μ : EnvD → MH → Nat)
    (hs : ∀ δ M (F : EnvD → MH → Prop), P δ M → (∀ δ' M', P δ' M' → μ δ' M' < μ δ M → F δ' M') →
      c δ M (fun b M1 => if b = true then tb { DD with nx := F, ct := F, bk := DD.nx } δ M1 else DD.nx δ M1) (fun x M1 => DD.ex x δ M1))
    {δ : EnvD} {M : MH} (p : P δ M) : ∃ n, whileN c tb DD n δ M := ⟨μ δ M + 1, whileN_ind P μ hs _ δ M p (Nat.lt_succ_self _)⟩
end MD
namespace Kit
open MD L2 PySem
/-! what a law draws -/
abbrev N__law_pool : List Str := ["script", "cell"]
abbrev N__law_take : List Str := ["pool", "many", "cell", "mixed", "digit"]
abbrev N__law_pick : List Str := ["pool", "rows"]
def r__law_pool : TS' := (tRet' (tLst' true (tCons' (tLc' false (tIt' (tVar' 0)) (gName' 1) tYes' (tIf' (tB' (tOp' (oI0 fun i j => .bl (decide (j ≤ i))) (tVar' 1) (tC' (.int 0)))) (tOp' (oMul false) (tC' (.int 2)) (tVar' 1)) (tOp' oSub (tOp' (oMul false) (tUn' oNeg (tC' (.int 2))) (tVar' 1)) (tC' (.int 1)))) [1]) (tCons' (tC' (.int 0)) (tCons' (tC' (.int 0)) (tCons' (tC' (.int 17)) tNil'))))))
/-- the list that a law draws from -/
def poolD (ns : List Int) (i b s : Int) : Cell := .lst [.lst (ns.map D.int), .int i, .int b, .int s]
def Pool (M : MH) (p : Nat) : Prop := ∃ (ns : List Int) (i b s : Int), M[p]? = some (poolD ns i b s) ∧ (∀ n ∈ ns, 0 ≤ n) ∧ 0 ≤ i ∧ 0 ≤ s ∧ s < 2147483647
def sp__law_pool : SpD := fun ds M Q _ => ∃ ns : List Int, ds = [.scr ns] ∧ ns.length ≤ 63 ∧ ∀ ms : List Int, (∀ n ∈ ms, 0 ≤ n) → Q (.ref M.length) (M ++ [poolD ms 0 0 17])
theorem mono__law_pool : MonoP sp__law_pool := fun ds M Q Q' E E' q x ⟨ns, e, hl, h⟩ => ⟨ns, e, hl, fun ms hm => q _ _ (h ms hm)⟩
theorem len__law_pool (ds M Q E) (h : sp__law_pool ds M Q E) : ds.length = 1 := by obtain ⟨ns, rfl, _⟩ := h; rfl
theorem math__law_pool (ds M Q E) (hM : WFM M) (hb : D.belL M.length ds = true) (h : sp__law_pool ds M Q E) : r__law_pool (retE M.length Q E) (startD N__law_pool ds) M := by
  obtain ⟨ns, rfl, hl, q⟩ := h
  have hz : (sizeLine : Nat) = 16777216 := by decide
  simp [r__law_pool, startD]
  refine lcL_map (fun d => match d with | .int n => .int (if 0 ≤ n then 2 * n else -2 * n - 1) | d => d) (by exact trivial) _ _ ?_ ?_ ?_
  · intro d hd Q' q'
    rw [List.mem_map] at hd
    obtain ⟨n, _, rfl⟩ := hd
    by_cases hn : 0 ≤ n
    · simp [wipeD, hn] at q' ⊢
      exact ⟨mulOk_l (by decide), q'⟩
    · simp [wipeD, hn] at q' ⊢
      exact ⟨mulOk_l (by decide), q'⟩
  · simp; omega
  · refine ⟨by show 4 ≤ sizeLine; decide, ?_⟩
    have e : (List.map (fun d => match d with | .int n => D.int (if 0 ≤ n then 2 * n else -2 * n - 1) | d => d) (List.map D.int ns)) = (ns.map fun n => if 0 ≤ n then 2 * n else -2 * n - 1).map D.int := by
      rw [List.map_map, List.map_map]; rfl
    rw [List.nil_append, e]
    have := q (ns.map fun n => if 0 ≤ n then 2 * n else -2 * n - 1) (by
      intro n hn
      rw [List.mem_map] at hn
      obtain ⟨k, _, rfl⟩ := hn
      split <;> omega)
    have e2 : popM M.length (.ref M.length) (M ++ [poolD (ns.map fun n => if 0 ≤ n then 2 * n else -2 * n - 1) 0 0 17]) = M ++ [poolD (ns.map fun n => if 0 ≤ n then 2 * n else -2 * n - 1) 0 0 17] := by
      unfold popM
      rw [if_neg]
      rintro ⟨h, _⟩
      unfold D.bel at h
      simp at h
    unfold poolD at e2 this
    rw [e2]
    exact this
/-- one more drawn -/
def Step (p : Nat) (M M' : MH) : Prop := (∃ c, M' = M.set p c) ∧ Pool M' p
theorem Step.length {p : Nat} {M M' : MH} (h : Step p M M') : M'.length = M.length := by obtain ⟨⟨c, rfl⟩, _⟩ := h; simp
theorem Step.other {p q : Nat} {M M' : MH} (h : Step p M M') (n : q ≠ p) : M'[q]? = M[q]? := by obtain ⟨⟨c, rfl⟩, _⟩ := h; rw [List.getElem?_set_ne (Ne.symm n)]
theorem Step.trans {p : Nat} {M M1 M2 : MH} (h : Step p M M1) (k : Step p M1 M2) : Step p M M2 := by
  obtain ⟨⟨c, rfl⟩, _⟩ := h
  obtain ⟨⟨c2, rfl⟩, h2⟩ := k
  exact ⟨⟨c2, by rw [List.set_set]⟩, h2⟩
def spr__law_take (n : Nat) : SpD := fun ds M Q _ => ∃ (p : Nat) (many : Int), ds = [.ref p, .int many] ∧ 0 < many ∧ many ≤ 1000000000000000000000000000000 ∧ Pool M p ∧ (n = 1 → ∃ ns i b s, M[p]? = some (poolD ns i b s) ∧ (∀ n ∈ ns, 0 ≤ n) ∧ 0 ≤ i ∧ 0 ≤ s ∧ s < 2147483647 ∧ 0 < b) ∧ n ≠ 0 ∧
  ∀ r M', 0 ≤ r → r < many → Step p M M' → Q (.int r) M'
def sp__law_take : SpD := fun ds M Q _ => ∃ (p : Nat) (many : Int), ds = [.ref p, .int many] ∧ 0 < many ∧ many ≤ 1000000000000000000000000000000 ∧ Pool M p ∧ ∀ r M', 0 ≤ r → r < many → Step p M M' → Q (.int r) M'
theorem mono__law_take : MonoP sp__law_take := fun ds M Q Q' E E' q x ⟨p, m, e, h1, h2, h3, h⟩ => ⟨p, m, e, h1, h2, h3, fun r M' a b c => q _ _ (h r M' a b c)⟩
theorem monor__law_take (n : Nat) : MonoP (spr__law_take n) := fun ds M Q Q' E E' q x ⟨p, m, e, h1, h2, h3, h4, h5, h⟩ => ⟨p, m, e, h1, h2, h3, h4, h5, fun r M' a b c => q _ _ (h r M' a b c)⟩
theorem lenr__law_take (n : Nat) (ds M Q E) (h : spr__law_take n ds M Q E) : ds.length = 2 := by obtain ⟨_, _, rfl, _⟩ := h; rfl
theorem zero__law_take (ds M Q E) (h : spr__law_take 0 ds M Q E) : False := by obtain ⟨_, _, _, _, _, _, _, h, _⟩ := h; exact h rfl
theorem sub__law_take {ds M Q E} (h : sp__law_take ds M Q E) : spr__law_take 2 ds M Q E := by
  obtain ⟨p, m, e, h1, h2, h3, h⟩ := h
  exact ⟨p, m, e, h1, h2, h3, fun z => by omega, by decide, h⟩
def rr__law_take (i : Nat) : TS' := (tSeq' (tIfS' (tB' (tOp' (oI0 fun i j => .bl (decide (j < i))) (tOp' oIx (tVar' 0) (tC' (.int 2))) (tC' (.int 0)))) (tSeq' (tAsg' (tOp' oMod (tCB' cInt (tCons' (tOp' oIx (tVar' 0) (tC' (.int 2))) tNil')) (tVar' 1)) (gName' 4))
    (tSeq' (tAsg' (tOp' oFdiv (tOp' oIx (tVar' 0) (tC' (.int 2))) (tVar' 1)) (gSub' (tVar' 0) (tC' (.int 2)) oSetL))
    (tRet' (tVar' 4)))) tNext')
    (tSeq' (tAsg' (tC' (.int 0)) (gName' 2))
    (tSeq' (tIfS' (tB' (tOp' (oI0 fun i j => .bl (decide (i < j))) (tOp' oIx (tVar' 0) (tC' (.int 1))) (tCB' cLen (tCons' (tOp' oIx (tVar' 0) (tC' (.int 0))) tNil')))) (tAsg' (tOp' oIx (tOp' oIx (tVar' 0) (tC' (.int 0))) (tOp' oIx (tVar' 0) (tC' (.int 1)))) (gName' 2)) tNext')
    (tSeq' (tAsg' (tOp' (oAdd false) (tOp' oIx (tVar' 0) (tC' (.int 1))) (tC' (.int 1))) (gSub' (tVar' 0) (tC' (.int 1)) oSetL))
    (tSeq' (tIfS' (tB' (tOp' (oI0 fun i j => .bl (decide (j ≤ i))) (tVar' 2) (tOp' oPow (tC' (.int 10)) (tC' (.int 18))))) (tSeq' (tAsg' (tOp' oFdiv (tVar' 2) (tC' (.int 2))) (gSub' (tVar' 0) (tC' (.int 2)) oSetL))
    (tRet' (tCall' (spr__law_take i) (tCons' (tVar' 0) (tCons' (tVar' 1) tNil'))))) tNext')
    (tSeq' (tAsg' (tOp' oMod (tCB' cInt (tCons' (tOp' (oAdd false) (tOp' (oAdd false) (tOp' (oMul false) (tOp' oIx (tVar' 0) (tC' (.int 3))) (tC' (.int 48271))) (tOp' (oMul false) (tVar' 2) (tC' (.int 69621)))) (tOp' (oMul false) (tOp' oIx (tVar' 0) (tC' (.int 1))) (tC' (.int 613)))) tNil')) (tC' (.int 2147483647))) (gSub' (tVar' 0) (tC' (.int 3)) oSetL))
    (tSeq' (tAsg' (tOp' oMod (tCB' cInt (tCons' (tOp' (oAdd false) (tOp' (oAdd false) (tOp' (oMul false) (tOp' oIx (tVar' 0) (tC' (.int 3))) (tOp' oIx (tVar' 0) (tC' (.int 3)))) (tOp' (oMul false) (tOp' oIx (tVar' 0) (tC' (.int 3))) (tC' (.int 7919)))) (tC' (.int 104729))) tNil')) (tC' (.int 1000000007))) (gName' 3))
    (tRet' (tOp' oMod (tCB' cInt (tCons' (tOp' oFdiv (tVar' 3) (tC' (.int 3))) tNil')) (tVar' 1))))))))))
theorem set_self {M : MH} {p : Nat} {c d : Cell} (h : M[p]? = some c) : (M.set p d)[p]? = some d := List.getElem?_set_self (List.getElem?_eq_some_iff.mp h).1
theorem mathr__law_take (n : Nat) (ds M Q E) (hM : WFM M) (hb : D.belL M.length ds = true) (h : spr__law_take (n + 1) ds M Q E) : rr__law_take n (retE M.length Q E) (startD N__law_take ds) M := by
  obtain ⟨p, many, rfl, h1, h2, ⟨ns, i, b, s, hp, hns, hi, hs0, hs1⟩, h4, _, q⟩ := h
  have hp' := hp
  unfold poolD at hp
  have lp : ∀ {M' : MH} {a0 a1 a2 a3 : D}, M'[p]? = some (.lst [a0, a1, a2, a3]) → lstOf (.ref p) M' = some [a0, a1, a2, a3] := fun h => lstOf_ref h
  have dv : ∀ x : Int, DivOk many := fun _ => ⟨by omega, Nat.lt_of_lt_of_le (show many.natAbs < 2 ^ 100 by omega) (Nat.pow_le_pow_right (by decide) (by decide))⟩
  unfold rr__law_take
  refine seq_step fun S hS => ?_
  simp [startD, lp hp]
  by_cases hb0 : 0 < b
  · simp [hb0, hp, lp hp, dv b, ixN, List.set]
    refine ⟨by omega, ?_⟩
    rw [e_fmod h1, e_fdiv h1, popM_same (by simp)]
    exact q _ _ (Int.emod_nonneg _ (by omega)) (Int.emod_lt_of_pos _ h1) ⟨⟨_, rfl⟩, ns, i, b / many, s, set_self hp, hns, hi, hs0, hs1⟩
  · simp [hb0]
    subst hS
    refine seq_step fun S hS => ?_
    simp
    subst hS
    refine seq_step fun S hS => ?_
    have key : ∃ cell : Int, 0 ≤ cell ∧ (S (retE M.length Q E) [some (.ref p), some (.int many), some (.int cell), none, none] M → (tIfS' (tB' (tOp' (oI0 fun i j => .bl (decide (i < j))) (tOp' oIx (tVar' 0) (tC' (.int 1))) (tCB' cLen (tCons' (tOp' oIx (tVar' 0) (tC' (.int 0))) tNil')))) (tAsg' (tOp' oIx (tOp' oIx (tVar' 0) (tC' (.int 0))) (tOp' oIx (tVar' 0) (tC' (.int 1)))) (gName' 2)) tNext') { retE M.length Q E with nx := S (retE M.length Q E) } [some (.ref p), some (.int many), some (.int 0), none, none] M) := by
      by_cases hl : i < (ns.length : Int)
      · have hg : (ns.map D.int)[i.toNat]? = some (.int ns[i.toNat]) := by
          rw [List.getElem?_map, List.getElem?_eq_getElem (show i.toNat < ns.length by omega)]; rfl
        exact ⟨ns[i.toNat], hns _ (List.getElem_mem _), fun h => by simp [lp hp, hl, atI_n hi hg]; exact h⟩
      · exact ⟨0, by omega, fun h => by simp [lp hp, hl]; exact h⟩
    obtain ⟨cell, hc, key⟩ := key
    refine key ?_
    subst hS
    refine seq_step fun S hS => ?_
    simp [lp hp, hp, ixN, List.set]
    subst hS
    generalize hM1 : List.set M p (Cell.lst [D.lst (List.map D.int ns), D.int (i + 1), D.int b, D.int s]) = M1
    have hp1 : M1[p]? = some (.lst [D.lst (List.map D.int ns), D.int (i + 1), D.int b, D.int s]) := by rw [← hM1]; exact set_self hp
    have hl1 : M1.length = M.length := by rw [← hM1]; simp
    have ms : ∀ c, List.set M1 p c = List.set M p c := fun c => by rw [← hM1, List.set_set]
    refine seq_step fun S hS => ?_
    have cp : CPow 10 18 := ⟨by decide, by decide, by decide⟩
    simp [cp]
    by_cases hbig : 1000000000000000000 ≤ cell
    · simp [hbig, hp1, ixN, List.set, ms, e_fdiv]
      refine ⟨divOk_of (by decide) (by decide), ?_⟩
      have hst : Step p M (List.set M p (Cell.lst [D.lst (List.map D.int ns), D.int (i + 1), D.int (cell / 2), D.int s])) := ⟨⟨_, rfl⟩, ns, i + 1, cell / 2, s, set_self hp, hns, by omega, hs0, hs1⟩
      refine ⟨p, many, rfl, h1, h2, hst.2, fun _ => ⟨ns, i + 1, cell / 2, s, set_self hp, hns, by omega, hs0, hs1, by omega⟩, fun z => ?_, fun r M' a b c => ?_⟩
      · subst z
        obtain ⟨ns', i', b', s', e, _, _, _, _, hb'⟩ := h4 rfl
        rw [hp'] at e
        simp [poolD] at e
        omega
      · show Q (.int r) (popM M.length (.int r) M')
        rw [popM_same (by rw [c.length]; simp)]
        exact q r M' a b (hst.trans c)
    · simp [hbig]
      subst hS
      refine seq_step fun S hS => ?_
      simp [lp hp1, hp1, ixN, List.set, ms, e_fmod]
      refine ⟨mulOk_r (by decide), mulOk_r (by decide), mulOk_r (by decide), ?_⟩
      subst hS
      generalize hs2 : (s * 48271 + cell * 69621 + (i + 1) * 613) % 2147483647 = s2
      have h20 : 0 ≤ s2 := by omega
      have h21 : s2 < 2147483647 := by omega
      generalize hM2 : List.set M p (Cell.lst [D.lst (List.map D.int ns), D.int (i + 1), D.int b, D.int s2]) = M2
      have hp2 : M2[p]? = some (.lst [D.lst (List.map D.int ns), D.int (i + 1), D.int b, D.int s2]) := by rw [← hM2]; exact set_self hp
      refine seq_step fun S hS => ?_
      simp [lp hp2, hp2, e_fmod]
      refine ⟨mulOk_r (by omega), mulOk_r (by decide), ?_⟩
      subst hS
      simp [e_fmod h1, e_fdiv]
      refine ⟨divOk_of (by decide) (by decide), by omega, ?_⟩
      rw [popM_same (by rw [← hM2]; simp)]
      exact q _ _ (Int.emod_nonneg _ (by omega)) (Int.emod_lt_of_pos _ h1) ⟨⟨_, hM2.symm⟩, ns, i + 1, b, s2, hp2, hns, by omega, h20, h21⟩
def sp__law_pick : SpD := fun ds M Q _ => ∃ (p : Nat) (x : D) (xs : List D), ds = [.ref p, x] ∧ Pool M p ∧ x ≠ .ref p ∧ seqOf x M = some xs ∧ (∀ M', Step p M M' → seqOf x M' = some xs) ∧ xs ≠ [] ∧ xs.length ≤ 1000000 ∧ ∀ d M', d ∈ xs → Step p M M' → Q d M'
theorem mono__law_pick : MonoP sp__law_pick := fun ds M Q Q' E E' q x ⟨p, y, xs, e, h1, h2, h3, h4, h5, h6, h⟩ => ⟨p, y, xs, e, h1, h2, h3, h4, h5, h6, fun d M' a b => q _ _ (h d M' a b)⟩
theorem len__law_pick (ds M Q E) (h : sp__law_pick ds M Q E) : ds.length = 2 := by obtain ⟨_, _, _, rfl, _⟩ := h; rfl
def r__law_pick : TS' := (tRet' (tOp' oIx (tVar' 1) (tCall' sp__law_take (tCons' (tVar' 0) (tCons' (tCB' cLen (tCons' (tVar' 1) tNil')) tNil')))))
theorem lenD_seq {d : D} {M : MH} {ds : List D} (h : seqOf d M = some ds) : lenD d M = some ds.length ∧ ∀ y, d ≠ .str y := by
  cases d with
  | str x => cases h
  | _ => refine ⟨?_, fun _ => by simp⟩; unfold lenD; simp only [h]; rfl
theorem math__law_pick (ds M Q E) (hM : WFM M) (hb : D.belL M.length ds = true) (h : sp__law_pick ds M Q E) : r__law_pick (retE M.length Q E) (startD N__law_pick ds) M := by
  obtain ⟨p, x, xs, rfl, h1, h2, h3, h4, h5, h6, q⟩ := h
  obtain ⟨l1, l2⟩ := lenD_seq h3
  have hl : 0 < xs.length := List.length_pos_iff.mpr h5
  simp [r__law_pick, startD, l1]
  refine ⟨fun y e => (l2 y e).elim, ?_⟩
  refine ⟨p, xs.length, rfl, by omega, by omega, h1, fun r M' a b c => ?_⟩
  have hr : xs[r.toNat]? = some xs[r.toNat] := List.getElem?_eq_getElem (by omega)
  refine ⟨r, rfl, .inl ⟨xs, h4 M' c, xs[r.toNat], atI_n a hr, ?_⟩⟩
  show Q _ (popM M.length _ M')
  rw [popM_same (by rw [c.length]; exact Nat.le_refl _)]
  exact q _ M' (List.getElem_mem _) c
end Kit
namespace Kit
open MD L2 PySem
/-! what a law holds against what is due -/
abbrev N__law_is_integer : List Str := ["actual"]
abbrev N__law_same : List Str := ["actual", "due", "k"]
theorem mem_rangeD {lo : Int} {n : Nat} {d : D} (h : d ∈ rangeD lo n) : ∃ i : Nat, i < n ∧ d = .int (lo + i) := by
  unfold rangeD at h
  rw [List.mem_map] at h
  obtain ⟨i, hi, rfl⟩ := h
  exact ⟨i, List.mem_range.mp hi, rfl⟩
mutual
def plainD (n : Nat) : D → Bool
  | .non => true
  | .bl _ => true
  | .int _ => true
  | .str _ => true
  | .tup ds => decide (0 < n) && decide (ds.length ≤ sizeLine) && plainL (n - 1) ds
  | .lst ds => decide (0 < n) && decide (ds.length ≤ sizeLine) && plainL (n - 1) ds
  | _ => false
def plainL (n : Nat) : List D → Bool
  | [] => true
  | d :: ds => plainD n d && plainL n ds
end
theorem plainL_mem {n : Nat} : ∀ {ds : List D} {d : D}, plainL n ds = true → d ∈ ds → plainD n d = true
  | [], _, _, h => nomatch h
  | e :: r, d, hp, h => by
    unfold plainL at hp
    rw [Bool.and_eq_true] at hp
    rcases List.mem_cons.mp h with rfl | h
    · exact hp.1
    · exact plainL_mem hp.2 h
def r__law_is_integer : TS' := (tRet' (tAndV' (tCB' cIsi (tCons' (tVar' 0) (tCons' (tC' (.con (.ty "int"))) tNil'))) (tNotV' (tCB' cIsi (tCons' (tVar' 0) (tCons' (tC' (.con (.ty "bool"))) tNil'))))))
def sp__law_is_integer : SpD := fun ds M Q _ => ∃ d n, ds = [d] ∧ tyStr d M = some n ∧ Q (.bl (n == "int")) M
theorem mono__law_is_integer : MonoP sp__law_is_integer := fun ds M Q Q' E E' q x ⟨d, n, e, h1, h⟩ => ⟨d, n, e, h1, q _ _ h⟩
theorem len__law_is_integer (ds M Q E) (h : sp__law_is_integer ds M Q E) : ds.length = 1 := by obtain ⟨_, _, rfl, _⟩ := h; rfl
theorem known_cases {n : String} (h : knownTy n = true) : n = "NoneType" ∨ n = "bool" ∨ n = "int" ∨ n = "str" ∨ n = "tuple" ∨ n = "list" ∨ n = "dict" := by simpa [knownTy] using h
theorem math__law_is_integer (ds M Q E) (hM : WFM M) (hb : D.belL M.length ds = true) (h : sp__law_is_integer ds M Q E) : r__law_is_integer (retE M.length Q E) (startD N__law_is_integer ds) M := by
  obtain ⟨d, n, rfl, h1, q⟩ := h
  simp [r__law_is_integer, startD, h1]
  rcases known_cases (tyStr_known h1) with rfl | rfl | rfl | rfl | rfl | rfl | rfl <;> simpa [subTy, popM_same] using q
def spr__law_same (n : Nat) : SpD := fun ds M Q _ => ∃ d, ds = [d, d] ∧ n ≠ 0 ∧ plainD (n - 1) d = true ∧ Q (.bl true) M
def sp__law_same : SpD := fun ds M Q _ => ∃ d, ds = [d, d] ∧ plainD 5 d = true ∧ Q (.bl true) M
theorem mono__law_same : MonoP sp__law_same := fun ds M Q Q' E E' q x ⟨d, e, h1, h⟩ => ⟨d, e, h1, q _ _ h⟩
theorem monor__law_same (n : Nat) : MonoP (spr__law_same n) := fun ds M Q Q' E E' q x ⟨d, e, h0, h1, h⟩ => ⟨d, e, h0, h1, q _ _ h⟩
theorem lenr__law_same (n : Nat) (ds M Q E) (h : spr__law_same n ds M Q E) : ds.length = 2 := by obtain ⟨_, rfl, _⟩ := h; rfl
theorem zero__law_same (ds M Q E) (h : spr__law_same 0 ds M Q E) : False := by obtain ⟨_, _, h, _⟩ := h; exact h rfl
theorem sub__law_same {ds M Q E} (h : sp__law_same ds M Q E) : spr__law_same 6 ds M Q E := by
  obtain ⟨d, e, h1, h⟩ := h
  exact ⟨d, e, by decide, h1, h⟩
def rr__law_same (i : Nat) : TS' := (tSeq' (tIfS' (tTru' (tCB' cIsi (tCons' (tVar' 1) (tCons' (tC' (.con (.ty "tuple"))) tNil')))) (tSeq' (tIfS' (tOr' (tNot' (tTru' (tCB' cIsi (tCons' (tVar' 0) (tCons' (tC' (.con (.ty "tuple"))) tNil'))))) (tB' (tOp' (oEq true) (tCB' cLen (tCons' (tVar' 0) tNil')) (tCB' cLen (tCons' (tVar' 1) tNil'))))) (tRet' (tC' (.bl false))) tNext')
    (tRet' (tCB' (cBls fun bs => bs.all id) (tCons' (tLc' false (tRng1' (tCons' (tCB' cLen (tCons' (tVar' 1) tNil')) tNil')) (gName' 2) tYes' (tCall' (spr__law_same i) (tCons' (tOp' oIx (tVar' 0) (tVar' 2)) (tCons' (tOp' oIx (tVar' 1) (tVar' 2)) tNil'))) [2]) tNil')))) tNext')
    (tSeq' (tIfS' (tTru' (tCB' cIsi (tCons' (tVar' 1) (tCons' (tC' (.con (.ty "list"))) tNil')))) (tSeq' (tIfS' (tOr' (tNot' (tTru' (tCB' cIsi (tCons' (tVar' 0) (tCons' (tC' (.con (.ty "list"))) tNil'))))) (tB' (tOp' (oEq true) (tCB' cLen (tCons' (tVar' 0) tNil')) (tCB' cLen (tCons' (tVar' 1) tNil'))))) (tRet' (tC' (.bl false))) tNext')
    (tRet' (tCB' (cBls fun bs => bs.all id) (tCons' (tLc' false (tRng1' (tCons' (tCB' cLen (tCons' (tVar' 1) tNil')) tNil')) (gName' 2) tYes' (tCall' (spr__law_same i) (tCons' (tOp' oIx (tVar' 0) (tVar' 2)) (tCons' (tOp' oIx (tVar' 1) (tVar' 2)) tNil'))) [2]) tNil')))) tNext')
    (tSeq' (tIfS' (tB' (tOp' (oIsN' false) (tVar' 1) (tC' .non))) (tRet' (tOp' (oIsN' false) (tVar' 0) (tC' .non))) tNext')
    (tSeq' (tIfS' (tTru' (tCB' cIsi (tCons' (tVar' 1) (tCons' (tC' (.con (.ty "bool"))) tNil')))) (tRet' (tAndV' (tCB' cIsi (tCons' (tVar' 0) (tCons' (tC' (.con (.ty "bool"))) tNil'))) (tOp' (oEq false) (tVar' 0) (tVar' 1)))) tNext')
    (tSeq' (tIfS' (tTru' (tCB' cIsi (tCons' (tVar' 1) (tCons' (tC' (.con (.ty "str"))) tNil')))) (tRet' (tAndV' (tCB' cIsi (tCons' (tVar' 0) (tCons' (tC' (.con (.ty "str"))) tNil'))) (tOp' (oEq false) (tVar' 0) (tVar' 1)))) tNext')
    (tRet' (tAndV' (tCall' sp__law_is_integer (tCons' (tVar' 0) tNil')) (tOp' (oEq false) (tVar' 0) (tVar' 1)))))))))
theorem bls_true : ∀ ds : List D, blsD (ds.map fun _ => D.bl true) = some (ds.map fun _ => true)
  | [] => rfl
  | d :: r => by
    rw [List.map_cons, List.map_cons]
    show (blsD (r.map fun _ => D.bl true)).map (true :: ·) = _
    rw [bls_true r]; rfl
theorem all_true : ∀ ds : List D, (ds.map fun _ => true).all id = true
  | [] => rfl
  | d :: r => by rw [List.map_cons, List.all_cons, all_true r]; rfl
@[simp] theorem ty_tup {ds : List D} {M : MH} : tyStr (.tup ds) M = some "tuple" := rfl
@[simp] theorem ty_lst {ds : List D} {M : MH} : tyStr (.lst ds) M = some "list" := rfl
@[simp] theorem ty_int {x : Int} {M : MH} : tyStr (.int x) M = some "int" := rfl
@[simp] theorem ty_str {x : Str} {M : MH} : tyStr (.str x) M = some "str" := rfl
@[simp] theorem ty_bl {x : Bool} {M : MH} : tyStr (.bl x) M = some "bool" := rfl
@[simp] theorem ty_non {M : MH} : tyStr .non M = some "NoneType" := rfl
theorem same_seq {n : Nat} {ds : List D} {x : D} {M : MH} (hx : x = .tup ds ∨ x = .lst ds) (hl : ds.length ≤ sizeLine) (hp : plainL n ds = true) {Q : QE} {E : QX} (q : Q (.bl true) M) {m : D} :
    (tCB' (cBls fun bs => bs.all id) (tCons' (tLc' false (tRng1' (tCons' (tCB' cLen (tCons' (tVar' 1) tNil')) tNil')) (gName' 2) tYes' (tCall' (spr__law_same (n + 1)) (tCons' (tOp' oIx (tVar' 0) (tVar' 2)) (tCons' (tOp' oIx (tVar' 1) (tVar' 2)) tNil'))) [2]) tNil')) [some x, some x, none] M Q E := by
  have hz : (sizeLine : Nat) = 16777216 := by decide
  have hs : seqOf x M = some ds := by rcases hx with rfl | rfl <;> rfl
  have hlen : lenD x M = some ds.length := by rcases hx with rfl | rfl <;> rfl
  have hstr : ∀ y, x = .str y → False := by rcases hx with rfl | rfl <;> simp
  simp [hlen]
  refine ⟨fun y e => (hstr y e).elim, by omega, ?_⟩
  refine lcL_map (fun _ => .bl true) (by exact trivial) _ _ (fun d hd Q' q' => ?_) (by simp [rangeD_length]; omega) ?_
  · obtain ⟨i, hi, rfl⟩ := mem_rangeD hd
    have hg : ds[i]? = some ds[i] := List.getElem?_eq_getElem hi
    simp [wipeD, hs]
    refine .inl ⟨ds[i], atI_n (by omega) (by simpa using hg), .inl ⟨ds[i], atI_n (by omega) (by simpa using hg), ?_⟩⟩
    exact ⟨_, rfl, by omega, plainL_mem hp (List.getElem_mem _), q'⟩
  · simp only [List.nil_append, bls_true]
    refine ⟨_, rfl, ?_⟩
    rw [all_true]; exact q
theorem mathr__law_same (n : Nat) (ds M Q E) (hM : WFM M) (hb : D.belL M.length ds = true) (h : spr__law_same (n + 1) ds M Q E) : rr__law_same n (retE M.length Q E) (startD N__law_same ds) M := by
  obtain ⟨d, rfl, _, hp, q⟩ := h
  have hp : plainD n d = true := hp
  have q' : ∀ b, Q b M → Q b (popM M.length b M) := fun b h => by rw [popM_same (Nat.le_refl _)]; exact h
  have q1 := q' _ q
  unfold rr__law_same
  cases d with
  | tup ds =>
    unfold plainD at hp
    simp only [Bool.and_eq_true, decide_eq_true_eq] at hp
    refine seq_step fun S hS => ?_
    simp only [u_ifS]
    simp [startD, subTy]
    obtain ⟨k, rfl⟩ : ∃ k, n = k + 1 := ⟨n - 1, by omega⟩
    have hs := same_seq (M := M) (Q := (retE M.length Q E).rt) (E := fun x M1 => (retE M.length Q E).ex x [some (D.tup ds), some (D.tup ds), none] M1) (.inl rfl) hp.1.2 hp.2 q1 (m := .non)
    simpa using hs
  | lst ds =>
    unfold plainD at hp
    simp only [Bool.and_eq_true, decide_eq_true_eq] at hp
    refine seq_step fun S hS => ?_
    simp [startD, subTy]
    subst hS
    refine seq_step fun S hS => ?_
    simp [subTy]
    obtain ⟨k, rfl⟩ : ∃ k, n = k + 1 := ⟨n - 1, by omega⟩
    have hs := same_seq (M := M) (Q := (retE M.length Q E).rt) (E := fun x M1 => (retE M.length Q E).ex x [some (D.lst ds), some (D.lst ds), none] M1) (.inr rfl) hp.1.2 hp.2 q1 (m := .non)
    simpa using hs
  | non => simp [startD, subTy, q1]
  | bl b => simp [startD, subTy, q1]
  | int b => simp [startD, subTy, q1, sp__law_is_integer]
  | str b => simp [startD, subTy, q1]
  | _ => unfold plainD at hp; cases hp
end Kit
namespace Kit
open MD L2 PySem
/-! more rules for simp -/
def hasC (c : Nat) (z : Str) : Bool := decide (c ∈ z.cps.toList)
@[simp] theorem u_inS {c : Nat} {z : Str} {M : MH} {Q : QE} : oInS false (.str ⟨#[c]⟩) (.str z) M Q ↔ Q (.bl (hasC c z)) M := by
  constructor
  · rintro ⟨c', z', e1, e2, h⟩
    cases e1; cases e2; exact h
  · exact fun h => ⟨c, z, rfl, rfl, h⟩
@[simp] theorem u_ninS {c : Nat} {z : Str} {M : MH} {Q : QE} : oInS true (.str ⟨#[c]⟩) (.str z) M Q ↔ Q (.bl (!hasC c z)) M := by
  constructor
  · rintro ⟨c', z', e1, e2, h⟩
    cases e1; cases e2; exact h
  · exact fun h => ⟨c, z, rfl, rfl, h⟩
@[simp] theorem u_starts {x y : Str} {M : MH} {Q : QE} : mStarts (.str x) [.str y] M Q ↔ Q (.bl (PySem.Txt.startswith x y)) M := by
  constructor
  · rintro ⟨c', z', e1, e2, h⟩
    cases e1; cases e2; exact h
  · exact fun h => ⟨x, y, rfl, rfl, h⟩
@[simp] theorem u_sindex {x y : Str} {M : MH} {Q : QE} : mSIndex (.str x) [.str y] M Q ↔ ∃ i rest, Builtin.Str.occurrences x y 0 x.length 1 = i :: rest ∧ Q (.int (i : Int)) M := by
  constructor
  · rintro ⟨c', z', i, rest, e1, e2, h⟩
    cases e1; cases e2; exact ⟨i, rest, h⟩
  · rintro ⟨i, rest, h⟩
    exact ⟨x, y, i, rest, rfl, rfl, h⟩
@[simp high] theorem u_gAll1 {g1 : TG'} {a : D} {δ : EnvD} {M : MH} {QG : EnvD → MH → Prop} : gAll' [g1] [a] δ M QG ↔ g1 a δ M fun δ1 M1 => gAll' [] [] δ1 M1 QG := by
  constructor
  · rintro ⟨d, r, e, h⟩
    cases e
    exact h
  · intro h
    exact ⟨_, _, rfl, h⟩
@[simp high] theorem u_gAll0 {δ : EnvD} {M : MH} {QG : EnvD → MH → Prop} : gAll' [] [] δ M QG ↔ QG δ M := ⟨fun h => h.2, fun h => ⟨rfl, h⟩⟩
@[simp high] theorem u_gAll2 {g1 g2 : TG'} {gs : List TG'} {a b : D} {ds : List D} {δ : EnvD} {M : MH} {QG : EnvD → MH → Prop} : gAll' (g1 :: g2 :: gs) (a :: b :: ds) δ M QG ↔ g1 a δ M fun δ1 M1 => gAll' (g2 :: gs) (b :: ds) δ1 M1 QG := by
  constructor
  · rintro ⟨d, r, e, h⟩
    cases e
    exact h
  · intro h
    exact ⟨_, _, rfl, h⟩
@[simp high] theorem u_gtupT {gs : List TG'} {ds : List D} {n : Nat} {δ : EnvD} {M : MH} {QG : EnvD → MH → Prop} : gTup' n gs (.tup ds) δ M QG ↔ ds.length = n ∧ gAll' gs ds δ M QG := by
  constructor
  · rintro ⟨d, (e | e), h⟩
    · cases e; exact h
    · cases e
  · intro h
    exact ⟨_, .inl rfl, h⟩
@[simp high] theorem u_gtupL {gs : List TG'} {ds : List D} {n : Nat} {δ : EnvD} {M : MH} {QG : EnvD → MH → Prop} : gTup' n gs (.lst ds) δ M QG ↔ ds.length = n ∧ gAll' gs ds δ M QG := by
  constructor
  · rintro ⟨d, (e | e), h⟩
    · cases e
    · cases e; exact h
  · intro h
    exact ⟨_, .inr rfl, h⟩
/-! texts of whole numbers -/
theorem str_ext {a b : Str} (h : a.cps.toList = b.cps.toList) : a = b := by
  cases a; cases b; congr 1; exact Array.toList_inj.mp h
theorem len_cps (x : Str) : x.length = x.cps.toList.length := Array.length_toList.symm
theorem cps_app (a b : Str) : (a ++ b).cps.toList = a.cps.toList ++ b.cps.toList := PyProof.Rows.cps_toList_append a b
def digs (m : Nat) : List Nat := (Nat.toDigits 10 m).map Char.toNat
theorem cps_num (m : Nat) : ((toString (m : Int) : String) : Str).cps.toList = digs m := PySem.W.KIN.signs_num m
theorem cps_neg (m : Nat) : ((toString (Int.negSucc m) : String) : Str).cps.toList = 45 :: digs (m + 1) := by
  rw [PyProof.Rows.signs_ofString]
  show (("-" ++ toString (m + 1) : String)).toList.map Char.toNat = _
  rw [String.toList_append, List.map_append]
  show 45 :: (Nat.repr (m + 1)).toList.map Char.toNat = _
  rw [Nat.toList_repr]
  rfl
theorem digs_all (m : Nat) : ∀ c ∈ digs m, 48 ≤ c ∧ c ≤ 57 := by
  intro c hc
  obtain ⟨ch, hch, e⟩ := List.mem_map.mp hc
  have r := PyProof.Rows.digit_range (Nat.isDigit_of_mem_toDigits (by decide) (by decide) hch)
  rw [← e]; exact r
theorem digs_ne (m : Nat) : digs m ≠ [] := by
  intro h
  exact Nat.toDigits_ne_nil (List.map_eq_nil_iff.mp h)
theorem digs_len {m : Nat} (h : m < 10 ^ 7) : (digs m).length ≤ 7 := by
  unfold digs
  rw [List.length_map]
  exact (Nat.length_toDigits_le_iff (by decide) (by decide)).mpr h
theorem digs_val (m : Nat) : PySem.NumText.digitsVal (digs m) = m := PySem.W.KIN.val_back m
theorem dig_nz : ∀ d : Nat, d < 10 → d ≠ 0 → (Nat.digitChar d).toNat ≠ 48 := by decide
theorem digs_head : ∀ m : Nat, m ≠ 0 → ∃ c r, digs m = c :: r ∧ c ≠ 48 := by
  intro m
  induction m using Nat.strongRecOn with
  | _ m ih =>
    intro hm
    by_cases h : m < 10
    · refine ⟨(Nat.digitChar m).toNat, [], ?_, dig_nz m h hm⟩
      unfold digs
      rw [Nat.toDigits_of_lt_base h]; rfl
    · have h10 : m % 10 < 10 := Nat.mod_lt m (by decide)
      have t : Nat.toDigits 10 (m / 10) ++ Nat.toDigits 10 (m % 10) = Nat.toDigits 10 (10 * (m / 10) + m % 10) := Nat.toDigits_append_toDigits (by decide) (by omega) h10
      rw [Nat.div_add_mod] at t
      obtain ⟨c, r, e, hc⟩ := ih (m / 10) (by omega) (by omega)
      refine ⟨c, r ++ (Nat.toDigits 10 (m % 10)).map Char.toNat, ?_, hc⟩
      unfold digs
      rw [← t, List.map_append]
      show digs (m / 10) ++ _ = _
      rw [e]; rfl
theorem digs_zero : digs 0 = [48] := rfl
/-- the signs of a whole number's text -/
theorem num_split (n : Int) : ∃ m : Nat, (n = m ∧ ((toString n : String) : Str).cps.toList = digs m) ∨ (m ≠ 0 ∧ n = -(m : Int) ∧ ((toString n : String) : Str).cps.toList = 45 :: digs m) := by
  cases n with
  | ofNat m => exact ⟨m, .inl ⟨rfl, cps_num m⟩⟩
  | negSucc m => exact ⟨m + 1, .inr ⟨by omega, Int.negSucc_eq m, cps_neg m⟩⟩
theorem num_len {n : Int} (h : -10000000 < n ∧ n < 10000000) : ((toString n : String) : Str).length ≤ 8 := by
  rw [len_cps]
  obtain ⟨m, ⟨e, h1⟩ | ⟨_, e, h1⟩⟩ := num_split n <;> rw [h1]
  · have := digs_len (m := m) (by omega); omega
  · have := digs_len (m := m) (by omega); simp; omega
theorem num_back {n : Int} (h : -10000000 < n ∧ n < 10000000) : PySem.intText? ((toString n : String) : Str) = some n := by
  have hl := num_len h
  obtain ⟨m, ⟨e, h1⟩ | ⟨_, e, h1⟩⟩ := num_split n
  · have := PySem.intText_digits (x := ((toString n : String) : Str)) (by rw [h1]; exact digs_all m) (by rw [h1]; exact digs_ne m) (by omega)
    rw [h1, digs_val] at this
    rw [this, e]
  · have := PySem.intText_neg (x := ((toString n : String) : Str)) h1 (digs_all m) (digs_ne m) (by omega)
    rw [digs_val] at this
    rw [this, e]
theorem num_head (n : Int) : ∃ c r, ((toString n : String) : Str).cps.toList = c :: r ∧ (c = 45 ∨ (48 ≤ c ∧ c ≤ 57)) := by
  obtain ⟨m, ⟨e, h1⟩ | ⟨_, e, h1⟩⟩ := num_split n <;> rw [h1]
  · cases hd : digs m with
    | nil => exact absurd hd (digs_ne m)
    | cons c r => exact ⟨c, r, rfl, .inr (digs_all m c (by rw [hd]; exact List.mem_cons_self))⟩
  · exact ⟨45, digs m, rfl, .inl rfl⟩
/-! signs of a text -/
theorem starts1 (x : Str) (c : Nat) : PySem.Txt.startswith x ⟨#[c]⟩ = (x.cps.toList.head? == some c) := by
  obtain ⟨⟨l⟩⟩ := x
  unfold PySem.Txt.startswith PySem.Builtin.Str.subAt
  cases l with
  | nil => rfl
  | cons d r => 
    show (decide (0 + 1 ≤ r.length + 1) && ((Array.mk (d :: r)).extract 0 1 == #[c])) = (some d == some c)
    have : (Array.mk (d :: r)).extract 0 1 = #[d] := by simp
    rw [this]
    simp
theorem cut_from (x : Str) (k : Nat) (h : k ≤ x.length) : cutS x (some (k : Int)) none = ⟨(x.cps.toList.drop k).toArray⟩ := by
  unfold cutS
  rw [HT.sIx_nat, HT.sIx_none]
  have : min k x.length = k := by omega
  rw [this, List.take_of_length_le]
  rw [List.length_drop, ← len_cps]; omega
theorem cut_to (x : Str) (k : Nat) (h : k ≤ x.length) : cutS x none (some (k : Int)) = ⟨(x.cps.toList.take k).toArray⟩ := by
  unfold cutS
  rw [HT.sIx_nat, HT.sIx_none]
  have : min k x.length = k := by omega
  rw [this]; rfl
theorem cps_mk (l : List Nat) : (⟨l.toArray⟩ : Str).cps.toList = l := rfl
theorem mk_cps (x : Str) : (⟨x.cps.toList.toArray⟩ : Str) = x := str_ext rfl
theorem flat_one (n c : Nat) : (List.replicate n [c]).flatten = List.replicate n c := by
  induction n with
  | zero => rfl
  | succ n ih => rw [List.replicate_succ, List.flatten_cons, ih]; rfl
theorem rep_one (n : Int) (c : Nat) : (strRep ⟨#[c]⟩ n).cps.toList = List.replicate n.toNat c := flat_one n.toNat c
end Kit
namespace Kit
open MD L2 PySem
@[simp] theorem u_still {ds : List D} {M : MH} : ItD.still ⟨ds, none⟩ M ↔ True := Iff.rfl
/-! loops by position -/
theorem forI_from {it : ItD} {g : TG'} {tb : TS'} {DD : Ends'} {ds0 : List D} (P : Nat → EnvD → MH → Prop) (h0 : ∀ δ M, P ds0.length δ M → it.still M ∧ DD.nx δ M)
    (hs : ∀ i d δ M (F : EnvD → MH → Prop), ds0[i]? = some d → P i δ M → (∀ δ' M', P (i + 1) δ' M' → F δ' M') → it.still M ∧ g d δ M (fun δ1 M1 => tb { DD with nx := F, ct := F, bk := DD.nx } δ1 M1))
    {δ : EnvD} {M : MH} (p : P 0 δ M) : forL it g tb DD ds0 δ M := by
  refine forL_ind (fun ds δ M => ∃ i, ds = ds0.drop i ∧ i ≤ ds0.length ∧ P i δ M) ?_ ?_ ds0 δ M ⟨0, rfl, Nat.zero_le _, p⟩
  · rintro δ M ⟨i, e, hi, hp⟩
    have : ds0.length ≤ i := List.drop_eq_nil_iff.mp e.symm
    obtain rfl : i = ds0.length := by omega
    exact h0 δ M hp
  · rintro d r δ M F ⟨i, e, hi, hp⟩ hF
    have hd : ds0[i]? = some d := by
      have := congrArg List.head? e
      simp [List.head?_drop] at this
      exact this.symm
    have hr : r = ds0.drop (i + 1) := by
      have := congrArg List.tail e
      simpa using this
    have hlt := (List.getElem?_eq_some_iff.mp hd).1
    exact hs i d δ M F hd hp (fun δ' M' hp' => hF δ' M' ⟨i + 1, hr, hlt, hp'⟩)
theorem range_at {lo : Int} {n i : Nat} (h : i < n) : (rangeD lo n)[i]? = some (.int (lo + (i : Int))) := by
  unfold rangeD
  rw [List.getElem?_map, List.getElem?_range h]; rfl
theorem forR_ind {it : ItD} {g : TG'} {tb : TS'} {DD : Ends'} {lo : Int} {n : Nat} (P : Nat → EnvD → MH → Prop) (h0 : ∀ δ M, P n δ M → it.still M ∧ DD.nx δ M)
    (hs : ∀ i δ M (F : EnvD → MH → Prop), i < n → P i δ M → (∀ δ' M', P (i + 1) δ' M' → F δ' M') → it.still M ∧ g (.int (lo + (i : Int))) δ M (fun δ1 M1 => tb { DD with nx := F, ct := F, bk := DD.nx } δ1 M1))
    {δ : EnvD} {M : MH} (p : P 0 δ M) : forL it g tb DD (rangeD lo n) δ M := by
  refine forI_from P (by rw [rangeD_length]; exact h0) ?_ p
  intro i d δ M F hd hp hF
  have hi : i < n := by have := (List.getElem?_eq_some_iff.mp hd).1; rwa [rangeD_length] at this
  rw [range_at hi] at hd
  cases hd
  exact hs i δ M F hi hp hF
theorem lcI_from {it : ItD} {g : TG'} {tt : TT'} {te : TE'} {vs : List Nat} {δ : EnvD} {Q : List D → MH → Prop} {ds0 : List D} (P : Nat → List D → MH → Prop) (h0 : ∀ acc M, P ds0.length acc M → it.still M ∧ Q acc M)
    (hs : ∀ i d acc M (F : List D → MH → Prop), ds0[i]? = some d → P i acc M → (∀ acc' M', P (i + 1) acc' M' → F acc' M') → it.still M ∧ g d (wipeD δ vs) M fun δ2 M2 => tt δ2 M2 (fun b M3 =>
      if b = true then te δ2 M3 (fun y M4 => acc.length < sizeLine ∧ F (acc ++ [y]) M4) (fun _ _ => False) else F acc M3) (fun _ _ => False))
    {M : MH} (p : P 0 [] M) : lcL it g tt te vs δ Q ds0 [] M := by
  refine lcL_ind (fun ds acc M => ∃ i, ds = ds0.drop i ∧ i ≤ ds0.length ∧ P i acc M) ?_ ?_ ds0 [] M ⟨0, rfl, Nat.zero_le _, p⟩
  · rintro acc M ⟨i, e, hi, hp⟩
    have : ds0.length ≤ i := List.drop_eq_nil_iff.mp e.symm
    obtain rfl : i = ds0.length := by omega
    exact h0 acc M hp
  · rintro d r acc M F ⟨i, e, hi, hp⟩ hF
    have hd : ds0[i]? = some d := by
      have := congrArg List.head? e
      simp [List.head?_drop] at this
      exact this.symm
    have hr : r = ds0.drop (i + 1) := by
      have := congrArg List.tail e
      simpa using this
    have hlt := (List.getElem?_eq_some_iff.mp hd).1
    exact hs i d acc M F hd hp (fun acc' M' hp' => hF acc' M' ⟨i + 1, hr, hlt, hp'⟩)
/-! what stays below -/
theorem belL_iff {n : Nat} : ∀ {ds : List D}, D.belL n ds = true ↔ ∀ d ∈ ds, d.bel n = true
  | [] => by simp [D.belL]
  | d :: r => by unfold D.belL; rw [Bool.and_eq_true, belL_iff (ds := r)]; simp
theorem belL_int {n : Nat} (f : α → Int) (xs : List α) : D.belL n (xs.map fun x => D.int (f x)) = true := by
  rw [belL_iff]
  intro d hd
  obtain ⟨x, _, rfl⟩ := List.mem_map.mp hd
  simp [D.bel]
theorem pool_below {n : Nat} {ns : List Int} {i b s : Int} : Cell.below n (poolD ns i b s) = true := by
  have := belL_int (n := n) (fun x : Int => x) ns
  simp [Cell.below, poolD, D.belL, D.bel]
  exact this
theorem Step.wf {p : Nat} {M M' : MH} (hM : WFM M) (h : Step p M M') : WFM M' := by
  have hl := h.length
  obtain ⟨⟨c, rfl⟩, ns, i, b, s, hp, _⟩ := h
  intro c' hc
  rw [hl]
  rcases List.mem_or_eq_of_mem_set hc with hc | rfl
  · exact hM c' hc
  · have hlt : p < M.length := by
      have := (List.getElem?_eq_some_iff.mp hp).1
      simpa using this
    rw [List.getElem?_set_self hlt] at hp
    cases hp
    exact pool_below
theorem Pool.lt {p : Nat} {M : MH} (h : Pool M p) : p < M.length := by
  obtain ⟨_, _, _, _, hp, _⟩ := h
  exact (List.getElem?_eq_some_iff.mp hp).1
theorem Pool.of_eq {p : Nat} {M M' : MH} (h : Pool M p) (e : M'[p]? = M[p]?) : Pool M' p := by
  obtain ⟨ns, i, b, s, hp, hr⟩ := h
  exact ⟨ns, i, b, s, by rw [e]; exact hp, hr⟩
/-- a step of the whole heap is one of its first part -/
theorem Step.cut {p n : Nat} {M M' : MH} (h : Step p M M') (hp : p < n) : Step p (M.take n) (M'.take n) := by
  obtain ⟨⟨c, rfl⟩, hP⟩ := h
  refine ⟨⟨c, by rw [List.take_set]⟩, hP.of_eq ?_⟩
  rw [List.getElem?_take_of_lt hp]
theorem erase_perm {α : Type} {ls : List α} {k : Nat} (h : k < ls.length) : (ls[k] :: ls.eraseIdx k).Perm ls := by
  have e : ls = ls.take k ++ ls[k] :: ls.drop (k + 1) := by
    rw [← List.drop_eq_getElem_cons h, List.take_append_drop]
  rw [List.eraseIdx_eq_take_drop_succ]
  conv => rhs; rw [e]
  exact List.perm_middle.symm
theorem erase_map {α β : Type} (f : α → β) (ls : List α) (k : Nat) : (ls.map f).eraseIdx k = (ls.eraseIdx k).map f := by
  rw [List.eraseIdx_eq_take_drop_succ, List.eraseIdx_eq_take_drop_succ, List.map_append, List.map_take, List.map_drop]
/-! an order of the first whole numbers -/
abbrev N__law_order : List Str := ["pool", "many", "left", "found", "k"]
def sp__law_order : SpD := fun ds M Q _ => ∃ (p n : Nat), ds = [.ref p, .int n] ∧ n ≤ 1000 ∧ Pool M p ∧ ∀ (ks : List Nat) M', ks.Perm (List.range n) → Step p M M' → Q (.tup (ks.map fun (k : Nat) => D.int k)) M'
theorem mono__law_order : MonoP sp__law_order := fun ds M Q Q' E E' q x ⟨p, n, e, h0, h1, h⟩ => ⟨p, n, e, h0, h1, fun ks M' a b => q _ _ (h ks M' a b)⟩
theorem len__law_order (ds M Q E) (h : sp__law_order ds M Q E) : ds.length = 2 := by obtain ⟨_, _, rfl, _⟩ := h; rfl
def r__law_order : TS' := (tSeq' (tAsg' (tListRg' true (tRg1' (tVar' 1))) (gName' 2))
    (tSeq' (tAsg' (tTup' tNil') (gName' 3))
    (tSeq' (tFor' (tRng1' (tCons' (tVar' 1) tNil')) (gName' 4) (tAsg' (tOp' (oAdd false) (tVar' 3) (tTup' (tCons' (tBM' "list" mPopAt (tVar' 2) (tCons' (tCall' sp__law_take (tCons' (tVar' 0) (tCons' (tCB' cLen (tCons' (tVar' 2) tNil')) tNil'))) tNil')) tNil'))) (gName' 3)))
    (tRet' (tVar' 3)))))
theorem math__law_order (ds M Q E) (hM : WFM M) (hb : D.belL M.length ds = true) (h : sp__law_order ds M Q E) : r__law_order (retE M.length Q E) (startD N__law_order ds) M := by
  obtain ⟨p, n, rfl, hn, hp, q⟩ := h
  have hz : (sizeLine : Nat) = 16777216 := by decide
  have hpl := hp.lt
  unfold r__law_order
  refine seq_step fun S hS => ?_
  simp [startD]
  refine ⟨by unfold RgOk; omega, ?_⟩
  subst hS
  refine seq_step fun S hS => ?_
  simp
  subst hS
  refine seq_step fun S hS => ?_
  simp
  refine ⟨by omega, ?_⟩
  refine forR_ind (fun i δ M' => ∃ (ks ls : List Nat) (a : Option D), ks.length = i ∧ (ks ++ ls).Perm (List.range n) ∧ δ = [some (.ref p), some (.int n), some (.ref M.length), some (.tup (ks.map fun (k : Nat) => D.int k)), a] ∧ M'.length = M.length + 1 ∧ M'[M.length]? = some (.lst (ls.map fun (k : Nat) => D.int k)) ∧ Step p M (M'.take M.length)) ?_ ?_ ?_
  · rintro δ M' ⟨ks, ls, a, hk, hperm, rfl, hl, hc, hst⟩
    have : ls = [] := by
      have := hperm.length_eq
      simp at this
      exact List.length_eq_zero_iff.mp (by omega)
    subst this
    subst hS
    rw [List.append_nil] at hperm
    simp
    rw [popM_pop (by unfold D.bel; exact belL_int _ _) (by have := hst.wf hM; unfold WFM at this; rwa [hst.length] at this) rfl]
    exact q ks _ hperm hst
  · rintro i δ M' F hi ⟨ks, ls, a, hk, hperm, rfl, hl, hc, hst⟩ hF
    have hll : ls.length = n - i := by
      have := hperm.length_eq
      simp at this
      omega
    have hP : Pool M' p := hst.2.of_eq (by rw [List.getElem?_take_of_lt hpl])
    simp [lstOf_ref hc, hc]
    refine ⟨p, _, rfl, by omega, by omega, hP, fun r M2 h0 h1 h2 => ?_⟩
    have hc2 : M2[M.length]? = some (.lst (ls.map fun (k : Nat) => D.int k)) := by rw [h2.other (by omega)]; exact hc
    have hr : r.toNat < ls.length := by omega
    simp [hc2, hll, ixN_n h0 (show r < ((n - i : Nat) : Int) by omega)]
    refine ⟨by omega, by omega, .int ((ls[r.toNat] : Nat) : Int), ⟨ls[r.toNat], List.getElem?_eq_getElem hr, rfl⟩, by decide, by omega, ?_⟩
    refine hF _ _ ⟨ks ++ [ls[r.toNat]], ls.eraseIdx r.toNat, some (.int i), by simp [hk], ?_, by simp, by simp [h2.length, hl], ?_, ?_⟩
    · refine List.Perm.trans ?_ hperm
      rw [List.append_assoc]
      refine List.Perm.append_left ks ?_
      show (ls[r.toNat] :: ls.eraseIdx r.toNat).Perm ls
      exact erase_perm hr
    · rw [List.getElem?_set_self (by rw [h2.length]; omega)]
      congr 2
      exact erase_map ..
    · rw [List.take_set_of_le (Nat.le_refl _)]
      exact hst.trans (h2.cut hpl)
  · refine ⟨[], List.range n, none, rfl, by simp, by simp, by simp, ?_, ?_⟩
    · rw [List.getElem?_append_right (Nat.le_refl _)]
      simp [rangeD]
    · rw [List.take_left' rfl]
      exact ⟨⟨M[p], by simp⟩, hp⟩
/-! a tone drawn -/
abbrev N__law_tone : List Str := ["pool", "fifths"]
def sp__law_tone : SpD := fun ds M Q _ => ∃ p, ds = [.ref p] ∧ Pool M p ∧ ∀ f o M', -50 ≤ f → f ≤ 50 → 0 ≤ o + 4 * f / 7 → o + 4 * f / 7 ≤ 6 → Step p M M' → Q (.tup [.int f, .int o]) M'
theorem mono__law_tone : MonoP sp__law_tone := fun ds M Q Q' E E' q x ⟨p, e, h1, h⟩ => ⟨p, e, h1, fun f o M' a b c d e => q _ _ (h f o M' a b c d e)⟩
theorem len__law_tone (ds M Q E) (h : sp__law_tone ds M Q E) : ds.length = 1 := by obtain ⟨_, rfl, _⟩ := h; rfl
def r__law_tone : TS' := (tSeq' (tAsg' (tOp' oSub (tCall' sp__law_take (tCons' (tVar' 0) (tCons' (tC' (.int 15)) tNil'))) (tC' (.int 7))) (gName' 1))
    (tSeq' (tIfS' (tB' (tOp' (oEq false) (tCall' sp__law_take (tCons' (tVar' 0) (tCons' (tC' (.int 12)) tNil'))) (tC' (.int 0)))) (tAsg' (tOp' oSub (tCall' sp__law_take (tCons' (tVar' 0) (tCons' (tC' (.int 101)) tNil'))) (tC' (.int 50))) (gName' 1)) tNext')
    (tRet' (tTup' (tCons' (tVar' 1) (tCons' (tOp' oSub (tCall' sp__law_take (tCons' (tVar' 0) (tCons' (tC' (.int 7)) tNil'))) (tCB' cInt (tCons' (tOp' oFdiv (tOp' (oMul false) (tC' (.int 4)) (tVar' 1)) (tC' (.int 7))) tNil'))) tNil'))))))

theorem math__law_tone (ds M Q E) (hM : WFM M) (hb : D.belL M.length ds = true) (h : sp__law_tone ds M Q E) : r__law_tone (retE M.length Q E) (startD N__law_tone ds) M := by
  obtain ⟨p, rfl, hp, q⟩ := h
  unfold r__law_tone
  refine seq_step fun S hS => ?_
  simp [startD]
  refine ⟨p, 15, rfl, by decide, by decide, hp, fun r1 M1 a1 b1 c1 => ?_⟩
  simp
  subst hS
  refine seq_step fun S hS => ?_
  simp
  refine ⟨p, 12, rfl, by decide, by decide, c1.2, fun r2 M2 a2 b2 c2 => ?_⟩
  simp
  have key : ∀ (f : Int) (M3 : MH), -50 ≤ f → f ≤ 50 → Step p M1 M3 → S (retE M.length Q E) [some (D.ref p), some (D.int f)] M3 := by
    intro f M3 hf1 hf2 c3
    subst hS
    simp
    refine ⟨p, 7, rfl, by decide, by decide, c3.2, fun r4 M4 a4 b4 c4 => ?_⟩
    simp
    refine ⟨mulOk_l (by decide), divOk_of (by decide) (by decide), by decide, ?_⟩
    have c5 := (c1.trans c3).trans c4
    rw [popM_same (by rw [c5.length]; simp), e_fdiv (by decide)]
    exact q _ _ _ hf1 hf2 (by omega) (by omega) c5
  by_cases h0 : r2 = 0
  · simp [h0]
    refine ⟨p, 101, rfl, by decide, by decide, c2.2, fun r3 M3 a3 b3 c3 => ?_⟩
    simp
    exact key _ _ (by omega) (by omega) (c2.trans c3)
  · simp [h0]
    exact key _ _ (by omega) (by omega) c2
/-! a tone drawn from afar -/
def Far (f : Int) : Prop := -1000 ≤ f ∧ f ≤ 1000
abbrev N__law_far_pair : List Str := ["pool", "kind", "edges"]
def sp__law_far_pair : SpD := fun ds M Q _ => ∃ p, ds = [.ref p] ∧ Pool M p ∧ ∀ f o M', Far f → Far o → Step p M M' → Q (.tup [.int f, .int o]) M'
theorem mono__law_far_pair : MonoP sp__law_far_pair := fun ds M Q Q' E E' q x ⟨p, e, h1, h⟩ => ⟨p, e, h1, fun f o M' a b c => q _ _ (h f o M' a b c)⟩
theorem len__law_far_pair (ds M Q E) (h : sp__law_far_pair ds M Q E) : ds.length = 1 := by obtain ⟨_, rfl, _⟩ := h; rfl
def r__law_far_pair : TS' := (tSeq' (tAsg' (tCall' sp__law_take (tCons' (tVar' 0) (tCons' (tC' (.int 4)) tNil'))) (gName' 1))
    (tSeq' (tIfS' (tB' (tOp' (oEq false) (tVar' 1) (tC' (.int 0)))) (tRet' (tTup' (tCons' (tOp' oSub (tCall' sp__law_take (tCons' (tVar' 0) (tCons' (tC' (.int 2001)) tNil'))) (tC' (.int 1000))) (tCons' (tOp' oSub (tCall' sp__law_take (tCons' (tVar' 0) (tCons' (tC' (.int 2001)) tNil'))) (tC' (.int 1000))) tNil')))) tNext')
    (tSeq' (tIfS' (tB' (tOp' (oEq false) (tVar' 1) (tC' (.int 1)))) (tSeq' (tAsg' (tLst' false (tCons' (tC' (.int 1000)) (tCons' (tUn' oNeg (tC' (.int 1000))) (tCons' (tC' (.int 999)) (tCons' (tUn' oNeg (tC' (.int 999))) (tCons' (tC' (.int 0)) (tCons' (tC' (.int 5)) (tCons' (tC' (.int 6)) (tCons' (tUn' oNeg (tC' (.int 1))) (tCons' (tUn' oNeg (tC' (.int 2))) (tCons' (tC' (.int 12)) (tCons' (tUn' oNeg (tC' (.int 7))) tNil')))))))))))) (gName' 2))
    (tRet' (tTup' (tCons' (tCall' sp__law_pick (tCons' (tVar' 0) (tCons' (tVar' 2) tNil'))) (tCons' (tCall' sp__law_pick (tCons' (tVar' 0) (tCons' (tVar' 2) tNil'))) tNil'))))) tNext')
    (tRet' (tCall' sp__law_tone (tCons' (tVar' 0) tNil'))))))

theorem math__law_far_pair (ds M Q E) (hM : WFM M) (hb : D.belL M.length ds = true) (h : sp__law_far_pair ds M Q E) : r__law_far_pair (retE M.length Q E) (startD N__law_far_pair ds) M := by
  obtain ⟨p, rfl, hp, q⟩ := h
  unfold r__law_far_pair
  refine seq_step fun S hS => ?_
  simp [startD]
  refine ⟨p, 4, rfl, by decide, by decide, hp, fun k M1 a1 b1 c1 => ?_⟩
  simp
  subst hS
  refine seq_step fun S hS => ?_
  simp
  by_cases h0 : k = 0
  · simp [h0]
    refine ⟨p, 2001, rfl, by decide, by decide, c1.2, fun r2 M2 a2 b2 c2 => ?_⟩
    simp
    refine ⟨p, 2001, rfl, by decide, by decide, c2.2, fun r3 M3 a3 b3 c3 => ?_⟩
    simp
    refine ⟨by decide, ?_⟩
    have c5 := (c1.trans c2).trans c3
    rw [popM_same (by rw [c5.length]; simp)]
    exact q _ _ _ ⟨by omega, by omega⟩ ⟨by omega, by omega⟩ c5
  · simp [h0]
    subst hS
    refine seq_step fun S hS => ?_
    simp
    by_cases h1 : k = 1
    · simp [h1]
      let es : List Int := [1000, -1000, 999, -999, 0, 5, 6, -1, -2, 12, -7]
      refine ⟨by decide, p, _, _, rfl, c1.2, nofun, rfl, fun _ _ => rfl, by simp, by decide, fun d2 M2 hd2 c2 => ⟨p, _, _, rfl, c2.2, nofun, rfl, fun _ _ => rfl, by simp, by decide, fun d3 M3 hd3 c3 => ?_⟩⟩
      simp
      refine ⟨by decide, ?_⟩
      have c5 := (c1.trans c2).trans c3
      rw [popM_same (by rw [c5.length]; simp)]
      have hin : ∀ d ∈ es.map D.int, ∃ z, d = D.int z ∧ Far z := by
        intro d hd
        obtain ⟨z, hz, e⟩ := List.mem_map.mp hd
        refine ⟨z, e.symm, ?_⟩
        have : ∀ z ∈ es, -1000 ≤ z ∧ z ≤ 1000 := by decide
        exact this z hz
      obtain ⟨z2, rfl, h2⟩ := hin d2 hd2
      obtain ⟨z3, rfl, h3⟩ := hin d3 hd3
      exact q _ _ _ h2 h3 c5
    · simp [h1]
      subst hS
      simp
      refine ⟨p, rfl, c1.2, fun f o M2 hf1 hf2 ho1 ho2 c2 => ?_⟩
      show Q _ (popM _ _ _)
      have c5 := c1.trans c2
      rw [popM_same (by rw [c5.length]; simp)]
      exact q _ _ _ ⟨by omega, by omega⟩ ⟨by omega, by omega⟩ c5
end Kit
namespace MD
open PySem PySem.Spec PyProof.Rows L2
variable {K : PySem.W.Frag}
/-! a member of a tuple or a list of plain items -/
def D.fl : D → Bool
  | .non => true
  | .bl _ => true
  | .int _ => true
  | .str _ => true
  | _ => false
def D.sv : D → V
  | .bl b => .bl b
  | .int i => .int i
  | .str x => .str x
  | _ => .non
theorem rep_sv {w : Wd} {d : D} {v : V} (f : d.fl = true) (h : Rep K w d v) : v = d.sv ∧ flatV d.sv = true := by
  cases d with
  | non => exact ⟨rep_non h, rfl⟩
  | bl b => exact ⟨rep_bl h, rfl⟩
  | int b => exact ⟨rep_int h, rfl⟩
  | str b => exact ⟨rep_str h, rfl⟩
  | _ => cases f
theorem repL_sv {w : Wd} : ∀ {ds : List D} {xs : List V}, ds.all D.fl = true → RepL K w ds xs → xs = ds.map D.sv ∧ xs.all flatV = true
  | [], xs, _, h => by have h : xs = [] := h; subst h; exact ⟨rfl, rfl⟩
  | d :: ds, xs, f, h => by
    obtain ⟨x, r, rfl, hx, hr⟩ := h
    rw [List.all_cons, Bool.and_eq_true] at f
    obtain ⟨rfl, h2⟩ := rep_sv f.1 hx
    obtain ⟨rfl, h4⟩ := repL_sv f.2 hr
    exact ⟨rfl, by rw [List.all_cons, h2, h4]; rfl⟩
def inD (x : D) (ds : List D) : Bool := inV x.sv (ds.map D.sv)
def oInT (neg : Bool) : R2' := fun x y M Q => x.fl = true ∧ ∃ ds, (y = .tup ds ∨ y = .lst ds) ∧ ds.all D.fl = true ∧ Q (.bl (if neg then !inD x ds else inD x ds)) M
theorem lf_inT {neg : Bool} : Lift2 K (rIn K neg) (oInT neg) := by
  intro w x y dx dy Q rh rx ry ⟨fx, ds, e, fs, h⟩
  obtain ⟨rfl, h2⟩ := rep_sv fx rx
  have q : ∀ xs, RepL K w ds xs → xs.all flatV = true ∧ PV K w Q (.bl (if neg then !inV dx.sv xs else inV dx.sv xs)) w.M := fun xs hr => by
    obtain ⟨rfl, h4⟩ := repL_sv fs hr
    exact ⟨h4, h⟩
  rcases e with rfl | rfl
  · obtain ⟨a, xs, rfl, hs, hr⟩ := ry
    obtain ⟨h4, h5⟩ := q xs hr
    exact ⟨a, xs, rfl, .inr hs, h2, h4, PV.here rh h5 rep_mk_bl⟩
  · obtain ⟨a, xs, rfl, hs, _, _, hr⟩ := ry
    obtain ⟨h4, h5⟩ := q xs hr
    exact ⟨a, xs, rfl, .inl (SqL.of hs), h2, h4, PV.here rh h5 rep_mk_bl⟩
theorem mn_inT {neg : Bool} : Mono2 (oInT neg) := fun x y M Q Q' q ⟨fx, ds, e, fs, h⟩ => ⟨fx, ds, e, fs, q _ _ h⟩
@[simp] theorem u_inTI {i : Int} {ds : List D} {M : MH} {Q : QE} : oInT false (.int i) (.tup ds) M Q ↔ ds.all D.fl = true ∧ Q (.bl (inD (.int i) ds)) M := by
  constructor
  · rintro ⟨_, ds', (e | e), h⟩
    · cases e; exact h
    · cases e
  · exact fun h => ⟨rfl, ds, .inl rfl, h⟩
theorem inD_ints (i : Int) : ∀ (j : Int) (ds : List D), inD (.int i) (.int j :: ds) = (j == i || inD (.int i) ds) := fun j ds => rfl
theorem inD_nil (x : D) : inD x [] = false := rfl
end MD
namespace Kit
open MD L2 PySem
/-! tones and whole numbers in names -/
def Pr (s : D) (f o : Int) : Prop := s = .tup [.int f, .int o] ∨ s = .lst [.int f, .int o]
abbrev N_steps : List Str := ["interval"]
def sp_steps : SpD := fun ds M Q _ => ∃ s f o, ds = [s] ∧ Pr s f o ∧ Q (.int (4 * f + 7 * o)) M
theorem mono_steps : MonoP sp_steps := fun ds M Q Q' E E' q x ⟨s, f, o, e, h1, h⟩ => ⟨s, f, o, e, h1, q _ _ h⟩
theorem len_steps (ds M Q E) (h : sp_steps ds M Q E) : ds.length = 1 := by obtain ⟨_, _, _, rfl, _⟩ := h; rfl
def r_steps : TS' := (tRet' (tOp' (oAdd false) (tOp' (oMul false) (tC' (.int 4)) (tOp' oIx (tVar' 0) (tC' (.int 0)))) (tOp' (oMul false) (tC' (.int 7)) (tOp' oIx (tVar' 0) (tC' (.int 1))))))
theorem math_steps (ds M Q E) (hM : WFM M) (hb : D.belL M.length ds = true) (h : sp_steps ds M Q E) : r_steps (retE M.length Q E) (startD N_steps ds) M := by
  obtain ⟨s, f, o, rfl, hs, q⟩ := h
  rcases hs with rfl | rfl <;> simp [r_steps, startD, mulOk_l, popM_same, q]
abbrev N_height : List Str := ["interval"]
def sp_height : SpD := fun ds M Q _ => ∃ s f o, ds = [s] ∧ Pr s f o ∧ Q (.int (7 * f + 12 * o)) M
theorem mono_height : MonoP sp_height := fun ds M Q Q' E E' q x ⟨s, f, o, e, h1, h⟩ => ⟨s, f, o, e, h1, q _ _ h⟩
theorem len_height (ds M Q E) (h : sp_height ds M Q E) : ds.length = 1 := by obtain ⟨_, _, _, rfl, _⟩ := h; rfl
def r_height : TS' := (tRet' (tOp' (oAdd false) (tOp' (oMul false) (tC' (.int 7)) (tOp' oIx (tVar' 0) (tC' (.int 0)))) (tOp' (oMul false) (tC' (.int 12)) (tOp' oIx (tVar' 0) (tC' (.int 1))))))
theorem math_height (ds M Q E) (hM : WFM M) (hb : D.belL M.length ds = true) (h : sp_height ds M Q E) : r_height (retE M.length Q E) (startD N_height ds) M := by
  obtain ⟨s, f, o, rfl, hs, q⟩ := h
  rcases hs with rfl | rfl <;> simp [r_height, startD, mulOk_l, popM_same, q]
abbrev N_whole : List Str := ["text", "figures", "sign"]
def sp_whole : SpD := fun ds M Q _ => ∃ n : Int, ds = [.str (toString n : String)] ∧ -1000000 ≤ n ∧ n ≤ 1000000 ∧ Q (.int n) M
theorem mono_whole : MonoP sp_whole := fun ds M Q Q' E E' q x ⟨n, e, h1, h2, h⟩ => ⟨n, e, h1, h2, q _ _ h⟩
theorem len_whole (ds M Q E) (h : sp_whole ds M Q E) : ds.length = 1 := by obtain ⟨_, rfl, _⟩ := h; rfl
def r_whole : TS' := (tSeq' (tAsg' (tIf' (tTru' (tBM' "str" mStarts (tVar' 0) (tCons' (tC' (.str "-")) tNil'))) (tSl' (oSl false) (tVar' 0) (tPart' (tC' (.int 1))) tNoPart') (tVar' 0)) (gName' 1))
    (tSeq' (tIfS' (tOr' (tNot' (tB' (tChain' (oI0 fun i j => .bl (decide (i < j))) (oI0 fun i j => .bl (decide (i ≤ j))) (tC' (.int 0)) (tCB' cLen (tCons' (tVar' 1) tNil')) (tC' (.int 30))))) (tNot' (tTru' (tCB' (cBls fun bs => bs.all id) (tCons' (tLc' false (tIt' (tVar' 1)) (gName' 2) tYes' (tOp' (oInS false) (tVar' 2) (tC' (.str "0123456789"))) [2]) tNil'))))) (tRet' (tC' .non)) tNext')
    (tSeq' (tIfS' (tAnd' (tB' (tOp' (oEq false) (tOp' oIx (tVar' 1) (tC' (.int 0))) (tC' (.str "0")))) (tOr' (tB' (tOp' (oI0 fun i j => .bl (decide (j < i))) (tCB' cLen (tCons' (tVar' 1) tNil')) (tC' (.int 1)))) (tB' (tOp' (oEq true) (tVar' 1) (tVar' 0))))) (tRet' (tC' .non)) tNext')
    (tRet' (tCB' cInt (tCons' (tVar' 0) tNil'))))))
theorem blsD_bl : ∀ bs : List Bool, blsD (bs.map D.bl) = some bs
  | [] => rfl
  | b :: r => by show (blsD (r.map D.bl)).map (b :: ·) = _; rw [blsD_bl r]; rfl
theorem digit_in : ∀ c : Nat, 48 ≤ c → c ≤ 57 → c ∈ ("0123456789" : Str).cps.toList := by
  intro c h1 h2
  have : ("0123456789" : Str).cps.toList = [48, 49, 50, 51, 52, 53, 54, 55, 56, 57] := rfl
  rw [this]
  simp
  omega
theorem whole_tail {m : Nat} {x fig : Str} {n : Int} (hf : fig.cps.toList = digs m) (hx : x.length ≤ 8) (hl : fig.length ≤ 8) (hm : m = 0 → fig = x) (hn : PySem.intText? x = some n) {Q : QE} {E : QX} {M : MH} (q : Q (.int n) M) :
    (tSeq' (tIfS' (tOr' (tNot' (tB' (tChain' (oI0 fun i j => .bl (decide (i < j))) (oI0 fun i j => .bl (decide (i ≤ j))) (tC' (.int 0)) (tCB' cLen (tCons' (tVar' 1) tNil')) (tC' (.int 30))))) (tNot' (tTru' (tCB' (cBls fun bs => bs.all id) (tCons' (tLc' false (tIt' (tVar' 1)) (gName' 2) tYes' (tOp' (oInS false) (tVar' 2) (tC' (.str "0123456789"))) [2]) tNil'))))) (tRet' (tC' .non)) tNext')
    (tSeq' (tIfS' (tAnd' (tB' (tOp' (oEq false) (tOp' oIx (tVar' 1) (tC' (.int 0))) (tC' (.str "0")))) (tOr' (tB' (tOp' (oI0 fun i j => .bl (decide (j < i))) (tCB' cLen (tCons' (tVar' 1) tNil')) (tC' (.int 1)))) (tB' (tOp' (oEq true) (tVar' 1) (tVar' 0))))) (tRet' (tC' .non)) tNext')
    (tRet' (tCB' cInt (tCons' (tVar' 0) tNil'))))) (retE M.length Q E) [some (.str x), some (.str fig), none] M := by
  have hz : (sizeLine : Nat) = 16777216 := by decide
  have hp : 0 < fig.length := by
    rw [len_cps, hf]
    exact List.length_pos_iff.mpr (digs_ne m)
  refine seq_step fun S hS => ?_
  simp
  refine ⟨by omega, ?_⟩
  simp [hp, show (fig.length : Int) ≤ 30 by omega]
  refine lcL_map (fun d => match d with | .str ⟨⟨[c]⟩⟩ => .bl (hasC c "0123456789") | d => d) (by exact trivial) _ _ ?_ ?_ ?_
  · intro d hd Q' q'
    rw [List.mem_map] at hd
    obtain ⟨c, _, rfl⟩ := hd
    simp [wipeD]
    exact q'
  · simp
    have : fig.cps.size = fig.length := rfl
    omega
  · have e : (List.map (fun d => match d with | .str ⟨⟨[c]⟩⟩ => .bl (hasC c "0123456789") | d => d) (List.map (fun c => D.str ⟨#[c]⟩) fig.cps.toList)) = (fig.cps.toList.map fun c => hasC c "0123456789").map D.bl := by
      rw [List.map_map, List.map_map]; rfl
    rw [List.nil_append, e]
    refine ⟨_, blsD_bl _, ?_⟩
    rw [if_neg (by
      intro hb
      obtain ⟨c, hc, e⟩ := List.mem_map.mp hb
      rw [hf] at hc
      obtain ⟨h1, h2⟩ := digs_all m c hc
      rw [show hasC c "0123456789" = true from decide_eq_true (digit_in c h1 h2)] at e
      cases e)]
    subst hS
    refine seq_step fun S hS => ?_
    cases hd : digs m with
    | nil => exact absurd hd (digs_ne m)
    | cons c r =>
      have h0 : atI fig.cps.toList 0 = some c := by rw [hf, hd]; exact atI_0
      simp [h0]
      have fin : S (retE M.length Q E) [some (.str x), some (.str fig), none] M := by
        subst hS
        simp [popM_same]
        exact .inr (.inr ⟨x, n, rfl, hn, by omega, by rw [u_rt, popM_same (Nat.le_refl _)]; exact q⟩)
      refine ⟨by omega, ?_⟩
      by_cases h0 : m = 0
      · subst h0
        have hl1 : fig.length = 1 := by rw [len_cps, hf]; rfl
        rw [hm rfl] at hl1 ⊢
        rw [hm rfl] at fin
        split
        · refine ⟨by omega, ?_⟩
          rw [if_neg (by rw [hl1]; decide), if_pos rfl]
          exact fin
        · exact fin
      · rw [if_neg]
        · exact fin
        · intro e
          obtain ⟨c', r', e1, e2⟩ := digs_head m h0
          rw [hd] at e1
          cases e1
          have : (#[c] : Array Nat) = #[48] := congrArg Str.cps e
          simp at this
          exact e2 this
theorem math_whole (ds M Q E) (hM : WFM M) (hb : D.belL M.length ds = true) (h : sp_whole ds M Q E) : r_whole (retE M.length Q E) (startD N_whole ds) M := by
  obtain ⟨n, rfl, h1, h2, q⟩ := h
  have hz : (sizeLine : Nat) = 16777216 := by decide
  have hl := num_len (n := n) (by omega)
  have hn := num_back (n := n) (by omega)
  have hs := num_split n
  generalize ((toString n : String) : Str) = x at hl hn hs ⊢
  unfold r_whole
  refine seq_step fun S hS => ?_
  simp [startD]
  have e45 : ("-" : Str) = ⟨#[45]⟩ := rfl
  rw [e45, starts1]
  obtain ⟨m, ⟨e, hx⟩ | ⟨hm, e, hx⟩⟩ := hs
  · have : (x.cps.toList.head? == some 45) = false := by
      rw [hx]
      cases hd : digs m with
      | nil => rfl
      | cons c r =>
        have := digs_all m c (by rw [hd]; exact List.mem_cons_self)
        simp
        omega
    rw [this]
    simp
    subst hS
    exact whole_tail hx hl hl (fun _ => rfl) hn q
  · have : (x.cps.toList.head? == some 45) = true := by rw [hx]; rfl
    rw [this]
    have hlx : x.length = (digs m).length + 1 := by rw [len_cps, hx]; rfl
    have hc := cut_from x 1 (by omega)
    rw [hx] at hc
    simp [oSl]
    refine ⟨by omega, ?_⟩
    rw [show (some (1 : Int)) = some (((1 : Nat) : Int)) from rfl, hc]
    subst hS
    refine whole_tail (m := m) rfl hl ?_ (fun z => absurd z hm) hn q
    show (digs m).length ≤ 8
    omega
abbrev N_within : List Str := ["interval", "text"]
def sp_within : SpD := fun ds M Q _ => ∃ f o x, ds = [.tup [.int f, .int o], x] ∧ Far f ∧ Far o ∧ Q (.tup [.int f, .int o]) M
theorem mono_within : MonoP sp_within := fun ds M Q Q' E E' q x ⟨f, o, y, e, h1, h2, h⟩ => ⟨f, o, y, e, h1, h2, q _ _ h⟩
theorem len_within (ds M Q E) (h : sp_within ds M Q E) : ds.length = 2 := by obtain ⟨_, _, _, rfl, _⟩ := h; rfl
def r_within : TS' := (tSeq' (tIfS' (tB' (tOp' (oI0 fun i j => .bl (decide (j < i))) (tCB' (cI2 fun i j => .int (if j > i then j else i)) (tCons' (tCB' (cI1 fun i => .int (if i < 0 then -i else i)) (tCons' (tOp' oIx (tVar' 0) (tC' (.int 0))) tNil')) (tCons' (tCB' (cI1 fun i => .int (if i < 0 then -i else i)) (tCons' (tOp' oIx (tVar' 0) (tC' (.int 1))) tNil')) tNil'))) (tC' (.int 1000)))) tNever' tNext')
    (tRet' (tVar' 0)))
theorem math_within (ds M Q E) (hM : WFM M) (hb : D.belL M.length ds = true) (h : sp_within ds M Q E) : r_within (retE M.length Q E) (startD N_within ds) M := by
  obtain ⟨f, o, x, rfl, h1, h2, q⟩ := h
  unfold Far at h1 h2
  unfold r_within
  refine seq_step fun S hS => ?_
  simp [startD]
  have : ¬ (1000 < (if (if f < 0 then -f else f) < (if o < 0 then -o else o) then (if o < 0 then -o else o) else (if f < 0 then -f else f))) := by
    split <;> split <;> omega
  refine ⟨_, _, ⟨rfl, rfl⟩, Int.not_lt.mp this, ?_⟩
  subst hS
  simp [popM_same, q]
theorem pl_lt {f : Int} : (((4 * f) % 7).toNat) < 7 := by omega
theorem fifth_of (f : Int) : ([0, 2, 4, -1, 1, 3, 5] : List Int)[((4 * f) % 7).toNat]? = some (f - 7 * ((f + 1) / 7)) := by
  have h : f % 7 = 0 ∨ f % 7 = 1 ∨ f % 7 = 2 ∨ f % 7 = 3 ∨ f % 7 = 4 ∨ f % 7 = 5 ∨ f % 7 = 6 := by omega
  rcases h with h | h | h | h | h | h | h <;> first | (have e : ((4 * f) % 7).toNat = 0 := by omega) ; (have e2 : f - 7 * ((f + 1) / 7) = 0 := by omega) ; (rw [e, e2]; rfl) | (have e : ((4 * f) % 7).toNat = 1 := by omega) ; (have e2 : f - 7 * ((f + 1) / 7) = 2 := by omega) ; (rw [e, e2]; rfl) | (have e : ((4 * f) % 7).toNat = 2 := by omega) ; (have e2 : f - 7 * ((f + 1) / 7) = 4 := by omega) ; (rw [e, e2]; rfl) | (have e : ((4 * f) % 7).toNat = 3 := by omega) ; (have e2 : f - 7 * ((f + 1) / 7) = -1 := by omega) ; (rw [e, e2]; rfl) | (have e : ((4 * f) % 7).toNat = 4 := by omega) ; (have e2 : f - 7 * ((f + 1) / 7) = 1 := by omega) ; (rw [e, e2]; rfl) | (have e : ((4 * f) % 7).toNat = 5 := by omega) ; (have e2 : f - 7 * ((f + 1) / 7) = 3 := by omega) ; (rw [e, e2]; rfl) | (have e : ((4 * f) % 7).toNat = 6 := by omega) ; (have e2 : f - 7 * ((f + 1) / 7) = 5 := by omega) ; (rw [e, e2]; rfl)
theorem str_len_app (a b : Str) : (a ++ b).length = a.length + b.length := by rw [len_cps, len_cps a, len_cps b, cps_app, List.length_append]
theorem at_nat {α : Type} {xs : List α} {k : Nat} {x : α} (h : xs[k]? = some x) : atI xs (k : Int) = some x := atI_n (by omega) (by simpa using h)
end Kit
namespace MD
open PySem PySem.Spec PyProof.Rows L2
variable {K : PySem.W.Frag} {w w1 w2 : Wd} {X : Cx} {W : WX} {e a b c : Expr} {pos : Pos}
theorem lc_up (cell : Bool) {tg iter : Expr} {own : List (Str × Nat)} {ti : TI'} {gH : TG} {g : TG'} {tt : TT'} {te : TE'} (hi : MI X W tg iter ti) (cg : CompG X.K (own.map (·.2)) gH g) (mt : MonoT tt) (me : MonoE te) :
    ∀ (σ : L2.St) (H : Hp) (Q : VK), up X.K W (tLc' cell ti g tt te (own.map (·.2))) σ H Q → tLc (upI X.K W ti) gH (upT X.K WF tt) (up X.K WF te) (own.map (·.2)) σ H Q :=
  fun σ H Q ⟨w, δ, eH, rh, rs, h⟩ => by
    subst eH
    refine ⟨w, δ, rfl, rh, rs, hi.mono _ _ _ _ _ _ (fun it M1 h1 J w1 e1 l1 rh1 ok1 st p hp => ?_) (fun _ _ x => x) h⟩
    subst e1
    refine ⟨fun i m H => ∃ (w2 : Wd) (r acc : List MD.D) (accv : List V), w2.H = H ∧ Le w1 w2 ∧ RH X.K w2 ∧ p ∈ w2.r ∧ w2.H p = some (.lst accv) ∧ RepL X.K w2 acc accv ∧ (∀ a ∈ w1.r, a ∈ w2.r) ∧ r = it.items.drop i ∧ i ≤ it.items.length ∧ m = r.length ∧
        lcL it g tt te (own.map (·.2)) δ (fun acc M2 => newL cell acc M2 (PV X.K w Q)) r acc w2.M,
      ⟨it.items.length, w1.hold p, it.items, [], [], rfl, Le.hold hp, rh1.hold hp, List.mem_cons_self, upd_same, RepL.nil, fun a ha => List.mem_cons_of_mem _ ha, by simp, Nat.zero_le _, rfl, h1⟩, ?_⟩
    rintro i m H2 ⟨w2, r, acc, accv, rfl, l2, rh2, hp2, hl2, hr2, hs2, er, hi2, rfl, h2⟩
    cases r with
    | nil =>
      have hl : it.items.length ≤ i := by
        have := congrArg List.length er
        simp at this; omega
      have : i = it.items.length := by omega
      subst this
      exact .inl ⟨(ok1 w2 l2 rh2 h2.1).1, lc_end rh rh1 l1 hp rh2 l2 hp2 hl2 hr2 hs2 h2.2⟩
    | cons d r =>
      have hd : it.items[i]? = some d := by
        have : (it.items.drop i)[0]? = some d := by rw [← er]; rfl
        simpa using this
      have hr : r = it.items.drop (i + 1) := by
        have : (it.items.drop i).drop 1 = r := by rw [← er]; rfl
        rw [← this, List.drop_drop]
      have hlt : i < it.items.length := (List.getElem?_eq_some_iff.mp hd).1
      obtain ⟨go, yl⟩ := (ok1 w2 l2 rh2 h2.1).2 i d hd
      refine .inr ⟨go, fun H' => ∃ (w5 : Wd) (acc : List MD.D) (accv : List V), w5.H = H' ∧ Le w1 w5 ∧ RH X.K w5 ∧ p ∈ w5.r ∧ w5.H p = some (.lst accv) ∧ RepL X.K w5 acc accv ∧ (∀ a ∈ w1.r, a ∈ w5.r) ∧
          lcL it g tt te (own.map (·.2)) δ (fun acc M2 => newL cell acc M2 (PV X.K w Q)) r acc w5.M,
        fun H' ⟨w5, acc5, accv5, e5, l5, rh5, hp5, hl5, hr5, hs5, q5⟩ => ⟨r.length, Nat.lt_succ_self _, w5, r, acc5, accv5, e5, l5, rh5, hp5, hl5, hr5, hs5, hr, hlt, rfl, q5⟩, fun x H' hy => ?_⟩
      obtain ⟨w3, e3, eM, l3, rh3, rx⟩ := yl x H' hy
      subst e3
      have lr3 : ∀ a ∈ w2.r, a ∈ w3.r := fun a ha => by
        obtain ⟨s, es, _⟩ := l3.rr
        rw [es]; exact List.mem_append_right _ ha
      have hp3 := lr3 p hp2
      have hl3 : w3.H p = some (.lst accv) := l3.keep p _ hl2 (rh2.r_dead hp2)
      have l13 := l2.trans rh1 rh2 l3
      have h2' := h2.2
      rw [← eM] at h2'
      have rsw : RepS X.K w3 (wipeD δ (own.map (·.2))) (wipe σ (own.map (·.2))) := (((rs.le rh l1).le rh1 l13)).wipe _
      have q := cg.run w3 (wipe σ (own.map (·.2))) (wipeD δ (own.map (·.2))) d x _ rh3 rsw rx h2'
      have key : ∀ σ2 H2, (wipe σ2 (own.map (·.2)) = wipe (wipe σ (own.map (·.2))) (own.map (·.2)) ∧ H2 = w3.H ∧ ∃ δ2, RepS X.K w3 δ2 σ2 ∧ tt δ2 w3.M (fun b M3 =>
          if b = true then te δ2 M3 (fun y M4 => acc.length < sizeLine ∧ lcL it g tt te (own.map (·.2)) δ (fun acc M2 => newL cell acc M2 (PV X.K w Q)) r (acc ++ [y]) M4) (fun _ _ => False) else lcL it g tt te (own.map (·.2)) δ (fun acc M2 => newL cell acc M2 (PV X.K w Q)) r acc M3) (fun _ _ => False)) →
          wipe σ2 (own.map (·.2)) = wipe σ (own.map (·.2)) ∧ upT X.K WF tt σ2 H2 fun b H3 => if b = true then up X.K WF te σ2 H3 fun y H4 => ∃ acc, H4 p = some (.lst acc) ∧ acc.length < sizeLine ∧
            (fun H' => ∃ (w5 : Wd) (acc : List MD.D) (accv : List V), w5.H = H' ∧ Le w1 w5 ∧ RH X.K w5 ∧ p ∈ w5.r ∧ w5.H p = some (.lst accv) ∧ RepL X.K w5 acc accv ∧ (∀ a ∈ w1.r, a ∈ w5.r) ∧
              lcL it g tt te (own.map (·.2)) δ (fun acc M2 => newL cell acc M2 (PV X.K w Q)) r acc w5.M) (upd H4 p (.lst (acc ++ [y]))) else
            (fun H' => ∃ (w5 : Wd) (acc : List MD.D) (accv : List V), w5.H = H' ∧ Le w1 w5 ∧ RH X.K w5 ∧ p ∈ w5.r ∧ w5.H p = some (.lst accv) ∧ RepL X.K w5 acc accv ∧ (∀ a ∈ w1.r, a ∈ w5.r) ∧
              lcL it g tt te (own.map (·.2)) δ (fun acc M2 => newL cell acc M2 (PV X.K w Q)) r acc w5.M) H3 := by
        rintro σ2 _ ⟨ew, rfl, δ2, rs2, q2⟩
        refine ⟨by rw [ew, wipe_wipe], upT_go mt rh3 rs2 q2 (fun _ _ z => z.elim) fun b w4 l4 rh4 rs4 q4 => ?_⟩
        have lr4 : ∀ a ∈ w3.r, a ∈ w4.r := fun a ha => by
          obtain ⟨s, es, _⟩ := l4.rr
          rw [es]; exact List.mem_append_right _ ha
        have hp4 := lr4 p hp3
        have hl4 : w4.H p = some (.lst accv) := l4.keep p _ hl3 (rh3.r_dead hp3)
        have l14 := l13.trans rh1 rh3 l4
        cases b with
        | false =>
          exact ⟨w4, acc, accv, rfl, l14, rh4, hp4, hl4, (RepL.le rh2 l3 _ hr2).le' rh3 l4, fun a ha => lr4 a (lr3 a (hs2 a ha)), q4⟩
        | true =>
          refine up_go me rh4 rs4 q4 (fun _ _ z => z.elim) fun dy vy w6 l6 rh6 rs6 ry ⟨q6, q7⟩ => ?_
          have lr6 : ∀ a ∈ w4.r, a ∈ w6.r := fun a ha => by
            obtain ⟨s, es, _⟩ := l6.rr
            rw [es]; exact List.mem_append_right _ ha
          have hp6 := lr6 p hp4
          have hl6 : w6.H p = some (.lst accv) := l6.keep p _ hl4 (rh4.r_dead hp4)
          have l16 := l14.trans rh1 rh4 l6
          have ra : RepL X.K w6 acc accv := ((RepL.le rh2 l3 _ hr2).le' rh3 l4).le' rh4 l6
          refine ⟨accv, hl6, by rw [ra.length]; exact q6, w6.turn p (accv ++ [vy]), acc ++ [dy], accv ++ [vy], rfl, l16.turn hp, rh6.turn hp6 hl6, hp6, upd_same, RepL.turn hp6 hl6 _ (ra.append (RepL.cons ry RepL.nil)), fun a ha => lr6 a (lr4 a (lr3 a (hs2 a ha))), q7⟩
      exact cg.hm _ _ _ _ _ key q
theorem mono_lc {cell : Bool} {tg iter : Expr} {own : List (Str × Nat)} {ti : TI'} {gH : TG} {g : TG'} {tt : TT'} {te : TE'} (hi : MI X W tg iter ti) (cg : CompG X.K (own.map (·.2)) gH g) (mt : MonoT tt) (me : MonoE te) : MonoE (tLc' cell ti g tt te (own.map (·.2))) :=
  fun δ M Q Q' E E' q x hh => hi.mono _ _ _ _ _ _ (fun it M1 h1 => mono_lcL cg.mono mt me (fun a M h2 => h2.mono q) _ _ _ h1) x hh
theorem ms_setLc (cell : Bool) {i : Nat} {y : Str} {py : Pos} {elt tg iter : Expr} {ifs : List Expr} {scope : Scope} {own : List (Str × Nat)} {spos : Pos} {ti : TI'} {gH : TG} {g : TG'} {tt : TT'} {te : TE'} (hc : X.calm = true) (hN : X.N.Nodup) (hy : X.N[i]? = some y) (hyl : X.env.scope.names.lookup y = some .local)
    (hsw : swapsWith (.ListComp elt [⟨tg, iter, ifs, 0⟩] scope pos) (some (.Name y py)) spos.line X.env = pure true) (hi : MI X W tg iter ti) (ok : BlkOk X.N X.env.scope scope own)
    (hg : ∀ (s : Shared) (H : Hp) (C : Addr) (cl : List (Str × Addr)) (fp : List Addr), PG (X.blk s H scope (compEnvC scope cl C X.env) fp) tg gH) (cg : CompG X.K (own.map (·.2)) gH g)
    (ht : ∀ (s : Shared) (H : Hp) (C : Addr) (cl : List (Str × Addr)) (fp : List Addr), MTs (X.blk s H scope (compEnvC scope cl C X.env) fp) WF ifs tt)
    (he : ∀ (s : Shared) (H : Hp) (C : Addr) (cl : List (Str × Addr)) (fp : List Addr), ME (X.blk s H scope (compEnvC scope cl C X.env) fp) WF elt te) (hs : ∀ x, foldedSetIterable iter X.env x = pure x := by intro _; rfl) :
    MS X W (.Assign [.Name y py] (.ListComp elt [⟨tg, iter, ifs, 0⟩] scope pos) spos) (tAsg' (tLc' cell ti g tt te (own.map (·.2))) (gName' i)) :=
  have mt : MonoT tt := (ht X.s_0 X.H_0 0 [] []).mono
  have me : MonoE te := (he X.s_0 X.H_0 0 [] []).mono
  have ml : MonoE (tLc' cell ti g tt te (own.map (·.2))) := mono_lc hi cg mt me
  ⟨PS.imp (ps_setLc (tt := upT X.K WF tt) (te := up X.K WF te) hc hN hy hyl hsw hi.pi ok hg (fun s H C cl fp => (ht s H C cl fp).pts) (fun s H C cl fp => (he s H C cl fp).pe) hs) fun D σ H ⟨w, δ, eH, rh, rs, h⟩ => by
    subst eH
    refine lc_up cell hi cg mt me σ w.H _ ?_
    refine up_go ml rh rs h (ex_of rs rh (Ends'.le.refl _)) fun d v w1 l1 rh1 rs1 rv h1 => ?_
    exact h1 _ w1 rfl l1 rh1 (rs1.set i rv), mono_asg ml fun d δ M Q Q' q h => q _ _ h⟩
end MD
namespace MD
open PySem PySem.Spec PyProof.Rows L2
variable {K : PySem.W.Frag} {w w1 w2 : Wd} {X : Cx} {W : WX} {e a b c : Expr} {pos : Pos}
/-! sorted(xs), xs a list of pairs of whole numbers -/
def lexLe (p q : Int × Int) : Prop := p.1 < q.1 ∨ (p.1 = q.1 ∧ p.2 ≤ q.2)
def rSortQ (K : PySem.W.Frag) : List V → Hp → VK → Prop := fun vs H Q => ∃ (a : Addr) (zs : List (V × (Int × Int))), vs = [V.ref a] ∧ SqL K H a (zs.map (·.1)) ∧ (∀ z ∈ zs, ∃ t, z.1 = V.ref t ∧ SqT K H t [.int z.2.1, .int z.2.2]) ∧
  ∀ (zs' : List (V × (Int × Int))) p, zs'.Perm zs → (zs'.map (·.2)).Pairwise lexLe → H p = none → Q (.ref p) (upd H p (.lst (zs'.map (·.1))))
open Classical in
noncomputable def keyOf (h : Heap) (v : Value) : Int × Int := if x : ∃ p : Int × Int, Srt.IsPair h v p.1 p.2 then Classical.choose x else (0, 0)
theorem isPair_inj {h : Heap} {v : Value} {p q : Int × Int} (a : Srt.IsPair h v p.1 p.2) (b : Srt.IsPair h v q.1 q.2) : p = q := by
  obtain ⟨p1, p2⟩ := p
  obtain ⟨q1, q2⟩ := q
  obtain ⟨x, o, t, u, n, rfl, ho, hc, hd⟩ := a
  obtain ⟨x', o', t', u', n', e, ho', hc', hd'⟩ := b
  cases e
  rw [ho] at ho'; cases ho'
  rw [hd] at hd'
  cases hd'
  rfl
theorem keyOf_eq {h : Heap} {v : Value} {p : Int × Int} (a : Srt.IsPair h v p.1 p.2) : keyOf h v = p := by
  unfold keyOf
  have x : ∃ p : Int × Int, Srt.IsPair h v p.1 p.2 := ⟨p, a⟩
  rw [dif_pos x]
  exact isPair_inj (Classical.choose_spec x) a
theorem cr_sortQ : CallR X (.builtin "sorted") (rSortQ X.K) := by
  intro pins s σ H vs us Q I r h
  obtain ⟨a, zs, rfl, hs, hx, q⟩ := h
  obtain ⟨its, rv, hl, hz⟩ := I.list hs
  obtain ⟨u, rfl, ru⟩ := vals1 r
  obtain rfl : u = Value.ref a := ru
  obtain ⟨e1, e2⟩ := refs_back rv fun x m => by
    obtain ⟨z, hz, rfl⟩ := List.mem_map.mp m
    obtain ⟨t, e, _⟩ := hx z hz
    exact ⟨t, e⟩
  have pr : ∀ z ∈ zs, ∀ v, backV v = z.1 → (∃ a, v = Value.ref a) → Srt.IsPair s.heap v z.2.1 z.2.2 := by
    rintro z hz v e ⟨t, rfl⟩
    obtain ⟨t', e', ht⟩ := hx z hz
    rw [e'] at e
    cases e
    obtain ⟨its2, r2, ⟨o, ho, hc, n, hd⟩, _⟩ := I.tuple ht
    obtain ⟨u1, u2, rfl, ri, rj⟩ := vals2 r2
    obtain ⟨t1, rfl⟩ := ri
    obtain ⟨t2, rfl⟩ := rj
    exact ⟨t, o, t1, t2, n, rfl, ho, hc, hd⟩
  have hzs : zs = its.map fun v => (backV v, keyOf s.heap v) := by
    have : ∀ (zs : List (V × (Int × Int))) (its : List Value), zs.map (·.1) = its.map backV → (∀ u ∈ its, ∃ a, u = Value.ref a) → (∀ z ∈ zs, ∀ v, backV v = z.1 → (∃ a, v = Value.ref a) → Srt.IsPair s.heap v z.2.1 z.2.2) → zs = its.map fun v => (backV v, keyOf s.heap v) := by
      intro zs
      induction zs with
      | nil =>
        intro its e _ _
        cases its with
        | nil => rfl
        | cons v r => cases e
      | cons z r ih =>
        intro its e h2 h3
        cases its with
        | nil => cases e
        | cons v its =>
          rw [List.map_cons, List.map_cons] at e
          injection e with e1 e2
          rw [List.map_cons, ← ih its e2 (fun u hu => h2 u (List.mem_cons_of_mem _ hu)) (fun z hz => h3 z (List.mem_cons_of_mem _ hz))]
          have := keyOf_eq (h3 z List.mem_cons_self v e1.symm (h2 v List.mem_cons_self))
          rw [this, ← e1]
    exact this zs its e1 e2 pr
  refine SrtO.sorted_pairsO (k := fun u => keyOf s.heap u) hl.isList (by rw [← rv.length]; exact hz) (fun v hv => ?_) fun h' d out h1 h2 kp hd hn => ?_
  · have hm : (backV v, keyOf s.heap v) ∈ zs := by rw [hzs]; exact List.mem_map.mpr ⟨v, hv, rfl⟩
    exact pr _ hm v rfl (e2 v hv)
  · have h3 : ∀ u ∈ out, ∃ a, u = Value.ref a := fun u hu => e2 u (h2.perm.mem_iff.mp hu)
    obtain ⟨n, hn⟩ := hn
    have hp : (out.map fun v => (backV v, keyOf s.heap v)).Perm zs := by rw [hzs]; exact h2.perm.map _
    refine ⟨.ref d, upd H d (.lst (out.map backV)), I.laid (t' := s.toks) kp hd ⟨?_, out, n, vals_back h3, hn⟩, rfl, ?_⟩
    · have := hp.length_eq
      rw [List.length_map] at this ⊢
      rw [this]
      rw [List.length_map] at hz
      exact hz
    · have := q (out.map fun v => (backV v, keyOf s.heap v)) d hp ?_ (I.hok.fresh hd)
      · rw [List.map_map] at this
        exact this
      · rw [List.map_map]
        unfold SrtO.Srtd at h1
        rw [List.pairwise_map]
        exact h1.imp fun {x y} hxy => by
          have := SrtO.lexB_no.mp hxy
          unfold lexLe
          show (keyOf s.heap x).1 < (keyOf s.heap y).1 ∨ ((keyOf s.heap x).1 = (keyOf s.heap y).1 ∧ (keyOf s.heap x).2 ≤ (keyOf s.heap y).2)
          omega
def prD (p : Int × Int) : D := .tup [.int p.1, .int p.2]
def cSortP (cell : Bool) : RA' := fun ds M Q => ∃ d es ps, ds = [d] ∧ lstOf d M = some es ∧ es = ps.map prD ∧ ∀ ps' : List (Int × Int), ps'.Perm ps → ps'.Pairwise lexLe → newL cell (ps'.map prD) M Q
theorem repL_pairs : ∀ {ps : List (Int × Int)} {xs : List V}, RepL K w (ps.map prD) xs → ∃ zs : List (V × (Int × Int)), zs.map (·.1) = xs ∧ zs.map (·.2) = ps ∧ (∀ z ∈ zs, Rep K w (prD z.2) z.1)
  | [], xs, h => by have h : xs = [] := h; subst h; exact ⟨[], rfl, rfl, nofun⟩
  | p :: ps, xs, h => by
    obtain ⟨x, r, rfl, hx, hr⟩ := h
    obtain ⟨zs, e1, e2, h3⟩ := repL_pairs hr
    refine ⟨(x, p) :: zs, by rw [List.map_cons, e1], by rw [List.map_cons, e2], fun z hz => ?_⟩
    rcases List.mem_cons.mp hz with rfl | hz
    · exact hx
    · exact h3 z hz
theorem repL_of_pairs : ∀ {zs : List (V × (Int × Int))}, (∀ z ∈ zs, Rep K w (prD z.2) z.1) → RepL K w ((zs.map (·.2)).map prD) (zs.map (·.1))
  | [], _ => rfl
  | z :: zs, h => ⟨_, _, rfl, h z List.mem_cons_self, repL_of_pairs fun y hy => h y (List.mem_cons_of_mem _ hy)⟩
theorem la_sortP {cell : Bool} : LiftA K (rSortQ K) (cSortP cell) := by
  intro w xs ds Q rh r ⟨d, es, ps, e, e1, e2, q⟩
  subst e e2
  obtain ⟨v, rfl, rv⟩ := rep1 r
  obtain ⟨a, ys, rfl, hy, hr⟩ := lstOf_rep rh rv e1
  obtain ⟨zs, f1, f2, h3⟩ := repL_pairs hr
  subst f1 f2
  refine ⟨a, zs, rfl, SqL.of hy, fun z hz => ?_, fun zs' p hp hs hn => ?_⟩
  · obtain ⟨t, us, e, ht, hu⟩ := h3 z hz
    refine ⟨t, e, ?_⟩
    obtain ⟨x1, r1, rfl, hx1, hr1⟩ := hu
    obtain ⟨x2, r2, rfl, hx2, hr2⟩ := hr1
    have hr2 : r2 = [] := hr2
    rw [rep_int hx1, rep_int hx2, hr2] at ht
    exact ht
  · have q' := q (zs'.map (·.2)) (hp.map _) hs
    exact newL.lift rh (repL_of_pairs fun z hz => h3 z (hp.mem_iff.mp hz)) q' p hn
theorem mr_sortP {cell : Bool} : MonoR (cSortP cell) := fun ds M Q Q' q ⟨d, es, ps, e, e1, e2, h⟩ => ⟨d, es, ps, e, e1, e2, fun ps' a b => (h ps' a b).mono q⟩
@[simp] theorem u_sortP {cell : Bool} {ds : List D} {M : MH} {Q : QE} : cSortP cell ds M Q ↔ ∃ d es ps, ds = [d] ∧ lstOf d M = some es ∧ es = ps.map prD ∧ ∀ ps' : List (Int × Int), ps'.Perm ps → ps'.Pairwise lexLe → newL cell (ps'.map prD) M Q := Iff.rfl
theorem lex_uniq : ∀ {l m : List (Int × Int)}, l.Perm m → l.Pairwise lexLe → m.Pairwise lexLe → l = m
  | [], m, h, _, _ => (List.nil_perm.mp h).symm
  | x :: l, [], h, _, _ => nomatch h.length_eq
  | x :: l, y :: m, h, hl, hm => by
    have e : x = y := by
      have h1 : x = y ∨ x ∈ m := List.mem_cons.mp (h.mem_iff.mp List.mem_cons_self)
      have h2 : y = x ∨ y ∈ l := List.mem_cons.mp (h.mem_iff.mpr List.mem_cons_self)
      rcases h1 with h1 | h1
      · exact h1
      rcases h2 with h2 | h2
      · exact h2.symm
      have a := (List.pairwise_cons.mp hm).1 x h1
      have b := (List.pairwise_cons.mp hl).1 y h2
      unfold lexLe at a b
      refine Prod.ext ?_ ?_ <;> omega
    subst e
    rw [lex_uniq h.cons_inv (List.pairwise_cons.mp hl).2 (List.pairwise_cons.mp hm).2]
end MD
namespace MD
open PySem PySem.Spec PyProof.Rows L2
variable {K : PySem.W.Frag} {w w1 w2 : Wd} {X : Cx} {W : WX} {e a b c : Expr} {pos : Pos}
/-! repr of nested data, where no other repr is under way -/
def rRepr (K : PySem.W.Frag) : List V → Hp → VK → Prop := fun vs H Q => ∃ a d, vs = [V.ref a] ∧ Dp K H (V.ref a) d ∧ d.showable = true ∧ d.hasDict = false ∧ d.depth ≤ 64 ∧ d.shown.length ≤ sizeLine ∧ Q (.str d.shown) H
theorem cr_repr (hg : X.A.guards = some []) (hu : X.A.units + 66 < cLine) : CallR X (.builtin "repr") (rRepr X.K) := by
  intro pins s σ H vs us Q I r h
  obtain ⟨a, d, rfl, hd, hs, hn, h64, hz, q⟩ := h
  obtain ⟨u, rfl, ru⟩ := vals1 r
  obtain rfl : u = Value.ref a := ru
  obtain ⟨as, rd⟩ := Dp.reads I d (.ref a) (.ref a) hd rfl
  refine repr_of_reads' rd hs (fun z => by rw [hn] at z; cases z) hg (by omega) (fun _ _ z => z) (fun h' u tk hk => ?_) hz
  exact ⟨.str d.shown, H, I.kept hk, ⟨_, rfl⟩, q⟩
def cRepr : RA' := fun ds M Q => ∃ d, ds = [d] ∧ d.flat = true ∧ (∃ es, d = .tup es ∨ d = .lst es) ∧ d.py.showable = true ∧ d.py.hasDict = false ∧ d.py.depth ≤ 64 ∧ d.py.shown.length ≤ sizeLine ∧ Q (.str d.py.shown) M
theorem la_repr : LiftA K (rRepr K) cRepr := by
  intro w xs ds Q rh r ⟨d, e, hf, ht, h1, h2, h3, h4, q⟩
  subst e
  obtain ⟨v, rfl, rv⟩ := rep1 r
  have hp := Rep.dp d hf rv
  obtain ⟨es, rfl | rfl⟩ := ht
  · obtain ⟨a, ys, rfl, _⟩ := rv
    exact ⟨a, _, rfl, hp, h1, h2, h3, h4, PV.here rh q rep_mk_str⟩
  · obtain ⟨a, ys, rfl, _⟩ := rv
    exact ⟨a, _, rfl, hp, h1, h2, h3, h4, PV.here rh q rep_mk_str⟩
theorem mr_repr : MonoR cRepr := fun ds M Q Q' q ⟨d, e, hf, ht, h1, h2, h3, h4, h⟩ => ⟨d, e, hf, ht, h1, h2, h3, h4, q _ _ h⟩
end MD
namespace MD
open PySem PySem.Spec PyProof.Rows L2
/-! a def's promise where no repr is under way; for the def `law` alone -/
structure FnG (P : Program) (wd : World) (K : PySem.W.Frag) (mg : Str → Option Value) (base : Heap) (k : Nat) (f : Addr) (fd : FuncData) (ps : List Str) (sp : Sp) : Prop where
  run : ∀ (A : Around) (outer : List Env) (s : Shared) (H : Hp) (args : Args) (us : List Value) (vs : List V) (Q : VK) (E : XK),
    A.guards = some [] → Room k A → Env0 P wd K mg base A outer s H → BindsTo s fd args (ps.zip us) → Vals vs us → sp vs H Q E →
      codeAny (model P wd) A (.call (.ref f) args) (CR (L2.CX P wd) outer P wd H s Q E) s
section
variable {P : Program} {wd : World} {K : PySem.W.Frag} {mg : Str → Option Value} {base : Heap}
theorem fnG_of {k : Nat} {f : Addr} {x qual : Str} {st : Stmt} {fd : FuncData} {N ps : List Str} {sp : Sp} (F : Fun K x qual st f fd) (S : FnScope N ps (defScope st)) (len : ∀ vs H Q E, sp vs H Q E → vs.length = ps.length)
    (hbody : ∀ (cdv : Value) (A : Around) (outer : List Env) (s : Shared) (H : Hp) (vs : List V) (Q : VK) (E : XK), A.guards = some [] →
      Room k (A.deeper (envOfC qual (defScope st) s.heap.objs.size f cdv)) → sp vs H Q E →
      ∃ t, PSs (cxOf (L2.CX P wd) P wd K mg base N qual (defScope st) f cdv A outer s H E) (defBody st) t ∧ t { nx := fun _ H' => Q .non H', rt := Q } (start N vs) H) :
    FnG P wd K mg base (k + 1) f fd ps sp := by
  obtain ⟨oc, od, kV, doc, pm, an, cdv, ct, osl, rfl, lk, hcd⟩ := F.ex
  refine ⟨fun A outer s H args us vs Q E gd room en bind rel promise => ?_⟩
  have ln := len _ _ _ _ promise
  have inK : K.In s.heap := en.mod.kin.keeps fun b o e => (en.bs b o e).1
  have noLim : s.heap.NoLimit := en.mod.nolimit.keeps fun b o e => (en.bs b o e).1
  have kinds : ∀ y ∈ ps.zip us, (defScope st).names.lookup y.1 = some .local ∨
      ((defScope st).names.lookup y.1 = some .cell ∧ ((cellsFrom (s.heap.objs.size + 1) (defScope st).names []).lookup y.1).isSome = true) := by
    rintro ⟨n, v⟩ hy
    rcases S.par n (List.of_mem_zip hy).1 with z | z
    · exact Or.inl z
    · exact Or.inr ⟨z, PySem.W.cellsFrom_some _ _ _ (Or.inl z)⟩
  refine codeAny_call_function room.depth (inK _ _ lk) rfl S.co S.gen rfl (PySem.W.codeRec_of inK hcd) (bind _ _ _ _ ?_)
  refine wpAny_newFunctionEnv_cells S.kind kinds fun env ee s1 made => ?_
  subst ee
  refine ⟨noLim.keeps made.toInCall.keep, codeAny_func ?_⟩
  obtain ⟨t, body, q0⟩ := hbody cdv A outer s H vs Q E gd (room.deeper _) promise
  have J : Inv (cxOf (L2.CX P wd) P wd K mg base N qual (defScope st) f cdv A outer s H E) [] (start N vs) H s1 := inv_start S room.hd en ln rel made
  refine wpAny_mono (body.run [] s1 (start N vs) H _ J q0) (fun fl s' out => ?_) fun _ _ out => out
  cases fl with
  | ret u =>
    obtain ⟨v, σ', H', J', rv, q⟩ := out
    exact ⟨v, H', J'.os, J'.bare, J'.base, J'.hok, rv, q⟩
  | next =>
    obtain ⟨σ', H', J', q⟩ := out
    exact ⟨V.non, H', J'.os, J'.bare, J'.base, J'.hok, rfl, q⟩
  | brk => exact (out.elim fun _ z => z.elim fun _ z => z.elim fun _ z => False.elim z)
  | cont => exact (out.elim fun _ z => z.elim fun _ z => z.elim fun _ z => False.elim z)
theorem okMG {x qual : Str} {st : Stmt} {f : Addr} {fd : FuncData} {N ps : List Str} {k : Nat} {sp : SpD} (F : Fun K x qual st f fd) (S : FnScope N ps (defScope st)) (len : ∀ ds M Q E, sp ds M Q E → ds.length = ps.length)
    (hbody : ∀ (cdv : Value) (A : Around) (outer : List Env) (s : Shared) (H : Hp) (E : XK), A.guards = some [] → Room k (A.deeper (envOfC qual (defScope st) s.heap.objs.size f cdv)) →
      ∃ ts, MSs (cxOf (L2.CX P wd) P wd K mg base N qual (defScope st) f cdv A outer s H E) (fun c d _ H => E c d H) (defBody st) ts ∧
        ∀ ds M Q' E', WFM M → D.belL M.length ds = true → sp ds M Q' E' → ts (retE M.length Q' E') (startD N ds) M) : FnG P wd K mg base (k + 1) f fd ps (upP K sp) := by
  refine fnG_of F S (fun vs H Q E ⟨w, ds, _, _, hr, h⟩ => by rw [hr.length]; exact len _ _ _ _ h) fun cdv A outer s H vs Q E gd hr h => ?_
  obtain ⟨w, ds, rfl, rh, hd, h⟩ := h
  obtain ⟨ts, hs, q⟩ := hbody cdv A outer s w.H E gd hr
  refine ⟨_, hs.ps, w, startD N ds, rfl, rh, hd.start N, hs.mono _ _ _ _ ?_ (q ds w.M _ _ rh.wfm (RepL.below rh ds hd) h)⟩
  exact ⟨fun δ M h1 σ w1 e l r1 s1 => PV.pop rh h1 .non w1 e l r1 (by simp [Rep]), fun d M h1 => PV.pop rh h1, fun _ _ h => h.elim, fun _ _ h => h.elim, fun x δ M h1 cls dx σ w1 e l r1 s1 rx => PX.pop rh h1 cls dx w1 e l r1 rx⟩
end
end MD
namespace MD
open PySem PySem.Spec PyProof.Rows L2
/-! the end for a def `law` that calls repr -/
section
variable {P : Program} {wd : World} {K : PySem.W.Frag} {mg mb : Str → Option Value} {k : Nat} {fa a : Addr} {fd : FuncData} {x : Str} {sp : Sp} {s₁ : Shared} {vs : List Value} {ns : List Int}
/-- the object of the script -/
abbrev scrO (vs : List Value) : Obj := { cls := .type "list", data := .seq vs.toArray }
theorem runG (inK : K.In s₁.heap) (glob : s₁.heap.Ns mainGlobals mg) (blt : s₁.heap.Ns builtinsNs mb) (bltB : ∀ y : Str, y ≠ "__name__" → mb y = bootBuiltins y) (noLim : s₁.heap.NoLimit) (gens : s₁.gens = #[])
    (atA : s₁.heap.get? a = some (scrO vs)) (room : Room k callerA)
    (F : ∀ base : Heap, K.In base → base.Ns mainGlobals mg → FnG P wd K mg base k fa fd [x] sp) (bind : ∀ (s : Shared) (u : Value), BindsTo s fd ⟨[u], []⟩ [(x, u)])
    (start : ∀ H : Hp, Only H → SqL K H a (ns.map V.int) → sp [.ref a] H (fun v _ => v = .bl true) fun _ _ _ => False)
    {H : Hp} (only : Only H) (sq : SqL K H a (ns.map V.int)) (ok : HOk P wd H s₁.heap) (just : ∀ b, H b ≠ none → b = a) (notK : H a ≠ none → K.lookup a = none) :
    codeAny (model P wd) callerA (.call (.ref fa) ⟨[.ref a], []⟩)
      (fun r s' => r = .ok (.ret (.bool true)) ∧ OldK s₁.heap s'.heap ∧ s'.os = s₁.os ∧ AllBare s'.gens) s₁ := by
  have keepB : ∀ {b : Addr} {o : Obj}, s₁.heap.get? b = some o → H b = none → (hidT s₁.heap H).get? b = some o := fun e n => hidT_get e n
  have plain : ∀ {b : Addr} {o : Obj}, s₁.heap.get? b = some o → o ≠ scrO vs → H b = none := by
    intro b o e d
    cases hb : H b with
    | none => rfl
    | some u =>
      have z : b = a := just b (by rw [hb]; exact nofun)
      rw [z, atA] at e
      exact absurd (Option.some.inj e).symm d
  have ns2 : ∀ {b : Addr} {m : Str → Option Value}, s₁.heap.Ns b m → (hidT s₁.heap H).Ns b m := by
    rintro b m ⟨o, es, ep, e, d, r⟩
    refine ⟨o, es, ep, keepB e (plain e fun z => ?_), d, r⟩
    rw [z] at d
    cases d
  have inK2 : K.In (hidT s₁.heap H) := by
    intro b o e
    refine keepB (inK b o e) ?_
    cases hb : H b with
    | none => rfl
    | some u =>
      have z : b = a := just b (by rw [hb]; exact nofun)
      rw [z] at e hb
      rw [notK (by rw [hb]; exact nofun)] at e
      cases e
  obtain ⟨mc, l1, l2⟩ := noLim
  have md : Mod K mg (hidT s₁.heap H) := ⟨inK2, ns2 glob, ⟨mb, ns2 blt, bltB⟩, mc, ns2 l1, l2⟩
  have en : Env0 P wd K mg (hidT s₁.heap H) callerA [] s₁ H :=
    ⟨rfl, md, fun b o e => of_hidT e, Nat.le_of_eq (hidT_size _ _), trivial, fun b hb => absurd (show b ∈ ([] : List Addr) from hb) (by simp), ok, .of_eq gens⟩
  have go := (F _ inK2 (ns2 glob)).run callerA [] s₁ H ⟨[.ref a], []⟩ [.ref a] [.ref a] _ _ rfl room en (bind s₁ (.ref a)) (.cons rfl .nil) (start H only sq)
  refine codeAny_mono go fun r s' out => ?_
  cases r with
  | error e => exact (cx_none (show L2.CX P wd [] H s₁ (fun _ _ _ => False) e s' from out)).elim
  | ok fl =>
    cases fl with
    | ret u =>
      obtain ⟨v, H', os, bare, un, ok', rel, q⟩ := out
      have q : v = .bl true := q
      subst q
      have eu : u = Value.bool true := rel
      subst eu
      refine ⟨rfl, OldK.of_keep fun b o e => ?_, os, bare⟩
      cases hb : H b with
      | none => exact un.keep b o e hb (fun z => absurd (show b ∈ ([] : List Addr) from z) (by simp)) (by simp)
      | some u =>
        rcases only b with z | ⟨ob, xs, z⟩
        · rw [hb] at z; cases z
        · obtain ⟨e1, _⟩ := ok b _ z
          obtain ⟨e2, _⟩ := ok' b _ (un.frzs b ob _ z)
          rw [e1] at e
          cases e
          exact e2
    | next => exact False.elim out
    | brk => exact False.elim out
    | cont => exact False.elim out
theorem callG (inK : K.In s₁.heap) (glob : s₁.heap.Ns mainGlobals mg) (blt : s₁.heap.Ns builtinsNs mb) (bltB : ∀ y : Str, y ≠ "__name__" → mb y = bootBuiltins y) (noLim : s₁.heap.NoLimit) (gens : s₁.gens = #[])
    (atA : s₁.heap.get? a = some (scrO vs)) (whole : IntsAre vs ns) (short : ns.length ≤ sizeLine) (room : Room k callerA)
    (F : ∀ base : Heap, K.In base → base.Ns mainGlobals mg → FnG P wd K mg base k fa fd [x] sp) (bind : ∀ (s : Shared) (u : Value), BindsTo s fd ⟨[u], []⟩ [(x, u)])
    (start : ∀ H : Hp, Only H → SqL K H a (ns.map V.int) → sp [.ref a] H (fun v _ => v = .bl true) fun _ _ _ => False) :
    codeAny (model P wd) callerA (.call (.ref fa) ⟨[.ref a], []⟩)
      (fun r s' => r = .ok (.ret (.bool true)) ∧ OldK s₁.heap s'.heap ∧ s'.os = s₁.os ∧ AllBare s'.gens) s₁ := by
  have rel := vals_ints whole
  have len := whole.length
  cases own : K.lookup a with
  | some o =>
    have e := inK a o own
    rw [atA] at e
    cases e
    exact runG (ns := ns) (H := fun _ => none) inK glob blt bltB noLim gens atA room F bind start (fun _ => Or.inl rfl)
      (Or.inr ⟨_, vs.toArray, _, own, rfl, rfl, rfl, by rw [List.size_toArray, len]; exact short, by simpa using rel⟩) (fun b u z => nomatch (show (none : Option HO) = some u from z)) (fun b z => absurd rfl z) (fun z => absurd rfl z)
  | none =>
    have at1 : ∀ b, (if b = a then some (HO.frz (scrO vs) (.lst (ns.map V.int))) else none) = (if b = a then some (HO.frz (scrO vs) (.lst (ns.map V.int))) else none) := fun _ => rfl
    refine runG (ns := ns) (H := fun b => if b = a then some (.frz (scrO vs) (.lst (ns.map V.int))) else none) inK glob blt bltB noLim gens atA room F bind start (fun b => ?_)
      (Or.inl (Or.inr ⟨scrO vs, if_pos rfl⟩)) (fun b u z => ?_) (fun b z => ?_) (fun _ => own)
    · by_cases hb : b = a
      · exact Or.inr ⟨_, _, if_pos hb⟩
      · exact Or.inl (if_neg hb)
    · by_cases hb : b = a
      · have z2 := (if_pos hb).symm.trans z
        cases z2
        rw [hb]
        exact ⟨atA, by rw [List.length_map]; exact short, vs, _, rel, atA⟩
      · have z2 := (if_neg hb).symm.trans z
        cases z2
    · by_cases hb : b = a
      · exact hb
      · exact absurd (if_neg hb) z
end
theorem walkG {l : PySem.W.OpenLaw} {n k : Nat} {q : Program} {loose : List Str} {XP : (Str → Option Value) → Heap → Prop} {YP : World → Heap → Prop} {d : DefRec} {K : Params → PySem.W.Frag} {sp : World → Sp} {x : Str}
    (most : l.most = some n) (small : n ≤ sizeLine) (noDef : d.params.defaults = []) (room : Room k callerA)
    (inK : ∀ (w : World) (h : Heap), YP w h → (K w.params).In h)
    (F : ∀ (w : World) (mg : Str → Option Value) (fa : Addr) (h : Heap), (K w.params).In h → h.Ns mainGlobals mg → mg d.name = some (.ref fa) →
      ∃ fd : FuncData, (∀ (s : Shared) (u : Value), BindsTo s fd ⟨[u], []⟩ [(x, u)]) ∧
        ∀ base : Heap, (K w.params).In base → base.Ns mainGlobals mg → FnG l.prog w (K w.params) mg base k fa fd [x] (sp w))
    (start : ∀ (w : World) (H : Hp) (a : Addr) (ns : List Int), ns.length ≤ n → (∀ z ∈ ns, Builtin.Int.intBits z ≤ 1048576) → Only H → SqL (K w.params) H a (ns.map V.int) →
      sp w [.ref a] H (fun v _ => v = .bl true) fun _ _ _ => False) :
    PySem.W.WalkO q loose XP YP l.row.toRowW d [] (fun f vs => PySem.call f vs) := by
  refine Att.attach_callB most noDef fun w s₀ s₁ mg mb fa o pm cd doc a vs ns G Y ho hd hcd hmg hobj hints hlen hbits hg => ?_
  have kx := inK w _ Y
  obtain ⟨fd, bind, hF⟩ := F w mg fa _ kx G.T.g hmg
  exact callG kx G.T.g G.T.b G.T.builtins G.T.nolimit hg hobj hints (Nat.le_trans hlen small) room hF bind (fun H hO hS => start w H a ns hlen hbits hO hS)
end MD
namespace MD
open PySem PySem.Spec PyProof.Rows L2
variable {K : PySem.W.Frag}
theorem room66 {k : Nat} {A : Around} (r : Room k A) : A.units + 66 < cLine := by have := r.un; omega
theorem la_gcd : LiftA K rGcd (cI2 fun i j => .int ((Nat.gcd i.natAbs j.natAbs : Nat) : Int)) := by
  intro w xs ds Q rh r ⟨i, j, e, q⟩
  subst e
  obtain ⟨x, r1, rfl, rx, h⟩ := r
  obtain ⟨y, r2, rfl, ry, h2⟩ := h
  have h2 : r2 = [] := h2
  subst h2
  exact ⟨i, j, by rw [rep_int rx, rep_int ry], PV.here rh q rep_mk_int⟩
end MD
namespace MD
open PySem PySem.Spec PyProof.Rows L2
variable {K : PySem.W.Frag} {w w1 w2 : Wd} {X : Cx} {W : WX} {e a b c : Expr} {pos : Pos}
/-! a call of a def whose promise asks that no repr is under way -/
theorem runFnG {k : Nat} {f : Addr} {fd : FuncData} {ps : List Str} {sp : Sp} {E : L2.St → XK} {pins : List (Addr × Obj)} {σ : L2.St} {H : Hp} {s : Shared} {Q : VK} {us : List Value} {vs : List V}
    (F : FnG X.prog X.w X.K X.mg X.base k f fd ps sp) (len : ∀ vs H Q E, sp vs H Q E → vs.length = ps.length) (gd : X.A.guards = some []) (room : Room k X.A) (bind : Binds X.K fd ps []) (pass : PassesAt (L2.CX X.prog X.w) X σ (E σ))
    (I : Inv X pins σ H s) (rel : Vals vs us) (h : sp vs H Q (E σ)) : wpAny (model X.prog X.w) X.A (call (.ref f) us) (EP X pins σ Q) X.xe s := by
  have same : us.length = ps.length := by rw [← rel.length]; exact len _ _ _ _ h
  have bound := bind s us I.kIn (by rw [List.append_nil]; exact same)
  rw [List.append_nil] at bound
  have go := F.run X.A X.stack s H ⟨us, []⟩ us vs Q (E σ) gd room I.env0 bound rel h
  refine wpAny_call (codeAny_mono go fun r s' out => ?_)
  cases r with
  | error x => exact pass pins H s x s' I out
  | ok fl =>
    cases fl with
    | ret u => exact I.after out
    | next => exact False.elim out
    | brk => exact False.elim out
    | cont => exact False.elim out
theorem me_callG {x : Str} {p : Pos} {es : List Expr} {k : Nat} {f : Addr} {fd : FuncData} {ps : List Str} {sp : SpD} {t : TA'} (F : FnG X.prog X.w X.K X.mg X.base k f fd ps (upP X.K sp)) (len : ∀ ds M Q E, sp ds M Q E → ds.length = ps.length) (gd : X.A.guards = some []) (ms : MonoP sp) (hr : Room k X.A) (tk : Takes X W)
    (hg : Gl X x) (hm : X.mg x = some (.ref f)) (hk : PySem.W.keepIn X.K (.ref f) = true) (hb : Binds X.K fd ps []) (ha : MA X W (e :: es) t)
    (hdb : (x == ("__debug__" : Str)) = false := by decide) (he : starEach (e :: es) X.env = (false, eval e X.env) :: starEach es X.env := by rfl) (hpl : (backTo pos (starEach es X.env)).any (·.1) = false := by rfl) :
    ME X W (.Call (.Name x p) (e :: es) [] pos) (tCall' sp t) := by
  have slen : ∀ vs H Q E, upP X.K sp vs H Q E → vs.length = ps.length := fun vs H Q E ⟨w, ds, _, _, hr, h⟩ => by rw [hr.length]; exact len _ _ _ _ h
  have core : PE X (.Call (.Name x p) (e :: es) [] pos) (tCallSD (upP X.K sp) [] (fun σ c d H => W c d σ H) (upA X.K W t)) := by
    refine ⟨fun pins s σ H Q I h => ?_⟩
    refine wpAny_Call_Name_kw (ld_glob I hg hm ?_ hdb)
    refine PySem.W.callWith_K (h₀ := X.base) I.ok.mod.kin hk (thn (ha.pa.run pos pins s σ H _ I h) fun us s1 ⟨vs, H1, I1, rel, q⟩ => ⟨I1.kIn, ?_⟩) he hpl
    have q2 : upP X.K sp vs H1 Q (fun c d H => W c d σ H) := by
      have q3 : upP X.K sp (vs ++ []) H1 Q (fun c d H => W c d σ H) := q
      rwa [List.append_nil] at q3
    exact runFnG (E := fun σ c d H => W c d σ H) F slen gd hr hb (fun pins H s e s' I c => tk e s' (XE.of_call I (fun _ _ _ h => h) c)) I1 rel q2
  exact ⟨PE.imp core fun σ H Q ⟨w, δ, e, rh, rs, h1⟩ => by
    subst e
    refine upA_go ha.mono rh rs h1 (fun _ _ x => x) fun d v w1 l1 rh1 rs1 rv h2 => ?_
    exact ⟨w1, d, rfl, rh1, by rw [List.append_nil]; exact rv, ms _ _ _ _ _ _ (fun d M q => q.le rh rh1 l1) (fun x M q => q.le rh rh1 l1) h2⟩,
   fun δ M Q Q' E E' q x hh => ha.mono _ _ _ _ _ _ (fun d M1 h1 => ms _ _ _ _ _ _ q x h1) x hh⟩
end MD
namespace MD
open PySem PySem.Spec PyProof.Rows L2
variable {K : PySem.W.Frag} {w w1 w2 : Wd} {X : Cx} {W : WX} {e a b c : Expr} {pos : Pos}
/-! enumerate(a list that nobody writes) -/
def enumD (ds : List D) : List D := ds.mapIdx fun i d => .tup [.int (i : Int), d]
theorem enumD_at {ds : List D} {i : Nat} {x : D} (h : (enumD ds)[i]? = some x) : ∃ d, ds[i]? = some d ∧ x = .tup [.int (i : Int), d] := by
  unfold enumD at h
  rw [List.getElem?_mapIdx] at h
  obtain ⟨d, hd, rfl⟩ := Option.map_eq_some_iff.mp h
  exact ⟨d, hd, rfl⟩
theorem enumD_length (ds : List D) : (enumD ds).length = ds.length := by simp [enumD]
theorem itOk_enum {p : Addr} {ds : List D} {w0 : Wd} (hl : ∀ w2, Le w0 w2 → RH K w2 → ∃ xs, SqL K w2.H p xs ∧ RepL K w2 ds xs) :
    ItOk K ⟨enumD ds, none⟩ (Ite K p) w0 := by
  intro w2 l r st
  obtain ⟨xs, hs, hr⟩ := hl w2 l r
  refine ⟨⟨xs, hs, by rw [enumD_length, hr.length]; exact Nat.le_refl _⟩, fun i x hx => ?_⟩
  obtain ⟨d, hd, rfl⟩ := enumD_at hx
  obtain ⟨y, hy, ry⟩ : ∃ y, xs[i]? = some y ∧ Rep K w2 d y := by
    have := hr.length
    have hi := (List.getElem?_eq_some_iff.mp hd).1
    have := atI_rep (i := (i : Int)) hr (atI_n (by omega) (by simpa using hd))
    obtain ⟨y, e, ry⟩ := this
    refine ⟨y, ?_, ry⟩
    unfold atI ixN at e
    rw [if_pos (by omega), if_pos (by omega)] at e
    simpa using e
  refine ⟨⟨xs, y, hs, hy⟩, ?_⟩
  rintro x H' ⟨T, x', rfl, hT, rfl, hx'⟩
  have : x' = y := by
    have := hx' xs hs
    rw [hy] at this
    exact (Option.some.inj this).symm
  subst this
  exact ⟨w2.new T (.tup [.int (i : Nat), x']), rfl, rfl, Le.new hT, r.new hT, rep_new_tup r hT (RepL.cons (by simp [Rep]) (RepL.cons ry RepL.nil))⟩
def tEnum' (t : TA') : TI' := fun δ M R E => t δ M (fun dl M1 => ∃ ds, dl = [.lst ds] ∧ R ⟨enumD ds, none⟩ M1) E
theorem mi_enum {p tpos : Pos} {elts : List Expr} {kk : Nat} {t : TA'} (hg : Gl X "enumerate") (hm : X.mg "enumerate" = none) (ha : MA X W [e] t) (hs : starEach [e] X.env = [(false, eval e X.env)] := by rfl) :
    MI X W (.Tuple elts kk tpos) (.Call (.Name "enumerate" p) [e] [] pos) (tEnum' t) :=
  ⟨PI.imp (pi_enum hg hm ha.pa hs) fun σ H R ⟨w, δ, eH, rh, rs, q⟩ => by
    subst eH
    refine upA_go ha.mono rh rs q (fun _ _ x => x) fun dl vl w1 l1 rh1 rs1 rv ⟨ds, e1, h1⟩ => ?_
    subst e1
    obtain ⟨v1, r1, e2, rv1, e3⟩ := rv
    have e3 : r1 = [] := e3
    subst e2 e3
    obtain ⟨a, xs, e4, hl, nl, nr, hr⟩ := rv1
    subst e4
    exact ⟨a, xs, rfl, SqL.of hl, h1 _ w1 rfl l1 rh1 (itOk_enum fun w2 l r => ⟨xs, SqL.of (l.keep a _ hl nl), RepL.le rh1 l _ hr⟩) trivial⟩,
   fun δ M Q Q' E E' q x hh => ha.mono _ _ _ _ _ _ (fun d M1 ⟨ds, e1, h1⟩ => ⟨ds, e1, q _ _ h1⟩) x hh⟩
@[simp] theorem u_enum {t : TA'} {δ : EnvD} {M : MH} {R : ItD → MH → Prop} {E : QX} : tEnum' t δ M R E ↔ t δ M (fun dl M1 => ∃ ds, dl = [.lst ds] ∧ R ⟨enumD ds, none⟩ M1) E := Iff.rfl
end MD
namespace MD
open PySem PySem.Spec PyProof.Rows L2
variable {K : PySem.W.Frag} {w w1 w2 : Wd} {X : Cx} {W : WX} {e a b c : Expr} {pos : Pos}
/-! xs[::-1] of a list -/
def tRev' (cell : Bool) (te : TE') : TE' := fun δ M Q E => te δ M (fun d M1 => ∃ es, lstOf d M1 = some es ∧ newL cell es.reverse M1 Q) E
theorem RepL.reverse {ds : List D} {xs : List V} (h : RepL K w ds xs) : RepL K w ds.reverse xs.reverse := by
  induction ds generalizing xs with
  | nil => have h : xs = [] := h; subst h; exact RepL.nil
  | cons d ds ih =>
    obtain ⟨x, r, rfl, hx, hr⟩ := h
    rw [List.reverse_cons, List.reverse_cons]
    exact (ih hr).append (RepL.cons hx RepL.nil)
theorem me_rev {cell : Bool} {te : TE'} {k : Nat} {p1 p2 p3 : Pos} (he : ME X W e te) : ME X W (.Subscript e (.Slice none none (some (.UnaryOp .USub (.Constant (.int 1) k p1) p2)) p3) pos) (tRev' cell te) :=
  ⟨PE.imp (pe_revL he.pe) fun σ H Q ⟨w, δ, eH, rh, rs, h⟩ => by
    subst eH
    refine up_go he.mono rh rs h (fun _ _ x => x) fun d v w1 l1 rh1 rs1 rv ⟨es, e1, h1⟩ => ?_
    obtain ⟨a, xs, rfl, hx, hr⟩ := lstOf_rep rh1 rv e1
    exact ⟨a, xs, rfl, SqL.of hx, newL.lift rh1 hr.reverse (h1.mono fun d M q => q.le rh rh1 l1)⟩,
   fun δ M Q Q' E E' q x h => he.mono _ _ _ _ _ _ (fun d M1 ⟨es, e1, h1⟩ => ⟨es, e1, h1.mono q⟩) x h⟩
@[simp] theorem u_rev {cell : Bool} {te : TE'} {δ : EnvD} {M : MH} {Q : QE} {E : QX} : tRev' cell te δ M Q E ↔ te δ M (fun d M1 => ∃ es, lstOf d M1 = some es ∧ newL cell es.reverse M1 Q) E := Iff.rfl
/-! range with three numbers -/
def rangeC (lo c : Int) (n : Nat) : List D := (List.range n).map fun (i : Nat) => D.int (lo + (i : Int) * c)
theorem rangeC_length {lo c : Int} {n : Nat} : (rangeC lo c n).length = n := by simp [rangeC]
theorem itOk_rangeC {lo c : Int} {n : Nat} {w0 : Wd} : ItOk K ⟨rangeC lo c n, none⟩ (Itc lo c n) w0 := by
  intro w2 l r st
  refine ⟨by show n ≤ (rangeC lo c n).length; rw [rangeC_length]; exact Nat.le_refl _, fun i d hd => ?_⟩
  have hd' : (rangeC lo c n)[i]? = some d := hd
  have hi : i < n := by
    have := (List.getElem?_eq_some_iff.mp hd').1
    rwa [rangeC_length] at this
  unfold rangeC at hd'
  rw [List.getElem?_map, List.getElem?_range hi] at hd'
  cases hd'
  refine ⟨hi, fun y H' ⟨e, ey⟩ => ⟨w2, e.symm, rfl, Le.refl _, r, ?_⟩⟩
  subst ey; simp [Rep]
def tRng3' (ta : TA') : TI' := fun δ M R E => ta δ M (fun ds M1 => ∃ (i j c : Int) (n : Nat), ds = [.int i, .int j, .int c] ∧ RgC i j c n ∧ R ⟨rangeC i c n, none⟩ M1) E
theorem mi_range3 {tg : Expr} {ta : TA'} {p pos : Pos} (hg : Gl X "range") (hm : X.mg "range" = none) (ha : MA X W [a, b, c] ta)
    (hs : starEach [a, b, c] X.env = (false, eval a X.env) :: starEach [b, c] X.env := by rfl) (hpl : (backTo pos (starEach [b, c] X.env)).any (·.1) = false := by rfl) : MI X W tg (.Call (.Name "range" p) [a, b, c] [] pos) (tRng3' ta) :=
  ⟨PI.imp (pi_range3 hg hm ha.pa hs hpl) fun σ H R ⟨w, δ, eH, rh, rs, q⟩ => by
    subst eH
    refine upA_go ha.mono rh rs q (fun _ _ x => x) fun d v w1 l1 rh1 rs1 rv ⟨i, j, k, n, e, h1, h3⟩ => ?_
    subst e
    obtain ⟨v1, r1, e, rv1, v2, r2, e2, rv2, v3, r3, e3, rv3, e4⟩ := rv
    have e4 : r3 = [] := e4
    subst e e2 e3 e4
    exact ⟨i, j, k, n, by rw [rep_int rv1, rep_int rv2, rep_int rv3], h1, h3 _ w1 rfl l1 rh1 itOk_rangeC trivial⟩,
   fun δ M Q Q' E E' q x hh => ha.mono _ _ _ _ _ _ (fun d M1 ⟨i, j, k, n, e, h1, h3⟩ => ⟨i, j, k, n, e, h1, q _ _ h3⟩) x hh⟩
@[simp] theorem u_rng3 {ta : TA'} {δ : EnvD} {M : MH} {R : ItD → MH → Prop} {E : QX} : tRng3' ta δ M R E ↔ ta δ M (fun ds M1 => ∃ (i j c : Int) (n : Nat), ds = [.int i, .int j, .int c] ∧ RgC i j c n ∧ R ⟨rangeC i c n, none⟩ M1) E := Iff.rfl
end MD
namespace PySem
open AutoSeq1 (wpAny_loadPart')
open Sem (wp)
theorem meets_enumerate_newTup (l : Addr) (items : Array Value) (n : Nat) (dct : Option Addr) (sl : Array (Option Value)) :
    Meets (Builtin.«enumerate.__new__» ⟨[.type "enumerate", .ref l], []⟩) (fun _ R s => s.heap.get? l = some { cls := .type "tuple", dict := dct, data := .seq items n, slots := sl } ∧
      R (.ok (.ret (.ref (s.heap.push { cls := .type "tuple_iterator", data := .fields #[.ref l, .int 0 0] }).objs.size)))
        { s with heap := (s.heap.push { cls := .type "tuple_iterator", data := .fields #[.ref l, .int 0 0] }).push { cls := .type "enumerate", data := .fields #[.none, .bool false, .ref s.heap.objs.size, rawInt 0, .none, .none] } }) :=
  .of_wp fun prog w A R s h => by
    obtain ⟨hp, g, d, tk, os⟩ := s; obtain ⟨hl, h⟩ := h
    have hsub := sub_enumerate
    have hL : Heap.IsTuple (Shared.heap ⟨hp, g, d, tk, os⟩) l items := ⟨_, hl, rfl, n, rfl⟩
    wp_walk using wpAny_loadPart' hl
    refine wpAny_stack_any fun st => wpAny_pure ?_
    split
    · rename_i c _ _ _ _ _
      cases (c == Value.type "enumerate")
      · wp_walk using wpAny_loadPart' hl, wpAny_pyIter_tuple hL
        exact ⟨_, rfl, h⟩
      · wp_walk using wpAny_loadPart' hl, wpAny_pyIter_tuple hL
        exact ⟨_, rfl, h⟩
    · wp_walk using wpAny_loadPart' hl, wpAny_pyIter_tuple hL
      exact ⟨_, rfl, h⟩
section
variable {prog : Program} {w : World} {A : Around} {E : Value → Shared → Prop} {s : Shared}
theorem call_enumerate_tup {l : Addr} {items : Array Value} {Q : Value → Shared → Prop} (hL : s.heap.IsTuple l items)
    (h : ∀ h', IsEnum h' (s.heap.objs.size + 1) s.heap.objs.size 0 .none → h'.IsTupleIter s.heap.objs.size l 0 → h'.objs.size = s.heap.objs.size + 2 →
      (∀ b o, s.heap.get? b = some o → h'.get? b = some o) → Q (.ref (s.heap.objs.size + 1)) { s with heap := h' }) :
    wpAny (model prog w) A (call (.type "enumerate") [.ref l]) Q E s := by
  obtain ⟨⟨c, dct, dt, sl⟩, hl, hc, n, hd⟩ := hL
  replace hc : c = .type "tuple" := hc
  replace hd : dt = .seq items n := hd
  subst hc hd
  refine callType_new F.called_enumerate (by decide) (F.typeCall_enumerate_1 _) (F.newCall_enumerate_1 _) (fun obj => F.args_object_init_2 obj _) F.entry_enumerate_new
    (meets_enumerate_newTup l items n dct sl) ⟨hl, ?_⟩
  have hz : (s.heap.push { cls := .type "tuple_iterator", data := .fields #[.ref l, .int 0 0] }).objs.size = s.heap.objs.size + 1 := Heap.size_push ..
  show _ ∧ _
  rw [hz]
  have he : IsEnum ((s.heap.push { cls := .type "tuple_iterator", data := .fields #[.ref l, .int 0 0] }).push
      { cls := .type "enumerate", data := .fields #[.none, .bool false, .ref s.heap.objs.size, rawInt 0, .none, .none] }) (s.heap.objs.size + 1) s.heap.objs.size 0 .none := by
    have := Heap.get?_push_size (s.heap.push { cls := .type "tuple_iterator", data := .fields #[.ref l, .int 0 0] })
      (o := { cls := .type "enumerate", data := .fields #[.none, .bool false, .ref s.heap.objs.size, rawInt 0, .none, .none] }) rfl
    rw [hz] at this; exact this
  refine ⟨⟨_, he, rfl⟩, h _ he ⟨_, Heap.get?_push_of_some _ (Heap.get?_push_size _ rfl), rfl, rfl⟩ (by rw [Heap.size_push, hz]) fun b o x => Heap.get?_push_of_some _ (Heap.get?_push_of_some _ x)⟩
theorem wpAny_pyNext_enum_endT {e it l : Addr} {i : Nat} {items : Array Value} {old : Value} {Q : Option Value → Shared → Prop} (hh : A.handled = none)
    (he : IsEnum s.heap e it i old) (hit : s.heap.IsTupleIter it l i) (hl : s.heap.IsTuple l items) (hx : items[i]? = none)
    (hQ : ∀ h', Heap.ExtBut it s.heap h' → Q none { s with heap := h' }) : wpAny (model prog w) A (pyNext (.ref e)) Q E s := by
  have hT : s.TypeIs (.ref e) "enumerate" := ⟨_, he, rfl⟩
  unfold pyNext
  refine wpAny_bind (wpAny_attempt (wpAny_callSpecial?_slot (name := Str.ofString "__next__") hT F.slot_enumerate_next
    (wpAny_call_entry F.slot_enumerate_next hT F.entry_enumerate_next ?_ (F.args_enumerate_next_1 _))))
  show wpAny _ _ (field (.ref e) 2 >>= _) _ _ _
  refine wpAny_bind (wpAny_field he rfl (x := .ref it) rfl ?_)
  refine wpAny_bind (wpAny_nextOf_tuple_end hh hit hl hx fun h' x he' hx' => ?_)
  obtain ⟨o, ho, hc⟩ := hx'
  refine wpAny_bind (wpAny_isInstance (T := "StopIteration") (b := true) ⟨o, ho, hc⟩ isSubtype_stop ?_)
  exact wpAny_pure (hQ _ he')
end
end PySem
namespace MD
open PySem PySem.Spec PyProof.Rows L2
variable {K : PySem.W.Frag} {w w1 w2 : Wd} {X : Cx} {W : WX} {e a b c : Expr} {pos : Pos}
/-! enumerate over a tuple, or a list that nobody writes -/
def IteT (K : PySem.W.Frag) (a : Addr) : It :=
  ⟨fun i H => ∃ (xs : List V) (x : V), SqT K H a xs ∧ xs[i]? = some x, fun i H v H' => ∃ T x, v = .ref T ∧ H T = none ∧ H' = upd H T (.tup [.int (i : Nat), x]) ∧ ∀ xs, SqT K H a xs → xs[i]? = some x, fun i H => ∃ xs : List V, SqT K H a xs ∧ xs.length ≤ i⟩
theorem turn_enumT {P : Program} {w : World} {K : PySem.W.Frag} {elts : List Expr} {kk : Nat} {tpos : Pos} (a e it : Addr) :
    Turn P w K (.Tuple elts kk tpos) (IteT K a) [e, it] e (fun i h => (∃ old, IsEnum h e it ((i : Nat) : Int) old) ∧ h.IsTupleIter it a i ∧ e ≠ it) where
  mem := by simp
  obj := fun i h st b hb => by
    obtain ⟨⟨old, he⟩, ⟨o, ho, hc, hd⟩, _⟩ := st
    have e' : b = e ∨ b = it := by simpa using hb
    rcases e' with z | z
    · rw [z]; exact ⟨_, he, fun v q => nomatch q⟩
    · rw [z]; exact ⟨o, ho, fun v q => by rw [hd] at q; cases q⟩
  keep := fun i h h' st k => let ⟨⟨old, he⟩, hi, hne⟩ := st; ⟨⟨old, k e (by simp) _ he⟩, hi.at fun o q => k it (by simp) o q, hne⟩
  item := by
    intro X hP hw hK hc i pins s σ H E I hf st hg
    subst hP hw hK
    obtain ⟨⟨old, he⟩, hit, hne⟩ := st
    obtain ⟨xs, x, hq, hx⟩ := hg
    obtain ⟨its, rv, p, hz⟩ := I.tuple hq
    obtain ⟨u, hu, ru⟩ := rv.get hx
    have hel : e < s.heap.objs.size := Heap.lt_size he
    have hil : it < s.heap.objs.size := by obtain ⟨_, q, _⟩ := hit; exact Heap.lt_size q
    have hni : a ≠ it := by
      rintro rfl
      obtain ⟨o, ho, hc1, hd⟩ := hit
      obtain ⟨o', ho', hc2, _⟩ := p
      rw [ho] at ho'
      cases ho'
      rw [hc1] at hc2
      exact absurd (Value.type.inj hc2) (by decide)
    have hnt : e ≠ a := by
      rintro rfl
      obtain ⟨o', ho', hc2, _⟩ := p
      have he2 := he
      unfold IsEnum at he2
      rw [he2] at ho'
      cases ho'
      exact absurd (Value.type.inj hc2) (by decide)
    have hlt : i < its.toArray.size := by
      have := (List.getElem?_eq_some_iff.mp hu).1
      simpa using this
    have hst0 : s.heap.IsTupleIter it a i ∧ s.heap.IsTuple a its.toArray := ⟨hit, p⟩
    have hef : e ∉ [it, a] := by
      intro hm
      rcases List.mem_cons.mp hm with z | z
      · exact hne z
      · exact hnt (List.mem_singleton.mp z)
    refine wpAny_pyNext_enum_itemD (Draws.tuple (prog := X.prog) (w := X.w) (A := X.A.in1) (I.ok.hd hc) it a hni its.toArray) he hst0 hlt hne hef fun x' h' tk hx' ho hst' hT hsz hk => ?_
    obtain ⟨hit', _⟩ := hst'
    have hxu : x' = u := by
      have hx' : its.toArray[i]? = some x' := hx'
      rw [List.getElem?_toArray, hu] at hx'
      exact (Option.some.inj hx').symm
    subst hxu
    refine ⟨_, rfl, wpAny_letOwnedTupleGo_enum (s := { s with heap := h', toks := tk + 1 }) ho fun h'' he' sb => ?_⟩
    have hT2 : h''.get? s.heap.objs.size = some { cls := .type "tuple", data := .seq #[.int i tk, x'] } := (sb.2 _ (Nat.ne_of_gt hel)).trans hT
    have new : ObjOk X.prog X.w (upd H s.heap.objs.size (.tup [.int (i : Nat), x])) h'' s.heap.objs.size (.tup [.int (i : Nat), x]) :=
      ⟨by show 2 ≤ sizeLine; decide, [.int i tk, x'], .cons ⟨_, rfl⟩ (.cons ru .nil), ⟨_, hT2, rfl, _, rfl⟩⟩
    have I1 : L2.Inv X pins σ (upd H s.heap.objs.size (.tup [.int (i : Nat), x])) { s with heap := h'', toks := tk + 1 } :=
      I.turnedNew (ch := [e, it]) (fun b ob hb q => (sb.2 b (fun z => hb (by simp [z]))).trans (hk b ob (fun z => hb (by simp [z])) (fun z => hb (by simp [z])) q)) hf (Nat.le_refl _) new
    refine ⟨.ref s.heap.objs.size, _, I1, rfl, ⟨_, x, rfl, I.hok.fresh (Nat.le_refl _), rfl, fun ys hy => by rw [I.tuple_inj hy hq]; exact hx⟩, ⟨⟨x', ?_⟩, hit'.at fun o q => (sb.2 it (Ne.symm hne)).trans q, hne⟩, fun b hb => ?_⟩
    · have e1 : ((i + 1 : Nat) : Int) = (i : Int) + 1 := by omega
      rw [e1]; exact he'
    · have hb' : b < s.heap.objs.size := by
        have e' : b = e ∨ b = it := by simpa using hb
        rcases e' with z | z
        · rw [z]; exact hel
        · rw [z]; exact hil
      rw [upd_ne (Nat.ne_of_lt hb')]
      exact (hf b hb).1
  done := by
    intro X hP hw hK hc i pins s σ H E I hf st hg
    subst hP hw hK
    obtain ⟨⟨old, he⟩, hit, hne⟩ := st
    obtain ⟨xs, hq, hx⟩ := hg
    obtain ⟨its, rv, p, hz⟩ := I.tuple hq
    obtain ⟨f0, f1, f2, f3, f4, f5⟩ := hf it (by simp)
    have hl := rv.length
    exact wpAny_pyNext_enum_endT (I.ok.hd hc) he hit p (by simp; omega) fun h' eb => ⟨rfl, I.turned (t' := s.toks) (fun b o hb q => eb b o hb q) f0 f1 f3 f4 f5⟩
  self := fun A i s Q E st h => let ⟨⟨_, he⟩, _⟩ := st; wpAny_pyIter_enum he h
def iEnum2 (K : PySem.W.Frag) (ta : TA) : TI := fun σ H R => ta σ H fun vs H1 => ∃ a xs, vs = [.ref a] ∧ ((SqL K H1 a xs ∧ R (Ite K a) H1) ∨ (SqT K H1 a xs ∧ R (IteT K a) H1))
theorem pi_enum2 {X : Cx} {e : Expr} {ta : TA} {p pos tpos : Pos} {elts : List Expr} {kk : Nat} (hg : Gl X "enumerate") (hm : X.mg "enumerate" = none) (ha : PA X [e] ta) (hs : starEach [e] X.env = [(false, eval e X.env)] := by rfl) :
    PI X (.Tuple elts kk tpos) (.Call (.Name "enumerate" p) [e] [] pos) (iEnum2 X.K ta) := by
  refine ⟨fun pins s σ H R I h => ?_⟩
  refine Call_ (ld_blt I hg hm boot_enumerate (PyProof.Rows.callWith_type1 (thn (ha.run pos pins s σ H _ I h) fun us s1 ⟨vs, H1, I1, r1, q1⟩ => ?_) hs rfl))
  obtain ⟨a, xs, ex, q⟩ := q1
  subst ex
  cases r1 with
  | cons r rr =>
    cases rr
    cases r
    have fp : ∀ b ∈ [s1.heap.objs.size + 1, s1.heap.objs.size], s1.heap.objs.size ≤ b := fun b hb => by
      have e' : b = s1.heap.objs.size + 1 ∨ b = s1.heap.objs.size := by simpa using hb
      rcases e' with z | z
      · rw [z]; exact Nat.le_add_right _ _
      · rw [z]; exact Nat.le_refl _
    rcases q with ⟨hq, q⟩ | ⟨hq, q⟩
    · obtain ⟨its, rv, p', hz⟩ := I1.list hq
      refine call_enumerate_list p'.isList fun h' he hit hsz hk => wpAny_pyIter_enum he ?_
      have I2 : L2.Inv X pins σ H1 { s1 with heap := h' } := I1.kept (t' := s1.toks) hk
      exact ⟨s1.heap.objs.size + 1, [s1.heap.objs.size + 1, s1.heap.objs.size], _, _, H1, rfl, I2, turn_enum a (s1.heap.objs.size + 1) s1.heap.objs.size, ⟨⟨.none, he⟩, hit, Nat.succ_ne_self _⟩, fun b hb => I1.fpOk (fp b hb) (I1.hok.fresh (fp b hb)), q⟩
    · obtain ⟨its, rv, p', hz⟩ := I1.tuple hq
      refine call_enumerate_tup p' fun h' he hit hsz hk => wpAny_pyIter_enum he ?_
      have I2 : L2.Inv X pins σ H1 { s1 with heap := h' } := I1.kept (t' := s1.toks) hk
      exact ⟨s1.heap.objs.size + 1, [s1.heap.objs.size + 1, s1.heap.objs.size], _, _, H1, rfl, I2, turn_enumT a (s1.heap.objs.size + 1) s1.heap.objs.size, ⟨⟨.none, he⟩, hit, Nat.succ_ne_self _⟩, fun b hb => I1.fpOk (fp b hb) (I1.hok.fresh (fp b hb)), q⟩
theorem itOk_enumT {p : Addr} {ds : List D} {w0 : Wd} (hl : ∀ w2, Le w0 w2 → RH K w2 → ∃ xs, SqT K w2.H p xs ∧ RepL K w2 ds xs) :
    ItOk K ⟨enumD ds, none⟩ (IteT K p) w0 := by
  intro w2 l r st
  obtain ⟨xs, hs, hr⟩ := hl w2 l r
  refine ⟨⟨xs, hs, by rw [enumD_length, hr.length]; exact Nat.le_refl _⟩, fun i x hx => ?_⟩
  obtain ⟨d, hd, rfl⟩ := enumD_at hx
  obtain ⟨y, hy, ry⟩ : ∃ y, xs[i]? = some y ∧ Rep K w2 d y := by
    have := hr.length
    have hi := (List.getElem?_eq_some_iff.mp hd).1
    have := atI_rep (i := (i : Int)) hr (atI_n (by omega) (by simpa using hd))
    obtain ⟨y, e, ry⟩ := this
    refine ⟨y, ?_, ry⟩
    unfold atI ixN at e
    rw [if_pos (by omega), if_pos (by omega)] at e
    simpa using e
  refine ⟨⟨xs, y, hs, hy⟩, ?_⟩
  rintro x H' ⟨T, x', rfl, hT, rfl, hx'⟩
  have : x' = y := by
    have := hx' xs hs
    rw [hy] at this
    exact (Option.some.inj this).symm
  subst this
  exact ⟨w2.new T (.tup [.int (i : Nat), x']), rfl, rfl, Le.new hT, r.new hT, rep_new_tup r hT (RepL.cons (by simp [Rep]) (RepL.cons ry RepL.nil))⟩
def tEnum2' (t : TA') : TI' := fun δ M R E => t δ M (fun dl M1 => ∃ ds, (dl = [.lst ds] ∨ dl = [.tup ds]) ∧ R ⟨enumD ds, none⟩ M1) E
theorem mi_enum2 {p tpos : Pos} {elts : List Expr} {kk : Nat} {t : TA'} (hg : Gl X "enumerate") (hm : X.mg "enumerate" = none) (ha : MA X W [e] t) (hs : starEach [e] X.env = [(false, eval e X.env)] := by rfl) :
    MI X W (.Tuple elts kk tpos) (.Call (.Name "enumerate" p) [e] [] pos) (tEnum2' t) :=
  ⟨PI.imp (pi_enum2 hg hm ha.pa hs) fun σ H R ⟨w, δ, eH, rh, rs, q⟩ => by
    subst eH
    refine upA_go ha.mono rh rs q (fun _ _ x => x) fun dl vl w1 l1 rh1 rs1 rv ⟨ds, e1, h1⟩ => ?_
    rcases e1 with e1 | e1 <;> subst e1 <;> obtain ⟨v1, r1, e2, rv1, e3⟩ := rv <;> have e3 : r1 = [] := e3 <;> subst e2 e3
    · obtain ⟨a, xs, e4, hl, nl, nr, hr⟩ := rv1
      subst e4
      exact ⟨a, xs, rfl, .inl ⟨SqL.of hl, h1 _ w1 rfl l1 rh1 (itOk_enum fun w2 l r => ⟨xs, SqL.of (l.keep a _ hl nl), RepL.le rh1 l _ hr⟩) trivial⟩⟩
    · have rv2 := rv1
      obtain ⟨a, xs, e4, hl, hr⟩ := rv1
      subst e4
      refine ⟨a, xs, rfl, .inr ⟨hl, h1 _ w1 rfl l1 rh1 (itOk_enumT fun w2 l r => ?_) trivial⟩⟩
      obtain ⟨a', xs', e5, hl', hr'⟩ := Rep.le rh1 l (.tup ds) rv2
      cases e5
      exact ⟨xs', hl', hr'⟩,
   fun δ M Q Q' E E' q x hh => ha.mono _ _ _ _ _ _ (fun d M1 ⟨ds, e1, h1⟩ => ⟨ds, e1, q _ _ h1⟩) x hh⟩
@[simp] theorem u_enum2 {t : TA'} {δ : EnvD} {M : MH} {R : ItD → MH → Prop} {E : QX} : tEnum2' t δ M R E ↔ t δ M (fun dl M1 => ∃ ds, (dl = [.lst ds] ∨ dl = [.tup ds]) ∧ R ⟨enumD ds, none⟩ M1) E := Iff.rfl
end MD
namespace MD
open PySem PySem.Spec PyProof.Rows L2
variable {K : PySem.W.Frag} {w w1 w2 : Wd} {X : Cx} {W : WX}
/-! max, min of a list of whole numbers -/
def cMaxL : RA' := fun ds M Q => ∃ (d : D) (es : List D) (ns : List Int), ds = [d] ∧ lstOf d M = some es ∧ es = ns.map D.int ∧ 0 < ns.length ∧ ∀ m, m ∈ ns → (∀ y, y ∈ ns → y ≤ m) → Q (.int m) M
def cMinL : RA' := fun ds M Q => ∃ (d : D) (es : List D) (ns : List Int), ds = [d] ∧ lstOf d M = some es ∧ es = ns.map D.int ∧ 0 < ns.length ∧ ∀ m, m ∈ ns → (∀ y, y ∈ ns → m ≤ y) → Q (.int m) M
theorem repL_ints_eq : ∀ {ns : List Int} {xs : List V}, RepL K w (ns.map D.int) xs → xs = ns.map V.int
  | [], xs, h => h
  | n :: ns, xs, h => by
    obtain ⟨x, r, rfl, hx, hr⟩ := h
    rw [rep_int hx, repL_ints_eq hr]
    rfl
theorem la_maxL : LiftA K (rMax K) cMaxL := by
  intro w xs ds Q rh r ⟨d, es, ns, e, e1, e2, h0, q⟩
  subst e e2
  obtain ⟨v, rfl, rv⟩ := rep1 r
  obtain ⟨a, ys, rfl, hy, hr⟩ := lstOf_rep rh rv e1
  rw [repL_ints_eq hr] at hy
  exact ⟨a, ns, rfl, SqL.of hy, h0, fun m h1 h2 => PV.here rh (q m h1 h2) rep_mk_int⟩
theorem la_minL : LiftA K (rMin K) cMinL := by
  intro w xs ds Q rh r ⟨d, es, ns, e, e1, e2, h0, q⟩
  subst e e2
  obtain ⟨v, rfl, rv⟩ := rep1 r
  obtain ⟨a, ys, rfl, hy, hr⟩ := lstOf_rep rh rv e1
  rw [repL_ints_eq hr] at hy
  exact ⟨a, ns, rfl, SqL.of hy, h0, fun m h1 h2 => PV.here rh (q m h1 h2) rep_mk_int⟩
theorem mr_maxL : MonoR cMaxL := fun ds M Q Q' q ⟨d, es, ps, e, e1, e2, e3, h⟩ => ⟨d, es, ps, e, e1, e2, e3, fun p a b => q _ _ (h p a b)⟩
theorem mr_minL : MonoR cMinL := fun ds M Q Q' q ⟨d, es, ps, e, e1, e2, e3, h⟩ => ⟨d, es, ps, e, e1, e2, e3, fun p a b => q _ _ (h p a b)⟩
@[simp] theorem u_maxL {ds : List D} {M : MH} {Q : QE} : cMaxL ds M Q ↔ ∃ (d : D) (es : List D) (ns : List Int), ds = [d] ∧ lstOf d M = some es ∧ es = ns.map D.int ∧ 0 < ns.length ∧ ∀ m, m ∈ ns → (∀ y, y ∈ ns → y ≤ m) → Q (.int m) M := Iff.rfl
@[simp] theorem u_minL {ds : List D} {M : MH} {Q : QE} : cMinL ds M Q ↔ ∃ (d : D) (es : List D) (ns : List Int), ds = [d] ∧ lstOf d M = some es ∧ es = ns.map D.int ∧ 0 < ns.length ∧ ∀ m, m ∈ ns → (∀ y, y ∈ ns → m ≤ y) → Q (.int m) M := Iff.rfl
end MD
namespace MD
open PySem PySem.Spec PyProof.Rows L2
variable {K : PySem.W.Frag} {w w1 w2 : Wd} {X : Cx} {W : WX}
/-! a member of a tuple or a list of nested data -/
def rInN (K : PySem.W.Frag) (neg : Bool) : V → V → Hp → VK → Prop := fun x y H Q => ∃ d t ds, Dp K H x d ∧ Dp K H y t ∧ (t = .list ds ∨ t = .tuple ds) ∧ SeqAt.shaped d = true ∧ SeqAt.shaped t = true ∧ Q (.bl (if neg then !ds.any fun z => PyData.eqv z d else ds.any fun z => PyData.eqv z d)) H
theorem op_inN (hu : X.A.units + 65 < cLine) : OpR X (compareOp .In) (rInN X.K false) := by
  intro pins s σ H x y v u Q I rx ry h
  obtain ⟨d, t, ds, hd, he, ht, sd, se, q⟩ := h
  obtain ⟨as, r1⟩ := Dp.reads I d x v hd rx
  obtain ⟨bs, r2⟩ := Dp.reads I t y u he ry
  rcases ht with rfl | rfl
  · exact SeqAt.in_list_reads r2 r1 (SeqAt.canLay_of_shaped se) (SeqAt.canLay_of_shaped sd) (room_in_shaped sd hu) ⟨.bl _, H, I, rfl, q⟩
  · exact SeqAt.in_tuple_reads r2 r1 (SeqAt.canLay_of_shaped se) (SeqAt.canLay_of_shaped sd) (room_in_shaped sd hu) ⟨.bl _, H, I, rfl, q⟩
theorem op_notInN (hu : X.A.units + 65 < cLine) : OpR X (compareOp .NotIn) (rInN X.K true) := by
  intro pins s σ H x y v u Q I rx ry h
  obtain ⟨d, t, ds, hd, he, ht, sd, se, q⟩ := h
  obtain ⟨as, r1⟩ := Dp.reads I d x v hd rx
  obtain ⟨bs, r2⟩ := Dp.reads I t y u he ry
  rcases ht with rfl | rfl
  · exact SeqAt.notIn_list_reads r2 r1 (SeqAt.canLay_of_shaped se) (SeqAt.canLay_of_shaped sd) (room_in_shaped sd hu) ⟨.bl _, H, I, rfl, q⟩
  · exact SeqAt.notIn_tuple_reads r2 r1 (SeqAt.canLay_of_shaped se) (SeqAt.canLay_of_shaped sd) (room_in_shaped sd hu) ⟨.bl _, H, I, rfl, q⟩
def inDD (x : D) (ds : List D) : Bool := ds.any fun z => deq z x
def oInN (neg : Bool) : R2' := fun x y M Q => eqOk x ∧ eqOk y ∧ ∃ ds, (y = .tup ds ∨ y = .lst ds) ∧ Q (.bl (if neg then !inDD x ds else inDD x ds)) M
theorem any_py (x : D) : ∀ ds : List D, ((D.pyL ds).any fun z => PyData.eqv z x.py) = inDD x ds
  | [] => rfl
  | d :: r => by
    unfold D.pyL inDD
    rw [List.any_cons, List.any_cons, any_py x r]
    rfl
theorem lf_inN {neg : Bool} : Lift2 K (rInN K neg) (oInN neg) := by
  intro w x y dx dy Q rh rx ry ⟨⟨fx, sx⟩, ⟨fy, sy⟩, ds, e, h⟩
  have h1 := Rep.dp dx fx rx
  have h2 := Rep.dp dy fy ry
  refine ⟨dx.py, dy.py, D.pyL ds, h1, h2, ?_, sx, sy, ?_⟩
  · rcases e with rfl | rfl
    · exact .inr rfl
    · exact .inl rfl
  · rw [any_py]
    exact PV.here rh h rep_mk_bl
theorem mn_inN {neg : Bool} : Mono2 (oInN neg) := fun x y M Q Q' q ⟨fx, fy, ds, e, h⟩ => ⟨fx, fy, ds, e, q _ _ h⟩
@[simp] theorem u_inN {neg : Bool} {x y : D} {M : MH} {Q : QE} : oInN neg x y M Q ↔ eqOk x ∧ eqOk y ∧ ∃ ds, (y = .tup ds ∨ y = .lst ds) ∧ Q (.bl (if neg then !inDD x ds else inDD x ds)) M := Iff.rfl
end MD
namespace MD
open PySem PySem.Spec PyProof.Rows L2
open AutoSeq1 (wpAny_loadPart')
theorem tuple_mul1 (l : Addr) (items : Array Value) (n : Nat) (sl : Array (Option Value)) (u : Tok) (dd : Option Addr) :
    Meets (Builtin.«tuple.__mul__» ⟨[.ref l, .int 1 u], []⟩) (fun _ R s => s.heap.get? l = some { cls := .type "tuple", dict := dd, data := .seq items n, slots := sl } ∧ R (.ok (.ret (Value.ref l))) s) :=
  .of_wp fun prog w A R s h => by
    obtain ⟨hp, g, d, tk, os⟩ := s
    obtain ⟨hl, h⟩ := h
    have f1 := AutoSeq1.idx_int
    have c0 : (decide ((1 : Int) < -(2 ^ 63)) || decide ((1 : Int) ≥ 2 ^ 63)) = false := by decide
    have c1 : (items.isEmpty || (1 : Int) == 1) = true := by simp
    wp_walk using wpAny_loadPart' hl
    exact ⟨_, rfl, h⟩
def rRepT1 (K : PySem.W.Frag) : R2 := fun x y H Q => ∃ l xs, x = .ref l ∧ y = .int 1 ∧ SqT K H l xs ∧ Q (.ref l) H
theorem op_repT1 {X : Cx} : OpR X (binaryOp .Mult) (rRepT1 X.K) := by
  intro pins s σ H x y v u Q I rx ry h
  obtain ⟨l, xs, rfl, rfl, hT, q⟩ := h
  cases rx
  obtain ⟨t, rfl⟩ := ry
  obtain ⟨its, r, ⟨⟨cls, dd, data, sl⟩, ho, hc, n, hd⟩, hs⟩ := I.tuple hT
  simp only at hc hd
  subst hc hd
  exact wpAny_binaryOp_repeat_ref (T := "tuple") (U := "int") (by decide) ⟨_, ho, rfl⟩ (fun s' => typeIs_int s' 1 t) noFill_tuple_mul F.fills_int_mul F.slot_int_rmul repeat_tuple F.slot_int_index.lookup
    (call_meets F.slot_int_rmul (typeIs_int s 1 t) F.entry_int_rmul (F.args_int_rmul_2 _ _) (int_rmul_tuple 1 t l its.toArray n dd sl)
      ⟨ho, rfl, ⟨_, ho, rfl⟩, call_meets F.slot_tuple_mul ⟨_, ho, rfl⟩ F.entry_tuple_mul (F.args_tuple_mul_2 _ _) (tuple_mul1 l its.toArray n sl t dd) ⟨ho, ⟨.ref l, H, I, rfl, q⟩⟩⟩)
/-- a tuple that is not empty, once or more -/
def oMulT : R2' := fun x y M Q => ∃ ds k, x = .tup ds ∧ y = .int k ∧ ds ≠ [] ∧ 1 ≤ k ∧ k ≤ 1000 ∧ ds.length ≤ 1000 ∧ Q (.tup (List.replicate k.toNat ds).flatten) M
abbrev rMulT (K : PySem.W.Frag) : R2 := fun x y H Q => rRepT1 K x y H Q ∨ rRepT K x y H Q
theorem op_mulT {X : Cx} : OpR X (binaryOp .Mult) (rMulT X.K) := OpR.or op_repT1 op_repT
theorem lf_mulT {K : PySem.W.Frag} : Lift2 K (rMulT K) oMulT := by
  intro w x y dx dy Q rh rx ry ⟨ds, k, e1, e2, hne, h1, h2, hl, q⟩
  subst e1 e2
  have ry := rep_int ry
  subst ry
  have rx0 := rx
  obtain ⟨a, xs, rfl, hs, hr⟩ := rx
  by_cases hk : k = 1
  · subst hk
    have ef : (List.replicate (1 : Int).toNat ds).flatten = ds := by
      show (List.replicate 1 ds).flatten = ds
      simp
    rw [ef] at q
    exact .inl ⟨a, xs, rfl, rfl, hs, PV.here rh q rx0⟩
  · refine .inr ⟨a, k, xs, rfl, rfl, hs, ?_, by omega, h2, by rw [hr.length]; exact hl, fun p hn => ?_⟩
    · intro e
      subst e
      have := hr.length
      exact hne (List.eq_nil_of_length_eq_zero (by simpa using this.symm))
    · exact q (.ref p) (w.new p (.tup (List.replicate k.toNat xs).flatten)) rfl (Le.new hn) (rh.new hn) (rep_new_tup rh hn (hr.replicate _))
theorem mn_mulT : Mono2 oMulT := fun x y M Q Q' q ⟨ds, k, e1, e2, h1, h2, h3, h4, h⟩ => ⟨ds, k, e1, e2, h1, h2, h3, h4, q _ _ h⟩
@[simp] theorem u_mulT {x y : D} {M : MH} {Q : QE} : oMulT x y M Q ↔ ∃ ds k, x = .tup ds ∧ y = .int k ∧ ds ≠ [] ∧ 1 ≤ k ∧ k ≤ 1000 ∧ ds.length ≤ 1000 ∧ Q (.tup (List.replicate k.toNat ds).flatten) M := Iff.rfl
end MD
namespace MD
open PySem PySem.Spec PyProof.Rows L2
variable {K : PySem.W.Frag} {w w1 w2 : Wd} {X : Cx} {W : WX}
/-! a dict of the module: texts to whole numbers -/
def KdT (K : PySem.W.Frag) (wd : World) (a : Addr) (tbl : List (Str × Int)) : Prop := ∀ z i, (z, i) ∈ tbl → KDct K wd a z (.int i)
def oKd (a : Addr) (tbl : List (Str × Int)) : R2' := fun x y M Q => x = .con (.ref a) ∧ ∃ z i, y = .str z ∧ (z, i) ∈ tbl ∧ Q (.int i) M
theorem lf_kd {wd : World} {a : Addr} {tbl : List (Str × Int)} (h : KdT K wd a tbl) : Lift2 K (rIxD K wd) (oKd a tbl) := by
  intro w x y dx dy Q rh rx ry ⟨e1, z, i, e2, hm, q⟩
  subst e1 e2
  have rx : x = .ref a := rx
  have ry := rep_str ry
  subst rx ry
  exact ⟨a, z, .int i, rfl, rfl, h z i hm, PV.here rh q rep_mk_int⟩
theorem mn_kd {a : Addr} {tbl : List (Str × Int)} : Mono2 (oKd a tbl) := fun x y M Q Q' q ⟨e1, z, i, e2, hm, h⟩ => ⟨e1, z, i, e2, hm, q _ _ h⟩
@[simp] theorem u_kd {a : Addr} {tbl : List (Str × Int)} {x y : D} {M : MH} {Q : QE} : oKd a tbl x y M Q ↔ x = .con (.ref a) ∧ ∃ z i, y = .str z ∧ (z, i) ∈ tbl ∧ Q (.int i) M := Iff.rfl
theorem globK_dct {x : Str} {a : Addr} (h : PySem.W.nsIn K mainGlobals x = some (some (.ref a))) : GlobK K x (.con (.ref a)) := ⟨_, .ref a, h, rfl, fun _ => rfl⟩
end MD
namespace Kit
open MD L2 PySem
theorem set_last (M : MH) (c d : Cell) : (M ++ [c]).set M.length d = M ++ [d] := by
  rw [List.set_append_right _ _ (Nat.le_refl _)]
  simp
theorem get_last (M : MH) (c : Cell) : (M ++ [c])[M.length]? = some c := by simp
theorem popM_last {M : MH} (hM : WFM M) {c : Cell} {d : D} (hd : d.bel M.length = true) : popM M.length d (M ++ [c]) = M :=
  popM_pop hd (by rw [List.take_left' rfl]; exact hM) (List.take_left' rfl)
/-- isinstance(x, (tuple, list)) -/
@[simp] theorem isi_tl {d : D} {M : MH} {Q : QE} : cIsiT [d, .tup [.con (.ty "tuple"), .con (.ty "list")]] M Q ↔ onN (tyStr d M) fun n => Q (.bl (subTy n "tuple" || subTy n "list")) M := by
  constructor
  · rintro ⟨d', es, ts, n, e, h1, h2, h3, h⟩
    cases e
    have : ts = ["tuple", "list"] := (Option.some.inj h1).symm
    subst this
    rw [h3]
    simpa using h
  · intro h
    cases hn : tyStr d M with
    | none => rw [hn] at h; exact h.elim
    | some n => rw [hn] at h; exact ⟨d, _, ["tuple", "list"], n, rfl, rfl, rfl, hn, by simpa using h⟩
end Kit
namespace Kit
open MD L2 PySem
/-! fractions in lowest terms, as the program and as a law makes them -/
/-- fewer than k bits -/
def Bg (k : Nat) (x : Int) : Prop := x.natAbs < 2 ^ k
/-- a fraction in lowest terms -/
def fr (n d : Int) : Int × Int := if d < 0 then (-n / (Int.gcd n d : Int), -d / (Int.gcd n d : Int)) else (n / (Int.gcd n d : Int), d / (Int.gcd n d : Int))
/-- of two fractions -/
def Two (N : Nat) (f : Int → Int → Int → Int → D) : SpD := fun ds M Q _ => ∃ s t a b c d, ds = [s, t] ∧ Pr s a b ∧ Pr t c d ∧ 0 < b ∧ 0 < d ∧ (∃ j k, j + k + 1 ≤ N ∧ Bg j a ∧ Bg j b ∧ Bg k c ∧ Bg k d) ∧ Q (f a b c d) M
theorem mono_Two {N f} : MonoP (Two N f) := fun ds M Q Q' E E' q x ⟨s, t, a, b, c, d, e, h1, h2, h3, h4, h5, h⟩ => ⟨s, t, a, b, c, d, e, h1, h2, h3, h4, h5, q _ _ h⟩
theorem len_Two {N f} (ds M Q E) (h : Two N f ds M Q E) : ds.length = 2 := by obtain ⟨_, _, _, _, _, _, rfl, _⟩ := h; rfl
def sumD (a b c d : Int) : D := MD.prD (fr (a * d + c * b) (b * d))
def difD (a b c d : Int) : D := MD.prD (fr (a * d - c * b) (b * d))
def mulD (a b c d : Int) : D := MD.prD (fr (a * c) (b * d))
def lesD (a b c d : Int) : D := .bl (decide (a * d < c * b))
abbrev N_fraction : List Str := ["n", "d", "common"]
def sp_fraction : SpD := fun ds M Q _ => ∃ n d : Int, ds = [.int n, .int d] ∧ d ≠ 0 ∧ Bg 8000 n ∧ Bg 8000 d ∧ Q (MD.prD (fr n d)) M
theorem mono_fraction : MonoP sp_fraction := fun ds M Q Q' E E' q x ⟨n, d, e, h1, h2, h3, h⟩ => ⟨n, d, e, h1, h2, h3, q _ _ h⟩
theorem len_fraction (ds M Q E) (h : sp_fraction ds M Q E) : ds.length = 2 := by obtain ⟨_, _, rfl, _⟩ := h; rfl
def r_fraction : TS' := (tSeq' (tAsg' (tCB' (cI2 fun i j => .int ((Nat.gcd i.natAbs j.natAbs : Nat) : Int)) (tCons' (tVar' 0) (tCons' (tVar' 1) tNil'))) (gName' 2))
    (tSeq' (tIfS' (tB' (tOp' (oI0 fun i j => .bl (decide (i < j))) (tVar' 1) (tC' (.int 0)))) (tAsg' (tUn' oNeg (tVar' 2)) (gName' 2)) tNext')
    (tRet' (tTup' (tCons' (tOp' oFdiv (tVar' 0) (tVar' 2)) (tCons' (tOp' oFdiv (tVar' 1) (tVar' 2)) tNil'))))))
abbrev N_sum_of : List Str := ["one", "other"]
def sp_sum_of : SpD := Two 8000 sumD
theorem mono_sum_of : MonoP sp_sum_of := mono_Two
theorem len_sum_of (ds M Q E) (h : sp_sum_of ds M Q E) : ds.length = 2 := len_Two ds M Q E h
def r_sum_of : TS' := (tRet' (tCall' sp_fraction (tCons' (tOp' (oAdd false) (tOp' (oMul false) (tOp' oIx (tVar' 0) (tC' (.int 0))) (tOp' oIx (tVar' 1) (tC' (.int 1)))) (tOp' (oMul false) (tOp' oIx (tVar' 1) (tC' (.int 0))) (tOp' oIx (tVar' 0) (tC' (.int 1))))) (tCons' (tOp' (oMul false) (tOp' oIx (tVar' 0) (tC' (.int 1))) (tOp' oIx (tVar' 1) (tC' (.int 1)))) tNil'))))
abbrev N_difference : List Str := ["one", "other"]
def sp_difference : SpD := Two 8000 difD
theorem mono_difference : MonoP sp_difference := mono_Two
theorem len_difference (ds M Q E) (h : sp_difference ds M Q E) : ds.length = 2 := len_Two ds M Q E h
def r_difference : TS' := (tRet' (tCall' sp_fraction (tCons' (tOp' oSub (tOp' (oMul false) (tOp' oIx (tVar' 0) (tC' (.int 0))) (tOp' oIx (tVar' 1) (tC' (.int 1)))) (tOp' (oMul false) (tOp' oIx (tVar' 1) (tC' (.int 0))) (tOp' oIx (tVar' 0) (tC' (.int 1))))) (tCons' (tOp' (oMul false) (tOp' oIx (tVar' 0) (tC' (.int 1))) (tOp' oIx (tVar' 1) (tC' (.int 1)))) tNil'))))
abbrev N_product : List Str := ["one", "other"]
def sp_product : SpD := Two 8000 mulD
theorem mono_product : MonoP sp_product := mono_Two
theorem len_product (ds M Q E) (h : sp_product ds M Q E) : ds.length = 2 := len_Two ds M Q E h
def r_product : TS' := (tRet' (tCall' sp_fraction (tCons' (tOp' (oMul false) (tOp' oIx (tVar' 0) (tC' (.int 0))) (tOp' oIx (tVar' 1) (tC' (.int 0)))) (tCons' (tOp' (oMul false) (tOp' oIx (tVar' 0) (tC' (.int 1))) (tOp' oIx (tVar' 1) (tC' (.int 1)))) tNil'))))
abbrev N_is_less : List Str := ["one", "other"]
def sp_is_less : SpD := Two 8000 lesD
theorem mono_is_less : MonoP sp_is_less := mono_Two
theorem len_is_less (ds M Q E) (h : sp_is_less ds M Q E) : ds.length = 2 := len_Two ds M Q E h
def r_is_less : TS' := (tRet' (tOp' (oI0 fun i j => .bl (decide (i < j))) (tOp' (oMul false) (tOp' oIx (tVar' 0) (tC' (.int 0))) (tOp' oIx (tVar' 1) (tC' (.int 1)))) (tOp' (oMul false) (tOp' oIx (tVar' 1) (tC' (.int 0))) (tOp' oIx (tVar' 0) (tC' (.int 1))))))
abbrev N__law_below : List Str := ["pool", "many", "found", "turn"]
def sp__law_below : SpD := fun ds M Q _ => ∃ (p : Nat) (many : Int), ds = [.ref p, .int many] ∧ 0 < many ∧ Pool M p ∧ ∀ r M', 0 ≤ r → r < many → Step p M M' → Q (.int r) M'
theorem mono__law_below : MonoP sp__law_below := fun ds M Q Q' E E' q x ⟨p, m, e, h1, h3, h⟩ => ⟨p, m, e, h1, h3, fun r M' a b c => q _ _ (h r M' a b c)⟩
theorem len__law_below (ds M Q E) (h : sp__law_below ds M Q E) : ds.length = 2 := by obtain ⟨_, _, rfl, _⟩ := h; rfl
def r__law_below : TS' := (tSeq' (tAsg' (tC' (.int 0)) (gName' 2))
    (tSeq' (tFor' (tRng1' (tCons' (tC' (.int 5)) tNil')) (gName' 3) (tAsg' (tOp' (oAdd false) (tOp' (oMul false) (tVar' 2) (tOp' oPow (tC' (.int 10)) (tC' (.int 6)))) (tCall' sp__law_take (tCons' (tVar' 0) (tCons' (tOp' oPow (tC' (.int 10)) (tC' (.int 6))) tNil')))) (gName' 2)))
    (tRet' (tOp' oMod (tCB' cInt (tCons' (tVar' 2) tNil')) (tVar' 1)))))
abbrev N__law_lowest : List Str := ["n", "d", "turn", "one", "other"]
def sp__law_lowest : SpD := fun ds M Q _ => ∃ n d : Int, ds = [.int n, .int d] ∧ 0 < d ∧ Bg 8000 n ∧ Bg 8000 d ∧ (Bg 990 n ∨ Bg 990 d) ∧ Q (MD.prD (fr n d)) M
theorem mono__law_lowest : MonoP sp__law_lowest := fun ds M Q Q' E E' q x ⟨n, d, e, h1, h2, h3, h4, h⟩ => ⟨n, d, e, h1, h2, h3, h4, q _ _ h⟩
theorem len__law_lowest (ds M Q E) (h : sp__law_lowest ds M Q E) : ds.length = 2 := by obtain ⟨_, _, rfl, _⟩ := h; rfl
def r__law_lowest : TS' := (tSeq' (tPar' 3 4 (tCons' (tCB' (cI1 fun i => .int (if i < 0 then -i else i)) (tCons' (tVar' 0) tNil')) (tCons' (tVar' 1) tNil')))
    (tSeq' (tFor' (tRng1' (tCons' (tC' (.int 2000)) tNil')) (gName' 2) (tSeq' (tIfS' (tB' (tOp' (oEq false) (tVar' 4) (tC' (.int 0)))) tBreak' tNext')
    (tPar' 3 4 (tCons' (tVar' 4) (tCons' (tOp' oSub (tVar' 3) (tOp' (oMul false) (tVar' 4) (tCB' cInt (tCons' (tOp' oFdiv (tVar' 3) (tVar' 4)) tNil')))) tNil')))))
    (tRet' (tTup' (tCons' (tOp' oFdiv (tVar' 0) (tVar' 3)) (tCons' (tOp' oFdiv (tVar' 1) (tVar' 3)) tNil'))))))
abbrev N__law_sum : List Str := ["one", "other"]
def sp__law_sum : SpD := Two 990 sumD
theorem mono__law_sum : MonoP sp__law_sum := mono_Two
theorem len__law_sum (ds M Q E) (h : sp__law_sum ds M Q E) : ds.length = 2 := len_Two ds M Q E h
def r__law_sum : TS' := (tRet' (tCall' sp__law_lowest (tCons' (tOp' (oAdd false) (tOp' (oMul false) (tOp' oIx (tVar' 0) (tC' (.int 0))) (tOp' oIx (tVar' 1) (tC' (.int 1)))) (tOp' (oMul false) (tOp' oIx (tVar' 1) (tC' (.int 0))) (tOp' oIx (tVar' 0) (tC' (.int 1))))) (tCons' (tOp' (oMul false) (tOp' oIx (tVar' 0) (tC' (.int 1))) (tOp' oIx (tVar' 1) (tC' (.int 1)))) tNil'))))
abbrev N__law_times : List Str := ["one", "other"]
def sp__law_times : SpD := Two 990 mulD
theorem mono__law_times : MonoP sp__law_times := mono_Two
theorem len__law_times (ds M Q E) (h : sp__law_times ds M Q E) : ds.length = 2 := len_Two ds M Q E h
def r__law_times : TS' := (tRet' (tCall' sp__law_lowest (tCons' (tOp' (oMul false) (tOp' oIx (tVar' 0) (tC' (.int 0))) (tOp' oIx (tVar' 1) (tC' (.int 0)))) (tCons' (tOp' (oMul false) (tOp' oIx (tVar' 0) (tC' (.int 1))) (tOp' oIx (tVar' 1) (tC' (.int 1)))) tNil'))))
abbrev N__law_common : List Str := ["one", "other", "turn"]
def sp__law_common : SpD := fun ds M Q _ => ∃ a b : Nat, ds = [.int a, .int b] ∧ Bg 8000 a ∧ Bg 8000 b ∧ (Bg 990 a ∨ Bg 990 b) ∧ Q (.int (Nat.gcd a b : Nat)) M
theorem mono__law_common : MonoP sp__law_common := fun ds M Q Q' E E' q x ⟨a, b, e, h1, h2, h3, h⟩ => ⟨a, b, e, h1, h2, h3, q _ _ h⟩
theorem len__law_common (ds M Q E) (h : sp__law_common ds M Q E) : ds.length = 2 := by obtain ⟨_, _, rfl, _⟩ := h; rfl
def r_common (N : Int) : TS' := (tSeq' (tFor' (tRng1' (tCons' (tC' (.int N)) tNil')) (gName' 2) (tSeq' (tIfS' (tB' (tOp' (oEq false) (tVar' 1) (tC' (.int 0)))) tBreak' tNext')
    (tPar' 0 1 (tCons' (tVar' 1) (tCons' (tOp' oSub (tVar' 0) (tOp' (oMul false) (tVar' 1) (tCB' cInt (tCons' (tOp' oFdiv (tVar' 0) (tVar' 1)) tNil')))) tNil')))))
    (tRet' (tVar' 0)))
theorem Bg.mono {j k : Nat} {x : Int} (h : Bg j x) (l : j ≤ k) : Bg k x := Nat.lt_of_lt_of_le h (Nat.pow_le_pow_right (by decide) l)
theorem Bg.mul {j k : Nat} {x y : Int} (h : Bg j x) (h2 : Bg k y) : Bg (j + k) (x * y) := by
  unfold Bg at *
  rw [Int.natAbs_mul, Nat.pow_add]
  exact Nat.mul_lt_mul'' h h2
theorem Bg.add {k : Nat} {x y : Int} (h : Bg k x) (h2 : Bg k y) : Bg (k + 1) (x + y) := by
  unfold Bg at *
  rw [Nat.pow_succ]
  have := Int.natAbs_add_le x y
  omega
theorem Bg.neg {k : Nat} {x : Int} (h : Bg k x) : Bg k (-x) := by unfold Bg at *; rwa [Int.natAbs_neg]
theorem Bg.sub {k : Nat} {x y : Int} (h : Bg k x) (h2 : Bg k y) : Bg (k + 1) (x - y) := by rw [Int.sub_eq_add_neg]; exact h.add h2.neg
theorem Bg.of {x : Int} (h : -(2 ^ 64) < x ∧ x < 2 ^ 64) : Bg 64 x := by unfold Bg; omega
theorem Bg.div {k : Nat} {x : Int} (h : Bg k x) (g : Nat) : Bg k (x / (g : Int)) := by
  unfold Bg at *
  have := Int.natAbs_ediv_le_natAbs x (g : Int)
  omega
theorem mulBg {j k : Nat} {x y : Int} (h : Bg j x) (h2 : Bg k y) (l : j + k ≤ 134217728) : MD.MulOk x y := .inr (mulx_ok h h2 l)
theorem divBg {k : Nat} {x : Int} (h : Bg k x) (h0 : x ≠ 0) (l : k ≤ 9000) : DivOk x := ⟨h0, h.mono l⟩
theorem fr_pos {n d : Int} (h : 0 < d) : fr n d = (n / (Int.gcd n d : Int), d / (Int.gcd n d : Int)) := by unfold fr; rw [if_neg (by omega)]
theorem fr_neg (n d : Int) (h : d ≠ 0) : fr (-n) (-d) = fr n d := by
  unfold fr
  rw [Int.neg_gcd, Int.gcd_neg]
  by_cases hd : d < 0
  · rw [if_neg (by omega), if_pos hd]
  · rw [if_pos (by omega), if_neg hd, Int.neg_neg, Int.neg_neg]
theorem fr_scale {n d k : Int} (hk : 0 < k) (h : d ≠ 0) : fr (n * k) (d * k) = fr n d := by
  have hg : (Int.gcd (n * k) (d * k) : Int) = Int.gcd n d * k := by
    rw [Int.gcd_mul_right]
    have : (k.natAbs : Int) = k := by omega
    rw [Int.natCast_mul, this]
  have e : ∀ x : Int, x * k / ((Int.gcd n d : Int) * k) = x / (Int.gcd n d : Int) := fun x => Int.mul_ediv_mul_of_pos_left _ _ hk
  unfold fr
  rw [hg]
  by_cases hd : d < 0
  · have hdk : d * k < 0 := Int.mul_neg_of_neg_of_pos hd hk
    rw [if_pos hdk, if_pos hd, ← Int.neg_mul, ← Int.neg_mul, e, e]
  · have hdk : ¬ d * k < 0 := by
      have : 0 < d * k := Int.mul_pos (by omega) hk
      omega
    rw [if_neg hdk, if_neg hd, e, e]
theorem fr_cross {n d n' d' : Int} (h : 0 < d) (h' : 0 < d') (e : n * d' = n' * d) : fr n d = fr n' d' := by
  rw [← fr_scale (n := n) (d := d) h' (by omega), ← fr_scale (n := n') (d := d') h (by omega), e, Int.mul_comm d d']
theorem gcd_pos {n d : Int} (h : d ≠ 0) : 0 < Int.gcd n d := Int.gcd_pos_iff.mpr (.inr h)
theorem gcd_dvd_l (n d : Int) : (Int.gcd n d : Int) ∣ n := Int.gcd_dvd_left ..
theorem gcd_dvd_r (n d : Int) : (Int.gcd n d : Int) ∣ d := Int.gcd_dvd_right ..
theorem fr_den {n d : Int} (h : d ≠ 0) : 0 < (fr n d).2 := by
  have hg := gcd_pos (n := n) h
  unfold fr
  split
  · show 0 < -d / (Int.gcd n d : Int)
    have : (Int.gcd n d : Int) ∣ -d := (Int.dvd_neg).mpr (gcd_dvd_r n d)
    exact Int.ediv_pos_of_pos_of_dvd (by omega) (by omega) this
  · show 0 < d / (Int.gcd n d : Int)
    exact Int.ediv_pos_of_pos_of_dvd (by omega) (by omega) (gcd_dvd_r n d)
theorem fr_bg {k : Nat} {n d : Int} (h1 : Bg k n) (h2 : Bg k d) : Bg k (fr n d).1 ∧ Bg k (fr n d).2 := by
  unfold fr
  split
  · exact ⟨h1.neg.div _, h2.neg.div _⟩
  · exact ⟨h1.div _, h2.div _⟩
/-- a lowest fraction and the one it came from -/
theorem fr_mul {n d : Int} (h : 0 < d) : (fr n d).1 * d = n * (fr n d).2 := by
  rw [fr_pos h]
  have hn := Int.ediv_mul_cancel (gcd_dvd_l n d)
  have hd := Int.ediv_mul_cancel (gcd_dvd_r n d)
  show n / (Int.gcd n d : Int) * d = n * (d / (Int.gcd n d : Int))
  generalize (Int.gcd n d : Int) = g at *
  conv => lhs; rw [← hd]
  conv => rhs; rw [← hn]
  rw [Int.mul_comm (d / g) g, Int.mul_assoc]
theorem fdiv_negg {n : Int} {g : Nat} (hg : 0 < g) (h : (g : Int) ∣ n) : n.fdiv (-(g : Int)) = -n / (g : Int) := by
  obtain ⟨q, rfl⟩ := h
  rw [show (g : Int) * q = (-(g : Int)) * (-q) by rw [Int.neg_mul_neg], Int.mul_fdiv_cancel_left _ (by omega), Int.neg_mul_neg, ← Int.mul_neg, Int.mul_ediv_cancel_left _ (by omega)]
theorem gcd_bg {k : Nat} {n d : Int} (h : d ≠ 0) (hb : Bg k d) : Bg k (Int.gcd n d : Int) := by
  unfold Bg at *
  have : Int.gcd n d ≤ d.natAbs := Nat.le_of_dvd (by omega) (Nat.gcd_dvd_right _ _)
  rw [Int.natAbs_natCast]
  omega
theorem math_fraction (ds M Q E) (hM : WFM M) (hb : D.belL M.length ds = true) (h : sp_fraction ds M Q E) : r_fraction (retE M.length Q E) (startD N_fraction ds) M := by
  obtain ⟨n, d, rfl, h0, h1, h2, q⟩ := h
  have hg := gcd_pos (n := n) h0
  have hgb := gcd_bg (n := n) h0 h2
  unfold r_fraction
  refine seq_step fun S hS => ?_
  simp only [startD, u_asg, u_CB, u_cons, u_nil, u_var, u_I2, u_gname]
  refine ⟨_, rfl, _, rfl, n, d, rfl, ?_⟩
  rw [show ((Nat.gcd n.natAbs d.natAbs : Nat) : Int) = (Int.gcd n d : Int) from rfl]
  subst hS
  refine seq_step fun S hS => ?_
  unfold fr at q
  by_cases hd : d < 0
  · rw [if_pos hd] at q
    simp [hd]
    subst hS
    simp
    refine ⟨divBg hgb.neg (by omega) (by decide), by decide, ?_⟩
    rw [popM_same (Nat.le_refl _), fdiv_negg hg (gcd_dvd_l n d), fdiv_negg hg (gcd_dvd_r n d)]
    exact q
  · rw [if_neg hd] at q
    simp [hd]
    subst hS
    simp
    refine ⟨divBg hgb (by omega) (by decide), by decide, ?_⟩
    rw [popM_same (Nat.le_refl _), e_fdiv (by omega), e_fdiv (by omega)]
    exact q
structure EI (G i a b : Nat) : Prop where
  g : Nat.gcd a b = G
  la : a < 2 ^ 8000
  lb : b < 2 ^ 8000
  le : 0 < i → b ≤ a
  sm : i = 0 → a < 2 ^ 990 ∨ b < 2 ^ 990
  s1 : i = 1 → b < 2 ^ 990
  pr : 2 ≤ i → a * b * 2 ^ (i - 2) < 2 ^ 1980
theorem EI.step {G i a b : Nat} (h : EI G i a b) (hb : b ≠ 0) : EI G (i + 1) b (a % b) := by
  have hm : a % b < b := Nat.mod_lt _ (by omega)
  refine ⟨?_, h.lb, Nat.lt_trans hm h.lb, fun _ => Nat.le_of_lt hm, fun z => absurd z (by omega), fun z => ?_, fun z => ?_⟩
  · rw [← h.g, Nat.gcd_comm a b, Nat.gcd_rec b a, Nat.gcd_comm]
  · rcases h.sm (by omega) with q | q
    · exact Nat.lt_of_le_of_lt (Nat.mod_le _ _) q
    · exact Nat.lt_trans hm q
  · rw [show i + 1 - 2 = i - 1 by omega]
    by_cases hi : i = 1
    · have hb1 := h.s1 hi
      subst hi
      have h1 : b * (a % b) < 2 ^ 990 * 2 ^ 990 := Nat.mul_lt_mul'' hb1 (Nat.lt_trans hm hb1)
      rw [← Nat.pow_add] at h1
      rw [Nat.sub_self, Nat.pow_zero, Nat.mul_one]
      exact h1
    · have hle := h.le (by omega)
      have h1 : 2 * (a % b) ≤ a := by
        have := Nat.div_add_mod a b
        have h2 : 1 ≤ a / b := (Nat.le_div_iff_mul_le (by omega)).mpr (by omega)
        have h3 : b ≤ b * (a / b) := Nat.le_mul_of_pos_right b h2
        omega
      have h2 : b * (a % b) * 2 ^ (i - 1) ≤ a * b * 2 ^ (i - 2) := by
        rw [show i - 1 = (i - 2) + 1 by omega, Nat.pow_succ, ← Nat.mul_assoc, Nat.mul_right_comm]
        refine Nat.mul_le_mul_right _ ?_
        calc b * (a % b) * 2 = b * (2 * (a % b)) := by rw [Nat.mul_assoc, Nat.mul_comm (a % b) 2]
          _ ≤ b * a := Nat.mul_le_mul_left b h1
          _ = a * b := Nat.mul_comm b a
      exact Nat.lt_of_le_of_lt h2 (h.pr (by omega))
theorem EI.last {G i a b : Nat} (h : EI G i a b) (hi : 1982 ≤ i) : b = 0 := by
  have h1 := h.pr (by omega)
  have h2 := h.le (by omega)
  rcases Nat.eq_zero_or_pos b with z | z
  · exact z
  · have h3 : 1 ≤ a * b := Nat.mul_pos (by omega) z
    have h4 : 2 ^ (i - 2) ≤ a * b * 2 ^ (i - 2) := Nat.le_mul_of_pos_left _ h3
    have h5 : 2 ^ 1980 ≤ 2 ^ (i - 2) := Nat.pow_le_pow_right (by decide) (by omega)
    exact absurd (Nat.lt_of_le_of_lt h4 h1) (Nat.not_lt.mpr h5)
theorem EI.zero {G i a : Nat} (h : EI G i a 0) : a = G := by have := h.g; rwa [Nat.gcd_zero_right] at this
theorem bgN {k a : Nat} (h : a < 2 ^ k) : Bg k (a : Int) := by unfold Bg; rwa [Int.natAbs_natCast]
theorem mod_form (a b : Nat) : (a : Int) - (b : Int) * (a / b : Int) = ((a % b : Nat) : Int) := by
  have := Int.mul_ediv_add_emod (a : Int) (b : Int)
  rw [Int.natCast_emod]
  omega
theorem math__law_lowest (ds M Q E) (hM : WFM M) (hb : D.belL M.length ds = true) (h : sp__law_lowest ds M Q E) : r__law_lowest (retE M.length Q E) (startD N__law_lowest ds) M := by
  obtain ⟨n, d, rfl, h0, h1, h2, h3, q⟩ := h
  have hg := gcd_pos (n := n) (show d ≠ 0 by omega)
  have hgb := gcd_bg (n := n) (show d ≠ 0 by omega) h2
  rw [fr_pos h0] at q
  unfold r__law_lowest
  refine seq_step fun S hS => ?_
  simp [startD]
  refine ⟨_, _, ⟨rfl, rfl⟩, ?_⟩
  subst hS
  refine seq_step fun S hS => ?_
  have fin : ∀ (t : Option D) (b : D), S (retE M.length Q E) [some (.int n), some (.int d), t, some (.int (Int.gcd n d : Int)), some b] M := by
    intro t b
    subst hS
    simp
    refine ⟨divBg hgb (by omega) (by decide), by decide, ?_⟩
    rw [popM_same (Nat.le_refl _), e_fdiv (by omega), e_fdiv (by omega)]
    exact q
  clear hS
  simp
  have ha : (if n < 0 then -n else n) = (n.natAbs : Int) := by split <;> omega
  have hd : d = (d.natAbs : Int) := by omega
  rw [ha]
  refine forR_ind (fun i δ M' => M' = M ∧ ∃ (a b : Nat) (t : Option D), EI (Int.gcd n d) i a b ∧ δ = [some (.int n), some (.int d), t, some (.int (a : Int)), some (.int (b : Int))]) ?_ ?_ ⟨rfl, n.natAbs, d.natAbs, none, ⟨rfl, h1, h2, fun z => absurd z (by decide), fun _ => h3, fun z => absurd z (by decide), fun z => absurd z (by decide)⟩, by rw [← hd]⟩
  · rintro δ M' ⟨rfl, a, b, t, he, rfl⟩
    refine ⟨trivial, ?_⟩
    have hb0 := he.last (by decide)
    subst hb0
    rw [he.zero]
    exact fin _ _
  · rintro i δ M' F hi ⟨rfl, a, b, t, he, rfl⟩ hF
    refine ⟨trivial, ?_⟩
    refine seq_step fun S2 hS2 => ?_
    simp
    by_cases hb0 : b = 0
    · subst hb0
      rw [if_pos rfl, he.zero]
      exact fin _ _
    · rw [if_neg (by omega)]
      subst hS2
      simp
      refine ⟨divBg (bgN he.lb) (by omega) (by decide), ?_, ?_⟩
      · rw [e_fdiv (by omega)]
        exact mulBg (bgN he.lb) ((bgN he.la).div b) (by decide)
      refine ⟨_, _, ⟨rfl, rfl⟩, ?_⟩
      rw [e_fdiv (by omega), mod_form]
      exact hF _ _ ⟨rfl, b, a % b, _, he.step hb0, rfl⟩
theorem math_common (N : Int) (hN : 1982 ≤ N) (hN2 : N ≤ 1000000) (ds M Q E) (hM : WFM M) (hb : D.belL M.length ds = true) (h : sp__law_common ds M Q E) : r_common N (retE M.length Q E) (startD N__law_common ds) M := by
  obtain ⟨a0, b0, rfl, h1, h2, h3, q⟩ := h
  unfold r_common
  refine seq_step fun S hS => ?_
  have fin : ∀ (t : Option D) (b : D), S (retE M.length Q E) [some (.int (Nat.gcd a0 b0 : Nat)), some b, t] M := by
    intro t b
    subst hS
    simp
    rw [popM_same (Nat.le_refl _)]
    exact q
  clear hS
  simp [startD]
  unfold Bg at h1 h2 h3
  rw [Int.natAbs_natCast] at h1 h2
  rw [Int.natAbs_natCast, Int.natAbs_natCast] at h3
  refine ⟨by omega, by omega, ?_⟩
  refine forR_ind (fun i δ M' => M' = M ∧ ∃ (a b : Nat) (t : Option D), EI (Nat.gcd a0 b0) i a b ∧ δ = [some (.int (a : Int)), some (.int (b : Int)), t]) ?_ ?_ ⟨rfl, a0, b0, none, ⟨rfl, h1, h2, fun z => absurd z (by decide), fun _ => h3, fun z => absurd z (by decide), fun z => absurd z (by decide)⟩, rfl⟩
  · rintro δ M' ⟨rfl, a, b, t, he, rfl⟩
    refine ⟨trivial, ?_⟩
    have hb0 := he.last (by omega)
    subst hb0
    rw [he.zero]
    exact fin _ _
  · rintro i δ M' F hi ⟨rfl, a, b, t, he, rfl⟩ hF
    refine ⟨trivial, ?_⟩
    refine seq_step fun S2 hS2 => ?_
    simp
    by_cases hb0 : b = 0
    · subst hb0
      rw [if_pos rfl, he.zero]
      exact fin _ _
    · rw [if_neg (by omega)]
      subst hS2
      simp
      refine ⟨divBg (bgN he.lb) (by omega) (by decide), ?_, ?_⟩
      · rw [e_fdiv (by omega)]
        exact mulBg (bgN he.lb) ((bgN he.la).div b) (by decide)
      refine ⟨_, _, ⟨rfl, rfl⟩, ?_⟩
      rw [e_fdiv (by omega), mod_form]
      exact hF _ _ ⟨rfl, b, a % b, _, he.step hb0, rfl⟩
theorem pr_sq {s : D} {f o : Int} {M : MH} (h : Pr s f o) : seqOf s M = some [.int f, .int o] := by rcases h with rfl | rfl <;> rfl
theorem pr_ns {s : D} {f o : Int} (h : Pr s f o) : ∀ z : Str, s ≠ .str z := by rcases h with rfl | rfl <;> exact nofun
theorem ne_mul {b d : Int} (h : 0 < b) (h2 : 0 < d) : b * d ≠ 0 := by have := Int.mul_pos h h2; omega
theorem math_sum_of (ds M Q E) (hM : WFM M) (hb : D.belL M.length ds = true) (h : sp_sum_of ds M Q E) : r_sum_of (retE M.length Q E) (startD N_sum_of ds) M := by
  obtain ⟨s, t, a, b, c, d, rfl, hs, ht, hb0, hd0, ⟨j, k, hjk, ga, gb, gc, gd⟩, q⟩ := h
  simp [r_sum_of, startD, pr_sq hs, pr_sq ht, pr_ns hs, pr_ns ht]
  refine ⟨mulBg ga gd (by omega), mulBg gc gb (by omega), mulBg gb gd (by omega), ?_⟩
  refine ⟨_, _, rfl, ne_mul hb0 hd0, ((ga.mul gd).add ((gc.mul gb).mono (by omega))).mono (by omega), (gb.mul gd).mono (by omega), ?_⟩
  show Q _ (popM _ _ _)
  rw [popM_same (Nat.le_refl _)]; exact q
theorem math_difference (ds M Q E) (hM : WFM M) (hb : D.belL M.length ds = true) (h : sp_difference ds M Q E) : r_difference (retE M.length Q E) (startD N_difference ds) M := by
  obtain ⟨s, t, a, b, c, d, rfl, hs, ht, hb0, hd0, ⟨j, k, hjk, ga, gb, gc, gd⟩, q⟩ := h
  simp [r_difference, startD, pr_sq hs, pr_sq ht, pr_ns hs, pr_ns ht]
  refine ⟨mulBg ga gd (by omega), mulBg gc gb (by omega), mulBg gb gd (by omega), ?_⟩
  refine ⟨_, _, rfl, ne_mul hb0 hd0, ((ga.mul gd).sub ((gc.mul gb).mono (by omega))).mono (by omega), (gb.mul gd).mono (by omega), ?_⟩
  show Q _ (popM _ _ _)
  rw [popM_same (Nat.le_refl _)]; exact q
theorem math_product (ds M Q E) (hM : WFM M) (hb : D.belL M.length ds = true) (h : sp_product ds M Q E) : r_product (retE M.length Q E) (startD N_product ds) M := by
  obtain ⟨s, t, a, b, c, d, rfl, hs, ht, hb0, hd0, ⟨j, k, hjk, ga, gb, gc, gd⟩, q⟩ := h
  simp [r_product, startD, pr_sq hs, pr_sq ht, pr_ns hs, pr_ns ht]
  refine ⟨mulBg ga gc (by omega), mulBg gb gd (by omega), ?_⟩
  refine ⟨_, _, rfl, ne_mul hb0 hd0, (ga.mul gc).mono (by omega), (gb.mul gd).mono (by omega), ?_⟩
  show Q _ (popM _ _ _)
  rw [popM_same (Nat.le_refl _)]; exact q
theorem math_is_less (ds M Q E) (hM : WFM M) (hb : D.belL M.length ds = true) (h : sp_is_less ds M Q E) : r_is_less (retE M.length Q E) (startD N_is_less ds) M := by
  obtain ⟨s, t, a, b, c, d, rfl, hs, ht, hb0, hd0, ⟨j, k, hjk, ga, gb, gc, gd⟩, q⟩ := h
  simp [r_is_less, startD, pr_sq hs, pr_sq ht, pr_ns hs, pr_ns ht]
  refine ⟨mulBg ga gd (by omega), mulBg gc gb (by omega), ?_⟩
  rw [popM_same (Nat.le_refl _)]; exact q
theorem math__law_below (ds M Q E) (hM : WFM M) (hb : D.belL M.length ds = true) (h : sp__law_below ds M Q E) : r__law_below (retE M.length Q E) (startD N__law_below ds) M := by
  obtain ⟨p, many, rfl, h1, hp, q⟩ := h
  have cp : CPow 10 6 := ⟨by decide, by decide, by decide⟩
  have st0 : Step p M M := ⟨⟨M[p]'hp.lt, by simp⟩, hp⟩
  unfold r__law_below
  refine seq_step fun S hS => ?_
  simp [startD]
  subst hS
  refine seq_step fun S hS => ?_
  simp
  refine forR_ind (fun i δ M' => Step p M M' ∧ ∃ (x : Int) (t : Option D), δ = [some (.ref p), some (.int many), some (.int x), t]) ?_ ?_ ⟨st0, 0, none, rfl⟩
  · rintro δ M' ⟨hs, x, t, rfl⟩
    refine ⟨trivial, ?_⟩
    show S _ _ _
    subst hS
    simp
    refine ⟨by omega, ?_⟩
    rw [popM_same (by rw [hs.length]; simp), e_fmod h1]
    exact q _ _ (Int.emod_nonneg _ (by omega)) (Int.emod_lt_of_pos _ h1) hs
  · rintro i δ M' F hi ⟨hs, x, t, rfl⟩ hF
    refine ⟨trivial, ?_⟩
    simp [cp]
    refine ⟨mulOk_r (by decide), p, _, rfl, by decide, by decide, hs.2, fun r M2 a2 b2 c2 => ?_⟩
    simp
    exact hF _ _ ⟨hs.trans c2, _, _, rfl⟩
theorem math__law_sum (ds M Q E) (hM : WFM M) (hb : D.belL M.length ds = true) (h : sp__law_sum ds M Q E) : r__law_sum (retE M.length Q E) (startD N__law_sum ds) M := by
  obtain ⟨s, t, a, b, c, d, rfl, hs, ht, hb0, hd0, ⟨j, k, hjk, ga, gb, gc, gd⟩, q⟩ := h
  simp [r__law_sum, startD, pr_sq hs, pr_sq ht, pr_ns hs, pr_ns ht]
  refine ⟨mulBg ga gd (by omega), mulBg gc gb (by omega), mulBg gb gd (by omega), ?_⟩
  refine ⟨_, _, rfl, Int.mul_pos hb0 hd0, ((ga.mul gd).add ((gc.mul gb).mono (by omega))).mono (by omega), (gb.mul gd).mono (by omega), .inr ((gb.mul gd).mono (by omega)), ?_⟩
  show Q _ (popM _ _ _)
  rw [popM_same (Nat.le_refl _)]; exact q
theorem math__law_times (ds M Q E) (hM : WFM M) (hb : D.belL M.length ds = true) (h : sp__law_times ds M Q E) : r__law_times (retE M.length Q E) (startD N__law_times ds) M := by
  obtain ⟨s, t, a, b, c, d, rfl, hs, ht, hb0, hd0, ⟨j, k, hjk, ga, gb, gc, gd⟩, q⟩ := h
  simp [r__law_times, startD, pr_sq hs, pr_sq ht, pr_ns hs, pr_ns ht]
  refine ⟨mulBg ga gc (by omega), mulBg gb gd (by omega), ?_⟩
  refine ⟨_, _, rfl, Int.mul_pos hb0 hd0, (ga.mul gc).mono (by omega), (gb.mul gd).mono (by omega), .inr ((gb.mul gd).mono (by omega)), ?_⟩
  show Q _ (popM _ _ _)
  rw [popM_same (Nat.le_refl _)]; exact q
theorem bg64 {x : Int} {k : Nat} (h : -(2 ^ 64) < x ∧ x < 2 ^ 64) (l : 64 ≤ k) : Bg k x := (Bg.of h).mono l
theorem fr_fr {n d : Int} (h : 0 < d) : fr (fr n d).1 (fr n d).2 = fr n d := fr_cross (fr_den (by omega)) h (fr_mul h)
theorem gcd_bg2 {k : Nat} {x y : Int} (h1 : Bg k x) (h2 : Bg k y) : Bg k (Int.gcd x y : Int) := by
  by_cases h : y = 0
  · subst h
    rw [Int.gcd_zero_right]
    unfold Bg at *
    rwa [Int.natAbs_natCast]
  · exact gcd_bg h h2
theorem textFrom_le {L : Nat} : ∀ (ts : List Str) (k : Nat) (acc : Str), (∀ t ∈ ts, t.length ≤ L) → (textFrom k acc ts).length ≤ acc.length + ts.length * (L + 2)
  | [], k, acc, _ => by show acc.length ≤ _; simp
  | t :: r, k, acc, h => by
    have h1 := h t List.mem_cons_self
    have h2 := textFrom_le r (k + 1) (acc ++ ((if k > 0 then ", " else "" : String) : Str) ++ t) (fun x hx => h x (List.mem_cons_of_mem _ hx))
    have e : textFrom k acc (t :: r) = textFrom (k + 1) (acc ++ ((if k > 0 then ", " else "" : String) : Str) ++ t) r := rfl
    rw [e]
    refine Nat.le_trans h2 ?_
    rw [str_len_app, str_len_app, List.length_cons, Nat.add_mul]
    have h3 : (((if k > 0 then ", " else "" : String) : Str)).length ≤ 2 := by split <;> decide
    omega
theorem list_le {L : Nat} (ts : List Str) (h : ∀ t ∈ ts, t.length ≤ L) : (listText ts).length ≤ 2 + ts.length * (L + 2) := by
  unfold listText
  rw [str_len_app]
  have := textFrom_le ts 0 "[" h
  have e1 : ("[" : Str).length = 1 := rfl
  have e2 : ("]" : Str).length = 1 := rfl
  omega
theorem join_le {L : Nat} : ∀ ts : List Str, (∀ t ∈ ts, t.length ≤ L) → (Str.join ", " ts).length ≤ ts.length * (L + 2)
  | [], _ => by show (0 : Nat) ≤ _; omega
  | [x], h => by
    have := h x List.mem_cons_self
    show x.length ≤ 1 * (L + 2)
    omega
  | x :: y :: r, h => by
    rw [PyProof.Rows.join_cons_cons, str_len_app, str_len_app]
    have h1 := h x List.mem_cons_self
    have h2 := join_le (y :: r) (fun z hz => h z (List.mem_cons_of_mem _ hz))
    have e : (", " : Str).length = 2 := rfl
    rw [List.length_cons, Nat.add_mul]
    omega
theorem tuple_le {L : Nat} (ts : List Str) (h : ∀ t ∈ ts, t.length ≤ L) : (tupleText ts).length ≤ 3 + ts.length * (L + 2) := by
  unfold tupleText
  rw [str_len_app, str_len_app]
  have := join_le ts h
  have e1 : ("(" : Str).length = 1 := rfl
  have e2 : ((if ts.length == 1 then ",)" else ")" : String) : Str).length ≤ 2 := by split <;> decide
  omega
end Kit
namespace Kit
open MD L2 PySem
/-! columns of bars -/
abbrev Tone := Int × Int
abbrev Ent := Option (Tone × Bool)
structure Col where
  dur : Int × Int
  acc : Int
  es : List Ent
def entD : Ent → D
  | none => .non
  | some (t, b) => .tup [MD.prD t, .bl b]
def colD (c : Col) : D := .tup [MD.prD c.dur, .int c.acc, .tup (c.es.map entD)]
/-- the same items, one by one -/
def RelL {α β : Type} (R : α → β → Prop) : List α → List β → Prop
  | [], [] => True
  | x :: xs, y :: ys => R x y ∧ RelL R xs ys
  | _, _ => False
theorem RelL.length {α β : Type} {R : α → β → Prop} : ∀ {xs : List α} {ys : List β}, RelL R xs ys → xs.length = ys.length
  | [], [], _ => rfl
  | x :: xs, y :: ys, h => by rw [List.length_cons, List.length_cons, RelL.length h.2]
theorem RelL.at {α β : Type} {R : α → β → Prop} : ∀ {xs : List α} {ys : List β} {i : Nat} {x : α}, RelL R xs ys → xs[i]? = some x → ∃ y, ys[i]? = some y ∧ R x y
  | x :: xs, y :: ys, 0, _, h, e => by cases e; exact ⟨y, rfl, h.1⟩
  | x :: xs, y :: ys, i + 1, _, h, e => RelL.at (xs := xs) (ys := ys) h.2 (by simpa using e)
theorem RelL.map {α β : Type} {R : α → β → Prop} (f : β → α) (h : ∀ y, R (f y) y) : ∀ ys : List β, RelL R (ys.map f) ys
  | [] => trivial
  | y :: ys => ⟨h y, RelL.map f h ys⟩
/-- an entry, its pairs as tuples or lists -/
def EntL (d : D) : Ent → Prop
  | none => d = .non
  | some (t, b) => ∃ x, Pr x t.1 t.2 ∧ (d = .tup [x, .bl b] ∨ d = .lst [x, .bl b])
def ColL (d : D) (c : Col) : Prop := ∃ x y es, Pr x c.dur.1 c.dur.2 ∧ RelL EntL es c.es ∧ (y = .tup es ∨ y = .lst es) ∧ (d = .tup [x, .int c.acc, y] ∨ d = .lst [x, .int c.acc, y])
theorem entL_entD (e : Ent) : EntL (entD e) e := by
  cases e with
  | none => rfl
  | some p => exact ⟨_, .inl rfl, .inl rfl⟩
theorem colL_colD (c : Col) : ColL (colD c) c := ⟨_, _, _, .inl rfl, RelL.map entD entL_entD c.es, .inl rfl, .inl rfl⟩
/-! settled -/
abbrev N_settled_entry : List Str := ["entry"]
abbrev N_settled : List Str := ["column", "entry"]
def sp_settled_entry : SpD := fun ds M Q _ => ∃ d e, ds = [d] ∧ EntL d e ∧ Q (entD e) M
theorem mono_settled_entry : MonoP sp_settled_entry := fun ds M Q Q' E E' q x ⟨d, e, h1, h2, h⟩ => ⟨d, e, h1, h2, q _ _ h⟩
theorem len_settled_entry (ds M Q E) (h : sp_settled_entry ds M Q E) : ds.length = 1 := by obtain ⟨_, _, rfl, _⟩ := h; rfl
def sp_settled : SpD := fun ds M Q _ => ∃ d c, ds = [d] ∧ ColL d c ∧ c.es.length ≤ sizeLine ∧ Q (colD c) M
theorem mono_settled : MonoP sp_settled := fun ds M Q Q' E E' q x ⟨d, e, h1, h2, h3, h⟩ => ⟨d, e, h1, h2, h3, q _ _ h⟩
theorem len_settled (ds M Q E) (h : sp_settled ds M Q E) : ds.length = 1 := by obtain ⟨_, _, rfl, _⟩ := h; rfl
def r_settled_entry : TS' := (tRet' (tIf' (tB' (tOp' (oIsN' false) (tVar' 0) (tC' .non))) (tC' .non) (tTup' (tCons' (tCB' cTuple (tCons' (tOp' oIx (tVar' 0) (tC' (.int 0))) tNil')) (tCons' (tOp' oIx (tVar' 0) (tC' (.int 1))) tNil')))))
def r_settled : TS' := (tRet' (tTup' (tCons' (tCB' cTuple (tCons' (tOp' oIx (tVar' 0) (tC' (.int 0))) tNil')) (tCons' (tOp' oIx (tVar' 0) (tC' (.int 1))) (tCons' (tCB' cTuple (tCons' (tLc' false (tIt' (tOp' oIx (tVar' 0) (tC' (.int 2)))) (gName' 1) tYes' (tCall' sp_settled_entry (tCons' (tVar' 1) tNil')) [1]) tNil')) tNil')))))
theorem math_settled_entry (ds M Q E) (hM : WFM M) (hb : D.belL M.length ds = true) (h : sp_settled_entry ds M Q E) : r_settled_entry (retE M.length Q E) (startD N_settled_entry ds) M := by
  obtain ⟨d, e, rfl, he, q⟩ := h
  cases e with
  | none =>
    have he : d = .non := he
    subst he
    simp [r_settled_entry, startD, popM_same]
    exact q
  | some p =>
    obtain ⟨⟨f, o⟩, b⟩ := p
    obtain ⟨x, hx, hd⟩ := he
    have hsx := pr_sq (M := M) hx
    rcases hd with rfl | rfl <;> simp [r_settled_entry, startD, hsx, popM_same] <;> exact ⟨by decide, q⟩
/-- a comprehension of one name over items that stand in a relation to others -/
theorem lcL_rel {α : Type} {R : D → α → Prop} {it : ItD} {te : TE'} {i : Nat} {vs : List Nat} {δ : EnvD} {M : MH} {Q : List D → MH → Prop} (g : α → D) (hst : it.still M) :
    ∀ (ds : List D) (ys : List α) (acc : List D), RelL R ds ys → (∀ d y, y ∈ ys → R d y → ∀ Q' : QE, Q' (g y) M → te ((wipeD δ vs).set i (some d)) M Q' (fun _ _ => False)) → acc.length + ds.length ≤ sizeLine →
      Q (acc ++ ys.map g) M → lcL it (gName' i) tYes' te vs δ Q ds acc M
  | [], [], acc, _, _, _, q => ⟨hst, by simpa using q⟩
  | d :: r, y :: ys, acc, hr, h, hl, q => ⟨hst, by
    show te ((wipeD δ vs).set i (some d)) M _ _
    refine h d y List.mem_cons_self hr.1 _ ⟨by simp at hl; omega, ?_⟩
    refine lcL_rel g hst r ys (acc ++ [g y]) hr.2 (fun d y hy => h d y (List.mem_cons_of_mem _ hy)) (by simp at hl ⊢; omega) ?_
    simpa using q⟩
theorem math_settled (ds M Q E) (hM : WFM M) (hb : D.belL M.length ds = true) (h : sp_settled ds M Q E) : r_settled (retE M.length Q E) (startD N_settled ds) M := by
  obtain ⟨d, c, rfl, ⟨x, y, es, hx, hes, hy, hd⟩, hl, q⟩ := h
  have hsq : seqOf d M = some [x, .int c.acc, y] := by rcases hd with rfl | rfl <;> rfl
  have hns : ∀ z : Str, d ≠ .str z := by rcases hd with rfl | rfl <;> exact nofun
  have hsx := pr_sq (M := M) hx
  have hel := hes.length
  have hit : ∀ R : ItD → MH → Prop, R ⟨es, none⟩ M → seqD y M R := by rcases hy with rfl | rfl <;> exact fun R h => h
  simp [r_settled, startD, hsq, hns, hsx]
  refine hit _ ?_
  refine lcL_rel (R := EntL) entD (by exact trivial) _ c.es _ hes ?_ (by simp; omega) ?_
  · intro d e _ hde Q' q'
    simp [wipeD]
    exact ⟨d, e, rfl, hde, q'⟩
  · refine ⟨by decide, ?_⟩
    rw [popM_same (Nat.le_refl _)]
    exact q
end Kit
namespace Kit
open MD L2 PySem
/-! bars that a law draws -/
def okDur (p : Int × Int) : Prop := 0 < p.1 ∧ 0 < p.2 ∧ Bg 64 p.1 ∧ Bg 64 p.2 ∧ fr p.1 p.2 = p
theorem fr_okDur {n d : Int} (h1 : 0 < n) (h2 : 0 < d) (b1 : Bg 64 n) (b2 : Bg 64 d) : okDur (fr n d) := by
  obtain ⟨c1, c2⟩ := fr_bg b1 b2
  refine ⟨?_, fr_den (by omega), c1, c2, fr_fr h2⟩
  rw [fr_pos h2]
  have := gcd_pos (n := n) (d := d) (by omega)
  exact Int.ediv_pos_of_pos_of_dvd (by omega) (by omega) (gcd_dvd_l _ _)
/-- small numbers -/
def sml (p : Int × Int) : Prop := p.1 ≤ 1000 ∧ p.2 ≤ 1000
theorem fr_le {n d : Int} (h1 : 0 ≤ n) (h2 : 0 < d) : (fr n d).1 ≤ n ∧ (fr n d).2 ≤ d := by
  rw [fr_pos h2]
  exact ⟨Int.ediv_le_self _ h1, Int.ediv_le_self _ (by omega)⟩
theorem sml_fr {n d : Int} (h1 : 0 < n) (h2 : 0 < d) (b1 : n ≤ 1000) (b2 : d ≤ 1000) : sml (fr n d) := by
  obtain ⟨c1, c2⟩ := fr_le (n := n) (d := d) (by omega) h2
  exact ⟨by omega, by omega⟩
def okEnt (T : Tone → Prop) (e : Ent) : Prop := ∀ t b, e = some (t, b) → T t
def okCol (T : Tone → Prop) (v : Nat) (c : Col) : Prop := okDur c.dur ∧ 0 ≤ c.acc ∧ c.acc ≤ 9 ∧ c.es.length = v ∧ ∀ e ∈ c.es, okEnt T e
abbrev N__law_duration : List Str := ["pool"]
def sp__law_duration : SpD := fun ds M Q _ => ∃ p, ds = [.ref p] ∧ Pool M p ∧ ∀ dur M', okDur dur → sml dur → Step p M M' → Q (MD.prD dur) M'
theorem mono__law_duration : MonoP sp__law_duration := fun ds M Q Q' E E' q x ⟨p, e, h1, h⟩ => ⟨p, e, h1, fun a M' b c d => q _ _ (h a M' b c d)⟩
theorem len__law_duration (ds M Q E) (h : sp__law_duration ds M Q E) : ds.length = 1 := by obtain ⟨_, rfl, _⟩ := h; rfl
def r__law_duration : TS' := (tSeq' (tIfS' (tB' (tOp' (oEq false) (tCall' sp__law_take (tCons' (tVar' 0) (tCons' (tC' (.int 12)) tNil'))) (tC' (.int 0)))) (tRet' (tCall' sp__law_lowest (tCons' (tOp' (oAdd false) (tC' (.int 1)) (tCall' sp__law_take (tCons' (tVar' 0) (tCons' (tC' (.int 1000)) tNil')))) (tCons' (tOp' (oAdd false) (tC' (.int 1)) (tCall' sp__law_take (tCons' (tVar' 0) (tCons' (tC' (.int 1000)) tNil')))) tNil')))) tNext')
    (tRet' (tCall' sp__law_lowest (tCons' (tOp' (oAdd false) (tC' (.int 1)) (tCall' sp__law_take (tCons' (tVar' 0) (tCons' (tC' (.int 6)) tNil')))) (tCons' (tCall' sp__law_pick (tCons' (tVar' 0) (tCons' (tLst' false (tCons' (tC' (.int 1)) (tCons' (tC' (.int 2)) (tCons' (tC' (.int 3)) (tCons' (tC' (.int 4)) (tCons' (tC' (.int 5)) (tCons' (tC' (.int 8)) (tCons' (tC' (.int 12)) (tCons' (tC' (.int 16)) tNil'))))))))) tNil'))) tNil')))))
theorem math__law_duration (ds M Q E) (hM : WFM M) (hb : D.belL M.length ds = true) (h : sp__law_duration ds M Q E) : r__law_duration (retE M.length Q E) (startD N__law_duration ds) M := by
  obtain ⟨p, rfl, hp, q⟩ := h
  have fin : ∀ (n d : Int) M', 0 < n → n ≤ 1000 → 0 < d → d ≤ 1000 → Step p M M' → sp__law_lowest [.int n, .int d] M' (retE M.length Q E).rt fun x M1 => E x (popX M.length x M1) := by
    intro n d M' h1 h2 h3 h4 c
    have bn : Bg 64 n := bg64 (by omega) (by decide)
    have bd : Bg 64 d := bg64 (by omega) (by decide)
    refine ⟨n, d, rfl, h3, bn.mono (by decide), bd.mono (by decide), .inl (bn.mono (by decide)), ?_⟩
    simp
    rw [popM_same (by rw [c.length]; simp)]
    exact q _ _ (fr_okDur h1 h3 bn bd) (sml_fr h1 h3 h2 h4) c
  unfold r__law_duration
  refine seq_step fun S hS => ?_
  simp [startD]
  refine ⟨p, 12, rfl, by decide, by decide, hp, fun k M1 a1 b1 c1 => ?_⟩
  simp
  by_cases k0 : k = 0
  · rw [if_pos k0]
    refine ⟨p, 1000, rfl, by decide, by decide, c1.2, fun r M2 a2 b2 c2 => ?_⟩
    simp
    refine ⟨p, 1000, rfl, by decide, by decide, c2.2, fun r3 M3 a3 b3 c3 => ?_⟩
    simp
    exact fin _ _ _ (by omega) (by omega) (by omega) (by omega) ((c1.trans c2).trans c3)
  · rw [if_neg k0]
    subst hS
    simp
    refine ⟨p, 6, rfl, by decide, by decide, c1.2, fun r M2 a2 b2 c2 => ?_⟩
    simp
    refine ⟨by decide, p, _, _, rfl, c2.2, nofun, rfl, fun _ _ => rfl, by simp, by decide, fun d M3 hd c3 => ?_⟩
    have : ∃ z : Int, d = .int z ∧ 0 < z ∧ z ≤ 16 := by
      simp at hd
      rcases hd with rfl | rfl | rfl | rfl | rfl | rfl | rfl | rfl <;> exact ⟨_, rfl, by omega, by omega⟩
    obtain ⟨z, rfl, z1, z2⟩ := this
    exact fin _ _ _ (by omega) (by omega) (by omega) (by omega) ((c1.trans c2).trans c3)
/-! a column -/
abbrev N__law_column : List Str := ["pool", "voices", "before", "some", "entries", "voice", "kind", "entry", "held", "tone"]
def sp__law_column : SpD := fun ds M Q _ => ∃ (T : Tone → Prop) (p v : Nat) (before sm : D) (xs : List Tone), ds = [.ref p, .int v, before, sm] ∧ Pool M p ∧ v ≤ 1000 ∧ (before = .non ∨ ∃ c, before = colD c ∧ okCol T v c) ∧
  sm = .lst (xs.map MD.prD) ∧ xs ≠ [] ∧ xs.length ≤ 1000000 ∧ (∀ t ∈ xs, T t) ∧ ∀ c M', okCol T v c → sml c.dur → Step p M M' → Q (colD c) M'
theorem mono__law_column : MonoP sp__law_column := fun ds M Q Q' E E' q x ⟨T, p, v, b, s, xs, e, h1, h2, h3, h4, h5, h6, h7, h⟩ => ⟨T, p, v, b, s, xs, e, h1, h2, h3, h4, h5, h6, h7, fun c M' a b d => q _ _ (h c M' a b d)⟩
theorem len__law_column (ds M Q E) (h : sp__law_column ds M Q E) : ds.length = 4 := by obtain ⟨_, _, _, _, _, _, rfl, _⟩ := h; rfl
def r__law_column : TS' := (tSeq' (tAsg' (tTup' tNil') (gName' 4))
    (tSeq' (tFor' (tRng1' (tCons' (tVar' 1) tNil')) (gName' 5) (tSeq' (tAsg' (tCall' sp__law_take (tCons' (tVar' 0) (tCons' (tC' (.int 6)) tNil'))) (gName' 6))
    (tSeq' (tAsg' (tTup' (tCons' (tCall' sp__law_pick (tCons' (tVar' 0) (tCons' (tVar' 3) tNil'))) (tCons' (tC' (.bl true)) tNil'))) (gName' 7))
    (tSeq' (tIfS' (tB' (tOp' (oEq false) (tVar' 6) (tC' (.int 0)))) (tAsg' (tC' .non) (gName' 7)) (tIfS' (tB' (tOp' (oI0 fun i j => .bl (decide (i < j))) (tVar' 6) (tC' (.int 3)))) (tSeq' (tAsg' (tIf' (tB' (tOp' (oIsN' false) (tVar' 2) (tC' .non))) (tC' .non) (tOp' oIx (tOp' oIx (tVar' 2) (tC' (.int 2))) (tVar' 5))) (gName' 8))
    (tSeq' (tAsg' (tIf' (tAnd' (tB' (tOp' (oIsN' true) (tVar' 8) (tC' .non))) (tB' (tOp' (oI0 fun i j => .bl (decide (j < i))) (tCall' sp__law_take (tCons' (tVar' 0) (tCons' (tC' (.int 4)) tNil'))) (tC' (.int 0))))) (tOp' oIx (tVar' 8) (tC' (.int 0))) (tOp' oIx (tVar' 7) (tC' (.int 0)))) (gName' 9))
    (tAsg' (tTup' (tCons' (tVar' 9) (tCons' (tC' (.bl false)) tNil'))) (gName' 7)))) tNext'))
    (tAsg' (tOp' (oAdd false) (tVar' 4) (tTup' (tCons' (tVar' 7) tNil'))) (gName' 4))))))
    (tRet' (tTup' (tCons' (tCall' sp__law_duration (tCons' (tVar' 0) tNil')) (tCons' (tIf' (tB' (tOp' (oEq false) (tCall' sp__law_take (tCons' (tVar' 0) (tCons' (tC' (.int 2)) tNil'))) (tC' (.int 0)))) (tCall' sp__law_take (tCons' (tVar' 0) (tCons' (tC' (.int 10)) tNil'))) (tC' (.int 0))) (tCons' (tVar' 4) tNil')))))))

theorem math__law_column (ds M Q E) (hM : WFM M) (hb : D.belL M.length ds = true) (h : sp__law_column ds M Q E) : r__law_column (retE M.length Q E) (startD N__law_column ds) M := by
  obtain ⟨T, p, v, before, sm, xs, rfl, hp, hv, hbe, rfl, hne, hlen, hT, q⟩ := h
  have hz : (sizeLine : Nat) = 16777216 := by decide
  have st0 : Step p M M := ⟨⟨M[p]'hp.lt, by simp⟩, hp⟩
  unfold r__law_column
  refine seq_step fun S hS => ?_
  simp [startD]
  subst hS
  refine seq_step fun S hS => ?_
  simp
  refine ⟨by omega, ?_⟩
  refine forR_ind (fun i δ M' => Step p M M' ∧ ∃ (es : List Ent) (a b c d e : Option D), es.length = i ∧ (∀ e ∈ es, okEnt T e) ∧ δ = [some (.ref p), some (.int v), some before, some (.lst (xs.map MD.prD)), some (.tup (es.map entD)), a, b, c, d, e]) ?_ ?_ ⟨st0, [], none, none, none, none, none, rfl, nofun, rfl⟩
  · rintro δ M' ⟨hs, es, a, b, c, d, e, hl, hes, rfl⟩
    refine ⟨trivial, ?_⟩
    show S _ _ _
    subst hS
    simp
    refine ⟨p, rfl, hs.2, fun dur M1 hdur hsm k1 => ?_⟩
    have k01 := hs.trans k1
    have fin : ∀ (acc : Int) M2, 0 ≤ acc → acc ≤ 9 → Step p M M2 → Q (.tup [MD.prD dur, .int acc, .tup (es.map entD)]) (popM M.length (.tup [MD.prD dur, .int acc, .tup (es.map entD)]) M2) := by
      intro acc M2 h1 h2 k2
      rw [popM_same (by rw [k2.length]; simp)]
      exact q ⟨dur, acc, es⟩ M2 ⟨hdur, h1, h2, hl, hes⟩ hsm k2
    simp
    refine ⟨p, 2, rfl, by decide, by decide, k01.2, fun r2 M2 a2 b2 k2 => ?_⟩
    simp
    split
    · refine ⟨p, 10, rfl, by decide, by decide, k2.2, fun r3 M3 a3 b3 k3 => ?_⟩
      exact ⟨by decide, fin _ _ (by omega) (by omega) ((k01.trans k2).trans k3)⟩
    · exact ⟨by decide, fin _ _ (by omega) (by omega) (k01.trans k2)⟩
  · rintro i δ M' F hi ⟨hs, es, a, b, c, d, e, hl, hes, rfl⟩ hF
    refine ⟨trivial, ?_⟩
    refine seq_step fun S2 hS2 => ?_
    simp
    refine ⟨p, 6, rfl, by decide, by decide, hs.2, fun kind M1 a1 b1 k1 => ?_⟩
    have s1 := hs.trans k1
    simp
    subst hS2
    refine seq_step fun S2 hS2 => ?_
    simp
    refine ⟨p, _, _, rfl, s1.2, nofun, rfl, fun _ _ => rfl, by simpa using hne, by simpa using hlen, fun d2 M2 hd2 k2 => ?_⟩
    obtain ⟨t2, ht2, rfl⟩ := List.mem_map.mp hd2
    have s2 := s1.trans k2
    refine ⟨by decide, ?_⟩
    subst hS2
    refine seq_step fun S2 hS2 => ?_
    have done : ∀ (en : Ent) (x y : Option D) M3, okEnt T en → Step p M M3 → S2 { (retE M.length Q E) with nx := F, ct := F, bk := S (retE M.length Q E) } [some (.ref p), some (.int v), some before, some (.lst (xs.map MD.prD)), some (.tup (es.map entD)), some (.int i), some (.int kind), some (entD en), x, y] M3 := by
      intro en x y M3 hen s3
      subst hS2
      simp
      refine ⟨by decide, by omega, ?_⟩
      rw [show es.map entD ++ [entD en] = (es ++ [en]).map entD by rw [List.map_append]; rfl]
      refine hF _ _ ⟨s3, es ++ [en], some (.int i), some (.int kind), some (entD en), x, y, by simp [hl], ?_, rfl⟩
      intro e he
      rcases List.mem_append.mp he with he | he
      · exact hes e he
      · rw [List.mem_singleton.mp he]; exact hen
    simp
    by_cases k0 : kind = 0
    · rw [if_pos k0]
      exact done none _ _ _ nofun s2
    rw [if_neg k0]
    by_cases k3 : kind < 3
    · rw [if_pos k3]
      have last : ∀ (x : Option D) (t : Tone) M3, T t → Step p M M3 → S2 { (retE M.length Q E) with nx := F, ct := F, bk := S (retE M.length Q E) } [some (.ref p), some (.int v), some before, some (.lst (xs.map MD.prD)), some (.tup (es.map entD)), some (.int i), some (.int kind), some (.tup [MD.prD t, .bl false]), x, some (MD.prD t)] M3 :=
        fun x t M3 ht s3 => done (some (t, false)) x _ M3 (fun u b e => by cases e; exact ht) s3
      rcases hbe with rfl | ⟨c, rfl, hc⟩
      · simp
        exact ⟨by decide, last _ _ _ (hT _ ht2) s2⟩
      · have hci : i < c.es.length := by rw [hc.2.2.2.1]; exact hi
        have hat : atI (c.es.map entD) (i : Int) = some (entD c.es[i]) := by
          refine at_nat ?_
          rw [List.getElem?_map, List.getElem?_eq_getElem hci]; rfl
        have hen := hc.2.2.2.2 _ (List.getElem_mem hci)
        simp [colD, hat]
        generalize c.es[i] = e0 at hen
        cases e0 with
        | none =>
          simp [entD]
          exact ⟨by decide, last _ _ _ (hT _ ht2) s2⟩
        | some tb =>
          obtain ⟨t, bb⟩ := tb
          have ht : T t := hen t bb rfl
          simp [entD]
          refine ⟨p, 4, rfl, by decide, by decide, s2.2, fun r4 M4 a4 b4 k4 => ?_⟩
          simp
          have s4 := s2.trans k4
          split
          · exact ⟨by decide, last _ _ _ ht s4⟩
          · exact ⟨by decide, last _ _ _ (hT _ ht2) s4⟩
    · rw [if_neg k3]
      exact done (some (t2, true)) _ _ _ (fun u b e => by cases e; exact hT _ ht2) s2
/-! a bar -/
theorem last_map {α : Type} (f : α → D) {xs : List α} (h : xs ≠ []) : atI (xs.map f) (-1) = some (f (xs.getLast h)) := by
  have hl : 0 < xs.length := List.length_pos_iff.mpr h
  unfold atI ixN
  rw [if_neg (by decide), if_pos (by rw [List.length_map]; omega), List.length_map]
  show (xs.map f)[((-1 : Int) + xs.length).toNat]? = _
  rw [List.getElem?_map, show ((-1 : Int) + xs.length).toNat = xs.length - 1 by omega, List.getLast_eq_getElem h, List.getElem?_eq_getElem (by omega)]
  rfl
def Near (t : Tone) : Prop := -50 ≤ t.1 ∧ t.1 ≤ 50 ∧ 0 ≤ t.2 + 4 * t.1 / 7 ∧ t.2 + 4 * t.1 / 7 ≤ 6
abbrev N__law_bar : List Str := ["pool", "voices", "most", "some", "found", "k"]
def sp__law_bar : SpD := fun ds M Q _ => ∃ (p v : Nat) (most : Int), ds = [.ref p, .int v, .int most] ∧ Pool M p ∧ v ≤ 1000 ∧ 0 < most ∧ most ≤ 1000 ∧
  ∀ cs M', cs ≠ [] → cs.length ≤ most.toNat → (∀ c ∈ cs, okCol Near v c ∧ sml c.dur) → Step p M M' → Q (.tup (cs.map colD)) M'
theorem mono__law_bar : MonoP sp__law_bar := fun ds M Q Q' E E' q x ⟨p, v, m, e, h1, h2, h3, h4, h⟩ => ⟨p, v, m, e, h1, h2, h3, h4, fun cs M' a b c d => q _ _ (h cs M' a b c d)⟩
theorem len__law_bar (ds M Q E) (h : sp__law_bar ds M Q E) : ds.length = 3 := by obtain ⟨_, _, _, rfl, _⟩ := h; rfl
def r__law_bar : TS' := (tSeq' (tAsg' (tLc' false (tRng1' (tCons' (tOp' (oAdd false) (tC' (.int 1)) (tCall' sp__law_take (tCons' (tVar' 0) (tCons' (tC' (.int 6)) tNil')))) tNil')) (gName' 5) tYes' (tCall' sp__law_tone (tCons' (tVar' 0) tNil')) [5]) (gName' 3))
    (tSeq' (tAsg' (tTup' tNil') (gName' 4))
    (tSeq' (tFor' (tRng1' (tCons' (tOp' (oAdd false) (tC' (.int 1)) (tCall' sp__law_take (tCons' (tVar' 0) (tCons' (tVar' 2) tNil')))) tNil')) (gName' 5) (tAsg' (tOp' (oAdd false) (tVar' 4) (tTup' (tCons' (tCall' sp__law_column (tCons' (tVar' 0) (tCons' (tVar' 1) (tCons' (tIf' (tTru' (tVar' 4)) (tOp' oIx (tVar' 4) (tUn' oNeg (tC' (.int 1)))) (tC' .non)) (tCons' (tVar' 3) tNil'))))) tNil'))) (gName' 4)))
    (tRet' (tVar' 4)))))
/-- columns one behind another -/
theorem cols_loop {T : Tone → Prop} {p v : Nat} {M0 : MH} {N : Nat} {xs : List Tone} {DD : Ends'} {g : EnvD → MH → Prop} (hv : v ≤ 1000) (hN : N ≤ 1000) (hne : xs ≠ []) (hlen : xs.length ≤ 1000000) (hT : ∀ t ∈ xs, T t) : True := trivial
theorem math__law_bar (ds M Q E) (hM : WFM M) (hb : D.belL M.length ds = true) (h : sp__law_bar ds M Q E) : r__law_bar (retE M.length Q E) (startD N__law_bar ds) M := by
  obtain ⟨p, v, most, rfl, hp, hv, hm, hm2, q⟩ := h
  have hz : (sizeLine : Nat) = 16777216 := by decide
  unfold r__law_bar
  refine seq_step fun S hS => ?_
  simp [startD]
  refine ⟨p, 6, rfl, by decide, by decide, hp, fun r1 M1 a1 b1 k1 => ?_⟩
  simp
  refine ⟨by omega, by omega, ?_⟩
  generalize hN : (1 + r1).toNat = N
  refine lcI_from (fun i acc M' => Step p M M' ∧ ∃ xs : List Tone, acc = xs.map MD.prD ∧ xs.length = i ∧ ∀ t ∈ xs, Near t) ?_ ?_ ⟨k1, [], rfl, rfl, nofun⟩
  · rintro acc M2 ⟨s2, xs, rfl, hl, hxs⟩
    rw [rangeD_length] at hl
    refine ⟨trivial, ?_⟩
    show S _ _ _
    have hne : xs ≠ [] := by intro z; rw [z] at hl; simp at hl; omega
    subst hS
    refine seq_step fun S hS => ?_
    simp
    subst hS
    refine seq_step fun S hS => ?_
    simp
    refine ⟨p, most, rfl, hm, by omega, s2.2, fun r3 M3 a3 b3 k3 => ?_⟩
    simp
    refine ⟨by omega, by omega, ?_⟩
    have s3 := s2.trans k3
    generalize hN2 : (1 + r3).toNat = N2
    refine forR_ind (fun i δ M' => Step p M M' ∧ ∃ (cs : List Col) (t : Option D), cs.length = i ∧ (∀ c ∈ cs, okCol Near v c ∧ sml c.dur) ∧ δ = [some (.ref p), some (.int v), some (.int most), some (.lst (xs.map MD.prD)), some (.tup (cs.map colD)), t]) ?_ ?_ ⟨s3, [], none, rfl, nofun, rfl⟩
    · rintro δ M4 ⟨s4, cs, t, hcl, hcs, rfl⟩
      refine ⟨trivial, ?_⟩
      show S _ _ _
      subst hS
      simp
      rw [popM_same (by rw [s4.length]; simp)]
      exact q cs M4 (by intro z; rw [z] at hcl; simp at hcl; omega) (by omega) hcs s4
    · rintro i δ M4 F hi ⟨s4, cs, t, hcl, hcs, rfl⟩ hF
      refine ⟨trivial, ?_⟩
      have go : ∀ before, (before = .non ∨ ∃ c, before = colD c ∧ okCol Near v c) → ∀ E', sp__law_column [.ref p, .int v, before, .lst (xs.map MD.prD)] M4 (fun d M1 => 1 ≤ sizeLine ∧ cs.length + 1 ≤ sizeLine ∧ F [some (.ref p), some (.int v), some (.int most), some (.lst (xs.map MD.prD)), some (.tup (cs.map colD ++ [d])), some (.int i)] M1) E' := by
        intro before hbe E'
        refine ⟨Near, p, v, before, _, xs, rfl, s4.2, hv, hbe, rfl, hne, by omega, hxs, fun c M5 hc hc2 k5 => ?_⟩
        refine ⟨by decide, by omega, ?_⟩
        rw [show cs.map colD ++ [colD c] = (cs ++ [c]).map colD by rw [List.map_append]; rfl]
        refine hF _ _ ⟨s4.trans k5, cs ++ [c], some (.int i), by simp [hcl], ?_, rfl⟩
        intro x hx
        rcases List.mem_append.mp hx with hx | hx
        · exact hcs x hx
        · rw [List.mem_singleton.mp hx]; exact ⟨hc, hc2⟩
      simp
      by_cases he : cs = []
      · rw [if_pos he]
        exact go _ (.inl rfl) _
      · rw [if_neg he]
        simp [last_map colD he]
        exact go _ (.inr ⟨_, rfl, (hcs _ (List.getLast_mem he)).1⟩) _
  · rintro i d acc M2 F hd ⟨s2, xs, rfl, hl, hxs⟩ hF
    have hi : i < N := by have := (List.getElem?_eq_some_iff.mp hd).1; rwa [rangeD_length] at this
    refine ⟨trivial, ?_⟩
    simp [wipeD]
    refine ⟨p, rfl, s2.2, fun f o M3 h1 h2 h3 h4 k3 => ?_⟩
    simp
    refine ⟨by omega, hF _ _ ⟨s2.trans k3, xs ++ [(f, o)], by rw [List.map_append]; rfl, by simp [hl], ?_⟩⟩
    intro t ht
    rcases List.mem_append.mp ht with ht | ht
    · exact hxs t ht
    · rw [List.mem_singleton.mp ht]; exact ⟨h1, h2, h3, h4⟩
/-! raised -/
abbrev N__law_raised : List Str := ["cell", "sign", "tone", "entries", "entry"]
def moveE (sign : Int) (t : Tone) : Ent → Ent := Option.map fun u => ((t.1 + sign * u.1.1, t.2 + sign * u.1.2), u.2)
def moveC (sign : Int) (t : Tone) (c : Col) : Col := ⟨c.dur, c.acc, c.es.map (moveE sign t)⟩
def sp__law_raised : SpD := fun ds M Q _ => ∃ c sign s t, ds = [colD c, .int sign, s] ∧ (-(2 ^ 64) < sign ∧ sign < 2 ^ 64) ∧ Pr s t.1 t.2 ∧ c.es.length < sizeLine ∧ Q (colD (moveC sign t c)) M
theorem mono__law_raised : MonoP sp__law_raised := fun ds M Q Q' E E' q x ⟨c, g, s, t, e, h1, h2, h3, h⟩ => ⟨c, g, s, t, e, h1, h2, h3, q _ _ h⟩
theorem len__law_raised (ds M Q E) (h : sp__law_raised ds M Q E) : ds.length = 3 := by obtain ⟨_, _, _, _, rfl, _⟩ := h; rfl
def r__law_raised : TS' := (tSeq' (tAsg' (tTup' tNil') (gName' 3))
    (tSeq' (tFor' (tIt' (tOp' oIx (tVar' 0) (tC' (.int 2)))) (gName' 4) (tSeq' (tIfS' (tB' (tOp' (oIsN' true) (tVar' 4) (tC' .non))) (tAsg' (tTup' (tCons' (tTup' (tCons' (tOp' (oAdd false) (tOp' oIx (tVar' 2) (tC' (.int 0))) (tOp' (oMul false) (tVar' 1) (tOp' oIx (tOp' oIx (tVar' 4) (tC' (.int 0))) (tC' (.int 0))))) (tCons' (tOp' (oAdd false) (tOp' oIx (tVar' 2) (tC' (.int 1))) (tOp' (oMul false) (tVar' 1) (tOp' oIx (tOp' oIx (tVar' 4) (tC' (.int 0))) (tC' (.int 1))))) tNil'))) (tCons' (tOp' oIx (tVar' 4) (tC' (.int 1))) tNil'))) (gName' 4)) tNext')
    (tAsg' (tOp' (oAdd false) (tVar' 3) (tTup' (tCons' (tVar' 4) tNil'))) (gName' 3))))
    (tRet' (tTup' (tCons' (tOp' oIx (tVar' 0) (tC' (.int 0))) (tCons' (tOp' oIx (tVar' 0) (tC' (.int 1))) (tCons' (tVar' 3) tNil')))))))
theorem math__law_raised (ds M Q E) (hM : WFM M) (hb : D.belL M.length ds = true) (h : sp__law_raised ds M Q E) : r__law_raised (retE M.length Q E) (startD N__law_raised ds) M := by
  obtain ⟨c, sign, s, t, rfl, hsg, hs, hl, q⟩ := h
  have hss := fun M => pr_sq (M := M) hs
  have hsn := pr_ns hs
  unfold r__law_raised
  refine seq_step fun S hS => ?_
  simp [startD]
  subst hS
  refine seq_step fun S hS => ?_
  simp [colD]
  change Q (.tup [MD.prD c.dur, .int c.acc, .tup ((c.es.map (moveE sign t)).map entD)]) M at q
  generalize MD.prD c.dur = dd at *
  obtain ⟨L, hL⟩ : ∃ L, L = (c.es.map (moveE sign t)).map entD := ⟨_, rfl⟩
  rw [← hL] at q
  have hLl : L.length = c.es.length := by rw [hL]; simp
  refine forI_from (fun i δ M' => M' = M ∧ ∃ e, δ = [some (.tup [dd, .int c.acc, .tup (c.es.map entD)]), some (.int sign), some s, some (.tup (L.take i)), e]) ?_ ?_ ⟨rfl, none, rfl⟩
  · rintro δ M' ⟨rfl, e, rfl⟩
    refine ⟨trivial, ?_⟩
    show S _ _ _
    subst hS
    rw [List.length_map, ← hLl, List.take_length]
    simp
    refine ⟨by decide, ?_⟩
    rw [popM_same (Nat.le_refl _)]
    exact q
  · rintro i d δ M' F hd ⟨rfl, e, rfl⟩ hF
    refine ⟨trivial, ?_⟩
    rw [List.getElem?_map] at hd
    obtain ⟨en, hen, rfl⟩ := Option.map_eq_some_iff.mp hd
    have hil := (List.getElem?_eq_some_iff.mp hen).1
    have tk : L.take (i + 1) = L.take i ++ [entD (moveE sign t en)] := by
      rw [List.take_add_one, hL, List.getElem?_map, List.getElem?_map, hen]; rfl
    refine seq_step fun S2 hS2 => ?_
    have fin : S2 { nx := F, rt := (retE M'.length Q E).rt, bk := S (retE M'.length Q E), ct := F, ex := (retE M'.length Q E).ex } [some (.tup [dd, .int c.acc, .tup (c.es.map entD)]), some (.int sign), some s, some (.tup (L.take i)), some (entD (moveE sign t en))] M' := by
      subst hS2
      simp
      refine ⟨by decide, by omega, ?_⟩
      rw [← tk]
      exact hF _ _ ⟨rfl, _, rfl⟩
    cases en with
    | none =>
      simp [entD]
      exact fin
    | some u =>
      obtain ⟨⟨f, o⟩, b⟩ := u
      have hpr : ∀ M, seqOf (MD.prD (f, o)) M = some [.int f, .int o] := fun _ => rfl
      have hpn : ∀ z : Str, MD.prD (f, o) ≠ .str z := nofun
      simp [entD, hss, hsn, hpr, hpn]
      exact ⟨mulOk_l hsg, mulOk_l hsg, by decide, fin⟩
end Kit
namespace Kit
open MD L2 PySem
/-! tuples made lists -/
mutual
def lis : D → D
  | .tup ds => .lst (lisL ds)
  | .non => .non
  | .bl b => .bl b
  | .int i => .int i
  | .str x => .str x
  | .lst ds => .lst ds
  | .scr ns => .scr ns
  | .ref i => .ref i
  | .con v => .con v
  | .exc a c d fs => .exc a c d fs
  | .dct => .dct
def lisL : List D → List D
  | [] => []
  | d :: ds => lis d :: lisL ds
end
mutual
def tupD (n : Nat) : D → Bool
  | .non => true
  | .bl _ => true
  | .int _ => true
  | .str _ => true
  | .tup ds => decide (0 < n) && decide (ds.length ≤ sizeLine) && tupL (n - 1) ds
  | _ => false
def tupL (n : Nat) : List D → Bool
  | [] => true
  | d :: ds => tupD n d && tupL n ds
end
def spr__law_listed (n : Nat) : SpD := fun ds M Q _ => ∃ d, ds = [d] ∧ n ≠ 0 ∧ tupD (n - 1) d = true ∧ Q (lis d) M
def sp__law_listed : SpD := fun ds M Q _ => ∃ d, ds = [d] ∧ tupD 6 d = true ∧ Q (lis d) M
theorem mono__law_listed : MonoP sp__law_listed := fun ds M Q Q' E E' q x ⟨d, e, h1, h⟩ => ⟨d, e, h1, q _ _ h⟩
theorem monor__law_listed (n : Nat) : MonoP (spr__law_listed n) := fun ds M Q Q' E E' q x ⟨d, e, h0, h1, h⟩ => ⟨d, e, h0, h1, q _ _ h⟩
theorem lenr__law_listed (n : Nat) (ds M Q E) (h : spr__law_listed n ds M Q E) : ds.length = 1 := by obtain ⟨_, rfl, _⟩ := h; rfl
theorem zero__law_listed (ds M Q E) (h : spr__law_listed 0 ds M Q E) : False := by obtain ⟨_, _, h, _⟩ := h; exact h rfl
theorem sub__law_listed {ds M Q E} (h : sp__law_listed ds M Q E) : spr__law_listed 7 ds M Q E := by
  obtain ⟨d, e, h1, h⟩ := h
  exact ⟨d, e, by decide, h1, h⟩
abbrev N__law_listed : List Str := ["thing", "part"]
def rr__law_listed (i : Nat) : TS' := (tSeq' (tIfS' (tTru' (tCB' cIsi (tCons' (tVar' 0) (tCons' (tC' (.con (.ty "tuple"))) tNil')))) (tRet' (tLc' false (tIt' (tVar' 0)) (gName' 1) tYes' (tCall' (spr__law_listed i) (tCons' (tVar' 1) tNil')) [1])) tNext')
    (tRet' (tVar' 0)))
theorem entD_bel (n : Nat) (e : Ent) : (entD e).bel n = true := by
  cases e with
  | none => rfl
  | some u => rfl
theorem colD_bel (n : Nat) (c : Col) : (colD c).bel n = true := by
  show (true && (true && (D.belL n (c.es.map entD) && true))) = true
  have : D.belL n (c.es.map entD) = true := by
    rw [belL_iff]
    intro d hd
    obtain ⟨e, _, rfl⟩ := List.mem_map.mp hd
    exact entD_bel n e
  rw [this]; rfl
theorem bar_it {d : D} {es : List D} (h : d = .tup es ∨ d = .lst es) {M : MH} (R : ItD → MH → Prop) (r : R ⟨es, none⟩ M) : seqD d M R := by rcases h with rfl | rfl <;> exact r
theorem lisL_map : ∀ ds : List D, lisL ds = ds.map lis
  | [] => rfl
  | d :: ds => by
    show lis d :: lisL ds = _
    rw [lisL_map ds]; rfl
theorem tupL_mem {n : Nat} : ∀ {ds : List D} {d : D}, tupL n ds = true → d ∈ ds → tupD n d = true
  | [], _, _, h => nomatch h
  | e :: r, d, hp, h => by
    unfold tupL at hp
    rw [Bool.and_eq_true] at hp
    rcases List.mem_cons.mp h with rfl | h
    · exact hp.1
    · exact tupL_mem hp.2 h
theorem mathr__law_listed (n : Nat) (ds M Q E) (hM : WFM M) (hb : D.belL M.length ds = true) (h : spr__law_listed (n + 1) ds M Q E) : rr__law_listed n (retE M.length Q E) (startD N__law_listed ds) M := by
  obtain ⟨d, rfl, _, hp, q⟩ := h
  have hp : tupD n d = true := hp
  have same : ∀ d', d' = lis d → Q d' (popM M.length d' M) := fun d' e => by rw [popM_same (Nat.le_refl _), e]; exact q
  unfold rr__law_listed
  refine seq_step fun S hS => ?_
  cases d with
  | tup es =>
    unfold tupD at hp
    simp only [Bool.and_eq_true, decide_eq_true_eq] at hp
    obtain ⟨⟨h0, h1⟩, h2⟩ := hp
    simp [startD, tyStr, subTy]
    refine lcL_map lis (by exact trivial) es [] ?_ (by simpa using h1) ?_
    · intro e he Q' q'
      simp [wipeD]
      exact ⟨e, rfl, by omega, tupL_mem h2 he, q'⟩
    · simp
      refine same _ ?_
      unfold lis
      rw [lisL_map]
  | non => simp [startD, tyStr, subTy]; subst hS; simp; exact same _ rfl
  | bl b => simp [startD, tyStr, subTy]; subst hS; simp; exact same _ rfl
  | int b => simp [startD, tyStr, subTy]; subst hS; simp; exact same _ rfl
  | str b => simp [startD, tyStr, subTy]; subst hS; simp; exact same _ rfl
  | _ => unfold tupD at hp; cases hp
theorem cut_butlast {ds : List D} (h : ds ≠ []) : cutD ds none (some (-1)) = ds.dropLast := by
  have hl : 0 < ds.length := List.length_pos_iff.mpr h
  have e : HT.sIx ds.length ds.length (some (-1)) = ds.length - 1 := by
    show (if (-1 : Int) < 0 then ((-1 : Int) + (ds.length : Int)).toNat else min (-1 : Int).toNat ds.length) = _
    rw [if_pos (by decide)]
    omega
  unfold cutD
  rw [HT.sIx_none, e, List.dropLast_eq_take]
  simp
theorem cut_tail (a b c : D) : cutD [a, b, c] (some 1) none = [b, c] := rfl
theorem okCol_mono {T U : Tone → Prop} {v : Nat} {c : Col} (h : okCol T v c) (l : ∀ t, T t → U t) : okCol U v c :=
  ⟨h.1, h.2.1, h.2.2.1, h.2.2.2.1, fun e he t b z => l t (h.2.2.2.2 e he t b z)⟩
def Ok (x : Str) : Prop := ∀ c ∈ x.cps.toList, c < 1114112
theorem ok_app {a b : Str} (h : Ok a) (k : Ok b) : Ok (a ++ b) := fun c hc => by
  rw [cps_app] at hc
  rcases List.mem_append.mp hc with hc | hc
  · exact h c hc
  · exact k c hc
theorem ok_int (i : Int) : Ok ((toString i : String) : Str) := fun c hc => by
  obtain ⟨m, ⟨e, h1⟩ | ⟨_, e, h1⟩⟩ := num_split i
  · rw [h1] at hc
    have := digs_all m c hc
    omega
  · rw [h1] at hc
    rcases List.mem_cons.mp hc with rfl | hc
    · decide
    · have := digs_all m c hc
      omega
theorem ok_textFrom : ∀ (ts : List Str) (k : Nat) (acc : Str), Ok acc → (∀ t ∈ ts, Ok t) → Ok (textFrom k acc ts)
  | [], _, _, h, _ => h
  | t :: r, k, acc, h, ht => by
    show Ok (textFrom (k + 1) (acc ++ ((if k > 0 then ", " else "" : String) : Str) ++ t) r)
    refine ok_textFrom r _ _ (ok_app (ok_app h ?_) (ht t List.mem_cons_self)) (fun x hx => ht x (List.mem_cons_of_mem _ hx))
    split <;> (intro c hc; revert c; decide)
theorem ok_list {ts : List Str} (ht : ∀ t ∈ ts, Ok t) : Ok (listText ts) := by
  unfold listText
  exact ok_app (ok_textFrom ts 0 _ (by intro c hc; revert c; decide) ht) (by intro c hc; revert c; decide)
theorem ok_join : ∀ ts : List Str, (∀ t ∈ ts, Ok t) → Ok (Str.join ", " ts)
  | [], _ => by rw [PyProof.Rows.join_nil]; intro c hc; cases hc
  | [x], h => by rw [PyProof.Rows.join_one]; exact h x List.mem_cons_self
  | x :: y :: r, h => by
    rw [PyProof.Rows.join_cons_cons]
    exact ok_app (ok_app (h x List.mem_cons_self) (by intro c hc; revert c; decide)) (ok_join (y :: r) fun z hz => h z (List.mem_cons_of_mem _ hz))
theorem ok_tuple {ts : List Str} (ht : ∀ t ∈ ts, Ok t) : Ok (tupleText ts) := by
  unfold tupleText
  refine ok_app (ok_app (by intro c hc; revert c; decide) (ok_join ts ht)) ?_
  split <;> (intro c hc; revert c; decide)
/-- may be shown, in so many signs -/
structure Sh (k L : Nat) (d : D) : Prop where
  f : d.flat = true
  s : d.py.showable = true
  h : d.py.hasDict = false
  dep : d.py.depth ≤ k
  l : d.py.shown.length ≤ L
  o : Ok d.py.shown
theorem int_len64 {i : Int} (h : Bg 64 i) : ((toString i : String) : Str).length ≤ 21 := by
  unfold Bg at h
  have hp : (2 : Nat) ^ 64 < 10 ^ 20 := by decide
  have dl : ∀ m : Nat, m < 2 ^ 64 → (digs m).length ≤ 20 := fun m hm => by
    unfold digs
    rw [List.length_map]
    exact (Nat.length_toDigits_le_iff (by decide) (by decide)).mpr (Nat.lt_trans hm hp)
  rw [len_cps]
  obtain ⟨m, ⟨e, h1⟩ | ⟨_, e, h1⟩⟩ := num_split i <;> rw [h1]
  · have := dl m (by rw [e, Int.natAbs_natCast] at h; exact h)
    omega
  · have := dl m (by rw [e, Int.natAbs_neg, Int.natAbs_natCast] at h; exact h)
    rw [List.length_cons]
    omega
theorem int_show64 {i : Int} (h : Bg 64 i) : (PyData.int i).showable = true := by
  unfold PyData.showable
  refine decide_eq_true ?_
  unfold Bg at h
  by_cases h0 : i.natAbs = 0
  · rw [h0]; decide
  · exact Nat.lt_trans ((Nat.log2_lt h0).mpr h) (by decide)
theorem sh_int {i : Int} (h : Bg 64 i) : Sh 0 21 (.int i) := ⟨rfl, int_show64 h, rfl, Nat.le_refl 0, int_len64 h, ok_int i⟩
theorem sh_non : Sh 0 21 .non := ⟨rfl, rfl, rfl, Nat.le_refl 0, by show (4 : Nat) ≤ 21; decide, by intro c hc; revert c; decide⟩
theorem sh_bl (b : Bool) : Sh 0 21 (.bl b) := ⟨rfl, rfl, rfl, Nat.le_refl 0, by cases b <;> decide, by cases b <;> (intro c hc; revert c; decide)⟩
theorem Sh.mono {k L k' L' : Nat} {d : D} (h : Sh k L d) (l1 : k ≤ k') (l2 : L ≤ L') : Sh k' L' d := ⟨h.f, h.s, h.h, Nat.le_trans h.dep l1, Nat.le_trans h.l l2, h.o⟩
theorem sh_all {k L : Nat} : ∀ es : List D, (∀ e ∈ es, Sh k L e) →
    D.flatL es = true ∧ PyData.showableAll (D.pyL es) = true ∧ PyData.hasDictAll (D.pyL es) = false ∧ PyData.depthAll (D.pyL es) ≤ k ∧ (∀ t ∈ PyData.shownAll (D.pyL es), t.length ≤ L) ∧ (PyData.shownAll (D.pyL es)).length = es.length ∧ ∀ t ∈ PyData.shownAll (D.pyL es), Ok t
  | [], _ => ⟨rfl, rfl, rfl, Nat.zero_le _, nofun, rfl, nofun⟩
  | e :: r, h => by
    have p := h e List.mem_cons_self
    obtain ⟨q1, q2, q3, q4, q5, q6, q7⟩ := sh_all r (fun x hx => h x (List.mem_cons_of_mem _ hx))
    refine ⟨?_, ?_, ?_, ?_, ?_, ?_, ?_⟩
    · show (D.flat e && D.flatL r) = true
      rw [p.f, q1]; rfl
    · show (PyData.showable e.py && PyData.showableAll (D.pyL r)) = true
      rw [p.s, q2]; rfl
    · show (PyData.hasDict e.py || PyData.hasDictAll (D.pyL r)) = false
      rw [p.h, q3]; rfl
    · show max e.py.depth (PyData.depthAll (D.pyL r)) ≤ k
      have := p.dep
      omega
    · intro t ht
      rcases List.mem_cons.mp ht with rfl | ht
      · exact p.l
      · exact q5 t ht
    · show (PyData.shownAll (D.pyL r)).length + 1 = r.length + 1
      rw [q6]
    · intro t ht
      rcases List.mem_cons.mp ht with rfl | ht
      · exact p.o
      · exact q7 t ht
theorem sh_seq {k L n : Nat} {d : D} {es : List D} (hd : d = .tup es ∨ d = .lst es) (h : ∀ e ∈ es, Sh k L e) (hl : es.length ≤ n) : Sh (k + 1) (3 + n * (L + 2)) d := by
  obtain ⟨q1, q2, q3, q4, q5, q6, q7⟩ := sh_all es h
  have hm : (PyData.shownAll (D.pyL es)).length * (L + 2) ≤ n * (L + 2) := Nat.mul_le_mul (by omega) (Nat.le_refl _)
  rcases hd with rfl | rfl
  · refine ⟨q1, q2, q3, ?_, ?_, ok_tuple q7⟩
    · show PyData.depthAll (D.pyL es) + 1 ≤ k + 1
      omega
    · have := tuple_le _ q5
      show (tupleText (PyData.shownAll (D.pyL es))).length ≤ _
      omega
  · refine ⟨q1, q2, q3, ?_, ?_, ok_list q7⟩
    · show PyData.depthAll (D.pyL es) + 1 ≤ k + 1
      omega
    · have := list_le _ q5
      show (listText (PyData.shownAll (D.pyL es))).length ≤ _
      omega
theorem sh_pr {x : D} {a b : Int} (h : Pr x a b) (ha : Bg 64 a) (hb : Bg 64 b) : Sh 1 49 x :=
  sh_seq (n := 2) h (fun e he => by
    simp only [List.mem_cons, List.not_mem_nil, or_false] at he
    rcases he with rfl | rfl
    · exact sh_int ha
    · exact sh_int hb) (Nat.le_refl 2)
/-- tones of 64 bits -/
def T64 (t : Tone) : Prop := Bg 64 t.1 ∧ Bg 64 t.2
theorem near_64 {t : Tone} (h : Near t) : T64 t := by
  unfold Near at h
  exact ⟨bg64 (by omega) (by decide), bg64 (by omega) (by decide)⟩
theorem sh_ent {d : D} {e : Ent} (h : EntL d e) (ok : okEnt T64 e) : Sh 2 105 d := by
  cases e with
  | none =>
    have h : d = .non := h
    subst h
    exact sh_non.mono (by decide) (by decide)
  | some u =>
    obtain ⟨t, b⟩ := u
    obtain ⟨x, hx, hd⟩ := h
    obtain ⟨b1, b2⟩ := ok t b rfl
    exact sh_seq (n := 2) hd (fun e he => by
      simp only [List.mem_cons, List.not_mem_nil, or_false] at he
      rcases he with rfl | rfl
      · exact sh_pr hx b1 b2
      · exact (sh_bl b).mono (by decide) (by decide)) (Nat.le_refl 2)
theorem RelL.mem {α β : Type} {R : α → β → Prop} : ∀ {xs : List α} {ys : List β} {x : α}, RelL R xs ys → x ∈ xs → ∃ y ∈ ys, R x y
  | x :: xs, y :: ys, z, h, hz => by
    rcases List.mem_cons.mp hz with rfl | hz
    · exact ⟨y, List.mem_cons_self, h.1⟩
    · obtain ⟨w, hw, r⟩ := RelL.mem h.2 hz
      exact ⟨w, List.mem_cons_of_mem _ hw, r⟩
theorem sh_col {d : D} {c : Col} {v : Nat} (h : ColL d c) (ok : okCol T64 v c) (hv : v ≤ 4) : Sh 4 1305 d := by
  obtain ⟨x, y, es, hx, hes, hy, hd⟩ := h
  obtain ⟨⟨_, _, b1, b2, _⟩, a1, a2, hl, hen⟩ := ok
  have hel := hes.length
  have hys : Sh 3 431 y := sh_seq (n := 4) hy (fun e he => by
    obtain ⟨en, h1, h2⟩ := RelL.mem hes he
    exact sh_ent h2 (hen en h1)) (by omega)
  exact (sh_seq (k := 3) (L := 431) (n := 3) hd (fun e he => by
    simp only [List.mem_cons, List.not_mem_nil, or_false] at he
    rcases he with rfl | rfl | rfl
    · exact (sh_pr hx b1 b2).mono (by decide) (by decide)
    · exact (sh_int (bg64 (by omega) (by decide))).mono (by decide) (by decide)
    · exact hys) (Nat.le_refl 3)).mono (by decide) (by decide)
/-- a bar that is handed in: its columns loosely -/
def BarL (d : D) (cs : List Col) : Prop := ∃ es, (d = .tup es ∨ d = .lst es) ∧ RelL ColL es cs
def barD (cs : List Col) : D := .tup (cs.map colD)
def okBar (v : Nat) (cs : List Col) : Prop := cs.length ≤ 1000 ∧ ∀ c ∈ cs, okCol T64 v c
theorem barD_bel (n : Nat) (cs : List Col) : (barD cs).bel n = true := by
  show D.belL n (cs.map colD) = true
  rw [belL_iff]
  intro d hd
  obtain ⟨c, _, rfl⟩ := List.mem_map.mp hd
  exact colD_bel n c
theorem sh_bar {d : D} {cs : List Col} {v : Nat} (h : BarL d cs) (ok : okBar v cs) (hv : v ≤ 4) : Sh 5 1307003 d := by
  obtain ⟨es, hd, hes⟩ := h
  have hel := hes.length
  exact sh_seq (n := 1000) hd (fun e he => by
    obtain ⟨c, h1, h2⟩ := RelL.mem hes he
    exact sh_col h2 (ok.2 c h1) hv) (by have := ok.1; omega)
/-! lists all through -/
theorem lis_ent (e : Ent) : EntL (lis (entD e)) e := by
  cases e with
  | none => rfl
  | some u => exact ⟨_, .inr rfl, .inr rfl⟩
theorem lis_col (c : Col) : ColL (lis (colD c)) c := by
  refine ⟨.lst [.int c.dur.1, .int c.dur.2], .lst (c.es.map fun e => lis (entD e)), c.es.map fun e => lis (entD e), .inr rfl, RelL.map _ lis_ent c.es, .inr rfl, .inr ?_⟩
  show D.lst [lis (MD.prD c.dur), .int c.acc, .lst (lisL (c.es.map entD))] = _
  rw [lisL_map, List.map_map]
  rfl
theorem lis_bar (cs : List Col) : BarL (lis (barD cs)) cs := by
  refine ⟨cs.map fun c => lis (colD c), .inr ?_, RelL.map _ lis_col cs⟩
  show D.lst (lisL (cs.map colD)) = _
  rw [lisL_map, List.map_map]
  rfl
theorem bar_bar (cs : List Col) : BarL (barD cs) cs := ⟨_, .inl rfl, RelL.map _ colL_colD cs⟩
theorem tupL_of {n : Nat} : ∀ ds : List D, (∀ d ∈ ds, tupD n d = true) → tupL n ds = true
  | [], _ => rfl
  | d :: r, h => by
    show (tupD n d && tupL n r) = true
    rw [h d List.mem_cons_self, tupL_of r fun x hx => h x (List.mem_cons_of_mem _ hx)]; rfl
theorem tup_ent (e : Ent) : tupD 2 (entD e) = true := by
  cases e with
  | none => rfl
  | some u => rfl
theorem tup_col {c : Col} (h : c.es.length ≤ sizeLine) : tupD 4 (colD c) = true := by
  show (true && (true && (true && (((decide (0 < 3) && decide ((c.es.map entD).length ≤ sizeLine)) && tupL 2 (c.es.map entD)) && true)))) = true
  rw [tupL_of (c.es.map entD) fun d hd => by
    obtain ⟨e, _, rfl⟩ := List.mem_map.mp hd
    exact tup_ent e, List.length_map, decide_eq_true h]
  rfl
theorem plainL_of {n : Nat} : ∀ ds : List D, (∀ d ∈ ds, plainD n d = true) → plainL n ds = true
  | [], _ => rfl
  | d :: r, h => by
    show (plainD n d && plainL n r) = true
    rw [h d List.mem_cons_self, plainL_of r fun x hx => h x (List.mem_cons_of_mem _ hx)]; rfl
theorem plain_ent (e : Ent) : plainD 2 (entD e) = true := by
  cases e with
  | none => rfl
  | some u => rfl
theorem plain_col {c : Col} (h : c.es.length ≤ sizeLine) : plainD 4 (colD c) = true := by
  show (true && (true && (true && (((decide (0 < 3) && decide ((c.es.map entD).length ≤ sizeLine)) && plainL 2 (c.es.map entD)) && true)))) = true
  rw [plainL_of (c.es.map entD) fun d hd => by
    obtain ⟨e, _, rfl⟩ := List.mem_map.mp hd
    exact plain_ent e, List.length_map, decide_eq_true h]
  rfl
theorem plain_bar {cs : List Col} (h1 : cs.length ≤ sizeLine) (h : ∀ c ∈ cs, c.es.length ≤ sizeLine) : plainD 5 (barD cs) = true := by
  show ((decide (0 < 5) && decide ((cs.map colD).length ≤ sizeLine)) && plainL 4 (cs.map colD)) = true
  rw [plainL_of (cs.map colD) fun d hd => by
    obtain ⟨c, hc, rfl⟩ := List.mem_map.mp hd
    exact plain_col (h c hc), List.length_map, decide_eq_true h1]
  rfl
theorem tup_bar {cs : List Col} (h1 : cs.length ≤ sizeLine) (h : ∀ c ∈ cs, c.es.length ≤ sizeLine) : tupD 6 (barD cs) = true := by
  have up : ∀ c ∈ cs, tupD 5 (colD c) = true := fun c hc => by
    show (true && (true && (true && (((decide (0 < 4) && decide ((c.es.map entD).length ≤ sizeLine)) && tupL 3 (c.es.map entD)) && true)))) = true
    rw [tupL_of (c.es.map entD) fun d hd => by
      obtain ⟨e, _, rfl⟩ := List.mem_map.mp hd
      cases e <;> rfl, List.length_map, decide_eq_true (h c hc)]
    rfl
  show ((decide (0 < 6) && decide ((cs.map colD).length ≤ sizeLine)) && tupL 5 (cs.map colD)) = true
  rw [tupL_of (cs.map colD) fun d hd => by
    obtain ⟨c, hc, rfl⟩ := List.mem_map.mp hd
    exact up c hc, List.length_map, decide_eq_true h1]
  rfl
theorem Sh.rep {k L : Nat} {d : D} {es : List D} (h : Sh k L d) (hd : d = .tup es ∨ d = .lst es) (hk : k ≤ 64) (hL : L ≤ sizeLine) {M : MH} {Q : QE} (q : Q (.str d.py.shown) M) : cRepr [d] M Q :=
  ⟨d, rfl, h.f, ⟨es, hd⟩, h.s, h.h, Nat.le_trans h.dep hk, Nat.le_trans h.l hL, q⟩
theorem two_eqOk {a b : Str} (h : Ok a) (k : Ok b) : eqOk (.tup [.str a, .str b]) := by
  have e : ∀ x : Str, Ok x → PyData.strOk x = true := fun x hx => by
    unfold PyData.strOk
    rw [← Array.all_toList, List.all_eq_true]
    intro c hc
    exact decide_eq_true (hx c hc)
  refine ⟨rfl, ?_⟩
  simp [SeqAt.shaped, D.py, D.pyL, PyData.canLay0, PyData.canLayAll0, PyData.depth, PyData.depthAll, e a h, e b k]
theorem two_deq (a b : Str) : deq (.tup [.str a, .str b]) (.tup [.str a, .str b]) = true := by simp [deq, D.py, D.pyL, PyData.eqv, PyData.eqvAll]
theorem blsD_rep : ∀ n : Nat, blsD (List.replicate n (D.bl true)) = some (List.replicate n true)
  | 0 => rfl
  | n + 1 => by
    rw [List.replicate_succ, List.replicate_succ]
    show (blsD (List.replicate n (D.bl true))).map (true :: ·) = _
    rw [blsD_rep n]; rfl
theorem strOk_of {x : Str} (hx : Ok x) : PyData.strOk x = true := by
  unfold PyData.strOk
  rw [← Array.all_toList, List.all_eq_true]
  intro c hc
  exact decide_eq_true (hx c hc)
end Kit
namespace Kit
open MD L2 PySem
/-! what is asked of a bar: raised, turned, paced, exchanged -/
def paceC (p : Int × Int) (c : Col) : Col := ⟨fr (c.dur.1 * p.1) (c.dur.2 * p.2), c.acc, c.es⟩
def pickC (ks : List Nat) (c : Col) : Col := ⟨c.dur, c.acc, ks.map fun k => c.es.getD k none⟩
/-- what is asked for: a kind and its number, pair or order -/
inductive Rule where
  | raise (t : Tone) | turn (t : Tone) | pace (p : Int × Int) | voices (ks : List Nat)
def Rule.word : Rule → Str
  | .raise _ => "raise"
  | .turn _ => "turn"
  | .pace _ => "pace"
  | .voices _ => "voices"
def Rule.kind : Rule → Int
  | .raise _ => 0
  | .turn _ => 1
  | .pace _ => 2
  | .voices _ => 3
def Rule.items : Rule → List D
  | .raise t => [.int t.1, .int t.2]
  | .turn t => [.int t.1, .int t.2]
  | .pace p => [.int p.1, .int p.2]
  | .voices ks => ks.map fun k : Nat => D.int k
def Rule.does : Rule → Col → Col
  | .raise t => moveC 1 t
  | .turn t => moveC (-1) t
  | .pace p => paceC p
  | .voices ks => pickC ks
def Rule.ok (v : Nat) : Rule → Prop
  | .raise t => T64 t
  | .turn t => T64 t
  | .pace p => okDur p
  | .voices ks => ks.Perm (List.range v)
abbrev N__law_done : List Str := ["rule", "cell", "voice"]
def sp__law_done : SpD := fun ds M Q _ => ∃ (r : Rule) (c : Col) (v : Nat), ds = [.tup [.str r.word, .int 0, .tup r.items], colD c] ∧ v ≤ 1000 ∧ c.es.length = v ∧ okDur c.dur ∧ r.ok v ∧ Q (colD (r.does c)) M
theorem mono__law_done : MonoP sp__law_done := fun ds M Q Q' E E' q x ⟨r, c, v, e, h1, h2, h3, h4, h⟩ => ⟨r, c, v, e, h1, h2, h3, h4, q _ _ h⟩
theorem len__law_done (ds M Q E) (h : sp__law_done ds M Q E) : ds.length = 2 := by obtain ⟨_, _, _, rfl, _⟩ := h; rfl
def r__law_done : TS' := (tSeq' (tIfS' (tB' (tOp' (oEq false) (tOp' oIx (tVar' 0) (tC' (.int 0))) (tC' (.str "raise")))) (tRet' (tCall' sp__law_raised (tCons' (tVar' 1) (tCons' (tC' (.int 1)) (tCons' (tOp' oIx (tVar' 0) (tC' (.int 2))) tNil'))))) tNext')
    (tSeq' (tIfS' (tB' (tOp' (oEq false) (tOp' oIx (tVar' 0) (tC' (.int 0))) (tC' (.str "turn")))) (tRet' (tCall' sp__law_raised (tCons' (tVar' 1) (tCons' (tUn' oNeg (tC' (.int 1))) (tCons' (tOp' oIx (tVar' 0) (tC' (.int 2))) tNil'))))) tNext')
    (tSeq' (tIfS' (tB' (tOp' (oEq false) (tOp' oIx (tVar' 0) (tC' (.int 0))) (tC' (.str "pace")))) (tRet' (tTup' (tCons' (tCall' sp__law_times (tCons' (tOp' oIx (tVar' 1) (tC' (.int 0))) (tCons' (tOp' oIx (tVar' 0) (tC' (.int 2))) tNil'))) (tCons' (tOp' oIx (tVar' 1) (tC' (.int 1))) (tCons' (tOp' oIx (tVar' 1) (tC' (.int 2))) tNil'))))) tNext')
    (tSeq' (tIfS' (tB' (tOp' (oEq false) (tOp' oIx (tVar' 0) (tC' (.int 0))) (tC' (.str "voices")))) (tRet' (tTup' (tCons' (tOp' oIx (tVar' 1) (tC' (.int 0))) (tCons' (tOp' oIx (tVar' 1) (tC' (.int 1))) (tCons' (tCB' cTuple (tCons' (tLc' false (tIt' (tOp' oIx (tVar' 0) (tC' (.int 2)))) (gName' 2) tYes' (tOp' oIx (tOp' oIx (tVar' 1) (tC' (.int 2))) (tVar' 2)) [2]) tNil')) tNil'))))) tNext')
    (tRet' (tVar' 1))))))

theorem ks_at {ks : List Nat} {es : List Ent} (h : ∀ k ∈ ks, k < es.length) : ∀ k ∈ ks, atI (es.map entD) (k : Int) = some (entD (es.getD k none)) := by
  intro k hk
  have := h k hk
  refine at_nat ?_
  rw [List.getElem?_map, List.getD_eq_getElem?_getD, List.getElem?_eq_getElem this]; rfl
/-- the entries of an order -/
theorem pick_lc {it : ItD} {te : TE'} {i : Nat} {vs : List Nat} {δ : EnvD} {M : MH} {Q : List D → MH → Prop} (hst : it.still M) {ks : List Nat} {es : List Ent} (h : ∀ k ∈ ks, k < es.length) (hl : ks.length ≤ 1000)
    (hte : ∀ k ∈ ks, ∀ Q' : QE, Q' (entD (es.getD k none)) M → te ((wipeD δ vs).set i (some (.int (k : Int)))) M Q' (fun _ _ => False))
    (q : Q ((ks.map fun k => es.getD k none).map entD) M) : lcL it (gName' i) tYes' te vs δ Q (ks.map fun k : Nat => D.int k) [] M := by
  have hz : (sizeLine : Nat) = 16777216 := by decide
  refine lcL_rel (R := fun d (k : Nat) => d = .int (k : Int)) (fun k => entD (es.getD k none)) hst _ ks _ (RelL.map (R := fun d (k : Nat) => d = D.int (k : Int)) (fun k : Nat => D.int (k : Int)) (fun _ => rfl) ks) ?_ (by simp; omega) ?_
  · rintro d k hk rfl Q' q'
    exact hte k hk Q' q'
  · rw [List.nil_append]
    rw [List.map_map] at q
    exact q
theorem math__law_done (ds M Q E) (hM : WFM M) (hb : D.belL M.length ds = true) (h : sp__law_done ds M Q E) : r__law_done (retE M.length Q E) (startD N__law_done ds) M := by
  obtain ⟨r, c, v, rfl, hv, hcl, hdur, hr, q⟩ := h
  have hz : (sizeLine : Nat) = 16777216 := by decide
  have hq : ∀ d, d = colD (r.does c) → Q d (popM M.length d M) := fun d e => by rw [popM_same (Nat.le_refl _), e]; exact q
  have w1 : ((Str.ofString "turn") = (Str.ofString "raise")) = False := by simp; decide
  have w2 : ((Str.ofString "pace") = (Str.ofString "raise")) = False := by simp; decide
  have w3 : ((Str.ofString "pace") = (Str.ofString "turn")) = False := by simp; decide
  have w4 : ((Str.ofString "voices") = (Str.ofString "raise")) = False := by simp; decide
  have w5 : ((Str.ofString "voices") = (Str.ofString "turn")) = False := by simp; decide
  have w6 : ((Str.ofString "voices") = (Str.ofString "pace")) = False := by simp; decide
  unfold r__law_done
  simp [startD]
  cases r with
  | raise t =>
    simp [Rule.word, Rule.items]
    exact ⟨c, 1, _, t, rfl, by decide, .inl rfl, by omega, hq _ rfl⟩
  | turn t =>
    simp [Rule.word, Rule.items, w1]
    exact ⟨c, -1, _, t, rfl, by decide, .inl rfl, by omega, hq _ rfl⟩
  | pace p =>
    have hr : okDur p := hr
    simp [Rule.word, Rule.items, w2, w3, colD]
    obtain ⟨dp1, dp2, db1, db2, _⟩ := hdur
    refine ⟨_, _, c.dur.1, c.dur.2, p.1, p.2, rfl, .inl rfl, .inl rfl, dp2, hr.2.1, ⟨64, 64, by decide, db1, db2, hr.2.2.1, hr.2.2.2.1⟩, ?_⟩
    exact ⟨by decide, hq _ rfl⟩
  | voices ks =>
    have hr : ks.Perm (List.range v) := hr
    have hkl : ks.length = v := by have := hr.length_eq; rwa [List.length_range] at this
    have hks : ∀ k ∈ ks, k < c.es.length := fun k hk => by rw [hcl]; exact List.mem_range.mp (hr.subset hk)
    simp [Rule.word, Rule.items, w4, w5, w6, colD]
    refine pick_lc (es := c.es) (by exact trivial) hks (by omega) ?_ ?_
    · intro k hkm Q' q'
      simp [wipeD, ks_at hks k hkm]
      exact q'
    · simp
      refine ⟨by decide, hq _ ?_⟩
      simp [Rule.does, colD, pickC]
theorem does_len (r : Rule) {v : Nat} {c : Col} (hr : r.ok v) (hc : c.es.length = v) : (r.does c).es.length = v := by
  cases r with
  | raise t => show (c.es.map _).length = v; rw [List.length_map]; exact hc
  | turn t => show (c.es.map _).length = v; rw [List.length_map]; exact hc
  | pace p => exact hc
  | voices ks =>
    have hr : ks.Perm (List.range v) := hr
    show (ks.map _).length = v
    rw [List.length_map, hr.length_eq, List.length_range]
theorem sh_items {r : Rule} {v : Nat} (hr : r.ok v) (hv : v ≤ 4) : ∀ {d : D}, (d = .tup r.items ∨ d = .lst r.items) → Sh 1 95 d := by
  intro d hd
  have two : ∀ a b : Int, Bg 64 a → Bg 64 b → (∀ e ∈ [D.int a, D.int b], Sh 0 21 e) := fun a b ha hb e he => by
    simp only [List.mem_cons, List.not_mem_nil, or_false] at he
    rcases he with rfl | rfl
    · exact sh_int ha
    · exact sh_int hb
  have fin : ∀ es : List D, (d = .tup es ∨ d = .lst es) → (∀ e ∈ es, Sh 0 21 e) → es.length ≤ 4 → Sh 1 95 d := fun es h1 h2 h3 => sh_seq (k := 0) (L := 21) (n := 4) h1 h2 h3
  cases r with
  | raise t => obtain ⟨b1, b2⟩ := (show T64 t from hr); exact fin _ hd (two _ _ b1 b2) (by show 2 ≤ 4; decide)
  | turn t => obtain ⟨b1, b2⟩ := (show T64 t from hr); exact fin _ hd (two _ _ b1 b2) (by show 2 ≤ 4; decide)
  | pace p =>
    have hr : okDur p := hr
    exact fin _ hd (two _ _ hr.2.2.1 hr.2.2.2.1) (by show 2 ≤ 4; decide)
  | voices ks =>
    have hr : ks.Perm (List.range v) := hr
    have hkl : ks.length = v := by have := hr.length_eq; rwa [List.length_range] at this
    refine fin _ hd (fun e he => ?_) (by show (ks.map _).length ≤ 4; rw [List.length_map]; omega)
    obtain ⟨k, hk, rfl⟩ := List.mem_map.mp he
    have := List.mem_range.mp (hr.subset hk)
    exact sh_int (bg64 (by omega) (by decide))
/-! an interval drawn -/
abbrev N__law_interval : List Str := ["pool"]
def sp__law_interval : SpD := fun ds M Q _ => ∃ p, ds = [.ref p] ∧ Pool M p ∧ ∀ t M', (-100 ≤ t.1 ∧ t.1 ≤ 100 ∧ -100 ≤ t.2 ∧ t.2 ≤ 100) → Step p M M' → Q (MD.prD t) M'
theorem mono__law_interval : MonoP sp__law_interval := fun ds M Q Q' E E' q x ⟨p, e, h1, h⟩ => ⟨p, e, h1, fun a M' b c => q _ _ (h a M' b c)⟩
theorem len__law_interval (ds M Q E) (h : sp__law_interval ds M Q E) : ds.length = 1 := by obtain ⟨_, rfl, _⟩ := h; rfl
def r__law_interval : TS' := (tSeq' (tIfS' (tB' (tOp' (oEq false) (tCall' sp__law_take (tCons' (tVar' 0) (tCons' (tC' (.int 8)) tNil'))) (tC' (.int 0)))) (tRet' (tTup' (tCons' (tOp' oSub (tCall' sp__law_take (tCons' (tVar' 0) (tCons' (tC' (.int 201)) tNil'))) (tC' (.int 100))) (tCons' (tOp' oSub (tCall' sp__law_take (tCons' (tVar' 0) (tCons' (tC' (.int 201)) tNil'))) (tC' (.int 100))) tNil')))) tNext')
    (tRet' (tTup' (tCons' (tOp' oSub (tCall' sp__law_take (tCons' (tVar' 0) (tCons' (tC' (.int 9)) tNil'))) (tC' (.int 4))) (tCons' (tOp' oSub (tCall' sp__law_take (tCons' (tVar' 0) (tCons' (tC' (.int 9)) tNil'))) (tC' (.int 4))) tNil')))))

theorem math__law_interval (ds M Q E) (hM : WFM M) (hb : D.belL M.length ds = true) (h : sp__law_interval ds M Q E) : r__law_interval (retE M.length Q E) (startD N__law_interval ds) M := by
  obtain ⟨p, rfl, hp, q⟩ := h
  unfold r__law_interval
  refine seq_step fun S hS => ?_
  simp [startD]
  refine ⟨p, 8, rfl, by decide, by decide, hp, fun k M1 a1 b1 k1 => ?_⟩
  simp
  split
  · refine ⟨p, 201, rfl, by decide, by decide, k1.2, fun r M2 a2 b2 k2 => ?_⟩
    simp
    refine ⟨p, 201, rfl, by decide, by decide, k2.2, fun r3 M3 a3 b3 k3 => ?_⟩
    simp
    refine ⟨by decide, ?_⟩
    have s3 := (k1.trans k2).trans k3
    rw [popM_same (by rw [s3.length]; simp)]
    exact q (r - 100, r3 - 100) M3 (by simp only; omega) s3
  · subst hS
    simp
    refine ⟨p, 9, rfl, by decide, by decide, k1.2, fun r M2 a2 b2 k2 => ?_⟩
    simp
    refine ⟨p, 9, rfl, by decide, by decide, k2.2, fun r3 M3 a3 b3 k3 => ?_⟩
    simp
    refine ⟨by decide, ?_⟩
    have s3 := (k1.trans k2).trans k3
    rw [popM_same (by rw [s3.length]; simp)]
    exact q (r - 4, r3 - 4) M3 (by simp only; omega) s3
end Kit
namespace K25
open MD L2 PySem Kit
/-- the heap's number of the dict VOICES -/
abbrev aVOICES : Addr := 97
abbrev tVOICES : List (Str × Int) := [("accent", 0), ("lasts", 0), ("begins", 1), ("silent", 1), ("loose", 1), ("leap", 1), ("by", 1), ("apart", 2), ("class", 2), ("along", 2)]
theorem kdT_of {K : PySem.W.Frag} {wd : World} {a : Addr} {tbl : List (Str × Int)} {es : Array DictEntry} {n : Nat} (hl : K.lookup a = some ⟨.type "dict", none, .dict es n, #[]⟩) (hk : PySem.W.KeysLit wd.params es.toList)
    (h : ∀ z i, (z, i) ∈ tbl → ∃ u, PySem.W.nsIn K a z = some (some u) ∧ RelV (V.int i) u) : MD.KdT K wd a tbl := fun z i hm => by
  obtain ⟨u, h1, h2⟩ := h z i hm
  exact ⟨es, n, u, hl, hk, h1, h2⟩
theorem dwit {K : PySem.W.Frag} {a : Addr} {z : Str} {i : Int} {u : Value} (h : PySem.W.nsIn K a z = some (some u)) (r : RelV (V.int i) u) : ∃ u, PySem.W.nsIn K a z = some (some u) ∧ RelV (V.int i) u := ⟨u, h, r⟩
inductive Test
  | accent (a : Int)
  | lasts (l h : Int × Int)
  | one (w : Str) (v : Nat)
  | leap (v : Nat) (l h : Int)
  | by' (v : Nat) (ms : List (Int × Int))
  | apart (v s : Nat) (l h : Int)
  | cls (v s : Nat) (rs : List Int)
  | along (v s : Nat)
def testD : Test → D
  | .accent a => .tup [.str "accent", .int a]
  | .lasts l h => .tup [.str "lasts", MD.prD l, MD.prD h]
  | .one w v => .tup [.str w, .int (v : Int)]
  | .leap v l h => .tup [.str "leap", .int (v : Int), .int l, .int h]
  | .by' v ms => .tup [.str "by", .int (v : Int), .tup (ms.map MD.prD)]
  | .apart v s l h => .tup [.str "apart", .int (v : Int), .int (s : Int), .int l, .int h]
  | .cls v s rs => .tup [.str "class", .int (v : Int), .int (s : Int), .tup (rs.map D.int)]
  | .along v s => .tup [.str "along", .int (v : Int), .int (s : Int)]
def okT : Test → Prop
  | .lasts l h => Bg 64 l.1 ∧ Bg 64 l.2 ∧ Bg 64 h.1 ∧ Bg 64 h.2
  | .one w _ => w = "begins" ∨ w = "silent" ∨ w = "loose"
  | .by' _ ms => ms.length ≤ 20
  | .cls _ _ rs => rs.length ≤ 20
  | _ => True
def hgt (t : Int × Int) : Int := 7 * t.1 + 12 * t.2
def entAt (c : Col) (v : Nat) : Ent := c.es.getD v none
def mel (v : Nat) (a b : Col) : Option (Int × Int) := match entAt a v, entAt b v with
  | some (t, _), some (u, true) => some (u.1 - t.1, u.2 - t.2)
  | _, _ => none
def upr (v s : Nat) (b : Col) : Option Int := match entAt b v, entAt b s with
  | some (t, _), some (u, _) => some (hgt (u.1 - t.1, u.2 - t.2))
  | _, _ => none
def looseB (e b : Ent) : Bool := match e with
  | some (t, x) => !x && (match b with
    | none => true
    | some (u, _) => decide (u ≠ t))
  | none => false
def lastsB (l h : Int × Int) (a b : Col) : Bool := if a.dur.1 = 0 then false else decide (l.1 * (b.dur.2 * a.dur.1) ≤ b.dur.1 * a.dur.2 * l.2) && decide (b.dur.1 * a.dur.2 * h.2 ≤ h.1 * (b.dur.2 * a.dur.1))
/-- whether a test holds -/
def holdsB : Test → Col → Col → Bool
  | .accent x, _, b => decide (b.acc = x)
  | .lasts l h, a, b => lastsB l h a b
  | .one w v, a, b => decide (v < b.es.length) && (if w = "begins" then (match entAt b v with | some (_, x) => x | none => false) else if w = "silent" then (entAt b v).isNone else looseB (entAt b v) (entAt a v))
  | .leap v l h, a, b => decide (v < b.es.length) && (match mel v a b with | some m => decide (l ≤ hgt m) && decide (hgt m ≤ h) | none => false)
  | .by' v ms, a, b => decide (v < b.es.length) && (match mel v a b with | some m => decide (m ∈ ms) | none => false)
  | .apart v s l h, _, b => decide (v < b.es.length) && decide (s < b.es.length) && (match upr v s b with | some w => decide (l ≤ w) && decide (w ≤ h) | none => false)
  | .cls v s rs, _, b => decide (v < b.es.length) && decide (s < b.es.length) && (match upr v s b with | some w => decide (w % 12 ∈ rs) | none => false)
  | .along v s, a, b => decide (v < b.es.length) && decide (s < b.es.length) && (match mel v a b, mel s a b with | some m, some k => decide (0 < hgt m * hgt k) | _, _ => false)
def optP : Option (Int × Int) → D
  | none => .non
  | some m => MD.prD m
def optZ : Option Int → D
  | none => .non
  | some m => .int m
def alongB (v s : Nat) (a b : Col) : Bool := match mel v a b, mel s a b with
  | some m, some k => decide (0 < hgt m * hgt k)
  | _, _ => false
def dOk (d : Int × Int) : Prop := d = (0, 1) ∨ okDur d
def okE (c : Col) : Prop := ∀ e ∈ c.es, okEnt T64 e
def okP (v : Nat) (a b : Col) : Prop := v ≤ 4 ∧ a.es.length = v ∧ b.es.length = v ∧ (dOk a.dur ∧ dOk b.dur) ∧ okE a ∧ okE b
def TestL (d : D) (t : Test) : Prop := d = testD t ∨ d = lis (testD t)
def sp_quotient : SpD := fun ds M Q _ => ∃ one other : Int × Int, ds = [MD.prD one, MD.prD other] ∧ one.2 * other.1 ≠ 0 ∧ Bg 64 one.1 ∧ Bg 64 one.2 ∧ Bg 64 other.1 ∧ Bg 64 other.2 ∧ Q (MD.prD (fr (one.1 * other.2) (one.2 * other.1))) M
theorem mono_quotient : MonoP sp_quotient := fun ds M Q Q' E E' q x ⟨a, b, e, h1, h2, h3, h4, h5, h⟩ => ⟨a, b, e, h1, h2, h3, h4, h5, q _ _ h⟩
theorem len_quotient (ds M Q E) (h : sp_quotient ds M Q E) : ds.length = 2 := by obtain ⟨_, _, rfl, _⟩ := h; rfl
def sp_is_less : SpD := fun ds M Q _ => ∃ one other : Int × Int, ds = [MD.prD one, MD.prD other] ∧ (Bg 200 one.1 ∧ Bg 200 one.2 ∧ Bg 200 other.1 ∧ Bg 200 other.2) ∧ Q (.bl (decide (one.1 * other.2 < other.1 * one.2))) M
theorem mono_is_less : MonoP sp_is_less := fun ds M Q Q' E E' q x ⟨a, b, e, h1, h⟩ => ⟨a, b, e, h1, q _ _ h⟩
theorem len_is_less (ds M Q E) (h : sp_is_less ds M Q E) : ds.length = 2 := by obtain ⟨_, _, rfl, _⟩ := h; rfl
def Hgt : SpD := fun ds M Q _ => ∃ t : Int × Int, ds = [MD.prD t] ∧ (Bg 100 t.1 ∧ Bg 100 t.2) ∧ Q (.int (hgt t)) M
theorem Hgt.mono : MonoP Hgt := fun ds M Q Q' E E' q x ⟨a, e, h1, h⟩ => ⟨a, e, h1, q _ _ h⟩
theorem Hgt.len (ds M Q E) (h : Hgt ds M Q E) : ds.length = 1 := by obtain ⟨_, rfl, _⟩ := h; rfl
def sp_height : SpD := Hgt
theorem mono_height : MonoP sp_height := Hgt.mono
theorem len_height (ds M Q E) (h : sp_height ds M Q E) : ds.length = 1 := Hgt.len ds M Q E h
def sp__law_height : SpD := Hgt
theorem mono__law_height : MonoP sp__law_height := Hgt.mono
theorem len__law_height (ds M Q E) (h : sp__law_height ds M Q E) : ds.length = 1 := Hgt.len ds M Q E h
def sp_between : SpD := fun ds M Q _ => ∃ t u : Int × Int, ds = [MD.prD t, MD.prD u] ∧ Q (MD.prD (u.1 - t.1, u.2 - t.2)) M
theorem mono_between : MonoP sp_between := fun ds M Q Q' E E' q x ⟨a, b, e, h⟩ => ⟨a, b, e, q _ _ h⟩
theorem len_between (ds M Q E) (h : sp_between ds M Q E) : ds.length = 2 := by obtain ⟨_, _, rfl, _⟩ := h; rfl
def Loo : SpD := fun ds M Q _ => ∃ e b : Ent, ds = [entD e, entD b] ∧ Q (.bl (looseB e b)) M
theorem Loo.mono : MonoP Loo := fun ds M Q Q' E E' q x ⟨a, b, e, h⟩ => ⟨a, b, e, q _ _ h⟩
theorem Loo.len (ds M Q E) (h : Loo ds M Q E) : ds.length = 2 := by obtain ⟨_, _, rfl, _⟩ := h; rfl
def sp_is_loose : SpD := Loo
theorem mono_is_loose : MonoP sp_is_loose := Loo.mono
theorem len_is_loose (ds M Q E) (h : sp_is_loose ds M Q E) : ds.length = 2 := Loo.len ds M Q E h
def sp__law_loose : SpD := Loo
theorem mono__law_loose : MonoP sp__law_loose := Loo.mono
theorem len__law_loose (ds M Q E) (h : sp__law_loose ds M Q E) : ds.length = 2 := Loo.len ds M Q E h
def sp_settled_test : SpD := fun ds M Q _ => ∃ d t, ds = [d] ∧ TestL d t ∧ okT t ∧ Q (testD t) M
theorem mono_settled_test : MonoP sp_settled_test := fun ds M Q Q' E E' q x ⟨a, b, e, h1, h2, h⟩ => ⟨a, b, e, h1, h2, q _ _ h⟩
theorem len_settled_test (ds M Q E) (h : sp_settled_test ds M Q E) : ds.length = 1 := by obtain ⟨_, _, rfl, _⟩ := h; rfl
def Mel : SpD := fun ds M Q _ => ∃ (v : Nat) (a b : Col), ds = [.int v, colD a, colD b] ∧ v < a.es.length ∧ v < b.es.length ∧ Q (optP (mel v a b)) M
theorem Mel.mono : MonoP Mel := fun ds M Q Q' E E' q x ⟨v, a, b, e, h1, h2, h⟩ => ⟨v, a, b, e, h1, h2, q _ _ h⟩
theorem Mel.len (ds M Q E) (h : Mel ds M Q E) : ds.length = 3 := by obtain ⟨_, _, _, rfl, _⟩ := h; rfl
def sp_melodic : SpD := Mel
theorem mono_melodic : MonoP sp_melodic := Mel.mono
theorem len_melodic (ds M Q E) (h : sp_melodic ds M Q E) : ds.length = 3 := Mel.len ds M Q E h
def sp__law_melodic : SpD := Mel
theorem mono__law_melodic : MonoP sp__law_melodic := Mel.mono
theorem len__law_melodic (ds M Q E) (h : sp__law_melodic ds M Q E) : ds.length = 3 := Mel.len ds M Q E h
def sp_upright : SpD := fun ds M Q _ => ∃ (v s : Nat) (b : Col), ds = [.int v, .int s, colD b] ∧ v < b.es.length ∧ s < b.es.length ∧ okE b ∧ Q (optZ (upr v s b)) M
theorem mono_upright : MonoP sp_upright := fun ds M Q Q' E E' q x ⟨v, a, b, e, h1, h2, h3, h⟩ => ⟨v, a, b, e, h1, h2, h3, q _ _ h⟩
theorem len_upright (ds M Q E) (h : sp_upright ds M Q E) : ds.length = 3 := by obtain ⟨_, _, _, rfl, _⟩ := h; rfl
def sp_along : SpD := fun ds M Q _ => ∃ (v s : Nat) (a b : Col), ds = [.int v, .int s, colD a, colD b] ∧ v < a.es.length ∧ v < b.es.length ∧ s < a.es.length ∧ s < b.es.length ∧ okE a ∧ okE b ∧ Q (.bl (alongB v s a b)) M
theorem mono_along : MonoP sp_along := fun ds M Q Q' E E' q x ⟨v, s, a, b, e, h1, h2, h3, h4, h5, h6, h⟩ => ⟨v, s, a, b, e, h1, h2, h3, h4, h5, h6, q _ _ h⟩
theorem len_along (ds M Q E) (h : sp_along ds M Q E) : ds.length = 4 := by obtain ⟨_, _, _, _, rfl, _⟩ := h; rfl
def sp_lasts : SpD := fun ds M Q _ => ∃ (l h : Int × Int) (a b : Col), ds = [MD.prD l, MD.prD h, colD a, colD b] ∧ dOk a.dur ∧ dOk b.dur ∧ (Bg 64 l.1 ∧ Bg 64 l.2 ∧ Bg 64 h.1 ∧ Bg 64 h.2) ∧ Q (.bl (lastsB l h a b)) M
theorem mono_lasts : MonoP sp_lasts := fun ds M Q Q' E E' q x ⟨v, s, a, b, e, h1, h2, h3, h⟩ => ⟨v, s, a, b, e, h1, h2, h3, q _ _ h⟩
theorem len_lasts (ds M Q E) (h : sp_lasts ds M Q E) : ds.length = 4 := by obtain ⟨_, _, _, _, rfl, _⟩ := h; rfl
def Tru : SpD := fun ds M Q _ => ∃ (t : Test) (v : Nat) (a b : Col), ds = [testD t, colD a, colD b] ∧ okT t ∧ okP v a b ∧ Q (.bl (holdsB t a b)) M
theorem Tru.mono : MonoP Tru := fun ds M Q Q' E E' q x ⟨v, s, a, b, e, h1, h2, h⟩ => ⟨v, s, a, b, e, h1, h2, q _ _ h⟩
theorem Tru.len (ds M Q E) (h : Tru ds M Q E) : ds.length = 3 := by obtain ⟨_, _, _, _, rfl, _⟩ := h; rfl
def sp_is_true : SpD := Tru
theorem mono_is_true : MonoP sp_is_true := Tru.mono
theorem len_is_true (ds M Q E) (h : sp_is_true ds M Q E) : ds.length = 3 := Tru.len ds M Q E h
def sp__law_holds : SpD := Tru
theorem mono__law_holds : MonoP sp__law_holds := Tru.mono
theorem len__law_holds (ds M Q E) (h : sp__law_holds ds M Q E) : ds.length = 3 := Tru.len ds M Q E h
def sp_holds : SpD := fun ds M Q _ => ∃ (dt da db : D) (t : Test) (v : Nat) (a b : Col), ds = [dt, da, db] ∧ TestL dt t ∧ ColL da a ∧ ColL db b ∧ okT t ∧ okP v a b ∧ Q (.bl (holdsB t a b)) M
theorem mono_holds : MonoP sp_holds := fun ds M Q Q' E E' q x ⟨d1, d2, d3, v, s, a, b, e, h1, h2, h3, h4, h5, h⟩ => ⟨d1, d2, d3, v, s, a, b, e, h1, h2, h3, h4, h5, q _ _ h⟩
theorem len_holds (ds M Q E) (h : sp_holds ds M Q E) : ds.length = 3 := by obtain ⟨_, _, _, _, _, _, _, rfl, _⟩ := h; rfl
def sp__law_silence : SpD := fun ds M Q _ => ∃ v : Nat, ds = [.int v] ∧ 1 ≤ v ∧ v ≤ 4 ∧ Q (colD ⟨(0, 1), 0, List.replicate v none⟩) M
theorem mono__law_silence : MonoP sp__law_silence := fun ds M Q Q' E E' q x ⟨v, e, h1, h2, h⟩ => ⟨v, e, h1, h2, q _ _ h⟩
theorem len__law_silence (ds M Q E) (h : sp__law_silence ds M Q E) : ds.length = 1 := by obtain ⟨_, rfl, _⟩ := h; rfl
def sp__law_test : SpD := fun ds M Q _ => ∃ p v : Nat, ds = [.ref p, .int v] ∧ Pool M p ∧ 1 ≤ v ∧ v ≤ 4 ∧ ∀ t M', okT t → Step p M M' → Q (testD t) M'
theorem mono__law_test : MonoP sp__law_test := fun ds M Q Q' E E' q x ⟨p, v, e, h1, h2, h3, h⟩ => ⟨p, v, e, h1, h2, h3, fun t M' a b => q _ _ (h t M' a b)⟩
theorem len__law_test (ds M Q E) (h : sp__law_test ds M Q E) : ds.length = 2 := by obtain ⟨_, _, rfl, _⟩ := h; rfl
def sp__law_near : SpD := fun ds M Q _ => ∃ (p v : Nat) (a b : Col), ds = [.ref p, colD a, colD b] ∧ Pool M p ∧ 1 ≤ v ∧ okP v a b ∧ ∀ t M', okT t → Step p M M' → Q (testD t) M'
theorem mono__law_near : MonoP sp__law_near := fun ds M Q Q' E E' q x ⟨p, v, a, b, e, h1, h2, h3, h⟩ => ⟨p, v, a, b, e, h1, h2, h3, fun t M' a b => q _ _ (h t M' a b)⟩
theorem len__law_near (ds M Q E) (h : sp__law_near ds M Q E) : ds.length = 3 := by obtain ⟨_, _, _, _, rfl, _⟩ := h; rfl
def sp__law_so : SpD := fun ds M Q _ => ∃ (p : Nat) (d : D), ds = [.ref p, d] ∧ Pool M p ∧ tupD 6 d = true ∧ ∀ r M', (r = d ∨ r = lis d) → Step p M M' → Q r M'
theorem mono__law_so : MonoP sp__law_so := fun ds M Q Q' E E' q x ⟨p, v, e, h1, h2, h⟩ => ⟨p, v, e, h1, h2, fun t M' a b => q _ _ (h t M' a b)⟩
theorem len__law_so (ds M Q E) (h : sp__law_so ds M Q E) : ds.length = 2 := by obtain ⟨_, _, rfl, _⟩ := h; rfl
def sp__law_column : SpD := fun ds M Q _ => ∃ (T : Tone → Prop) (p v : Nat) (before sm : D) (xs : List Tone), ds = [.ref p, .int v, before, sm] ∧ Pool M p ∧ v ≤ 1000 ∧ (before = .non ∨ ∃ c, before = colD c ∧ c.es.length = v ∧ ∀ e ∈ c.es, okEnt T e) ∧
  sm = .lst (xs.map MD.prD) ∧ xs ≠ [] ∧ xs.length ≤ 1000000 ∧ (∀ t ∈ xs, T t) ∧ ∀ c M', okCol T v c → sml c.dur → Step p M M' → Q (colD c) M'
theorem mono__law_column : MonoP sp__law_column := fun ds M Q Q' E E' q x ⟨T, p, v, b, s, xs, e, h1, h2, h3, h4, h5, h6, h7, h⟩ => ⟨T, p, v, b, s, xs, e, h1, h2, h3, h4, h5, h6, h7, fun c M' k1 k2 k3 => q _ _ (h c M' k1 k2 k3)⟩
theorem len__law_column (ds M Q E) (h : sp__law_column ds M Q E) : ds.length = 4 := by obtain ⟨_, _, _, _, _, _, rfl, _⟩ := h; rfl
def sp_law : SpD := fun ds M Q _ => ∃ ns : List Int, ds = [.scr ns] ∧ ns.length ≤ 63 ∧ M = [] ∧ ∀ M', Q (.bl true) M'
theorem len_law (ds M Q E) (h : sp_law ds M Q E) : ds.length = 1 := by obtain ⟨_, rfl, _⟩ := h; rfl
theorem law_start (ns : List Int) (h : ns.length ≤ 63) (hb : ∀ z ∈ ns, Builtin.Int.intBits z ≤ 1048576) : ∀ Q E, (∀ M, Q (.bl true) M) → sp_law [.scr ns] [] Q E := fun Q E q => ⟨ns, rfl, h, rfl, q⟩
abbrev N_quotient : List Str := ["one", "other"]
abbrev N_is_less : List Str := ["one", "other"]
abbrev N_height : List Str := ["interval"]
abbrev N_between : List Str := ["one", "other"]
abbrev N_is_loose : List Str := ["entry", "before"]
abbrev N_settled_test : List Str := ["test", "part"]
abbrev N_melodic : List Str := ["voice", "one", "other", "before", "entry"]
abbrev N_upright : List Str := ["voice", "higher", "other", "low", "high"]
abbrev N_along : List Str := ["voice", "second", "one", "other", "moves", "up", "move"]
abbrev N_lasts : List Str := ["low", "high", "one", "other", "ratio"]
abbrev N_is_true : List Str := ["test", "one", "other", "word", "voices", "entry", "wide", "move", "voice"]
abbrev N_holds : List Str := ["test", "one", "other"]
abbrev N__law_column : List Str := ["pool", "voices", "before", "some", "entries", "voice", "kind", "entry", "held", "tone"]
abbrev N__law_height : List Str := ["tone"]
abbrev N__law_test : List Str := ["pool", "voices", "word", "voice", "second", "low", "high", "k"]
abbrev N__law_loose : List Str := ["entry", "before"]
abbrev N__law_melodic : List Str := ["voice", "one", "other", "before", "entry"]
abbrev N__law_holds : List Str := ["test", "one", "other", "word", "many", "entry", "move", "higher", "wide", "ratio", "low", "second"]
abbrev N__law_silence : List Str := ["many"]
abbrev N__law_near : List Str := ["pool", "one", "other", "voice", "second", "more", "move", "height_v", "wide", "k"]
abbrev N__law_so : List Str := ["pool", "thing"]
abbrev N_law : List Str := ["script", "pool", "voices", "some", "turn", "one", "other", "test", "due", "shift", "pair", "k", "cell", "part"]
def r_quotient : TS' := (tRet' (tCall' sp_fraction (tCons' (tOp' (oMul false) (tOp' oIx (tVar' 0) (tC' (.int 0))) (tOp' oIx (tVar' 1) (tC' (.int 1)))) (tCons' (tOp' (oMul false) (tOp' oIx (tVar' 0) (tC' (.int 1))) (tOp' oIx (tVar' 1) (tC' (.int 0)))) tNil'))))

def r_is_less : TS' := (tRet' (tOp' (oI0 fun i j => .bl (decide (i < j))) (tOp' (oMul false) (tOp' oIx (tVar' 0) (tC' (.int 0))) (tOp' oIx (tVar' 1) (tC' (.int 1)))) (tOp' (oMul false) (tOp' oIx (tVar' 1) (tC' (.int 0))) (tOp' oIx (tVar' 0) (tC' (.int 1))))))

def r_height : TS' := (tRet' (tOp' (oAdd false) (tOp' (oMul false) (tC' (.int 7)) (tOp' oIx (tVar' 0) (tC' (.int 0)))) (tOp' (oMul false) (tC' (.int 12)) (tOp' oIx (tVar' 0) (tC' (.int 1))))))

def r_between : TS' := (tRet' (tTup' (tCons' (tOp' oSub (tOp' oIx (tVar' 1) (tC' (.int 0))) (tOp' oIx (tVar' 0) (tC' (.int 0)))) (tCons' (tOp' oSub (tOp' oIx (tVar' 1) (tC' (.int 1))) (tOp' oIx (tVar' 0) (tC' (.int 1)))) tNil'))))

def r_is_loose : TS' := (tRet' (tAndV' (tOp' (oIsN' true) (tVar' 0) (tC' .non)) (tAndV' (tNotV' (tOp' oIx (tVar' 0) (tC' (.int 1)))) (tOrV' (tOp' (oIsN' false) (tVar' 1) (tC' .non)) (tOp' (oEq true) (tOp' oIx (tVar' 1) (tC' (.int 0))) (tOp' oIx (tVar' 0) (tC' (.int 0))))))))

def r_settled_test : TS' := (tSeq' (tIfS' (tB' (tOp' (oEq false) (tOp' oIx (tVar' 0) (tC' (.int 0))) (tC' (.str "by")))) (tRet' (tTup' (tCons' (tC' (.str "by")) (tCons' (tOp' oIx (tVar' 0) (tC' (.int 1))) (tCons' (tCB' cTuple (tCons' (tLc' false (tIt' (tOp' oIx (tVar' 0) (tC' (.int 2)))) (gName' 1) tYes' (tCB' cTuple (tCons' (tVar' 1) tNil')) [1]) tNil')) tNil'))))) tNext')
    (tSeq' (tIfS' (tB' (tOp' (oEq false) (tOp' oIx (tVar' 0) (tC' (.int 0))) (tC' (.str "class")))) (tRet' (tTup' (tCons' (tC' (.str "class")) (tCons' (tOp' oIx (tVar' 0) (tC' (.int 1))) (tCons' (tOp' oIx (tVar' 0) (tC' (.int 2))) (tCons' (tCB' cTuple (tCons' (tOp' oIx (tVar' 0) (tC' (.int 3))) tNil')) tNil')))))) tNext')
    (tSeq' (tIfS' (tB' (tOp' (oEq false) (tOp' oIx (tVar' 0) (tC' (.int 0))) (tC' (.str "lasts")))) (tRet' (tTup' (tCons' (tC' (.str "lasts")) (tCons' (tCB' cTuple (tCons' (tOp' oIx (tVar' 0) (tC' (.int 1))) tNil')) (tCons' (tCB' cTuple (tCons' (tOp' oIx (tVar' 0) (tC' (.int 2))) tNil')) tNil'))))) tNext')
    (tRet' (tCB' cTuple (tCons' (tVar' 0) tNil'))))))

def r_melodic : TS' := (tSeq' (tPar' 3 4 (tCons' (tOp' oIx (tOp' oIx (tVar' 1) (tC' (.int 2))) (tVar' 0)) (tCons' (tOp' oIx (tOp' oIx (tVar' 2) (tC' (.int 2))) (tVar' 0)) tNil')))
    (tSeq' (tIfS' (tOr' (tB' (tOp' (oIsN' false) (tVar' 3) (tC' .non))) (tOr' (tB' (tOp' (oIsN' false) (tVar' 4) (tC' .non))) (tNot' (tTru' (tOp' oIx (tVar' 4) (tC' (.int 1))))))) (tRet' (tC' .non)) tNext')
    (tRet' (tCall' sp_between (tCons' (tOp' oIx (tVar' 3) (tC' (.int 0))) (tCons' (tOp' oIx (tVar' 4) (tC' (.int 0))) tNil'))))))

def r_upright : TS' := (tSeq' (tPar' 3 4 (tCons' (tOp' oIx (tOp' oIx (tVar' 2) (tC' (.int 2))) (tVar' 0)) (tCons' (tOp' oIx (tOp' oIx (tVar' 2) (tC' (.int 2))) (tVar' 1)) tNil')))
    (tRet' (tIf' (tOr' (tB' (tOp' (oIsN' false) (tVar' 3) (tC' .non))) (tB' (tOp' (oIsN' false) (tVar' 4) (tC' .non)))) (tC' .non) (tCall' sp_height (tCons' (tCall' sp_between (tCons' (tOp' oIx (tVar' 3) (tC' (.int 0))) (tCons' (tOp' oIx (tVar' 4) (tC' (.int 0))) tNil'))) tNil')))))

def r_along : TS' := (tSeq' (tAsg' (tLst' false (tCons' (tCall' sp_melodic (tCons' (tVar' 0) (tCons' (tVar' 2) (tCons' (tVar' 3) tNil')))) (tCons' (tCall' sp_melodic (tCons' (tVar' 1) (tCons' (tVar' 2) (tCons' (tVar' 3) tNil')))) tNil'))) (gName' 4))
    (tSeq' (tIfS' (tB' (tOp' (oInN false) (tC' .non) (tVar' 4))) (tRet' (tC' (.bl false))) tNext')
    (tSeq' (tAsg' (tLc' false (tIt' (tVar' 4)) (gName' 6) tYes' (tCall' sp_height (tCons' (tVar' 6) tNil')) [6]) (gName' 5))
    (tRet' (tOrV' (tAndV' (tOp' (oI0 fun i j => .bl (decide (j < i))) (tOp' oIx (tVar' 5) (tC' (.int 0))) (tC' (.int 0))) (tOp' (oI0 fun i j => .bl (decide (j < i))) (tOp' oIx (tVar' 5) (tC' (.int 1))) (tC' (.int 0)))) (tAndV' (tOp' (oI0 fun i j => .bl (decide (i < j))) (tOp' oIx (tVar' 5) (tC' (.int 0))) (tC' (.int 0))) (tOp' (oI0 fun i j => .bl (decide (i < j))) (tOp' oIx (tVar' 5) (tC' (.int 1))) (tC' (.int 0)))))))))

def r_lasts : TS' := (tSeq' (tIfS' (tB' (tOp' (oEq false) (tOp' oIx (tOp' oIx (tVar' 2) (tC' (.int 0))) (tC' (.int 0))) (tC' (.int 0)))) (tRet' (tC' (.bl false))) tNext')
    (tSeq' (tAsg' (tCall' sp_quotient (tCons' (tOp' oIx (tVar' 3) (tC' (.int 0))) (tCons' (tOp' oIx (tVar' 2) (tC' (.int 0))) tNil'))) (gName' 4))
    (tRet' (tAndV' (tNotV' (tCall' sp_is_less (tCons' (tVar' 4) (tCons' (tVar' 0) tNil')))) (tNotV' (tCall' sp_is_less (tCons' (tVar' 1) (tCons' (tVar' 4) tNil'))))))))

def r_is_true : TS' := (tSeq' (tAsg' (tOp' oIx (tVar' 0) (tC' (.int 0))) (gName' 3))
    (tSeq' (tIfS' (tB' (tOp' (oEq false) (tVar' 3) (tC' (.str "accent")))) (tRet' (tOp' (oEq false) (tOp' oIx (tVar' 2) (tC' (.int 1))) (tOp' oIx (tVar' 0) (tC' (.int 1))))) tNext')
    (tSeq' (tIfS' (tB' (tOp' (oEq false) (tVar' 3) (tC' (.str "lasts")))) (tRet' (tCall' sp_lasts (tCons' (tOp' oIx (tVar' 0) (tC' (.int 1))) (tCons' (tOp' oIx (tVar' 0) (tC' (.int 2))) (tCons' (tVar' 1) (tCons' (tVar' 2) tNil')))))) tNext')
    (tSeq' (tAsg' (tCB' cLen (tCons' (tOp' oIx (tVar' 2) (tC' (.int 2))) tNil')) (gName' 4))
    (tSeq' (tIfS' (tTru' (tCB' (cBls fun bs => bs.any id) (tCons' (tLc' false (tIt' (tSl' (oSl false) (tVar' 0) (tPart' (tC' (.int 1))) (tPart' (tOp' (oAdd false) (tC' (.int 1)) (tOp' (oKd aVOICES tVOICES) (tC' (.con (.ref aVOICES))) (tVar' 3)))))) (gName' 8) tYes' (tOp' (oI0 fun i j => .bl (decide (j ≤ i))) (tVar' 8) (tVar' 4)) [8]) tNil'))) (tRet' (tC' (.bl false))) tNext')
    (tSeq' (tAsg' (tOp' oIx (tOp' oIx (tVar' 2) (tC' (.int 2))) (tOp' oIx (tVar' 0) (tC' (.int 1)))) (gName' 5))
    (tSeq' (tIfS' (tB' (tOp' (oEq false) (tVar' 3) (tC' (.str "begins")))) (tRet' (tAndV' (tOp' (oIsN' true) (tVar' 5) (tC' .non)) (tOp' oIx (tVar' 5) (tC' (.int 1))))) tNext')
    (tSeq' (tIfS' (tB' (tOp' (oEq false) (tVar' 3) (tC' (.str "silent")))) (tRet' (tOp' (oIsN' false) (tVar' 5) (tC' .non))) tNext')
    (tSeq' (tIfS' (tB' (tOp' (oEq false) (tVar' 3) (tC' (.str "loose")))) (tRet' (tCall' sp_is_loose (tCons' (tVar' 5) (tCons' (tOp' oIx (tOp' oIx (tVar' 1) (tC' (.int 2))) (tOp' oIx (tVar' 0) (tC' (.int 1)))) tNil')))) tNext')
    (tSeq' (tIfS' (tB' (tOp' (oEq false) (tVar' 3) (tC' (.str "along")))) (tRet' (tCall' sp_along (tCons' (tOp' oIx (tVar' 0) (tC' (.int 1))) (tCons' (tOp' oIx (tVar' 0) (tC' (.int 2))) (tCons' (tVar' 1) (tCons' (tVar' 2) tNil')))))) tNext')
    (tSeq' (tIfS' (tB' (tOp' (oInT false) (tVar' 3) (tTup' (tCons' (tC' (.str "leap")) (tCons' (tC' (.str "by")) tNil'))))) (tSeq' (tAsg' (tCall' sp_melodic (tCons' (tOp' oIx (tVar' 0) (tC' (.int 1))) (tCons' (tVar' 1) (tCons' (tVar' 2) tNil')))) (gName' 7))
    (tSeq' (tIfS' (tB' (tOp' (oIsN' false) (tVar' 7) (tC' .non))) (tRet' (tC' (.bl false))) tNext')
    (tRet' (tIf' (tB' (tOp' (oEq false) (tVar' 3) (tC' (.str "by")))) (tOp' (oInN false) (tVar' 7) (tOp' oIx (tVar' 0) (tC' (.int 2)))) (tChain' (oI0 fun i j => .bl (decide (i ≤ j))) (oI0 fun i j => .bl (decide (i ≤ j))) (tOp' oIx (tVar' 0) (tC' (.int 2))) (tCall' sp_height (tCons' (tVar' 7) tNil')) (tOp' oIx (tVar' 0) (tC' (.int 3)))))))) tNext')
    (tSeq' (tAsg' (tCall' sp_upright (tCons' (tOp' oIx (tVar' 0) (tC' (.int 1))) (tCons' (tOp' oIx (tVar' 0) (tC' (.int 2))) (tCons' (tVar' 2) tNil')))) (gName' 6))
    (tSeq' (tIfS' (tB' (tOp' (oIsN' false) (tVar' 6) (tC' .non))) (tRet' (tC' (.bl false))) tNext')
    (tRet' (tIf' (tB' (tOp' (oEq false) (tVar' 3) (tC' (.str "apart")))) (tChain' (oI0 fun i j => .bl (decide (i ≤ j))) (oI0 fun i j => .bl (decide (i ≤ j))) (tOp' oIx (tVar' 0) (tC' (.int 3))) (tVar' 6) (tOp' oIx (tVar' 0) (tC' (.int 4)))) (tOp' (oInT false) (tOp' oMod (tVar' 6) (tC' (.int 12))) (tOp' oIx (tVar' 0) (tC' (.int 3)))))))))))))))))))

def r_holds : TS' := (tRet' (tCall' sp_is_true (tCons' (tCall' sp_settled_test (tCons' (tVar' 0) tNil')) (tCons' (tCall' sp_settled (tCons' (tVar' 1) tNil')) (tCons' (tCall' sp_settled (tCons' (tVar' 2) tNil')) tNil')))))

def r__law_column : TS' := (tSeq' (tAsg' (tTup' tNil') (gName' 4))
    (tSeq' (tFor' (tRng1' (tCons' (tVar' 1) tNil')) (gName' 5) (tSeq' (tAsg' (tCall' sp__law_take (tCons' (tVar' 0) (tCons' (tC' (.int 6)) tNil'))) (gName' 6))
    (tSeq' (tAsg' (tTup' (tCons' (tCall' sp__law_pick (tCons' (tVar' 0) (tCons' (tVar' 3) tNil'))) (tCons' (tC' (.bl true)) tNil'))) (gName' 7))
    (tSeq' (tIfS' (tB' (tOp' (oEq false) (tVar' 6) (tC' (.int 0)))) (tAsg' (tC' .non) (gName' 7)) (tIfS' (tB' (tOp' (oI0 fun i j => .bl (decide (i < j))) (tVar' 6) (tC' (.int 3)))) (tSeq' (tAsg' (tIf' (tB' (tOp' (oIsN' false) (tVar' 2) (tC' .non))) (tC' .non) (tOp' oIx (tOp' oIx (tVar' 2) (tC' (.int 2))) (tVar' 5))) (gName' 8))
    (tSeq' (tAsg' (tIf' (tAnd' (tB' (tOp' (oIsN' true) (tVar' 8) (tC' .non))) (tB' (tOp' (oI0 fun i j => .bl (decide (j < i))) (tCall' sp__law_take (tCons' (tVar' 0) (tCons' (tC' (.int 4)) tNil'))) (tC' (.int 0))))) (tOp' oIx (tVar' 8) (tC' (.int 0))) (tOp' oIx (tVar' 7) (tC' (.int 0)))) (gName' 9))
    (tAsg' (tTup' (tCons' (tVar' 9) (tCons' (tC' (.bl false)) tNil'))) (gName' 7)))) tNext'))
    (tAsg' (tOp' (oAdd false) (tVar' 4) (tTup' (tCons' (tVar' 7) tNil'))) (gName' 4))))))
    (tRet' (tTup' (tCons' (tCall' sp__law_duration (tCons' (tVar' 0) tNil')) (tCons' (tIf' (tB' (tOp' (oEq false) (tCall' sp__law_take (tCons' (tVar' 0) (tCons' (tC' (.int 2)) tNil'))) (tC' (.int 0)))) (tCall' sp__law_take (tCons' (tVar' 0) (tCons' (tC' (.int 10)) tNil'))) (tC' (.int 0))) (tCons' (tVar' 4) tNil')))))))

def r__law_height : TS' := (tRet' (tOp' (oAdd false) (tOp' (oMul false) (tC' (.int 7)) (tOp' oIx (tVar' 0) (tC' (.int 0)))) (tOp' (oMul false) (tC' (.int 12)) (tOp' oIx (tVar' 0) (tC' (.int 1))))))

def r__law_test : TS' := (tSeq' (tAsg' (tCall' sp__law_pick (tCons' (tVar' 0) (tCons' (tLst' false (tCons' (tC' (.str "accent")) (tCons' (tC' (.str "begins")) (tCons' (tC' (.str "silent")) (tCons' (tC' (.str "loose")) (tCons' (tC' (.str "leap")) (tCons' (tC' (.str "leap")) (tCons' (tC' (.str "by")) (tCons' (tC' (.str "apart")) (tCons' (tC' (.str "apart")) (tCons' (tC' (.str "class")) (tCons' (tC' (.str "along")) (tCons' (tC' (.str "lasts")) tNil'))))))))))))) tNil'))) (gName' 2))
    (tSeq' (tAsg' (tIf' (tB' (tOp' (oI0 fun i j => .bl (decide (j < i))) (tCall' sp__law_take (tCons' (tVar' 0) (tCons' (tC' (.int 12)) tNil'))) (tC' (.int 0)))) (tCall' sp__law_take (tCons' (tVar' 0) (tCons' (tVar' 1) tNil'))) (tCall' sp__law_take (tCons' (tVar' 0) (tCons' (tC' (.int 4)) tNil')))) (gName' 3))
    (tSeq' (tAsg' (tCall' sp__law_pick (tCons' (tVar' 0) (tCons' (tOp' (oAdd false) (tLc' false (tRng1' (tCons' (tC' (.int 4)) tNil')) (gName' 7) (tAnd' (tB' (tOp' (oEq true) (tVar' 7) (tVar' 3))) (tOr' (tB' (tOp' (oI0 fun i j => .bl (decide (i < j))) (tVar' 7) (tVar' 1))) (tOr' (tB' (tOp' (oEq false) (tVar' 1) (tC' (.int 1)))) (tB' (tOp' (oEq false) (tCall' sp__law_take (tCons' (tVar' 0) (tCons' (tC' (.int 20)) tNil'))) (tC' (.int 0))))))) (tVar' 7) [7]) (tOp' (oMul false) (tLst' false (tCons' (tOp' oMod (tOp' (oAdd false) (tVar' 3) (tC' (.int 1))) (tC' (.int 4))) tNil')) (tCB' cInt (tCons' (tOp' (oEq false) (tVar' 1) (tC' (.int 1))) tNil')))) tNil'))) (gName' 4))
    (tSeq' (tAsg' (tOp' oSub (tCall' sp__law_take (tCons' (tVar' 0) (tCons' (tC' (.int 41)) tNil'))) (tC' (.int 20))) (gName' 5))
    (tSeq' (tAsg' (tOp' (oAdd false) (tVar' 5) (tCall' sp__law_take (tCons' (tVar' 0) (tCons' (tC' (.int 25)) tNil')))) (gName' 6))
    (tSeq' (tIfS' (tB' (tOp' (oEq false) (tVar' 2) (tC' (.str "accent")))) (tRet' (tTup' (tCons' (tC' (.str "accent")) (tCons' (tIf' (tB' (tOp' (oEq false) (tCall' sp__law_take (tCons' (tVar' 0) (tCons' (tC' (.int 2)) tNil'))) (tC' (.int 0)))) (tCall' sp__law_take (tCons' (tVar' 0) (tCons' (tC' (.int 10)) tNil'))) (tC' (.int 0))) tNil')))) tNext')
    (tSeq' (tIfS' (tB' (tOp' (oEq false) (tVar' 2) (tC' (.str "leap")))) (tRet' (tTup' (tCons' (tC' (.str "leap")) (tCons' (tVar' 3) (tCons' (tVar' 5) (tCons' (tVar' 6) tNil')))))) tNext')
    (tSeq' (tIfS' (tB' (tOp' (oEq false) (tVar' 2) (tC' (.str "by")))) (tRet' (tTup' (tCons' (tC' (.str "by")) (tCons' (tVar' 3) (tCons' (tCB' cTuple (tCons' (tLc' false (tRng1' (tCons' (tCall' sp__law_take (tCons' (tVar' 0) (tCons' (tC' (.int 13)) tNil'))) tNil')) (gName' 7) tYes' (tCall' sp__law_interval (tCons' (tVar' 0) tNil')) [7]) tNil')) tNil'))))) tNext')
    (tSeq' (tIfS' (tB' (tOp' (oEq false) (tVar' 2) (tC' (.str "apart")))) (tRet' (tTup' (tCons' (tC' (.str "apart")) (tCons' (tVar' 3) (tCons' (tVar' 4) (tCons' (tVar' 5) (tCons' (tVar' 6) tNil'))))))) tNext')
    (tSeq' (tIfS' (tB' (tOp' (oEq false) (tVar' 2) (tC' (.str "class")))) (tRet' (tTup' (tCons' (tC' (.str "class")) (tCons' (tVar' 3) (tCons' (tVar' 4) (tCons' (tCB' cTuple (tCons' (tLc' false (tRng1' (tCons' (tCall' sp__law_take (tCons' (tVar' 0) (tCons' (tC' (.int 13)) tNil'))) tNil')) (gName' 7) tYes' (tCall' sp__law_take (tCons' (tVar' 0) (tCons' (tC' (.int 12)) tNil'))) [7]) tNil')) tNil')))))) tNext')
    (tSeq' (tIfS' (tB' (tOp' (oEq false) (tVar' 2) (tC' (.str "along")))) (tRet' (tTup' (tCons' (tC' (.str "along")) (tCons' (tVar' 3) (tCons' (tVar' 4) tNil'))))) tNext')
    (tSeq' (tIfS' (tB' (tOp' (oEq false) (tVar' 2) (tC' (.str "lasts")))) (tSeq' (tAsg' (tCall' sp__law_lowest (tCons' (tCall' sp__law_take (tCons' (tVar' 0) (tCons' (tC' (.int 9)) tNil'))) (tCons' (tOp' (oAdd false) (tC' (.int 1)) (tCall' sp__law_take (tCons' (tVar' 0) (tCons' (tC' (.int 4)) tNil')))) tNil'))) (gName' 5))
    (tRet' (tTup' (tCons' (tC' (.str "lasts")) (tCons' (tVar' 5) (tCons' (tCall' sp__law_pick (tCons' (tVar' 0) (tCons' (tLst' false (tCons' (tVar' 5) (tCons' (tTup' (tCons' (tC' (.int 1)) (tCons' (tC' (.int 1)) tNil'))) (tCons' (tTup' (tCons' (tC' (.int 1000)) (tCons' (tC' (.int 1)) tNil'))) (tCons' (tCall' sp__law_sum (tCons' (tVar' 5) (tCons' (tTup' (tCons' (tC' (.int 1)) (tCons' (tC' (.int 2)) tNil'))) tNil'))) tNil'))))) tNil'))) tNil')))))) tNext')
    (tRet' (tTup' (tCons' (tVar' 2) (tCons' (tVar' 3) tNil'))))))))))))))))

def r__law_loose : TS' := (tRet' (tAndV' (tOp' (oIsN' true) (tVar' 0) (tC' .non)) (tAndV' (tNotV' (tOp' oIx (tVar' 0) (tC' (.int 1)))) (tOrV' (tOp' (oIsN' false) (tVar' 1) (tC' .non)) (tOp' (oEq true) (tOp' oIx (tVar' 1) (tC' (.int 0))) (tOp' oIx (tVar' 0) (tC' (.int 0))))))))

def r__law_melodic : TS' := (tSeq' (tPar' 3 4 (tCons' (tOp' oIx (tOp' oIx (tVar' 1) (tC' (.int 2))) (tVar' 0)) (tCons' (tOp' oIx (tOp' oIx (tVar' 2) (tC' (.int 2))) (tVar' 0)) tNil')))
    (tSeq' (tIfS' (tOr' (tB' (tOp' (oIsN' false) (tVar' 3) (tC' .non))) (tOr' (tB' (tOp' (oIsN' false) (tVar' 4) (tC' .non))) (tNot' (tTru' (tOp' oIx (tVar' 4) (tC' (.int 1))))))) (tRet' (tC' .non)) tNext')
    (tRet' (tTup' (tCons' (tOp' oSub (tOp' oIx (tOp' oIx (tVar' 4) (tC' (.int 0))) (tC' (.int 0))) (tOp' oIx (tOp' oIx (tVar' 3) (tC' (.int 0))) (tC' (.int 0)))) (tCons' (tOp' oSub (tOp' oIx (tOp' oIx (tVar' 4) (tC' (.int 0))) (tC' (.int 1))) (tOp' oIx (tOp' oIx (tVar' 3) (tC' (.int 0))) (tC' (.int 1)))) tNil'))))))

def r__law_holds : TS' := (tSeq' (tAsg' (tOp' oIx (tVar' 0) (tC' (.int 0))) (gName' 3))
    (tSeq' (tAsg' (tCB' cLen (tCons' (tOp' oIx (tVar' 2) (tC' (.int 2))) tNil')) (gName' 4))
    (tSeq' (tIfS' (tB' (tOp' (oEq false) (tVar' 3) (tC' (.str "accent")))) (tRet' (tOp' (oEq false) (tOp' oIx (tVar' 2) (tC' (.int 1))) (tOp' oIx (tVar' 0) (tC' (.int 1))))) tNext')
    (tSeq' (tIfS' (tB' (tOp' (oEq false) (tVar' 3) (tC' (.str "lasts")))) (tSeq' (tIfS' (tB' (tOp' (oEq false) (tOp' oIx (tOp' oIx (tVar' 1) (tC' (.int 0))) (tC' (.int 0))) (tC' (.int 0)))) (tRet' (tC' (.bl false))) tNext')
    (tSeq' (tAsg' (tTup' (tCons' (tOp' (oMul false) (tOp' oIx (tOp' oIx (tVar' 2) (tC' (.int 0))) (tC' (.int 0))) (tOp' oIx (tOp' oIx (tVar' 1) (tC' (.int 0))) (tC' (.int 1)))) (tCons' (tOp' (oMul false) (tOp' oIx (tOp' oIx (tVar' 2) (tC' (.int 0))) (tC' (.int 1))) (tOp' oIx (tOp' oIx (tVar' 1) (tC' (.int 0))) (tC' (.int 0)))) tNil'))) (gName' 9))
    (tSeq' (tAsg' (tOp' (oI0 fun i j => .bl (decide (i ≤ j))) (tOp' (oMul false) (tOp' oIx (tOp' oIx (tVar' 0) (tC' (.int 1))) (tC' (.int 0))) (tOp' oIx (tVar' 9) (tC' (.int 1)))) (tOp' (oMul false) (tOp' oIx (tVar' 9) (tC' (.int 0))) (tOp' oIx (tOp' oIx (tVar' 0) (tC' (.int 1))) (tC' (.int 1))))) (gName' 10))
    (tRet' (tAndV' (tVar' 10) (tOp' (oI0 fun i j => .bl (decide (i ≤ j))) (tOp' (oMul false) (tOp' oIx (tVar' 9) (tC' (.int 0))) (tOp' oIx (tOp' oIx (tVar' 0) (tC' (.int 2))) (tC' (.int 1)))) (tOp' (oMul false) (tOp' oIx (tOp' oIx (tVar' 0) (tC' (.int 2))) (tC' (.int 0))) (tOp' oIx (tVar' 9) (tC' (.int 1)))))))))) tNext')
    (tSeq' (tIfS' (tB' (tOp' (oI0 fun i j => .bl (decide (j ≤ i))) (tOp' oIx (tVar' 0) (tC' (.int 1))) (tVar' 4))) (tRet' (tC' (.bl false))) tNext')
    (tSeq' (tAsg' (tOp' oIx (tOp' oIx (tVar' 2) (tC' (.int 2))) (tOp' oIx (tVar' 0) (tC' (.int 1)))) (gName' 5))
    (tSeq' (tIfS' (tB' (tOp' (oEq false) (tVar' 3) (tC' (.str "begins")))) (tRet' (tAndV' (tOp' (oIsN' true) (tVar' 5) (tC' .non)) (tOp' oIx (tVar' 5) (tC' (.int 1))))) tNext')
    (tSeq' (tIfS' (tB' (tOp' (oEq false) (tVar' 3) (tC' (.str "silent")))) (tRet' (tOp' (oIsN' false) (tVar' 5) (tC' .non))) tNext')
    (tSeq' (tIfS' (tB' (tOp' (oEq false) (tVar' 3) (tC' (.str "loose")))) (tRet' (tCall' sp__law_loose (tCons' (tVar' 5) (tCons' (tOp' oIx (tOp' oIx (tVar' 1) (tC' (.int 2))) (tOp' oIx (tVar' 0) (tC' (.int 1)))) tNil')))) tNext')
    (tSeq' (tAsg' (tCall' sp__law_melodic (tCons' (tOp' oIx (tVar' 0) (tC' (.int 1))) (tCons' (tVar' 1) (tCons' (tVar' 2) tNil')))) (gName' 6))
    (tSeq' (tIfS' (tB' (tOp' (oEq false) (tVar' 3) (tC' (.str "leap")))) (tRet' (tAndV' (tOp' (oIsN' true) (tVar' 6) (tC' .non)) (tChain' (oI0 fun i j => .bl (decide (i ≤ j))) (oI0 fun i j => .bl (decide (i ≤ j))) (tOp' oIx (tVar' 0) (tC' (.int 2))) (tCall' sp__law_height (tCons' (tVar' 6) tNil')) (tOp' oIx (tVar' 0) (tC' (.int 3)))))) tNext')
    (tSeq' (tIfS' (tB' (tOp' (oEq false) (tVar' 3) (tC' (.str "by")))) (tRet' (tAndV' (tOp' (oIsN' true) (tVar' 6) (tC' .non)) (tOp' (oInN false) (tVar' 6) (tOp' oIx (tVar' 0) (tC' (.int 2)))))) tNext')
    (tSeq' (tIfS' (tB' (tOp' (oI0 fun i j => .bl (decide (j ≤ i))) (tOp' oIx (tVar' 0) (tC' (.int 2))) (tVar' 4))) (tRet' (tC' (.bl false))) tNext')
    (tSeq' (tIfS' (tB' (tOp' (oEq false) (tVar' 3) (tC' (.str "along")))) (tSeq' (tAsg' (tCall' sp__law_melodic (tCons' (tOp' oIx (tVar' 0) (tC' (.int 2))) (tCons' (tVar' 1) (tCons' (tVar' 2) tNil')))) (gName' 11))
    (tSeq' (tIfS' (tOr' (tB' (tOp' (oIsN' false) (tVar' 6) (tC' .non))) (tB' (tOp' (oIsN' false) (tVar' 11) (tC' .non)))) (tRet' (tC' (.bl false))) tNext')
    (tRet' (tOp' (oI0 fun i j => .bl (decide (j < i))) (tOp' (oMul false) (tCall' sp__law_height (tCons' (tVar' 6) tNil')) (tCall' sp__law_height (tCons' (tVar' 11) tNil'))) (tC' (.int 0)))))) tNext')
    (tSeq' (tAsg' (tOp' oIx (tOp' oIx (tVar' 2) (tC' (.int 2))) (tOp' oIx (tVar' 0) (tC' (.int 2)))) (gName' 7))
    (tSeq' (tIfS' (tOr' (tB' (tOp' (oIsN' false) (tVar' 5) (tC' .non))) (tB' (tOp' (oIsN' false) (tVar' 7) (tC' .non)))) (tRet' (tC' (.bl false))) tNext')
    (tSeq' (tAsg' (tOp' oSub (tCall' sp__law_height (tCons' (tOp' oIx (tVar' 7) (tC' (.int 0))) tNil')) (tCall' sp__law_height (tCons' (tOp' oIx (tVar' 5) (tC' (.int 0))) tNil'))) (gName' 8))
    (tRet' (tIf' (tB' (tOp' (oEq false) (tVar' 3) (tC' (.str "apart")))) (tChain' (oI0 fun i j => .bl (decide (i ≤ j))) (oI0 fun i j => .bl (decide (i ≤ j))) (tOp' oIx (tVar' 0) (tC' (.int 3))) (tVar' 8) (tOp' oIx (tVar' 0) (tC' (.int 4)))) (tOp' (oInT false) (tOp' oMod (tCB' cInt (tCons' (tVar' 8) tNil')) (tC' (.int 12))) (tOp' oIx (tVar' 0) (tC' (.int 3)))))))))))))))))))))))

def r__law_silence : TS' := (tRet' (tTup' (tCons' (tTup' (tCons' (tC' (.int 0)) (tCons' (tC' (.int 1)) tNil'))) (tCons' (tC' (.int 0)) (tCons' (tOp' oMulT (tTup' (tCons' (tC' .non) tNil')) (tVar' 0)) tNil')))))

def r__law_near : TS' := (tSeq' (tAsg' (tCall' sp__law_take (tCons' (tVar' 0) (tCons' (tCB' cLen (tCons' (tOp' oIx (tVar' 1) (tC' (.int 2))) tNil')) tNil'))) (gName' 3))
    (tSeq' (tAsg' (tCall' sp__law_pick (tCons' (tVar' 0) (tCons' (tLc' false (tRng1' (tCons' (tC' (.int 4)) tNil')) (gName' 9) (tB' (tOp' (oEq true) (tVar' 9) (tVar' 3))) (tVar' 9) [9]) tNil'))) (gName' 4))
    (tSeq' (tAsg' (tCall' sp__law_pick (tCons' (tVar' 0) (tCons' (tLst' false (tCons' (tC' (.int 0)) (tCons' (tC' (.int 0)) (tCons' (tC' (.int 1)) (tCons' (tUn' oNeg (tC' (.int 1))) tNil'))))) tNil'))) (gName' 5))
    (tSeq' (tAsg' (tCall' sp__law_melodic (tCons' (tVar' 3) (tCons' (tVar' 1) (tCons' (tVar' 2) tNil')))) (gName' 6))
    (tSeq' (tIfS' (tOr' (tB' (tOp' (oIsN' false) (tVar' 6) (tC' .non))) (tB' (tOp' (oEq false) (tCall' sp__law_take (tCons' (tVar' 0) (tCons' (tC' (.int 3)) tNil'))) (tC' (.int 0))))) (tSeq' (tIfS' (tOr' (tB' (tOp' (oI0 fun i j => .bl (decide (j ≤ i))) (tVar' 4) (tCB' cLen (tCons' (tOp' oIx (tVar' 1) (tC' (.int 2))) tNil')))) (tOr' (tB' (tOp' (oIsN' false) (tOp' oIx (tOp' oIx (tVar' 2) (tC' (.int 2))) (tVar' 3)) (tC' .non))) (tB' (tOp' (oIsN' false) (tOp' oIx (tOp' oIx (tVar' 2) (tC' (.int 2))) (tVar' 4)) (tC' .non))))) (tRet' (tTup' (tCons' (tC' (.str "loose")) (tCons' (tVar' 3) tNil')))) tNext')
    (tSeq' (tAsg' (tOp' oSub (tCall' sp__law_height (tCons' (tOp' oIx (tOp' oIx (tOp' oIx (tVar' 2) (tC' (.int 2))) (tVar' 4)) (tC' (.int 0))) tNil')) (tCall' sp__law_height (tCons' (tOp' oIx (tOp' oIx (tOp' oIx (tVar' 2) (tC' (.int 2))) (tVar' 3)) (tC' (.int 0))) tNil'))) (gName' 8))
    (tSeq' (tIfS' (tB' (tOp' (oEq false) (tCall' sp__law_take (tCons' (tVar' 0) (tCons' (tC' (.int 2)) tNil'))) (tC' (.int 0)))) (tRet' (tTup' (tCons' (tC' (.str "class")) (tCons' (tVar' 3) (tCons' (tVar' 4) (tCons' (tTup' (tCons' (tOp' oMod (tCB' cInt (tCons' (tOp' (oAdd false) (tVar' 8) (tVar' 5)) tNil')) (tC' (.int 12))) tNil')) tNil')))))) tNext')
    (tRet' (tTup' (tCons' (tC' (.str "apart")) (tCons' (tVar' 3) (tCons' (tVar' 4) (tCons' (tCB' (cI2 fun i j => .int (if j < i then j else i)) (tCons' (tC' (.int 200)) (tCons' (tCB' (cI2 fun i j => .int (if j > i then j else i)) (tCons' (tUn' oNeg (tC' (.int 200))) (tCons' (tOp' (oAdd false) (tVar' 8) (tVar' 5)) tNil'))) tNil'))) (tCons' (tCB' (cI2 fun i j => .int (if j < i then j else i)) (tCons' (tC' (.int 200)) (tCons' (tCB' (cI2 fun i j => .int (if j > i then j else i)) (tCons' (tUn' oNeg (tC' (.int 200))) (tCons' (tOp' (oAdd false) (tVar' 8) (tCall' sp__law_pick (tCons' (tVar' 0) (tCons' (tLst' false (tCons' (tC' (.int 0)) (tCons' (tC' (.int 0)) (tCons' (tC' (.int 5)) (tCons' (tUn' oNeg (tC' (.int 1))) tNil'))))) tNil')))) tNil'))) tNil'))) tNil')))))))))) tNext')
    (tSeq' (tAsg' (tCall' sp__law_height (tCons' (tVar' 6) tNil')) (gName' 7))
    (tSeq' (tIfS' (tB' (tOp' (oEq false) (tCall' sp__law_take (tCons' (tVar' 0) (tCons' (tC' (.int 2)) tNil'))) (tC' (.int 0)))) (tRet' (tTup' (tCons' (tC' (.str "by")) (tCons' (tVar' 3) (tCons' (tTup' (tCons' (tTup' (tCons' (tC' (.int 0)) (tCons' (tC' (.int 0)) tNil'))) (tCons' (tTup' (tCons' (tOp' (oAdd false) (tOp' oIx (tVar' 6) (tC' (.int 0))) (tOp' (oMul false) (tC' (.int 12)) (tVar' 5))) (tCons' (tOp' oSub (tOp' oIx (tVar' 6) (tC' (.int 1))) (tOp' (oMul false) (tC' (.int 7)) (tVar' 5))) tNil'))) tNil'))) tNil'))))) tNext')
    (tRet' (tTup' (tCons' (tC' (.str "leap")) (tCons' (tVar' 3) (tCons' (tCB' (cI2 fun i j => .int (if j < i then j else i)) (tCons' (tC' (.int 200)) (tCons' (tCB' (cI2 fun i j => .int (if j > i then j else i)) (tCons' (tUn' oNeg (tC' (.int 200))) (tCons' (tOp' (oAdd false) (tVar' 7) (tVar' 5)) tNil'))) tNil'))) (tCons' (tCB' (cI2 fun i j => .int (if j < i then j else i)) (tCons' (tC' (.int 200)) (tCons' (tCB' (cI2 fun i j => .int (if j > i then j else i)) (tCons' (tUn' oNeg (tC' (.int 200))) (tCons' (tOp' (oAdd false) (tVar' 7) (tCall' sp__law_pick (tCons' (tVar' 0) (tCons' (tLst' false (tCons' (tC' (.int 0)) (tCons' (tC' (.int 0)) (tCons' (tC' (.int 5)) (tCons' (tUn' oNeg (tC' (.int 1))) tNil'))))) tNil')))) tNil'))) tNil'))) tNil')))))))))))))

def r__law_so : TS' := (tRet' (tIf' (tB' (tOp' (oEq false) (tCall' sp__law_take (tCons' (tVar' 0) (tCons' (tC' (.int 3)) tNil'))) (tC' (.int 0)))) (tCall' sp__law_listed (tCons' (tVar' 1) tNil')) (tVar' 1)))

def r_law : TS' := (tSeq' (tAsg' (tCall' sp__law_pool (tCons' (tVar' 0) tNil')) (gName' 1))
    (tSeq' (tAsg' (tOp' (oAdd false) (tC' (.int 1)) (tCall' sp__law_take (tCons' (tVar' 1) (tCons' (tC' (.int 4)) tNil')))) (gName' 2))
    (tSeq' (tAsg' (tLc' false (tRng1' (tCons' (tOp' (oAdd false) (tC' (.int 1)) (tCall' sp__law_take (tCons' (tVar' 1) (tCons' (tC' (.int 4)) tNil')))) tNil')) (gName' 11) tYes' (tCall' sp__law_tone (tCons' (tVar' 1) tNil')) [11]) (gName' 3))
    (tSeq' (tFor' (tRng1' (tCons' (tC' (.int 30)) tNil')) (gName' 4) (tSeq' (tAsg' (tCall' sp__law_column (tCons' (tVar' 1) (tCons' (tVar' 2) (tCons' (tC' .non) (tCons' (tVar' 3) tNil'))))) (gName' 5))
    (tSeq' (tIfS' (tB' (tOp' (oEq false) (tCall' sp__law_take (tCons' (tVar' 1) (tCons' (tC' (.int 8)) tNil'))) (tC' (.int 0)))) (tAsg' (tCall' sp__law_silence (tCons' (tVar' 2) tNil')) (gName' 5)) tNext')
    (tSeq' (tAsg' (tCall' sp__law_column (tCons' (tVar' 1) (tCons' (tVar' 2) (tCons' (tVar' 5) (tCons' (tVar' 3) tNil'))))) (gName' 6))
    (tSeq' (tAsg' (tIf' (tB' (tOp' (oEq false) (tCall' sp__law_take (tCons' (tVar' 1) (tCons' (tC' (.int 2)) tNil'))) (tC' (.int 0)))) (tCall' sp__law_test (tCons' (tVar' 1) (tCons' (tVar' 2) tNil'))) (tCall' sp__law_near (tCons' (tVar' 1) (tCons' (tVar' 5) (tCons' (tVar' 6) tNil'))))) (gName' 7))
    (tSeq' (tIfS' (tB' (tOp' (oEq false) (tOp' oIx (tVar' 7) (tC' (.int 0))) (tC' (.str "by")))) (tAsg' (tOp' (oAdd false) (tSl' (oSl false) (tVar' 7) tNoPart' (tPart' (tC' (.int 2)))) (tTup' (tCons' (tCB' cTuple (tCons' (tLc' false (tIt' (tOp' oIx (tVar' 7) (tC' (.int 2)))) (gName' 13) (tB' (tOp' (oI0 fun i j => .bl (decide (i ≤ j))) (tCB' (cI2 fun i j => .int (if j > i then j else i)) (tCons' (tCB' (cI1 fun i => .int (if i < 0 then -i else i)) (tCons' (tOp' oIx (tVar' 13) (tC' (.int 0))) tNil')) (tCons' (tCB' (cI1 fun i => .int (if i < 0 then -i else i)) (tCons' (tOp' oIx (tVar' 13) (tC' (.int 1))) tNil')) tNil'))) (tC' (.int 1000)))) (tVar' 13) [13]) tNil')) tNil'))) (gName' 7)) tNext')
    (tSeq' (tAsg' (tCall' sp__law_holds (tCons' (tVar' 7) (tCons' (tVar' 5) (tCons' (tVar' 6) tNil')))) (gName' 8))
    (tSeq' (tIfS' (tNot' (tTru' (tCall' sp__law_same (tCons' (tCall' sp_holds (tCons' (tCall' sp__law_so (tCons' (tVar' 1) (tCons' (tVar' 7) tNil'))) (tCons' (tCall' sp__law_so (tCons' (tVar' 1) (tCons' (tVar' 5) tNil'))) (tCons' (tCall' sp__law_so (tCons' (tVar' 1) (tCons' (tVar' 6) tNil'))) tNil')))) (tCons' (tVar' 8) tNil'))))) (tRet' (tC' (.bl false))) tNext')
    (tSeq' (tAsg' (tCall' sp__law_interval (tCons' (tVar' 1) tNil')) (gName' 9))
    (tSeq' (tAsg' (tLc' false (tIt' (tTup' (tCons' (tVar' 5) (tCons' (tVar' 6) tNil')))) (gName' 12) tYes' (tCall' sp__law_raised (tCons' (tVar' 12) (tCons' (tC' (.int 1)) (tCons' (tVar' 9) tNil')))) [12]) (gName' 10))
    (tSeq' (tAsg' (tLc' false (tIt' (tVar' 10)) (gName' 12) tYes' (tTup' (tCons' (tCall' sp__law_times (tCons' (tOp' oIx (tVar' 12) (tC' (.int 0))) (tCons' (tTup' (tCons' (tC' (.int 3)) (tCons' (tC' (.int 2)) tNil'))) tNil'))) (tCons' (tOp' oIx (tVar' 12) (tC' (.int 1))) (tCons' (tOp' oIx (tVar' 12) (tC' (.int 2))) tNil')))) [12]) (gName' 10))
    (tIfS' (tNot' (tTru' (tCall' sp__law_same (tCons' (tCall' sp_holds (tCons' (tVar' 7) (tCons' (tOp' oIx (tVar' 10) (tC' (.int 0))) (tCons' (tOp' oIx (tVar' 10) (tC' (.int 1))) tNil')))) (tCons' (tVar' 8) tNil'))))) (tRet' (tC' (.bl false))) tNext'))))))))))))
    (tRet' (tC' (.bl true)))))))

end K25
namespace K25
open MD L2 PySem Kit
theorem hz : (sizeLine : Nat) = 16777216 := by decide
theorem ent_at {c : Col} {v : Nat} (h : v < c.es.length) : atI (c.es.map entD) (v : Int) = some (entD (entAt c v)) := by
  refine at_nat ?_
  unfold entAt
  rw [List.getElem?_map, List.getD_eq_getElem?_getD, List.getElem?_eq_getElem h]; rfl
theorem deq_pr (u t : Int × Int) : deq (MD.prD u) (MD.prD t) = decide (u = t) := by
  obtain ⟨a, b⟩ := u
  obtain ⟨c, d⟩ := t
  rw [Bool.eq_iff_iff]
  simp [MD.prD, deq, D.py, D.pyL, PyData.eqv, PyData.eqvAll]
theorem pr_eqOk (t : Int × Int) : eqOk (MD.prD t) := ⟨rfl, rfl⟩
theorem okE_at {c : Col} (h : okE c) {v : Nat} {t : Tone} {b : Bool} (e : entAt c v = some (t, b)) : T64 t := by
  unfold entAt at e
  rw [List.getD_eq_getElem?_getD] at e
  cases hx : c.es[v]? with
  | none => rw [hx] at e; cases e
  | some y =>
    rw [hx] at e
    exact h y (List.mem_of_getElem? hx) t b e
theorem math_quotient (ds M Q E) (hM : WFM M) (hb : D.belL M.length ds = true) (h : sp_quotient ds M Q E) : r_quotient (retE M.length Q E) (startD N_quotient ds) M := by
  obtain ⟨a, b, rfl, h0, h1, h2, h3, h4, q⟩ := h
  unfold r_quotient
  simp [startD, MD.prD]
  refine ⟨mulBg h1 h4 (by decide), mulBg h2 h3 (by decide), _, _, rfl, h0, (Bg.mul h1 h4).mono (by decide), (Bg.mul h2 h3).mono (by decide), ?_⟩
  show Q _ (popM _ _ _)
  rw [popM_same (Nat.le_refl _)]
  exact q
theorem math_is_less (ds M Q E) (hM : WFM M) (hb : D.belL M.length ds = true) (h : sp_is_less ds M Q E) : r_is_less (retE M.length Q E) (startD N_is_less ds) M := by
  obtain ⟨a, b, rfl, ⟨h1, h2, h3, h4⟩, q⟩ := h
  unfold r_is_less
  simp [startD, MD.prD]
  refine ⟨mulBg h1 h4 (by decide), mulBg h3 h2 (by decide), ?_⟩
  rw [popM_same (Nat.le_refl _)]
  exact q
theorem math_height (ds M Q E) (hM : WFM M) (hb : D.belL M.length ds = true) (h : sp_height ds M Q E) : r_height (retE M.length Q E) (startD N_height ds) M := by
  obtain ⟨a, rfl, ⟨h1, h2⟩, q⟩ := h
  unfold r_height
  simp [startD, MD.prD]
  refine ⟨mulBg (j := 3) (by unfold Bg; decide) h1 (by decide), mulBg (j := 4) (by unfold Bg; decide) h2 (by decide), ?_⟩
  rw [popM_same (Nat.le_refl _)]
  exact q
theorem math__law_height (ds M Q E) (hM : WFM M) (hb : D.belL M.length ds = true) (h : sp__law_height ds M Q E) : r__law_height (retE M.length Q E) (startD N__law_height ds) M := math_height ds M Q E hM hb h
theorem math_between (ds M Q E) (hM : WFM M) (hb : D.belL M.length ds = true) (h : sp_between ds M Q E) : r_between (retE M.length Q E) (startD N_between ds) M := by
  obtain ⟨a, b, rfl, q⟩ := h
  unfold r_between
  simp [startD, MD.prD]
  refine ⟨by rw [hz]; decide, ?_⟩
  rw [popM_same (Nat.le_refl _)]
  exact q
theorem math_is_loose (ds M Q E) (hM : WFM M) (hb : D.belL M.length ds = true) (h : sp_is_loose ds M Q E) : r_is_loose (retE M.length Q E) (startD N_is_loose ds) M := by
  obtain ⟨e, b, rfl, q⟩ := h
  unfold r_is_loose
  cases e with
  | none =>
    simp [startD, entD]
    rw [popM_same (Nat.le_refl _)]
    exact q
  | some p =>
    obtain ⟨t, x⟩ := p
    cases x with
    | true =>
      simp [startD, entD]
      rw [popM_same (Nat.le_refl _)]
      exact q
    | false =>
      cases b with
      | none =>
        simp [startD, entD]
        rw [popM_same (Nat.le_refl _)]
        exact q
      | some p =>
        obtain ⟨u, y⟩ := p
        have e : looseB (some (t, false)) (some (u, y)) = !deq (MD.prD u) (MD.prD t) := by
          show (!false && decide (u ≠ t)) = _
          rw [deq_pr, ← decide_not]
          rfl
        rw [e] at q
        simp [startD, entD]
        refine ⟨pr_eqOk u, pr_eqOk t, ?_⟩
        show Q _ (popM _ _ _)
        rw [popM_same (Nat.le_refl _)]
        exact q
theorem math__law_loose (ds M Q E) (hM : WFM M) (hb : D.belL M.length ds = true) (h : sp__law_loose ds M Q E) : r__law_loose (retE M.length Q E) (startD N__law_loose ds) M := math_is_loose ds M Q E hM hb h
theorem mel_at {v : Nat} {a b : Col} : mel v a b = (match entAt a v, entAt b v with
  | some (t, _), some (u, true) => some (u.1 - t.1, u.2 - t.2)
  | _, _ => none : Option (Int × Int)) := rfl
theorem math_melodic (ds M Q E) (hM : WFM M) (hb : D.belL M.length ds = true) (h : sp_melodic ds M Q E) : r_melodic (retE M.length Q E) (startD N_melodic ds) M := by
  obtain ⟨v, a, b, rfl, ha, hb2, q⟩ := h
  unfold r_melodic
  refine seq_step fun S hS => ?_
  simp [startD, colD, ent_at ha, ent_at hb2]
  refine ⟨_, _, ⟨rfl, rfl⟩, ?_⟩
  rw [mel_at] at q
  generalize entAt a v = e1 at q ⊢
  generalize entAt b v = e2 at q ⊢
  subst hS
  refine seq_step fun S hS => ?_
  cases e1 with
  | none =>
    simp [entD]
    rw [popM_same (Nat.le_refl _)]
    exact q
  | some p1 =>
    cases e2 with
    | none =>
      simp [entD]
      rw [popM_same (Nat.le_refl _)]
      exact q
    | some p2 =>
      obtain ⟨u, x⟩ := p2
      obtain ⟨t, y⟩ := p1
      cases x with
      | false =>
        simp [entD]
        rw [popM_same (Nat.le_refl _)]
        exact q
      | true =>
        simp [entD]
        subst hS
        simp [entD]
        refine ⟨t, u, rfl, ?_⟩
        show Q _ (popM _ _ _)
        rw [popM_same (Nat.le_refl _)]
        exact q
theorem math__law_melodic (ds M Q E) (hM : WFM M) (hb : D.belL M.length ds = true) (h : sp__law_melodic ds M Q E) : r__law_melodic (retE M.length Q E) (startD N__law_melodic ds) M := by
  obtain ⟨v, a, b, rfl, ha, hb2, q⟩ := h
  unfold r__law_melodic
  refine seq_step fun S hS => ?_
  simp [startD, colD, ent_at ha, ent_at hb2]
  refine ⟨_, _, ⟨rfl, rfl⟩, ?_⟩
  rw [mel_at] at q
  generalize entAt a v = e1 at q ⊢
  generalize entAt b v = e2 at q ⊢
  subst hS
  refine seq_step fun S hS => ?_
  cases e1 with
  | none =>
    simp [entD]
    rw [popM_same (Nat.le_refl _)]
    exact q
  | some p1 =>
    cases e2 with
    | none =>
      simp [entD]
      rw [popM_same (Nat.le_refl _)]
      exact q
    | some p2 =>
      obtain ⟨u, x⟩ := p2
      obtain ⟨t, y⟩ := p1
      cases x with
      | false =>
        simp [entD]
        rw [popM_same (Nat.le_refl _)]
        exact q
      | true =>
        simp [entD]
        subst hS
        simp [entD, MD.prD]
        refine ⟨by rw [hz]; decide, ?_⟩
        rw [popM_same (Nat.le_refl _)]
        exact q
theorem math_upright (ds M Q E) (hM : WFM M) (hb : D.belL M.length ds = true) (h : sp_upright ds M Q E) : r_upright (retE M.length Q E) (startD N_upright ds) M := by
  obtain ⟨v, s, b, rfl, ha, hb2, hbe, q⟩ := h
  unfold r_upright
  refine seq_step fun S hS => ?_
  simp [startD, colD, ent_at ha, ent_at hb2]
  refine ⟨_, _, ⟨rfl, rfl⟩, ?_⟩
  unfold upr at q
  have b1 : ∀ t x, entAt b v = some (t, x) → T64 t := fun t x e => okE_at hbe e
  have b2 : ∀ t x, entAt b s = some (t, x) → T64 t := fun t x e => okE_at hbe e
  generalize entAt b v = e1 at q b1 ⊢
  generalize entAt b s = e2 at q b2 ⊢
  subst hS
  cases e1 with
  | none =>
    simp [entD]
    rw [popM_same (Nat.le_refl _)]
    exact q
  | some p1 =>
    cases e2 with
    | none =>
      simp [entD]
      rw [popM_same (Nat.le_refl _)]
      exact q
    | some p2 =>
      obtain ⟨u, x⟩ := p2
      obtain ⟨t, y⟩ := p1
      simp [entD]
      have c1 := b1 t y rfl
      have c2 := b2 u x rfl
      refine ⟨t, u, rfl, _, rfl, ⟨(c2.1.sub c1.1).mono (by decide), (c2.2.sub c1.2).mono (by decide)⟩, ?_⟩
      show Q _ (popM _ _ _)
      rw [popM_same (Nat.le_refl _)]
      exact q
end K25
namespace K25
open MD L2 PySem Kit
theorem mel_bg {v : Nat} {a b : Col} {m : Int × Int} (ha : okE a) (hb : okE b) (h : mel v a b = some m) : Bg 66 m.1 ∧ Bg 66 m.2 := by
  rw [mel_at] at h
  split at h
  · rename_i t x u e1 e2
    cases h
    have c1 := okE_at ha e1
    have c2 := okE_at hb e2
    exact ⟨(c2.1.sub c1.1).mono (by decide), (c2.2.sub c1.2).mono (by decide)⟩
  · cases h
theorem bg66 {x : Int} (h : Bg 66 x) : Bg 100 x := h.mono (by decide)
theorem sgn {x y : Int} : (decide (0 < x) && decide (0 < y) || decide (x < 0) && decide (y < 0)) = decide (0 < x * y) := by
  rw [Bool.eq_iff_iff]
  simp
  constructor
  · rintro (⟨h, k⟩ | ⟨h, k⟩)
    · exact Int.mul_pos h k
    · exact Int.mul_pos_of_neg_of_neg h k
  · intro h
    rcases Int.lt_trichotomy x 0 with hx | hx | hx
    · right
      refine ⟨hx, ?_⟩
      by_cases hy : y < 0
      · exact hy
      · have := Int.mul_nonpos_of_nonpos_of_nonneg (Int.le_of_lt hx) (by omega : 0 ≤ y); omega
    · rw [hx] at h; simp at h
    · left
      refine ⟨hx, ?_⟩
      by_cases hy : 0 < y
      · exact hy
      · have := Int.mul_nonpos_of_nonneg_of_nonpos (Int.le_of_lt hx) (by omega : y ≤ 0); omega
theorem math_along (ds M Q E) (hM : WFM M) (hb : D.belL M.length ds = true) (h : sp_along ds M Q E) : r_along (retE M.length Q E) (startD N_along ds) M := by
  obtain ⟨v, s, a, b, rfl, h1, h2, h3, h4, ha, hb2, q⟩ := h
  unfold r_along
  refine seq_step fun S hS => ?_
  simp [startD]
  refine ⟨v, a, b, rfl, h1, h2, ?_⟩
  refine ⟨s, a, b, rfl, h3, h4, ?_⟩
  unfold alongB at q
  have b1 : ∀ m, mel v a b = some m → Bg 66 m.1 ∧ Bg 66 m.2 := fun m e => mel_bg ha hb2 e
  have b2 : ∀ m, mel s a b = some m → Bg 66 m.1 ∧ Bg 66 m.2 := fun m e => mel_bg ha hb2 e
  generalize mel v a b = e1 at q b1 ⊢
  generalize mel s a b = e2 at q b2 ⊢
  refine ⟨by rw [hz]; decide, ?_⟩
  subst hS
  refine seq_step fun S hS => ?_
  cases e1 with
  | none =>
    cases e2 with
    | none =>
      simp [optP]
      refine ⟨⟨rfl, rfl⟩, ⟨rfl, rfl⟩, ?_⟩
      rw [if_pos (show inDD D.non [D.non, D.non] = true from rfl)]
      rw [popM_same (Nat.le_refl _)]
      exact q
    | some m =>
      simp [optP]
      refine ⟨⟨rfl, rfl⟩, ⟨rfl, rfl⟩, ?_⟩
      rw [if_pos (show inDD D.non [D.non, MD.prD m] = true from rfl)]
      rw [popM_same (Nat.le_refl _)]
      exact q
  | some m =>
    cases e2 with
    | none =>
      simp [optP]
      refine ⟨⟨rfl, rfl⟩, ⟨rfl, rfl⟩, ?_⟩
      rw [if_pos (show inDD D.non [MD.prD m, D.non] = true from rfl)]
      rw [popM_same (Nat.le_refl _)]
      exact q
    | some k =>
      simp [optP]
      refine ⟨⟨rfl, rfl⟩, ⟨rfl, rfl⟩, ?_⟩
      rw [if_neg (show ¬ inDD D.non [MD.prD m, MD.prD k] = true from fun z => by have : inDD D.non [MD.prD m, MD.prD k] = false := rfl; rw [this] at z; cases z)]
      have c1 := b1 m rfl
      have c2 := b2 k rfl
      subst hS
      refine seq_step fun S hS => ?_
      simp
      refine lcL_map (fun d => match d with | .tup [.int x, .int y] => .int (hgt (x, y)) | d => d) (by exact trivial) _ [] ?_ (by rw [hz]; simp) ?_
      · intro d hd Q' q'
        simp only [List.mem_cons, List.not_mem_nil, or_false] at hd
        simp [wipeD]
        rcases hd with rfl | rfl
        · exact ⟨m, rfl, ⟨bg66 c1.1, bg66 c1.2⟩, q'⟩
        · exact ⟨k, rfl, ⟨bg66 c2.1, bg66 c2.2⟩, q'⟩
      · rw [List.nil_append]
        show S _ _ _
        simp [MD.prD]
        subst hS
        simp
        have e := sgn (x := hgt m) (y := hgt k)
        have q' : Q (.bl (decide (0 < hgt m * hgt k))) M := q
        rw [← e] at q'
        rw [show hgt (m.1, m.2) = hgt m from rfl, show hgt (k.1, k.2) = hgt k from rfl]
        have pm : ∀ r, popM M.length (.bl r) M = M := fun r => popM_same (Nat.le_refl _)
        simp only [pm]
        by_cases A : 0 < hgt m <;> by_cases B : 0 < hgt k <;> by_cases C : hgt m < 0 <;> by_cases D' : hgt k < 0 <;> simp [A, B, C, D'] at q' ⊢ <;> exact q'
theorem fr_part {n d : Int} (h : 0 < d) : ∃ g, 0 < g ∧ n = g * (fr n d).1 ∧ d = g * (fr n d).2 := by
  have hg : (0 : Int) < (Int.gcd n d : Int) := by
    have : Int.gcd n d ≠ 0 := fun z => by have := (Int.gcd_eq_zero_iff.mp z).2; omega
    omega
  rw [fr_pos h]
  exact ⟨_, hg, (Int.mul_ediv_cancel' (Int.gcd_dvd_left ..)).symm, (Int.mul_ediv_cancel' (Int.gcd_dvd_right ..)).symm⟩
theorem le_fr {n d x y : Int} (h : 0 < d) : decide (x * d ≤ n * y) = decide (x * (fr n d).2 ≤ (fr n d).1 * y) := by
  obtain ⟨g, hg, e1, e2⟩ := fr_part (n := n) h
  generalize (fr n d).1 = p at e1 ⊢
  generalize (fr n d).2 = r at e2 ⊢
  subst e1 e2
  rw [decide_eq_decide, Int.mul_left_comm x g r, Int.mul_assoc g p y]
  exact Int.mul_le_mul_left hg
theorem fr_le2 {n d x y : Int} (h : 0 < d) : decide (n * y ≤ x * d) = decide ((fr n d).1 * y ≤ x * (fr n d).2) := by
  obtain ⟨g, hg, e1, e2⟩ := fr_part (n := n) h
  generalize (fr n d).1 = p at e1 ⊢
  generalize (fr n d).2 = r at e2 ⊢
  subst e1 e2
  rw [decide_eq_decide, Int.mul_left_comm x g r, Int.mul_assoc g p y]
  exact Int.mul_le_mul_left hg
theorem dOk_f {d : Int × Int} (h : dOk d) : 0 ≤ d.1 ∧ 0 < d.2 ∧ Bg 64 d.1 ∧ Bg 64 d.2 := by
  rcases h with rfl | h
  · exact ⟨by decide, by decide, by unfold Bg; decide, by unfold Bg; decide⟩
  · exact ⟨by have := h.1; omega, h.2.1, h.2.2.1, h.2.2.2.1⟩
theorem math_lasts (ds M Q E) (hM : WFM M) (hb : D.belL M.length ds = true) (h : sp_lasts ds M Q E) : r_lasts (retE M.length Q E) (startD N_lasts ds) M := by
  obtain ⟨l, h, a, b, rfl, da, db, ⟨h1, h2, h3, h4⟩, q⟩ := h
  obtain ⟨a1, a2, a3, a4⟩ := dOk_f da
  obtain ⟨b1, b2, b3, b4⟩ := dOk_f db
  unfold r_lasts
  refine seq_step fun S hS => ?_
  simp [startD, colD, MD.prD]
  unfold lastsB at q
  by_cases h0 : a.dur.1 = 0
  · rw [if_pos h0] at q ⊢
    rw [popM_same (Nat.le_refl _)]
    exact q
  rw [if_neg h0] at q ⊢
  have hp : 0 < b.dur.2 * a.dur.1 := Int.mul_pos b2 (by omega)
  have hbg := fr_bg ((b3.mul a4).mono (by decide : 64 + 64 ≤ 128)) ((b4.mul a3).mono (by decide : 64 + 64 ≤ 128))
  rw [le_fr hp, fr_le2 hp] at q
  subst hS
  refine seq_step fun S hS => ?_
  simp
  refine ⟨b.dur, a.dur, rfl, by omega, b3, b4, a3, a4, ?_⟩
  generalize fr (b.dur.1 * a.dur.2) (b.dur.2 * a.dur.1) = r at q hbg ⊢
  have r1 : Bg 200 r.1 := hbg.1.mono (by decide)
  have r2 : Bg 200 r.2 := hbg.2.mono (by decide)
  have l1 : Bg 200 l.1 := h1.mono (by decide)
  have l2 : Bg 200 l.2 := h2.mono (by decide)
  have m1 : Bg 200 h.1 := h3.mono (by decide)
  have m2 : Bg 200 h.2 := h4.mono (by decide)
  subst hS
  simp
  refine ⟨r, l, rfl, ⟨r1, r2, l1, l2⟩, ?_⟩
  simp
  have pm : ∀ r, popM M.length (.bl r) M = M := fun r => popM_same (Nat.le_refl _)
  simp only [pm]
  by_cases A : r.1 * l.2 < l.1 * r.2
  · rw [if_pos A]
    rw [show decide (l.1 * r.2 ≤ r.1 * l.2) = false from decide_eq_false (by omega)] at q
    exact q
  · rw [if_neg A]
    rw [show decide (l.1 * r.2 ≤ r.1 * l.2) = true from decide_eq_true (by omega)] at q
    refine ⟨h, r, rfl, ⟨m1, m2, r1, r2⟩, ?_⟩
    simp
    simp only [pm]
    rw [← decide_not]
    rw [show decide (¬ h.1 * r.2 < r.1 * h.2) = decide (r.1 * h.2 ≤ h.1 * r.2) from decide_eq_decide.mpr (by omega)]
    exact q
end K25
namespace K25
open MD L2 PySem Kit
@[simp] theorem ne_accent_lasts : (("accent" : Str) = "lasts") = False := eq_false (by decide)
@[simp] theorem ne_accent_begins : (("accent" : Str) = "begins") = False := eq_false (by decide)
@[simp] theorem ne_accent_silent : (("accent" : Str) = "silent") = False := eq_false (by decide)
@[simp] theorem ne_accent_loose : (("accent" : Str) = "loose") = False := eq_false (by decide)
@[simp] theorem ne_accent_leap : (("accent" : Str) = "leap") = False := eq_false (by decide)
@[simp] theorem ne_accent_by : (("accent" : Str) = "by") = False := eq_false (by decide)
@[simp] theorem ne_accent_apart : (("accent" : Str) = "apart") = False := eq_false (by decide)
@[simp] theorem ne_accent_class : (("accent" : Str) = "class") = False := eq_false (by decide)
@[simp] theorem ne_accent_along : (("accent" : Str) = "along") = False := eq_false (by decide)
@[simp] theorem ne_lasts_accent : (("lasts" : Str) = "accent") = False := eq_false (by decide)
@[simp] theorem ne_lasts_begins : (("lasts" : Str) = "begins") = False := eq_false (by decide)
@[simp] theorem ne_lasts_silent : (("lasts" : Str) = "silent") = False := eq_false (by decide)
@[simp] theorem ne_lasts_loose : (("lasts" : Str) = "loose") = False := eq_false (by decide)
@[simp] theorem ne_lasts_leap : (("lasts" : Str) = "leap") = False := eq_false (by decide)
@[simp] theorem ne_lasts_by : (("lasts" : Str) = "by") = False := eq_false (by decide)
@[simp] theorem ne_lasts_apart : (("lasts" : Str) = "apart") = False := eq_false (by decide)
@[simp] theorem ne_lasts_class : (("lasts" : Str) = "class") = False := eq_false (by decide)
@[simp] theorem ne_lasts_along : (("lasts" : Str) = "along") = False := eq_false (by decide)
@[simp] theorem ne_begins_accent : (("begins" : Str) = "accent") = False := eq_false (by decide)
@[simp] theorem ne_begins_lasts : (("begins" : Str) = "lasts") = False := eq_false (by decide)
@[simp] theorem ne_begins_silent : (("begins" : Str) = "silent") = False := eq_false (by decide)
@[simp] theorem ne_begins_loose : (("begins" : Str) = "loose") = False := eq_false (by decide)
@[simp] theorem ne_begins_leap : (("begins" : Str) = "leap") = False := eq_false (by decide)
@[simp] theorem ne_begins_by : (("begins" : Str) = "by") = False := eq_false (by decide)
@[simp] theorem ne_begins_apart : (("begins" : Str) = "apart") = False := eq_false (by decide)
@[simp] theorem ne_begins_class : (("begins" : Str) = "class") = False := eq_false (by decide)
@[simp] theorem ne_begins_along : (("begins" : Str) = "along") = False := eq_false (by decide)
@[simp] theorem ne_silent_accent : (("silent" : Str) = "accent") = False := eq_false (by decide)
@[simp] theorem ne_silent_lasts : (("silent" : Str) = "lasts") = False := eq_false (by decide)
@[simp] theorem ne_silent_begins : (("silent" : Str) = "begins") = False := eq_false (by decide)
@[simp] theorem ne_silent_loose : (("silent" : Str) = "loose") = False := eq_false (by decide)
@[simp] theorem ne_silent_leap : (("silent" : Str) = "leap") = False := eq_false (by decide)
@[simp] theorem ne_silent_by : (("silent" : Str) = "by") = False := eq_false (by decide)
@[simp] theorem ne_silent_apart : (("silent" : Str) = "apart") = False := eq_false (by decide)
@[simp] theorem ne_silent_class : (("silent" : Str) = "class") = False := eq_false (by decide)
@[simp] theorem ne_silent_along : (("silent" : Str) = "along") = False := eq_false (by decide)
@[simp] theorem ne_loose_accent : (("loose" : Str) = "accent") = False := eq_false (by decide)
@[simp] theorem ne_loose_lasts : (("loose" : Str) = "lasts") = False := eq_false (by decide)
@[simp] theorem ne_loose_begins : (("loose" : Str) = "begins") = False := eq_false (by decide)
@[simp] theorem ne_loose_silent : (("loose" : Str) = "silent") = False := eq_false (by decide)
@[simp] theorem ne_loose_leap : (("loose" : Str) = "leap") = False := eq_false (by decide)
@[simp] theorem ne_loose_by : (("loose" : Str) = "by") = False := eq_false (by decide)
@[simp] theorem ne_loose_apart : (("loose" : Str) = "apart") = False := eq_false (by decide)
@[simp] theorem ne_loose_class : (("loose" : Str) = "class") = False := eq_false (by decide)
@[simp] theorem ne_loose_along : (("loose" : Str) = "along") = False := eq_false (by decide)
@[simp] theorem ne_leap_accent : (("leap" : Str) = "accent") = False := eq_false (by decide)
@[simp] theorem ne_leap_lasts : (("leap" : Str) = "lasts") = False := eq_false (by decide)
@[simp] theorem ne_leap_begins : (("leap" : Str) = "begins") = False := eq_false (by decide)
@[simp] theorem ne_leap_silent : (("leap" : Str) = "silent") = False := eq_false (by decide)
@[simp] theorem ne_leap_loose : (("leap" : Str) = "loose") = False := eq_false (by decide)
@[simp] theorem ne_leap_by : (("leap" : Str) = "by") = False := eq_false (by decide)
@[simp] theorem ne_leap_apart : (("leap" : Str) = "apart") = False := eq_false (by decide)
@[simp] theorem ne_leap_class : (("leap" : Str) = "class") = False := eq_false (by decide)
@[simp] theorem ne_leap_along : (("leap" : Str) = "along") = False := eq_false (by decide)
@[simp] theorem ne_by_accent : (("by" : Str) = "accent") = False := eq_false (by decide)
@[simp] theorem ne_by_lasts : (("by" : Str) = "lasts") = False := eq_false (by decide)
@[simp] theorem ne_by_begins : (("by" : Str) = "begins") = False := eq_false (by decide)
@[simp] theorem ne_by_silent : (("by" : Str) = "silent") = False := eq_false (by decide)
@[simp] theorem ne_by_loose : (("by" : Str) = "loose") = False := eq_false (by decide)
@[simp] theorem ne_by_leap : (("by" : Str) = "leap") = False := eq_false (by decide)
@[simp] theorem ne_by_apart : (("by" : Str) = "apart") = False := eq_false (by decide)
@[simp] theorem ne_by_class : (("by" : Str) = "class") = False := eq_false (by decide)
@[simp] theorem ne_by_along : (("by" : Str) = "along") = False := eq_false (by decide)
@[simp] theorem ne_apart_accent : (("apart" : Str) = "accent") = False := eq_false (by decide)
@[simp] theorem ne_apart_lasts : (("apart" : Str) = "lasts") = False := eq_false (by decide)
@[simp] theorem ne_apart_begins : (("apart" : Str) = "begins") = False := eq_false (by decide)
@[simp] theorem ne_apart_silent : (("apart" : Str) = "silent") = False := eq_false (by decide)
@[simp] theorem ne_apart_loose : (("apart" : Str) = "loose") = False := eq_false (by decide)
@[simp] theorem ne_apart_leap : (("apart" : Str) = "leap") = False := eq_false (by decide)
@[simp] theorem ne_apart_by : (("apart" : Str) = "by") = False := eq_false (by decide)
@[simp] theorem ne_apart_class : (("apart" : Str) = "class") = False := eq_false (by decide)
@[simp] theorem ne_apart_along : (("apart" : Str) = "along") = False := eq_false (by decide)
@[simp] theorem ne_class_accent : (("class" : Str) = "accent") = False := eq_false (by decide)
@[simp] theorem ne_class_lasts : (("class" : Str) = "lasts") = False := eq_false (by decide)
@[simp] theorem ne_class_begins : (("class" : Str) = "begins") = False := eq_false (by decide)
@[simp] theorem ne_class_silent : (("class" : Str) = "silent") = False := eq_false (by decide)
@[simp] theorem ne_class_loose : (("class" : Str) = "loose") = False := eq_false (by decide)
@[simp] theorem ne_class_leap : (("class" : Str) = "leap") = False := eq_false (by decide)
@[simp] theorem ne_class_by : (("class" : Str) = "by") = False := eq_false (by decide)
@[simp] theorem ne_class_apart : (("class" : Str) = "apart") = False := eq_false (by decide)
@[simp] theorem ne_class_along : (("class" : Str) = "along") = False := eq_false (by decide)
@[simp] theorem ne_along_accent : (("along" : Str) = "accent") = False := eq_false (by decide)
@[simp] theorem ne_along_lasts : (("along" : Str) = "lasts") = False := eq_false (by decide)
@[simp] theorem ne_along_begins : (("along" : Str) = "begins") = False := eq_false (by decide)
@[simp] theorem ne_along_silent : (("along" : Str) = "silent") = False := eq_false (by decide)
@[simp] theorem ne_along_loose : (("along" : Str) = "loose") = False := eq_false (by decide)
@[simp] theorem ne_along_leap : (("along" : Str) = "leap") = False := eq_false (by decide)
@[simp] theorem ne_along_by : (("along" : Str) = "by") = False := eq_false (by decide)
@[simp] theorem ne_along_apart : (("along" : Str) = "apart") = False := eq_false (by decide)
@[simp] theorem ne_along_class : (("along" : Str) = "class") = False := eq_false (by decide)
theorem if_gen {c : TT'} {B N : TS'} {D : Ends'} {δ : EnvD} {M : MH} (h : ∀ B', B' = B → tIfS' c B' N D δ M) : tIfS' c B N D δ M := h B rfl
theorem same_pop {M : MH} {Q : QE} {r : D} (q : Q r M) : Q r (popM M.length r M) := by rw [popM_same (Nat.le_refl _)]; exact q
theorem st_accent (a : Int) (d M Q E) (hd : TestL d (.accent a)) (hk : okT (.accent a)) (q : Q (testD (.accent a)) M) : r_settled_test (retE M.length Q E) (startD N_settled_test [d]) M := by
  unfold r_settled_test
  refine seq_step fun S hS => ?_
  refine if_gen fun B hB => ?_
  rcases hd with rfl | rfl
  · simp [startD, testD]
    subst hS
    simp
    exact same_pop q
  · simp [startD, testD, lis, lisL]
    subst hS
    simp
    exact same_pop q
theorem st_lasts (l h : Int × Int) (d M Q E) (hd : TestL d (.lasts l h)) (hk : okT (.lasts l h)) (q : Q (testD (.lasts l h)) M) : r_settled_test (retE M.length Q E) (startD N_settled_test [d]) M := by
  unfold r_settled_test
  refine seq_step fun S hS => ?_
  refine if_gen fun B hB => ?_
  rcases hd with rfl | rfl
  · simp [startD, testD, MD.prD]
    subst hS
    simp [hz]
    exact same_pop q
  · simp [startD, testD, lis, lisL, MD.prD]
    subst hS
    simp [hz]
    exact same_pop q
theorem st_one (w : Str) (v : Nat) (d M Q E) (hd : TestL d (.one w v)) (hk : okT (.one w v)) (q : Q (testD (.one w v)) M) : r_settled_test (retE M.length Q E) (startD N_settled_test [d]) M := by
  unfold r_settled_test
  refine seq_step fun S hS => ?_
  refine if_gen fun B hB => ?_
  have hw : w ≠ "by" ∧ w ≠ "class" ∧ w ≠ "lasts" := by rcases hk with rfl | rfl | rfl <;> decide
  rcases hd with rfl | rfl
  · simp [startD, testD, hw.1]
    subst hS
    simp [hw.2.1, hw.2.2]
    exact same_pop q
  · simp [startD, testD, lis, lisL, hw.1]
    subst hS
    simp [hw.2.1, hw.2.2]
    exact same_pop q
theorem st_leap (v : Nat) (l h : Int) (d M Q E) (hd : TestL d (.leap v l h)) (hk : okT (.leap v l h)) (q : Q (testD (.leap v l h)) M) : r_settled_test (retE M.length Q E) (startD N_settled_test [d]) M := by
  unfold r_settled_test
  refine seq_step fun S hS => ?_
  refine if_gen fun B hB => ?_
  rcases hd with rfl | rfl
  · simp [startD, testD]
    subst hS
    simp
    exact same_pop q
  · simp [startD, testD, lis, lisL]
    subst hS
    simp
    exact same_pop q
theorem st_by (v : Nat) (ms : List (Int × Int)) (d M Q E) (hd : TestL d (.by' v ms)) (hk : okT (.by' v ms)) (q : Q (testD (.by' v ms)) M) : r_settled_test (retE M.length Q E) (startD N_settled_test [d]) M := by
  unfold r_settled_test
  refine seq_step fun S hS => ?_
  rcases hd with rfl | rfl
  · simp [startD, testD]
    refine lcL_map id (by exact trivial) _ [] (fun d hd Q' q' => ?_) (by have : ms.length ≤ 20 := hk; simp [hz]; omega) ?_
    · obtain ⟨m, _, rfl⟩ := List.mem_map.mp hd
      simp [wipeD, MD.prD]
      exact q'
    · rw [List.nil_append, List.map_id]
      exact ⟨by rw [hz]; decide, same_pop q⟩
  · simp [startD, testD, lis, lisL]
    rw [lisL_map, List.map_map]
    refine lcL_map (fun d => match d with | .lst es => .tup es | d => d) (by exact trivial) _ [] (fun d hd Q' q' => ?_) (by have : ms.length ≤ 20 := hk; simp [hz]; omega) ?_
    · obtain ⟨m, _, rfl⟩ := List.mem_map.mp hd
      simp [wipeD, MD.prD, lis, lisL]
      exact q'
    · rw [List.nil_append, List.map_map]
      refine ⟨by rw [hz]; decide, ?_⟩
      rw [show List.map ((fun d => match d with | .lst es => .tup es | d => d) ∘ (lis ∘ MD.prD)) ms = ms.map MD.prD from List.map_congr_left fun m _ => rfl]
      exact same_pop q
theorem st_apart (v s : Nat) (l h : Int) (d M Q E) (hd : TestL d (.apart v s l h)) (hk : okT (.apart v s l h)) (q : Q (testD (.apart v s l h)) M) : r_settled_test (retE M.length Q E) (startD N_settled_test [d]) M := by
  unfold r_settled_test
  refine seq_step fun S hS => ?_
  refine if_gen fun B hB => ?_
  rcases hd with rfl | rfl
  · simp [startD, testD]
    subst hS
    simp
    exact same_pop q
  · simp [startD, testD, lis, lisL]
    subst hS
    simp
    exact same_pop q
theorem st_cls (v s : Nat) (rs : List Int) (d M Q E) (hd : TestL d (.cls v s rs)) (hk : okT (.cls v s rs)) (q : Q (testD (.cls v s rs)) M) : r_settled_test (retE M.length Q E) (startD N_settled_test [d]) M := by
  unfold r_settled_test
  refine seq_step fun S hS => ?_
  refine if_gen fun B hB => ?_
  rcases hd with rfl | rfl
  · simp [startD, testD]
    subst hS
    simp [hz]
    exact same_pop q
  · simp [startD, testD, lis, lisL]
    subst hS
    simp [hz]
    rw [show lisL (rs.map D.int) = rs.map D.int by rw [lisL_map, List.map_map]; exact List.map_congr_left fun m _ => rfl]
    exact same_pop q
theorem st_along (v s : Nat) (d M Q E) (hd : TestL d (.along v s)) (hk : okT (.along v s)) (q : Q (testD (.along v s)) M) : r_settled_test (retE M.length Q E) (startD N_settled_test [d]) M := by
  unfold r_settled_test
  refine seq_step fun S hS => ?_
  refine if_gen fun B hB => ?_
  rcases hd with rfl | rfl
  · simp [startD, testD]
    subst hS
    simp
    exact same_pop q
  · simp [startD, testD, lis, lisL]
    subst hS
    simp
    exact same_pop q
theorem math_settled_test (ds M Q E) (hM : WFM M) (hb : D.belL M.length ds = true) (h : sp_settled_test ds M Q E) : r_settled_test (retE M.length Q E) (startD N_settled_test ds) M := by
  obtain ⟨d, t, rfl, hd, hk, q⟩ := h
  cases t with
  | accent a => exact st_accent a d M Q E hd hk q
  | lasts l h => exact st_lasts l h d M Q E hd hk q
  | one w v => exact st_one w v d M Q E hd hk q
  | leap v l h => exact st_leap v l h d M Q E hd hk q
  | by' v ms => exact st_by v ms d M Q E hd hk q
  | apart v s l h => exact st_apart v s l h d M Q E hd hk q
  | cls v s rs => exact st_cls v s rs d M Q E hd hk q
  | along v s => exact st_along v s d M Q E hd hk q
theorem math_holds (ds M Q E) (hM : WFM M) (hb : D.belL M.length ds = true) (h : sp_holds ds M Q E) : r_holds (retE M.length Q E) (startD N_holds ds) M := by
  obtain ⟨dt, da, db, t, v, a, b, rfl, ht, ha, hb2, hk, hp, q⟩ := h
  unfold r_holds
  simp [startD]
  refine ⟨dt, t, rfl, ht, hk, ?_⟩
  refine ⟨da, a, rfl, ha, by rw [hp.2.1, hz]; have := hp.1; omega, ?_⟩
  refine ⟨db, b, rfl, hb2, by rw [hp.2.2.1, hz]; have := hp.1; omega, ?_⟩
  refine ⟨t, v, a, b, rfl, hk, hp, ?_⟩
  exact same_pop q
def testNon (v : Nat) : List D := (List.replicate v (none : Ent)).map entD
theorem testNon_eq (v : Nat) : testNon v = List.replicate v D.non := by unfold testNon; rw [List.map_replicate]; rfl
theorem math__law_silence (ds M Q E) (hM : WFM M) (hb : D.belL M.length ds = true) (h : sp__law_silence ds M Q E) : r__law_silence (retE M.length Q E) (startD N__law_silence ds) M := by
  obtain ⟨v, rfl, h1, h2, q⟩ := h
  unfold r__law_silence
  simp [startD, hz]
  refine ⟨by omega, by omega, ?_⟩
  have e : testNon v = List.replicate v D.non := testNon_eq v
  rw [← e]
  exact same_pop q
theorem math__law_so (ds M Q E) (hM : WFM M) (hb : D.belL M.length ds = true) (h : sp__law_so ds M Q E) : r__law_so (retE M.length Q E) (startD N__law_so ds) M := by
  obtain ⟨p, d, rfl, hp, hd, q⟩ := h
  unfold r__law_so
  simp [startD]
  refine ⟨p, 3, rfl, by decide, by decide, hp, fun r M1 r0 r3 k1 => ?_⟩
  simp
  split
  · refine ⟨d, rfl, hd, ?_⟩
    show Q _ (popM _ _ _)
    rw [popM_same (by rw [k1.length]; exact Nat.le_refl _)]
    exact q _ _ (.inr rfl) k1
  · rw [popM_same (by rw [k1.length]; exact Nat.le_refl _)]
    exact q _ _ (.inl rfl) k1
end K25
namespace K25
open MD L2 PySem Kit
theorem lcB {te : TE'} {i : Nat} {vs : List Nat} {δ : EnvD} {M : MH} {G : List Bool → MH → Prop} (p : D → Bool) (ds : List D) (hl : ds.length ≤ sizeLine)
    (h : ∀ d ∈ ds, ∀ Q' : QE, Q' (.bl (p d)) M → te ((wipeD δ vs).set i (some d)) M Q' (fun _ _ => False)) (q : G (ds.map p) M) :
    lcL ⟨ds, none⟩ (gName' i) tYes' te vs δ (fun acc M2 => ∃ x, blsD acc = some x ∧ G x M2) ds [] M := by
  refine lcL_map (fun d => .bl (p d)) (by exact trivial) ds [] h (by simpa using hl) ?_
  rw [List.nil_append]
  refine ⟨ds.map p, ?_, q⟩
  rw [show ds.map (fun d => D.bl (p d)) = (ds.map p).map D.bl from by rw [List.map_map]; rfl]
  exact blsD_bl _
def tooB (v : Nat) (d : D) : Bool := match d with
  | .int y => decide ((v : Int) ≤ y)
  | _ => false
theorem prs_py (ms : List (Int × Int)) : PyData.canLayAll0 (D.pyL (ms.map MD.prD)) = true ∧ PyData.depthAll (D.pyL (ms.map MD.prD)) ≤ 1 ∧ D.flatL (ms.map MD.prD) = true := by
  induction ms with
  | nil => exact ⟨rfl, by decide, rfl⟩
  | cons m r ih =>
    obtain ⟨h1, h2, h3⟩ := ih
    refine ⟨?_, ?_, ?_⟩
    · show (true && PyData.canLayAll0 (D.pyL (r.map MD.prD))) = true
      rw [h1]; rfl
    · show max 1 (PyData.depthAll (D.pyL (r.map MD.prD))) ≤ 1
      omega
    · show (true && D.flatL (r.map MD.prD)) = true
      rw [h3]; rfl
theorem prs_eqOk (ms : List (Int × Int)) : eqOk (.tup (ms.map MD.prD)) := by
  obtain ⟨h1, h2, h3⟩ := prs_py ms
  refine ⟨h3, ?_⟩
  show (PyData.canLayAll0 (D.pyL (ms.map MD.prD)) && decide (PyData.depthAll (D.pyL (ms.map MD.prD)) + 1 ≤ 64)) = true
  rw [h1, decide_eq_true (by omega)]; rfl
theorem in_prs (m : Int × Int) (ms : List (Int × Int)) : inDD (MD.prD m) (ms.map MD.prD) = decide (m ∈ ms) := by
  induction ms with
  | nil => rfl
  | cons k r ih =>
    show (deq (MD.prD k) (MD.prD m) || inDD (MD.prD m) (r.map MD.prD)) = _
    rw [ih, deq_pr, Bool.eq_iff_iff]
    simp only [Bool.or_eq_true, decide_eq_true_eq, List.mem_cons]
    exact or_congr eq_comm Iff.rfl
theorem in_ints (i : Int) : ∀ l : List Int, inD (.int i) (l.map D.int) = decide (i ∈ l)
  | [] => rfl
  | x :: l => by
    rw [List.map_cons, inD_ints, in_ints i l, Bool.eq_iff_iff]
    simp only [Bool.or_eq_true, decide_eq_true_eq, List.mem_cons, beq_iff_eq]
    exact or_congr eq_comm Iff.rfl
theorem fl_intL (l : List Int) : ∀ d ∈ l.map D.int, d.fl = true := fun d hd => by
  obtain ⟨x, _, rfl⟩ := List.mem_map.mp hd
  rfl
theorem emod_in {w : Int} {rs : List Int} : (w % 12 ∈ rs) ↔ (w % 12 ∈ rs) := Iff.rfl
theorem it_accent (x : Int) (v : Nat) (a b : Col) (M Q E) (hk : okT (.accent x)) (hp : okP v a b) (q : Q (.bl (holdsB (.accent x) a b)) M) : r_is_true (retE M.length Q E) (startD N_is_true [testD (.accent x), colD a, colD b]) M := by
  unfold r_is_true
  refine seq_step fun S hS => ?_
  simp [startD, testD]
  subst hS
  refine seq_step fun S hS => ?_
  simp [colD]
  exact same_pop q
theorem it_lasts (l h : Int × Int) (v : Nat) (a b : Col) (M Q E) (hk : okT (.lasts l h)) (hp : okP v a b) (q : Q (.bl (holdsB (.lasts l h) a b)) M) : r_is_true (retE M.length Q E) (startD N_is_true [testD (.lasts l h), colD a, colD b]) M := by
  unfold r_is_true
  refine seq_step fun S hS => ?_
  simp [startD, testD]
  subst hS
  refine seq_step fun S hS => ?_
  simp
  subst hS
  refine seq_step fun S hS => ?_
  simp
  refine ⟨l, h, a, b, rfl, hp.2.2.2.1.1, hp.2.2.2.1.2, hk, ?_⟩
  exact same_pop q
theorem it_one (w : Str) (x : Nat) (v : Nat) (a b : Col) (M Q E) (hk : okT (.one w x)) (hp : okP v a b) (q : Q (.bl (holdsB (.one w x) a b)) M) : r_is_true (retE M.length Q E) (startD N_is_true [testD (.one w x), colD a, colD b]) M := by
  obtain ⟨hv, ha, hb, hd, hea, heb⟩ := hp
  have hw : w ≠ "accent" ∧ w ≠ "lasts" ∧ w ≠ "along" := by rcases hk with rfl | rfl | rfl <;> decide
  unfold r_is_true
  refine seq_step fun S hS => ?_
  simp [startD, testD]
  subst hS
  refine seq_step fun S hS => ?_
  simp [hw.1]
  subst hS
  refine seq_step fun S hS => ?_
  simp [hw.2.1]
  subst hS
  refine seq_step fun S hS => ?_
  simp [colD]
  rw [hb]
  subst hS
  refine seq_step fun S hS => ?_
  simp
  refine ⟨1, by rcases hk with rfl | rfl | rfl <;> simp, ?_⟩
  change lcL ⟨[D.int x], none⟩ _ _ _ _ _ _ [D.int x] [] M
  refine lcB (tooB v) _ (by rw [hz]; simp) (fun d hd Q' q' => ?_) ?_
  · simp at hd
    subst hd
    simp [wipeD]
    simpa [tooB] using q'
  · by_cases hx : (v : Int) ≤ x
    · rw [if_pos (by simp [tooB]; omega)]
      have : holdsB (.one w x) a b = false := by
        show (decide (x < b.es.length) && _) = false
        rw [decide_eq_false (by omega)]; rfl
      rw [this] at q
      exact same_pop q
    rw [if_neg (by simp [tooB]; omega)]
    have hxa : x < a.es.length := by omega
    have hxb : x < b.es.length := by omega
    subst hS
    refine seq_step fun S hS => ?_
    simp [ent_at hxb]
    have q2 : Q (.bl (if w = "begins" then (match entAt b x with | some (_, y) => y | none => false) else if w = "silent" then (entAt b x).isNone else looseB (entAt b x) (entAt a x))) M := by
      have : holdsB (.one w x) a b = (decide (x < b.es.length) && (if w = "begins" then (match entAt b x with | some (_, y) => y | none => false) else if w = "silent" then (entAt b x).isNone else looseB (entAt b x) (entAt a x))) := rfl
      rw [this, decide_eq_true hxb, Bool.true_and] at q
      exact q
    clear q
    subst hS
    refine seq_step fun S hS => ?_
    rcases hk with rfl | rfl | rfl
    · rw [if_pos rfl] at q2
      simp
      generalize entAt b x = e at q2 ⊢
      cases e with
      | none =>
        simp [entD]
        exact same_pop q2
      | some p =>
        obtain ⟨t, y⟩ := p
        simp [entD]
        exact same_pop q2
    · rw [if_neg (by decide), if_pos rfl] at q2
      simp
      subst hS
      refine seq_step fun S hS => ?_
      simp
      generalize entAt b x = e at q2 ⊢
      cases e with
      | none => exact ⟨nofun, same_pop q2⟩
      | some p => exact ⟨nofun, same_pop q2⟩
    · rw [if_neg (by decide), if_neg (by decide)] at q2
      simp
      subst hS
      refine seq_step fun S hS => ?_
      simp
      subst hS
      refine seq_step fun S hS => ?_
      simp [ent_at hxa]
      refine ⟨_, _, rfl, ?_⟩
      exact same_pop q2
theorem it_leap (x : Nat) (l h : Int) (v : Nat) (a b : Col) (M Q E) (hk : okT (.leap x l h)) (hp : okP v a b) (q : Q (.bl (holdsB (.leap x l h) a b)) M) : r_is_true (retE M.length Q E) (startD N_is_true [testD (.leap x l h), colD a, colD b]) M := by
  obtain ⟨hv, ha, hb, hd, hea, heb⟩ := hp
  unfold r_is_true
  refine seq_step fun S hS => ?_
  simp [startD, testD]
  subst hS
  refine seq_step fun S hS => ?_
  simp
  subst hS
  refine seq_step fun S hS => ?_
  simp
  subst hS
  refine seq_step fun S hS => ?_
  simp [colD]
  rw [hb]
  subst hS
  refine seq_step fun S hS => ?_
  simp
  change lcL ⟨[D.int x], none⟩ _ _ _ _ _ _ [D.int x] [] M
  refine lcB (tooB v) _ (by rw [hz]; simp) (fun d hd Q' q' => ?_) ?_
  · simp at hd
    subst hd
    simp [wipeD]
    simpa [tooB] using q'
  · by_cases hx : (v : Int) ≤ x
    · rw [if_pos (by simp [tooB]; omega)]
      have : holdsB (.leap x l h) a b = false := by
        show (decide (x < b.es.length) && _) = false
        rw [decide_eq_false (by omega)]; rfl
      rw [this] at q
      exact same_pop q
    rw [if_neg (by simp [tooB]; omega)]
    have hxa : x < a.es.length := by omega
    have hxb : x < b.es.length := by omega
    subst hS
    refine seq_step fun S hS => ?_
    simp [ent_at hxb]
    subst hS
    refine seq_step fun S hS => ?_
    simp
    subst hS
    refine seq_step fun S hS => ?_
    simp
    subst hS
    refine seq_step fun S hS => ?_
    simp
    subst hS
    refine seq_step fun S hS => ?_
    simp
    subst hS
    refine seq_step fun S hS => ?_
    simp
    refine ⟨by rw [hz]; decide, rfl, _, .inl rfl, rfl, ?_⟩
    rw [show (if false = true then !inD (.str "leap") [.str "leap", .str "by"] else inD (.str "leap") [.str "leap", .str "by"]) = true from by decide]
    simp
    refine ⟨x, a, b, rfl, hxa, hxb, ?_⟩
    have e : holdsB (.leap x l h) a b = (decide (x < b.es.length) && (match mel x a b with | some m => decide (l ≤ hgt m) && decide (hgt m ≤ h) | none => false)) := rfl
    rw [e, decide_eq_true hxb, Bool.true_and] at q
    have hmb : ∀ m, mel x a b = some m → Bg 66 m.1 ∧ Bg 66 m.2 := fun m e => mel_bg hea heb e
    generalize mel x a b = mm at q hmb ⊢
    cases mm with
    | none =>
      refine ⟨nofun, ?_⟩
      rw [if_pos (show nonD (optP none) = true from rfl)]
      exact same_pop q
    | some m =>
      refine ⟨nofun, ?_⟩
      rw [if_neg (show ¬ nonD (optP (some m)) = true from fun z => by cases z)]
      refine ⟨m, rfl, ⟨bg66 (hmb m rfl).1, bg66 (hmb m rfl).2⟩, ?_⟩
      simp
      simp only [popM_same (Nat.le_refl M.length)]
      have q : Q (.bl (decide (l ≤ hgt m) && decide (hgt m ≤ h))) M := q
      by_cases A : l ≤ hgt m
      · rw [if_pos A]
        rw [decide_eq_true A, Bool.true_and] at q
        exact q
      · rw [if_neg A]
        rw [decide_eq_false A, Bool.false_and] at q
        exact q
theorem it_by (x : Nat) (ms : List (Int × Int)) (v : Nat) (a b : Col) (M Q E) (hk : okT (.by' x ms)) (hp : okP v a b) (q : Q (.bl (holdsB (.by' x ms) a b)) M) : r_is_true (retE M.length Q E) (startD N_is_true [testD (.by' x ms), colD a, colD b]) M := by
  obtain ⟨hv, ha, hb, hd, hea, heb⟩ := hp
  unfold r_is_true
  refine seq_step fun S hS => ?_
  simp [startD, testD]
  subst hS
  refine seq_step fun S hS => ?_
  simp
  subst hS
  refine seq_step fun S hS => ?_
  simp
  subst hS
  refine seq_step fun S hS => ?_
  simp [colD]
  rw [hb]
  subst hS
  refine seq_step fun S hS => ?_
  simp
  change lcL ⟨[D.int x], none⟩ _ _ _ _ _ _ [D.int x] [] M
  refine lcB (tooB v) _ (by rw [hz]; simp) (fun d hd Q' q' => ?_) ?_
  · simp at hd
    subst hd
    simp [wipeD]
    simpa [tooB] using q'
  · by_cases hx : (v : Int) ≤ x
    · rw [if_pos (by simp [tooB]; omega)]
      have : holdsB (.by' x ms) a b = false := by
        show (decide (x < b.es.length) && _) = false
        rw [decide_eq_false (by omega)]; rfl
      rw [this] at q
      exact same_pop q
    rw [if_neg (by simp [tooB]; omega)]
    have hxa : x < a.es.length := by omega
    have hxb : x < b.es.length := by omega
    subst hS
    refine seq_step fun S hS => ?_
    simp [ent_at hxb]
    subst hS
    refine seq_step fun S hS => ?_
    simp
    subst hS
    refine seq_step fun S hS => ?_
    simp
    subst hS
    refine seq_step fun S hS => ?_
    simp
    subst hS
    refine seq_step fun S hS => ?_
    simp
    subst hS
    refine seq_step fun S hS => ?_
    simp
    refine ⟨by rw [hz]; decide, rfl, _, .inl rfl, rfl, ?_⟩
    rw [show (if false = true then !inD (.str "by") [.str "leap", .str "by"] else inD (.str "by") [.str "leap", .str "by"]) = true from by decide]
    simp
    refine ⟨x, a, b, rfl, hxa, hxb, ?_⟩
    have e : holdsB (.by' x ms) a b = (decide (x < b.es.length) && (match mel x a b with | some m => decide (m ∈ ms) | none => false)) := rfl
    rw [e, decide_eq_true hxb, Bool.true_and] at q
    generalize mel x a b = mm at q ⊢
    cases mm with
    | none =>
      refine ⟨nofun, ?_⟩
      rw [if_pos (show nonD (optP none) = true from rfl)]
      exact same_pop q
    | some m =>
      refine ⟨nofun, ?_⟩
      rw [if_neg (show ¬ nonD (optP (some m)) = true from fun z => by cases z)]
      refine ⟨pr_eqOk m, prs_eqOk ms, ?_⟩
      rw [show optP (some m) = MD.prD m from rfl, in_prs]
      exact same_pop q
theorem it_apart (x y : Nat) (l h : Int) (v : Nat) (a b : Col) (M Q E) (hk : okT (.apart x y l h)) (hp : okP v a b) (q : Q (.bl (holdsB (.apart x y l h) a b)) M) : r_is_true (retE M.length Q E) (startD N_is_true [testD (.apart x y l h), colD a, colD b]) M := by
  obtain ⟨hv, ha, hb, hd, hea, heb⟩ := hp
  unfold r_is_true
  refine seq_step fun S hS => ?_
  simp [startD, testD]
  subst hS
  refine seq_step fun S hS => ?_
  simp
  subst hS
  refine seq_step fun S hS => ?_
  simp
  subst hS
  refine seq_step fun S hS => ?_
  simp [colD]
  rw [hb]
  subst hS
  refine seq_step fun S hS => ?_
  simp
  change lcL ⟨[D.int x, D.int y], none⟩ _ _ _ _ _ _ [D.int x, D.int y] [] M
  refine lcB (tooB v) _ (by rw [hz]; simp) (fun d hd Q' q' => ?_) ?_
  · simp at hd
    rcases hd with rfl | rfl <;> (simp [wipeD]; simpa [tooB] using q')
  · by_cases hx : (v : Int) ≤ x ∨ (v : Int) ≤ y
    · rw [if_pos (by simp [tooB]; omega)]
      have : holdsB (.apart x y l h) a b = false := by
        show (decide (x < b.es.length) && decide (y < b.es.length) && _) = false
        rcases (by omega : ¬ x < b.es.length ∨ ¬ y < b.es.length) with h | h
        · rw [decide_eq_false h]; rfl
        · rw [decide_eq_false h, Bool.and_false]; rfl
      rw [this] at q
      exact same_pop q
    rw [if_neg (by simp [tooB]; omega)]
    have hxa : x < a.es.length := by omega
    have hxb : x < b.es.length := by omega
    have hya : y < a.es.length := by omega
    have hyb : y < b.es.length := by omega
    subst hS
    refine seq_step fun S hS => ?_
    simp [ent_at hxb]
    subst hS
    refine seq_step fun S hS => ?_
    simp
    subst hS
    refine seq_step fun S hS => ?_
    simp
    subst hS
    refine seq_step fun S hS => ?_
    simp
    subst hS
    refine seq_step fun S hS => ?_
    simp
    subst hS
    refine seq_step fun S hS => ?_
    simp
    refine ⟨by rw [hz]; decide, rfl, _, .inl rfl, rfl, ?_⟩
    rw [show (if false = true then !inD (.str "apart") [.str "leap", .str "by"] else inD (.str "apart") [.str "leap", .str "by"]) = false from by decide]
    simp
    subst hS
    refine seq_step fun S hS => ?_
    simp
    refine ⟨x, y, b, rfl, hxb, hyb, heb, ?_⟩
    have e : holdsB (.apart x y l h) a b = (decide (x < b.es.length) && decide (y < b.es.length) && (match upr x y b with | some w => decide (l ≤ w) && decide (w ≤ h) | none => false)) := rfl
    rw [e, decide_eq_true hxb, decide_eq_true hyb, Bool.true_and, Bool.true_and] at q
    generalize upr x y b = mm at q ⊢
    subst hS
    refine seq_step fun S hS => ?_
    cases mm with
    | none =>
      simp [optZ]
      exact same_pop q
    | some w =>
      simp [optZ]
      subst hS
      simp
      simp only [popM_same (Nat.le_refl M.length)]
      have q : Q (.bl (decide (l ≤ w) && decide (w ≤ h))) M := q
      by_cases A : l ≤ w
      · rw [if_pos A]
        rw [decide_eq_true A, Bool.true_and] at q
        refine ⟨_, rfl, ?_⟩
        simp
        exact same_pop q
      · rw [if_neg A]
        rw [decide_eq_false A, Bool.false_and] at q
        exact q
theorem it_cls (x y : Nat) (rs : List Int) (v : Nat) (a b : Col) (M Q E) (hk : okT (.cls x y rs)) (hp : okP v a b) (q : Q (.bl (holdsB (.cls x y rs) a b)) M) : r_is_true (retE M.length Q E) (startD N_is_true [testD (.cls x y rs), colD a, colD b]) M := by
  obtain ⟨hv, ha, hb, hd, hea, heb⟩ := hp
  unfold r_is_true
  refine seq_step fun S hS => ?_
  simp [startD, testD]
  subst hS
  refine seq_step fun S hS => ?_
  simp
  subst hS
  refine seq_step fun S hS => ?_
  simp
  subst hS
  refine seq_step fun S hS => ?_
  simp [colD]
  rw [hb]
  subst hS
  refine seq_step fun S hS => ?_
  simp
  change lcL ⟨[D.int x, D.int y], none⟩ _ _ _ _ _ _ [D.int x, D.int y] [] M
  refine lcB (tooB v) _ (by rw [hz]; simp) (fun d hd Q' q' => ?_) ?_
  · simp at hd
    rcases hd with rfl | rfl <;> (simp [wipeD]; simpa [tooB] using q')
  · by_cases hx : (v : Int) ≤ x ∨ (v : Int) ≤ y
    · rw [if_pos (by simp [tooB]; omega)]
      have : holdsB (.cls x y rs) a b = false := by
        show (decide (x < b.es.length) && decide (y < b.es.length) && _) = false
        rcases (by omega : ¬ x < b.es.length ∨ ¬ y < b.es.length) with h | h
        · rw [decide_eq_false h]; rfl
        · rw [decide_eq_false h, Bool.and_false]; rfl
      rw [this] at q
      exact same_pop q
    rw [if_neg (by simp [tooB]; omega)]
    have hxa : x < a.es.length := by omega
    have hxb : x < b.es.length := by omega
    have hya : y < a.es.length := by omega
    have hyb : y < b.es.length := by omega
    subst hS
    refine seq_step fun S hS => ?_
    simp [ent_at hxb]
    subst hS
    refine seq_step fun S hS => ?_
    simp
    subst hS
    refine seq_step fun S hS => ?_
    simp
    subst hS
    refine seq_step fun S hS => ?_
    simp
    subst hS
    refine seq_step fun S hS => ?_
    simp
    subst hS
    refine seq_step fun S hS => ?_
    simp
    refine ⟨by rw [hz]; decide, rfl, _, .inl rfl, rfl, ?_⟩
    rw [show (if false = true then !inD (.str "class") [.str "leap", .str "by"] else inD (.str "class") [.str "leap", .str "by"]) = false from by decide]
    simp
    subst hS
    refine seq_step fun S hS => ?_
    simp
    refine ⟨x, y, b, rfl, hxb, hyb, heb, ?_⟩
    have e : holdsB (.cls x y rs) a b = (decide (x < b.es.length) && decide (y < b.es.length) && (match upr x y b with | some w => decide (w % 12 ∈ rs) | none => false)) := rfl
    rw [e, decide_eq_true hxb, decide_eq_true hyb, Bool.true_and, Bool.true_and] at q
    generalize upr x y b = mm at q ⊢
    subst hS
    refine seq_step fun S hS => ?_
    cases mm with
    | none =>
      simp [optZ]
      exact same_pop q
    | some w =>
      simp [optZ]
      subst hS
      simp
      refine ⟨fun _ _ => rfl, ?_⟩
      rw [Int.fmod_eq_emod_of_nonneg w (by decide : (0 : Int) ≤ 12), in_ints]
      exact same_pop q
theorem it_along (x y : Nat) (v : Nat) (a b : Col) (M Q E) (hk : okT (.along x y)) (hp : okP v a b) (q : Q (.bl (holdsB (.along x y) a b)) M) : r_is_true (retE M.length Q E) (startD N_is_true [testD (.along x y), colD a, colD b]) M := by
  obtain ⟨hv, ha, hb, hd, hea, heb⟩ := hp
  unfold r_is_true
  refine seq_step fun S hS => ?_
  simp [startD, testD]
  subst hS
  refine seq_step fun S hS => ?_
  simp
  subst hS
  refine seq_step fun S hS => ?_
  simp
  subst hS
  refine seq_step fun S hS => ?_
  simp [colD]
  rw [hb]
  subst hS
  refine seq_step fun S hS => ?_
  simp
  change lcL ⟨[D.int x, D.int y], none⟩ _ _ _ _ _ _ [D.int x, D.int y] [] M
  refine lcB (tooB v) _ (by rw [hz]; simp) (fun d hd Q' q' => ?_) ?_
  · simp at hd
    rcases hd with rfl | rfl <;> (simp [wipeD]; simpa [tooB] using q')
  · by_cases hx : (v : Int) ≤ x ∨ (v : Int) ≤ y
    · rw [if_pos (by simp [tooB]; omega)]
      have : holdsB (.along x y) a b = false := by
        show (decide (x < b.es.length) && decide (y < b.es.length) && _) = false
        rcases (by omega : ¬ x < b.es.length ∨ ¬ y < b.es.length) with h | h
        · rw [decide_eq_false h]; rfl
        · rw [decide_eq_false h, Bool.and_false]; rfl
      rw [this] at q
      exact same_pop q
    rw [if_neg (by simp [tooB]; omega)]
    have hxa : x < a.es.length := by omega
    have hxb : x < b.es.length := by omega
    have hya : y < a.es.length := by omega
    have hyb : y < b.es.length := by omega
    subst hS
    refine seq_step fun S hS => ?_
    simp [ent_at hxb]
    subst hS
    refine seq_step fun S hS => ?_
    simp
    subst hS
    refine seq_step fun S hS => ?_
    simp
    subst hS
    refine seq_step fun S hS => ?_
    simp
    subst hS
    refine seq_step fun S hS => ?_
    simp
    refine ⟨x, y, a, b, rfl, hxa, hxb, hya, hyb, hea, heb, ?_⟩
    have e : holdsB (.along x y) a b = (decide (x < b.es.length) && decide (y < b.es.length) && alongB x y a b) := rfl
    rw [e, decide_eq_true hxb, decide_eq_true hyb, Bool.true_and, Bool.true_and] at q
    exact same_pop q
theorem math_is_true (ds M Q E) (hM : WFM M) (hb : D.belL M.length ds = true) (h : sp_is_true ds M Q E) : r_is_true (retE M.length Q E) (startD N_is_true ds) M := by
  obtain ⟨t, v, a, b, rfl, hk, hp, q⟩ := h
  cases t with
  | accent x => exact it_accent x v a b M Q E hk hp q
  | lasts l h => exact it_lasts l h v a b M Q E hk hp q
  | one w x => exact it_one w x v a b M Q E hk hp q
  | leap x l h => exact it_leap x l h v a b M Q E hk hp q
  | by' x ms => exact it_by x ms v a b M Q E hk hp q
  | apart x y l h => exact it_apart x y l h v a b M Q E hk hp q
  | cls x y rs => exact it_cls x y rs v a b M Q E hk hp q
  | along x y => exact it_along x y v a b M Q E hk hp q
end K25
namespace K25
open MD L2 PySem Kit
theorem hgt_bg {m : Int × Int} (h : Bg 66 m.1 ∧ Bg 66 m.2) : Bg 71 (hgt m) := by
  unfold hgt
  exact ((Bg.mul (j := 4) (x := 7) (by unfold Bg; decide) h.1).add (Bg.mul (j := 4) (x := 12) (by unfold Bg; decide) h.2)).mono (by decide)
theorem lh_accent (x : Int) (v : Nat) (a b : Col) (M Q E) (hk : okT (.accent x)) (hp : okP v a b) (q : Q (.bl (holdsB (.accent x) a b)) M) : r__law_holds (retE M.length Q E) (startD N__law_holds [testD (.accent x), colD a, colD b]) M := by
  unfold r__law_holds
  refine seq_step fun S hS => ?_
  simp [startD, testD]
  subst hS
  refine seq_step fun S hS => ?_
  simp [colD]
  subst hS
  refine seq_step fun S hS => ?_
  simp
  exact same_pop q
theorem lh_lasts (l h : Int × Int) (v : Nat) (a b : Col) (M Q E) (hk : okT (.lasts l h)) (hp : okP v a b) (q : Q (.bl (holdsB (.lasts l h) a b)) M) : r__law_holds (retE M.length Q E) (startD N__law_holds [testD (.lasts l h), colD a, colD b]) M := by
  obtain ⟨hv, ha, hb, ⟨da, db⟩, hea, heb⟩ := hp
  obtain ⟨h1, h2, h3, h4⟩ := hk
  obtain ⟨a1, a2, a3, a4⟩ := dOk_f da
  obtain ⟨b1, b2, b3, b4⟩ := dOk_f db
  unfold r__law_holds
  refine seq_step fun S hS => ?_
  simp [startD, testD, MD.prD]
  subst hS
  refine seq_step fun S hS => ?_
  simp [colD, MD.prD]
  subst hS
  refine seq_step fun S hS => ?_
  simp
  subst hS
  refine seq_step fun S hS => ?_
  simp
  have e : holdsB (.lasts l h) a b = lastsB l h a b := rfl
  rw [e] at q
  unfold lastsB at q
  by_cases h0 : a.dur.1 = 0
  · rw [if_pos h0] at q ⊢
    exact same_pop q
  rw [if_neg h0] at q ⊢
  have p1 := (b3.mul a4)
  have p2 := (b4.mul a3)
  refine ⟨mulBg b3 a4 (by decide), mulBg b4 a3 (by decide), by rw [hz]; decide, mulBg h1 p2 (by decide), mulBg p1 h2 (by decide), ?_⟩
  simp only [popM_same (Nat.le_refl M.length)]
  by_cases A : l.1 * (b.dur.2 * a.dur.1) ≤ b.dur.1 * a.dur.2 * l.2
  · rw [if_pos A]
    rw [decide_eq_true A, Bool.true_and] at q
    exact ⟨mulBg p1 h4 (by decide), mulBg h3 p2 (by decide), q⟩
  · rw [if_neg A]
    rw [decide_eq_false A, Bool.false_and] at q
    exact q
theorem lh_one (w : Str) (x : Nat) (v : Nat) (a b : Col) (M Q E) (hk : okT (.one w x)) (hp : okP v a b) (q : Q (.bl (holdsB (.one w x) a b)) M) : r__law_holds (retE M.length Q E) (startD N__law_holds [testD (.one w x), colD a, colD b]) M := by
  obtain ⟨hv, ha, hb, hd, hea, heb⟩ := hp
  have hw : w ≠ "accent" ∧ w ≠ "lasts" ∧ w ≠ "along" := by rcases hk with rfl | rfl | rfl <;> decide
  unfold r__law_holds
  refine seq_step fun S hS => ?_
  simp [startD, testD]
  subst hS
  refine seq_step fun S hS => ?_
  simp [colD]
  rw [hb]
  subst hS
  refine seq_step fun S hS => ?_
  simp [hw.1]
  subst hS
  refine seq_step fun S hS => ?_
  refine if_gen fun B hB => ?_
  simp [hw.2.1]
  subst hS
  refine seq_step fun S hS => ?_
  simp
  by_cases hx : v ≤ x
  · rw [if_pos hx]
    have : holdsB (.one w x) a b = false := by
      show (decide (x < b.es.length) && _) = false
      rw [decide_eq_false (by omega)]; rfl
    rw [this] at q
    exact same_pop q
  rw [if_neg hx]
  have hxa : x < a.es.length := by omega
  have hxb : x < b.es.length := by omega
  subst hS
  refine seq_step fun S hS => ?_
  simp [ent_at hxb]
  have q2 : Q (.bl (if w = "begins" then (match entAt b x with | some (_, y) => y | none => false) else if w = "silent" then (entAt b x).isNone else looseB (entAt b x) (entAt a x))) M := by
    have : holdsB (.one w x) a b = (decide (x < b.es.length) && (if w = "begins" then (match entAt b x with | some (_, y) => y | none => false) else if w = "silent" then (entAt b x).isNone else looseB (entAt b x) (entAt a x))) := rfl
    rw [this, decide_eq_true hxb, Bool.true_and] at q
    exact q
  clear q
  subst hS
  refine seq_step fun S hS => ?_
  rcases hk with rfl | rfl | rfl
  · rw [if_pos rfl] at q2
    simp
    generalize entAt b x = e at q2 ⊢
    cases e with
    | none =>
      simp [entD]
      exact same_pop q2
    | some p =>
      obtain ⟨t, y⟩ := p
      simp [entD]
      exact same_pop q2
  · rw [if_neg (by decide), if_pos rfl] at q2
    simp
    subst hS
    refine seq_step fun S hS => ?_
    simp
    generalize entAt b x = e at q2 ⊢
    cases e with
    | none => exact ⟨nofun, same_pop q2⟩
    | some p => exact ⟨nofun, same_pop q2⟩
  · rw [if_neg (by decide), if_neg (by decide)] at q2
    simp
    subst hS
    refine seq_step fun S hS => ?_
    simp
    subst hS
    refine seq_step fun S hS => ?_
    simp [ent_at hxa]
    refine ⟨_, _, rfl, ?_⟩
    exact same_pop q2
theorem lh_leap (x : Nat) (l h : Int) (v : Nat) (a b : Col) (M Q E) (hk : okT (.leap x l h)) (hp : okP v a b) (q : Q (.bl (holdsB (.leap x l h) a b)) M) : r__law_holds (retE M.length Q E) (startD N__law_holds [testD (.leap x l h), colD a, colD b]) M := by
  obtain ⟨hv, ha, hb, hd, hea, heb⟩ := hp
  unfold r__law_holds
  refine seq_step fun S hS => ?_
  simp [startD, testD]
  subst hS
  refine seq_step fun S hS => ?_
  simp [colD]
  rw [hb]
  subst hS
  refine seq_step fun S hS => ?_
  simp
  subst hS
  refine seq_step fun S hS => ?_
  refine if_gen fun B hB => ?_
  simp
  subst hS
  refine seq_step fun S hS => ?_
  simp
  by_cases hx : v ≤ x
  · rw [if_pos hx]
    have : holdsB (.leap x l h) a b = false := by
      show (decide (x < b.es.length) && _) = false
      rw [decide_eq_false (by omega)]; rfl
    rw [this] at q
    exact same_pop q
  rw [if_neg hx]
  have hxa : x < a.es.length := by omega
  have hxb : x < b.es.length := by omega
  subst hS
  refine seq_step fun S hS => ?_
  simp [ent_at hxb]
  subst hS
  refine seq_step fun S hS => ?_
  simp
  subst hS
  refine seq_step fun S hS => ?_
  simp
  subst hS
  refine seq_step fun S hS => ?_
  simp
  subst hS
  refine seq_step fun S hS => ?_
  simp
  refine ⟨x, a, b, rfl, hxa, hxb, ?_⟩
  have e : holdsB (.leap x l h) a b = (decide (x < b.es.length) && (match mel x a b with | some m => decide (l ≤ hgt m) && decide (hgt m ≤ h) | none => false)) := rfl
  rw [e, decide_eq_true hxb, Bool.true_and] at q
  have hmb : ∀ m, mel x a b = some m → Bg 66 m.1 ∧ Bg 66 m.2 := fun m e => mel_bg hea heb e
  generalize mel x a b = mm at q hmb ⊢
  subst hS
  refine seq_step fun S hS => ?_
  cases mm with
  | none =>
    simp [optP]
    exact same_pop q
  | some m =>
    simp [optP]
    refine ⟨nofun, ?_⟩
    refine ⟨m, rfl, ⟨bg66 (hmb m rfl).1, bg66 (hmb m rfl).2⟩, ?_⟩
    simp
    simp only [popM_same (Nat.le_refl M.length)]
    have q : Q (.bl (decide (l ≤ hgt m) && decide (hgt m ≤ h))) M := q
    by_cases A : l ≤ hgt m
    · rw [if_pos A]
      rw [decide_eq_true A, Bool.true_and] at q
      exact q
    · rw [if_neg A]
      rw [decide_eq_false A, Bool.false_and] at q
      exact q
theorem lh_by (x : Nat) (ms : List (Int × Int)) (v : Nat) (a b : Col) (M Q E) (hk : okT (.by' x ms)) (hp : okP v a b) (q : Q (.bl (holdsB (.by' x ms) a b)) M) : r__law_holds (retE M.length Q E) (startD N__law_holds [testD (.by' x ms), colD a, colD b]) M := by
  obtain ⟨hv, ha, hb, hd, hea, heb⟩ := hp
  unfold r__law_holds
  refine seq_step fun S hS => ?_
  simp [startD, testD]
  subst hS
  refine seq_step fun S hS => ?_
  simp [colD]
  rw [hb]
  subst hS
  refine seq_step fun S hS => ?_
  simp
  subst hS
  refine seq_step fun S hS => ?_
  refine if_gen fun B hB => ?_
  simp
  subst hS
  refine seq_step fun S hS => ?_
  simp
  by_cases hx : v ≤ x
  · rw [if_pos hx]
    have : holdsB (.by' x ms) a b = false := by
      show (decide (x < b.es.length) && _) = false
      rw [decide_eq_false (by omega)]; rfl
    rw [this] at q
    exact same_pop q
  rw [if_neg hx]
  have hxa : x < a.es.length := by omega
  have hxb : x < b.es.length := by omega
  subst hS
  refine seq_step fun S hS => ?_
  simp [ent_at hxb]
  subst hS
  refine seq_step fun S hS => ?_
  simp
  subst hS
  refine seq_step fun S hS => ?_
  simp
  subst hS
  refine seq_step fun S hS => ?_
  simp
  subst hS
  refine seq_step fun S hS => ?_
  simp
  refine ⟨x, a, b, rfl, hxa, hxb, ?_⟩
  have e : holdsB (.by' x ms) a b = (decide (x < b.es.length) && (match mel x a b with | some m => decide (m ∈ ms) | none => false)) := rfl
  rw [e, decide_eq_true hxb, Bool.true_and] at q
  generalize mel x a b = mm at q ⊢
  subst hS
  refine seq_step fun S hS => ?_
  simp
  subst hS
  refine seq_step fun S hS => ?_
  cases mm with
  | none =>
    simp [optP]
    exact same_pop q
  | some m =>
    simp [optP]
    refine ⟨nofun, ?_⟩
    rw [if_neg (show ¬ nonD (MD.prD m) = true from fun z => by cases z), in_prs]
    exact ⟨pr_eqOk m, prs_eqOk ms, same_pop q⟩
theorem lh_apart (x y : Nat) (l h : Int) (v : Nat) (a b : Col) (M Q E) (hk : okT (.apart x y l h)) (hp : okP v a b) (q : Q (.bl (holdsB (.apart x y l h) a b)) M) : r__law_holds (retE M.length Q E) (startD N__law_holds [testD (.apart x y l h), colD a, colD b]) M := by
  obtain ⟨hv, ha, hb, hd, hea, heb⟩ := hp
  unfold r__law_holds
  refine seq_step fun S hS => ?_
  simp [startD, testD]
  subst hS
  refine seq_step fun S hS => ?_
  simp [colD]
  rw [hb]
  subst hS
  refine seq_step fun S hS => ?_
  simp
  subst hS
  refine seq_step fun S hS => ?_
  refine if_gen fun B hB => ?_
  simp
  subst hS
  refine seq_step fun S hS => ?_
  simp
  by_cases hx : v ≤ x
  · rw [if_pos hx]
    have : holdsB (.apart x y l h) a b = false := by
      show (decide (x < b.es.length) && _ && _) = false
      rw [decide_eq_false (by omega)]; rfl
    rw [this] at q
    exact same_pop q
  rw [if_neg hx]
  have hxa : x < a.es.length := by omega
  have hxb : x < b.es.length := by omega
  subst hS
  refine seq_step fun S hS => ?_
  simp [ent_at hxb]
  subst hS
  refine seq_step fun S hS => ?_
  simp
  subst hS
  refine seq_step fun S hS => ?_
  simp
  subst hS
  refine seq_step fun S hS => ?_
  simp
  subst hS
  refine seq_step fun S hS => ?_
  simp
  refine ⟨x, a, b, rfl, hxa, hxb, ?_⟩
  have hmb : ∀ m, mel x a b = some m → Bg 66 m.1 ∧ Bg 66 m.2 := fun m e => mel_bg hea heb e
  subst hS
  refine seq_step fun S hS => ?_
  simp
  subst hS
  refine seq_step fun S hS => ?_
  simp
  subst hS
  refine seq_step fun S hS => ?_
  simp
  by_cases hy : v ≤ y
  · rw [if_pos hy]
    have : holdsB (.apart x y l h) a b = false := by
      show (decide (x < b.es.length) && decide (y < b.es.length) && _) = false
      rw [decide_eq_false (by omega : ¬ y < b.es.length), Bool.and_false]; rfl
    rw [this] at q
    exact same_pop q
  rw [if_neg hy]
  have hya : y < a.es.length := by omega
  have hyb : y < b.es.length := by omega
  subst hS
  refine seq_step fun S hS => ?_
  simp
  subst hS
  refine seq_step fun S hS => ?_
  simp [ent_at hyb]
  have e : holdsB (.apart x y l h) a b = (decide (x < b.es.length) && decide (y < b.es.length) && (match upr x y b with | some w => decide (l ≤ w) && decide (w ≤ h) | none => false)) := rfl
  rw [e, decide_eq_true hxb, decide_eq_true hyb, Bool.true_and, Bool.true_and] at q
  unfold upr at q
  have g1 : ∀ t x', entAt b x = some (t, x') → T64 t := fun t x' e => okE_at heb e
  have g2 : ∀ t x', entAt b y = some (t, x') → T64 t := fun t x' e => okE_at heb e
  generalize entAt b x = e1 at q g1 ⊢
  generalize entAt b y = e2 at q g2 ⊢
  subst hS
  refine seq_step fun S hS => ?_
  cases e1 with
  | none =>
    simp [entD]
    exact same_pop q
  | some p1 =>
    cases e2 with
    | none =>
      simp [entD]
      exact same_pop q
    | some p2 =>
      obtain ⟨u, y'⟩ := p2
      obtain ⟨t, x'⟩ := p1
      have c1 := g1 t x' rfl
      have c2 := g2 u y' rfl
      simp [entD]
      subst hS
      refine seq_step fun S hS => ?_
      simp
      refine ⟨u, rfl, ⟨c2.1.mono (by decide), c2.2.mono (by decide)⟩, ?_⟩
      refine ⟨t, rfl, ⟨c1.1.mono (by decide), c1.2.mono (by decide)⟩, ?_⟩
      simp
      have eh : hgt (u.1 - t.1, u.2 - t.2) = hgt u - hgt t := by unfold hgt; simp; omega
      have q : Q (.bl ((fun w => decide (l ≤ w) && decide (w ≤ h)) (hgt (u.1 - t.1, u.2 - t.2)))) M := q
      rw [eh] at q
      generalize hgt u - hgt t = w at q ⊢
      have q : Q (.bl (decide (l ≤ w) && decide (w ≤ h))) M := q
      subst hS
      simp
      simp only [popM_same (Nat.le_refl M.length)]
      by_cases A : l ≤ w
      · rw [if_pos A]
        rw [decide_eq_true A, Bool.true_and] at q
        refine ⟨_, rfl, ?_⟩
        simp
        exact same_pop q
      · rw [if_neg A]
        rw [decide_eq_false A, Bool.false_and] at q
        exact q
theorem lh_cls (x y : Nat) (rs : List Int) (v : Nat) (a b : Col) (M Q E) (hk : okT (.cls x y rs)) (hp : okP v a b) (q : Q (.bl (holdsB (.cls x y rs) a b)) M) : r__law_holds (retE M.length Q E) (startD N__law_holds [testD (.cls x y rs), colD a, colD b]) M := by
  obtain ⟨hv, ha, hb, hd, hea, heb⟩ := hp
  unfold r__law_holds
  refine seq_step fun S hS => ?_
  simp [startD, testD]
  subst hS
  refine seq_step fun S hS => ?_
  simp [colD]
  rw [hb]
  subst hS
  refine seq_step fun S hS => ?_
  simp
  subst hS
  refine seq_step fun S hS => ?_
  refine if_gen fun B hB => ?_
  simp
  subst hS
  refine seq_step fun S hS => ?_
  simp
  by_cases hx : v ≤ x
  · rw [if_pos hx]
    have : holdsB (.cls x y rs) a b = false := by
      show (decide (x < b.es.length) && _ && _) = false
      rw [decide_eq_false (by omega)]; rfl
    rw [this] at q
    exact same_pop q
  rw [if_neg hx]
  have hxa : x < a.es.length := by omega
  have hxb : x < b.es.length := by omega
  subst hS
  refine seq_step fun S hS => ?_
  simp [ent_at hxb]
  subst hS
  refine seq_step fun S hS => ?_
  simp
  subst hS
  refine seq_step fun S hS => ?_
  simp
  subst hS
  refine seq_step fun S hS => ?_
  simp
  subst hS
  refine seq_step fun S hS => ?_
  simp
  refine ⟨x, a, b, rfl, hxa, hxb, ?_⟩
  have hmb : ∀ m, mel x a b = some m → Bg 66 m.1 ∧ Bg 66 m.2 := fun m e => mel_bg hea heb e
  subst hS
  refine seq_step fun S hS => ?_
  simp
  subst hS
  refine seq_step fun S hS => ?_
  simp
  subst hS
  refine seq_step fun S hS => ?_
  simp
  by_cases hy : v ≤ y
  · rw [if_pos hy]
    have : holdsB (.cls x y rs) a b = false := by
      show (decide (x < b.es.length) && decide (y < b.es.length) && _) = false
      rw [decide_eq_false (by omega : ¬ y < b.es.length), Bool.and_false]; rfl
    rw [this] at q
    exact same_pop q
  rw [if_neg hy]
  have hya : y < a.es.length := by omega
  have hyb : y < b.es.length := by omega
  subst hS
  refine seq_step fun S hS => ?_
  simp
  subst hS
  refine seq_step fun S hS => ?_
  simp [ent_at hyb]
  have e : holdsB (.cls x y rs) a b = (decide (x < b.es.length) && decide (y < b.es.length) && (match upr x y b with | some w => decide (w % 12 ∈ rs) | none => false)) := rfl
  rw [e, decide_eq_true hxb, decide_eq_true hyb, Bool.true_and, Bool.true_and] at q
  unfold upr at q
  have g1 : ∀ t x', entAt b x = some (t, x') → T64 t := fun t x' e => okE_at heb e
  have g2 : ∀ t x', entAt b y = some (t, x') → T64 t := fun t x' e => okE_at heb e
  generalize entAt b x = e1 at q g1 ⊢
  generalize entAt b y = e2 at q g2 ⊢
  subst hS
  refine seq_step fun S hS => ?_
  cases e1 with
  | none =>
    simp [entD]
    exact same_pop q
  | some p1 =>
    cases e2 with
    | none =>
      simp [entD]
      exact same_pop q
    | some p2 =>
      obtain ⟨u, y'⟩ := p2
      obtain ⟨t, x'⟩ := p1
      have c1 := g1 t x' rfl
      have c2 := g2 u y' rfl
      simp [entD]
      subst hS
      refine seq_step fun S hS => ?_
      simp
      refine ⟨u, rfl, ⟨c2.1.mono (by decide), c2.2.mono (by decide)⟩, ?_⟩
      refine ⟨t, rfl, ⟨c1.1.mono (by decide), c1.2.mono (by decide)⟩, ?_⟩
      simp
      have eh : hgt (u.1 - t.1, u.2 - t.2) = hgt u - hgt t := by unfold hgt; simp; omega
      have q : Q (.bl ((fun w => decide (w % 12 ∈ rs)) (hgt (u.1 - t.1, u.2 - t.2)))) M := q
      rw [eh] at q
      generalize hgt u - hgt t = w at q ⊢
      have q : Q (.bl (decide (w % 12 ∈ rs))) M := q
      subst hS
      simp
      refine ⟨fun _ _ => rfl, ?_⟩
      rw [Int.fmod_eq_emod_of_nonneg w (by decide : (0 : Int) ≤ 12), in_ints]
      exact same_pop q
theorem lh_along (x y : Nat) (v : Nat) (a b : Col) (M Q E) (hk : okT (.along x y)) (hp : okP v a b) (q : Q (.bl (holdsB (.along x y) a b)) M) : r__law_holds (retE M.length Q E) (startD N__law_holds [testD (.along x y), colD a, colD b]) M := by
  obtain ⟨hv, ha, hb, hd, hea, heb⟩ := hp
  unfold r__law_holds
  refine seq_step fun S hS => ?_
  simp [startD, testD]
  subst hS
  refine seq_step fun S hS => ?_
  simp [colD]
  rw [hb]
  subst hS
  refine seq_step fun S hS => ?_
  simp
  subst hS
  refine seq_step fun S hS => ?_
  refine if_gen fun B hB => ?_
  simp
  subst hS
  refine seq_step fun S hS => ?_
  simp
  by_cases hx : v ≤ x
  · rw [if_pos hx]
    have : holdsB (.along x y) a b = false := by
      show (decide (x < b.es.length) && _ && _) = false
      rw [decide_eq_false (by omega)]; rfl
    rw [this] at q
    exact same_pop q
  rw [if_neg hx]
  have hxa : x < a.es.length := by omega
  have hxb : x < b.es.length := by omega
  subst hS
  refine seq_step fun S hS => ?_
  simp [ent_at hxb]
  subst hS
  refine seq_step fun S hS => ?_
  simp
  subst hS
  refine seq_step fun S hS => ?_
  simp
  subst hS
  refine seq_step fun S hS => ?_
  simp
  subst hS
  refine seq_step fun S hS => ?_
  simp
  refine ⟨x, a, b, rfl, hxa, hxb, ?_⟩
  have hmb : ∀ m, mel x a b = some m → Bg 66 m.1 ∧ Bg 66 m.2 := fun m e => mel_bg hea heb e
  subst hS
  refine seq_step fun S hS => ?_
  simp
  subst hS
  refine seq_step fun S hS => ?_
  simp
  subst hS
  refine seq_step fun S hS => ?_
  simp
  by_cases hy : v ≤ y
  · rw [if_pos hy]
    have : holdsB (.along x y) a b = false := by
      show (decide (x < b.es.length) && decide (y < b.es.length) && _) = false
      rw [decide_eq_false (by omega : ¬ y < b.es.length), Bool.and_false]; rfl
    rw [this] at q
    exact same_pop q
  rw [if_neg hy]
  have hya : y < a.es.length := by omega
  have hyb : y < b.es.length := by omega
  subst hS
  refine seq_step fun S hS => ?_
  simp
  refine ⟨y, a, b, rfl, hya, hyb, ?_⟩
  have e : holdsB (.along x y) a b = (decide (x < b.es.length) && decide (y < b.es.length) && alongB x y a b) := rfl
  rw [e, decide_eq_true hxb, decide_eq_true hyb, Bool.true_and, Bool.true_and] at q
  unfold alongB at q
  have hmk : ∀ m, mel y a b = some m → Bg 66 m.1 ∧ Bg 66 m.2 := fun m e => mel_bg hea heb e
  generalize mel x a b = e1 at q hmb ⊢
  generalize mel y a b = e2 at q hmk ⊢
  cases e1 with
  | none =>
    refine ⟨nofun, ?_⟩
    rw [if_pos (show nonD (optP none) = true from rfl)]
    exact same_pop q
  | some m =>
    refine ⟨nofun, ?_⟩
    rw [if_neg (show ¬ nonD (optP (some m)) = true from fun z => by cases z)]
    cases e2 with
    | none =>
      refine ⟨nofun, ?_⟩
      rw [if_pos (show nonD (optP none) = true from rfl)]
      exact same_pop q
    | some k =>
      refine ⟨nofun, ?_⟩
      rw [if_neg (show ¬ nonD (optP (some k)) = true from fun z => by cases z)]
      have c1 := hmb m rfl
      have c2 := hmk k rfl
      refine ⟨m, rfl, ⟨bg66 c1.1, bg66 c1.2⟩, ?_⟩
      refine ⟨k, rfl, ⟨bg66 c2.1, bg66 c2.2⟩, ?_⟩
      simp
      refine ⟨mulBg (hgt_bg c1) (hgt_bg c2) (by decide), ?_⟩
      exact same_pop q
theorem math__law_holds (ds M Q E) (hM : WFM M) (hb : D.belL M.length ds = true) (h : sp__law_holds ds M Q E) : r__law_holds (retE M.length Q E) (startD N__law_holds ds) M := by
  obtain ⟨t, v, a, b, rfl, hk, hp, q⟩ := h
  cases t with
  | accent x => exact lh_accent x v a b M Q E hk hp q
  | lasts l h => exact lh_lasts l h v a b M Q E hk hp q
  | one w x => exact lh_one w x v a b M Q E hk hp q
  | leap x l h => exact lh_leap x l h v a b M Q E hk hp q
  | by' x ms => exact lh_by x ms v a b M Q E hk hp q
  | apart x y l h => exact lh_apart x y l h v a b M Q E hk hp q
  | cls x y rs => exact lh_cls x y rs v a b M Q E hk hp q
  | along x y => exact lh_along x y v a b M Q E hk hp q
end K25
namespace K25
open MD L2 PySem Kit
theorem math__law_column (ds M Q E) (hM : WFM M) (hb : D.belL M.length ds = true) (h : sp__law_column ds M Q E) : r__law_column (retE M.length Q E) (startD N__law_column ds) M := by
  obtain ⟨T, p, v, before, sm, xs, rfl, hp, hv, hbe, rfl, hne, hlen, hT, q⟩ := h
  have hz : (sizeLine : Nat) = 16777216 := by decide
  have st0 : Step p M M := ⟨⟨M[p]'hp.lt, by simp⟩, hp⟩
  unfold r__law_column
  refine seq_step fun S hS => ?_
  simp [startD]
  subst hS
  refine seq_step fun S hS => ?_
  simp
  refine ⟨by omega, ?_⟩
  refine forR_ind (fun i δ M' => Step p M M' ∧ ∃ (es : List Ent) (a b c d e : Option D), es.length = i ∧ (∀ e ∈ es, okEnt T e) ∧ δ = [some (.ref p), some (.int v), some before, some (.lst (xs.map MD.prD)), some (.tup (es.map entD)), a, b, c, d, e]) ?_ ?_ ⟨st0, [], none, none, none, none, none, rfl, nofun, rfl⟩
  · rintro δ M' ⟨hs, es, a, b, c, d, e, hl, hes, rfl⟩
    refine ⟨trivial, ?_⟩
    show S _ _ _
    subst hS
    simp
    refine ⟨p, rfl, hs.2, fun dur M1 hdur hsm k1 => ?_⟩
    have k01 := hs.trans k1
    have fin : ∀ (acc : Int) M2, 0 ≤ acc → acc ≤ 9 → Step p M M2 → Q (.tup [MD.prD dur, .int acc, .tup (es.map entD)]) (popM M.length (.tup [MD.prD dur, .int acc, .tup (es.map entD)]) M2) := by
      intro acc M2 h1 h2 k2
      rw [popM_same (by rw [k2.length]; simp)]
      exact q ⟨dur, acc, es⟩ M2 ⟨hdur, h1, h2, hl, hes⟩ hsm k2
    simp
    refine ⟨p, 2, rfl, by decide, by decide, k01.2, fun r2 M2 a2 b2 k2 => ?_⟩
    simp
    split
    · refine ⟨p, 10, rfl, by decide, by decide, k2.2, fun r3 M3 a3 b3 k3 => ?_⟩
      exact ⟨by decide, fin _ _ (by omega) (by omega) ((k01.trans k2).trans k3)⟩
    · exact ⟨by decide, fin _ _ (by omega) (by omega) (k01.trans k2)⟩
  · rintro i δ M' F hi ⟨hs, es, a, b, c, d, e, hl, hes, rfl⟩ hF
    refine ⟨trivial, ?_⟩
    refine seq_step fun S2 hS2 => ?_
    simp
    refine ⟨p, 6, rfl, by decide, by decide, hs.2, fun kind M1 a1 b1 k1 => ?_⟩
    have s1 := hs.trans k1
    simp
    subst hS2
    refine seq_step fun S2 hS2 => ?_
    simp
    refine ⟨p, _, _, rfl, s1.2, nofun, rfl, fun _ _ => rfl, by simpa using hne, by simpa using hlen, fun d2 M2 hd2 k2 => ?_⟩
    obtain ⟨t2, ht2, rfl⟩ := List.mem_map.mp hd2
    have s2 := s1.trans k2
    refine ⟨by decide, ?_⟩
    subst hS2
    refine seq_step fun S2 hS2 => ?_
    have done : ∀ (en : Ent) (x y : Option D) M3, okEnt T en → Step p M M3 → S2 { (retE M.length Q E) with nx := F, ct := F, bk := S (retE M.length Q E) } [some (.ref p), some (.int v), some before, some (.lst (xs.map MD.prD)), some (.tup (es.map entD)), some (.int i), some (.int kind), some (entD en), x, y] M3 := by
      intro en x y M3 hen s3
      subst hS2
      simp
      refine ⟨by decide, by omega, ?_⟩
      rw [show es.map entD ++ [entD en] = (es ++ [en]).map entD by rw [List.map_append]; rfl]
      refine hF _ _ ⟨s3, es ++ [en], some (.int i), some (.int kind), some (entD en), x, y, by simp [hl], ?_, rfl⟩
      intro e he
      rcases List.mem_append.mp he with he | he
      · exact hes e he
      · rw [List.mem_singleton.mp he]; exact hen
    simp
    by_cases k0 : kind = 0
    · rw [if_pos k0]
      exact done none _ _ _ nofun s2
    rw [if_neg k0]
    by_cases k3 : kind < 3
    · rw [if_pos k3]
      have last : ∀ (x : Option D) (t : Tone) M3, T t → Step p M M3 → S2 { (retE M.length Q E) with nx := F, ct := F, bk := S (retE M.length Q E) } [some (.ref p), some (.int v), some before, some (.lst (xs.map MD.prD)), some (.tup (es.map entD)), some (.int i), some (.int kind), some (.tup [MD.prD t, .bl false]), x, some (MD.prD t)] M3 :=
        fun x t M3 ht s3 => done (some (t, false)) x _ M3 (fun u b e => by cases e; exact ht) s3
      rcases hbe with rfl | ⟨c, rfl, hc⟩
      · simp
        exact ⟨by decide, last _ _ _ (hT _ ht2) s2⟩
      · have hci : i < c.es.length := by rw [hc.1]; exact hi
        have hat : atI (c.es.map entD) (i : Int) = some (entD c.es[i]) := by
          refine at_nat ?_
          rw [List.getElem?_map, List.getElem?_eq_getElem hci]; rfl
        have hen := hc.2 _ (List.getElem_mem hci)
        simp [colD, hat]
        generalize c.es[i] = e0 at hen
        cases e0 with
        | none =>
          simp [entD]
          exact ⟨by decide, last _ _ _ (hT _ ht2) s2⟩
        | some tb =>
          obtain ⟨t, bb⟩ := tb
          have ht : T t := hen t bb rfl
          simp [entD]
          refine ⟨p, 4, rfl, by decide, by decide, s2.2, fun r4 M4 a4 b4 k4 => ?_⟩
          simp
          have s4 := s2.trans k4
          split
          · exact ⟨by decide, last _ _ _ ht s4⟩
          · exact ⟨by decide, last _ _ _ (hT _ ht2) s4⟩
    · rw [if_neg k3]
      exact done (some (t2, true)) _ _ _ (fun u b e => by cases e; exact hT _ ht2) s2

end K25
namespace K25
open MD L2 PySem Kit
theorem step_refl {p : Nat} {M : MH} (h : Pool M p) : Step p M M := by
  have hl := h.lt
  exact ⟨⟨M[p], (List.set_getElem_self hl).symm⟩, h⟩
def twelve : List Str := ["accent", "begins", "silent", "loose", "leap", "leap", "by", "apart", "apart", "class", "along", "lasts"]
theorem math__law_test (ds M Q E) (hM : WFM M) (hb : D.belL M.length ds = true) (h : sp__law_test ds M Q E) : r__law_test (retE M.length Q E) (startD N__law_test ds) M := by
  obtain ⟨p, v, rfl, hp, hv1, hv4, q⟩ := h
  unfold r__law_test
  refine seq_step fun S hS => ?_
  simp [startD]
  refine ⟨by rw [hz]; decide, p, _, _, rfl, hp, nofun, rfl, fun _ _ => rfl, by simp, by simp, fun wd M1 hw k1 => ?_⟩
  obtain ⟨w, rfl, hww⟩ : ∃ w, wd = .str w ∧ w ∈ twelve := by
    have : wd ∈ twelve.map D.str := hw
    obtain ⟨w, h1, h2⟩ := List.mem_map.mp this
    exact ⟨w, h2.symm, h1⟩
  have ret : ∀ (t : Test) (M' : MH), okT t → Step p M M' → Q (testD t) (popM M.length (testD t) M') := fun t M' h1 h2 => by
    rw [popM_same (by rw [h2.length]; exact Nat.le_refl _)]
    exact q t M' h1 h2
  subst hS
  refine seq_step fun S hS => ?_
  have key : ∀ (x : Nat) M3, x < 4 → Step p M M3 → S (retE M.length Q E) [some (.ref p), some (.int v), some (.str w), some (.int x), none, none, none, none] M3 := by
    intro x M3 hx s3
    subst hS
    refine seq_step fun S hS => ?_
    have key2 : ∀ (y : Nat) M4, Step p M M4 → S (retE M.length Q E) [some (.ref p), some (.int v), some (.str w), some (.int x), some (.int y), none, none, none] M4 := by
      intro y M4 s4
      subst hS
      refine seq_step fun S hS => ?_
      simp
      refine ⟨p, 41, rfl, by decide, by decide, s4.2, fun r1 M5 _ _ k5 => ?_⟩
      have s5 := s4.trans k5
      simp
      generalize r1 - 20 = low
      subst hS
      refine seq_step fun S hS => ?_
      simp
      refine ⟨p, 25, rfl, by decide, by decide, s5.2, fun r2 M6 _ _ k6 => ?_⟩
      have s6 := s5.trans k6
      simp
      generalize low + r2 = high
      subst hS
      refine seq_step fun S hS => ?_
      simp
      by_cases w1 : w = "accent"
      · rw [if_pos w1]
        refine ⟨p, 2, rfl, by decide, by decide, s6.2, fun r3 M7 _ _ k7 => ?_⟩
        have s7 := s6.trans k7
        simp
        split
        · refine ⟨p, 10, rfl, by decide, by decide, s7.2, fun r4 M8 _ _ k8 => ?_⟩
          exact ⟨by rw [hz]; decide, ret (.accent r4) M8 trivial (s7.trans k8)⟩
        · exact ⟨by rw [hz]; decide, ret (.accent 0) M7 trivial s7⟩
      rw [if_neg w1]
      subst hS
      refine seq_step fun S hS => ?_
      simp
      by_cases w2 : w = "leap"
      · rw [if_pos w2]
        exact ⟨by rw [hz]; decide, ret (.leap x low high) M6 trivial s6⟩
      rw [if_neg w2]
      subst hS
      refine seq_step fun S hS => ?_
      simp
      by_cases w3 : w = "by"
      · rw [if_pos w3]
        refine ⟨p, 13, rfl, by decide, by decide, s6.2, fun r3 M7 r30 r3m k7 => ⟨r3, rfl, by omega, by omega, ?_⟩⟩
        have s7 := s6.trans k7
        refine lcI_from (fun i acc M' => Step p M M' ∧ ∃ ms : List (Int × Int), acc = ms.map MD.prD ∧ ms.length = i) ?_ ?_ ⟨s7, [], rfl, rfl⟩
        · rintro acc M8 ⟨s8, ms, rfl, hl⟩
          rw [rangeD_length] at hl
          exact ⟨trivial, by rw [hz]; decide, ret (.by' x ms) M8 (by show ms.length ≤ 20; omega) s8⟩
        · rintro i d acc M8 F hd ⟨s8, ms, rfl, hl⟩ hF
          have hi : i < r3.toNat := by have := (List.getElem?_eq_some_iff.mp hd).1; rwa [rangeD_length] at this
          refine ⟨trivial, ?_⟩
          simp [wipeD]
          refine ⟨p, rfl, s8.2, fun t M9 _ k9 => ?_⟩
          exact ⟨by rw [hz]; omega, hF _ _ ⟨s8.trans k9, ms ++ [t], by rw [List.map_append]; rfl, by simp [hl]⟩⟩
      rw [if_neg w3]
      subst hS
      refine seq_step fun S hS => ?_
      simp
      by_cases w4 : w = "apart"
      · rw [if_pos w4]
        exact ⟨by rw [hz]; decide, ret (.apart x y low high) M6 trivial s6⟩
      rw [if_neg w4]
      subst hS
      refine seq_step fun S hS => ?_
      simp
      by_cases w5 : w = "class"
      · rw [if_pos w5]
        refine ⟨p, 13, rfl, by decide, by decide, s6.2, fun r3 M7 r30 r3m k7 => ⟨r3, rfl, by omega, by omega, ?_⟩⟩
        have s7 := s6.trans k7
        refine lcI_from (fun i acc M' => Step p M M' ∧ ∃ ms : List Int, acc = ms.map D.int ∧ ms.length = i) ?_ ?_ ⟨s7, [], rfl, rfl⟩
        · rintro acc M8 ⟨s8, ms, rfl, hl⟩
          rw [rangeD_length] at hl
          exact ⟨trivial, by rw [hz]; decide, ret (.cls x y ms) M8 (by show ms.length ≤ 20; omega) s8⟩
        · rintro i d acc M8 F hd ⟨s8, ms, rfl, hl⟩ hF
          have hi : i < r3.toNat := by have := (List.getElem?_eq_some_iff.mp hd).1; rwa [rangeD_length] at this
          refine ⟨trivial, ?_⟩
          simp [wipeD]
          refine ⟨p, 12, rfl, by decide, by decide, s8.2, fun t M9 _ _ k9 => ?_⟩
          exact ⟨by rw [hz]; omega, hF _ _ ⟨s8.trans k9, ms ++ [t], by rw [List.map_append]; rfl, by simp [hl]⟩⟩
      rw [if_neg w5]
      subst hS
      refine seq_step fun S hS => ?_
      simp
      by_cases w6 : w = "along"
      · rw [if_pos w6]
        exact ⟨by rw [hz]; decide, ret (.along x y) M6 trivial s6⟩
      rw [if_neg w6]
      subst hS
      refine seq_step fun S hS => ?_
      simp
      by_cases w7 : w = "lasts"
      · rw [if_pos w7]
        refine ⟨p, 9, rfl, by decide, by decide, s6.2, fun r3 M7 r30 r3m k7 => ?_⟩
        have s7 := s6.trans k7
        refine ⟨p, 4, rfl, by decide, by decide, s7.2, fun r4 M8 r40 r4m k8 => ?_⟩
        have s8 := s7.trans k8
        simp
        have bn : Bg 8 r3 := by unfold Bg; omega
        have bd : Bg 8 (1 + r4) := by unfold Bg; omega
        refine ⟨_, _, rfl, by omega, bn.mono (by decide), bd.mono (by decide), .inl (bn.mono (by decide)), ?_⟩
        obtain ⟨f1, f2⟩ := fr_bg bn bd
        have f0 : 0 < (fr r3 (1 + r4)).2 := fr_den (by omega)
        generalize fr r3 (1 + r4) = lw at f1 f2 f0 ⊢
        have g1 : Bg 8 (1 : Int) := by unfold Bg; decide
        have g2 : Bg 8 (2 : Int) := by unfold Bg; decide
        refine ⟨by rw [hz]; decide, _, _, _, _, _, _, rfl, .inl rfl, .inl rfl, f0, by decide, ⟨8, 8, by decide, f1, f2, g1, g2⟩, ?_⟩
        refine ⟨by rw [hz]; decide, p, _, _, rfl, s8.2, nofun, rfl, fun _ _ => rfl, by simp, by simp, fun hd M9 hm k9 => ?_⟩
        have s9 := s8.trans k9
        obtain ⟨hi, rfl, i1, i2⟩ : ∃ hi : Int × Int, hd = MD.prD hi ∧ Bg 64 hi.1 ∧ Bg 64 hi.2 := by
          simp only [List.mem_cons, List.not_mem_nil, or_false] at hm
          rcases hm with rfl | rfl | rfl | rfl
          · exact ⟨lw, rfl, f1.mono (by decide), f2.mono (by decide)⟩
          · exact ⟨(1, 1), rfl, by unfold Bg; decide, by unfold Bg; decide⟩
          · exact ⟨(1000, 1), rfl, by unfold Bg; decide, by unfold Bg; decide⟩
          · have b1 := ((f1.mul g2).add (g1.mul f2)).mono (by decide : 8 + 8 + 1 ≤ 64)
            have b2 := (f2.mul g2).mono (by decide : 8 + 8 ≤ 64)
            exact ⟨_, rfl, (fr_bg b1 b2).1, (fr_bg b1 b2).2⟩
        exact ⟨by rw [hz]; decide, ret (.lasts lw hi) M9 ⟨f1.mono (by decide), f2.mono (by decide), i1, i2⟩ s9⟩
      rw [if_neg w7]
      subst hS
      simp
      have hw3 : w = "begins" ∨ w = "silent" ∨ w = "loose" := by
        simp only [twelve, List.mem_cons, List.not_mem_nil, or_false] at hww
        rcases hww with h | h | h | h | h | h | h | h | h | h | h | h
        · exact absurd h w1
        · exact .inl h
        · exact .inr (.inl h)
        · exact .inr (.inr h)
        · exact absurd h w2
        · exact absurd h w2
        · exact absurd h w3
        · exact absurd h w4
        · exact absurd h w4
        · exact absurd h w5
        · exact absurd h w6
        · exact absurd h w7
      exact ⟨by rw [hz]; decide, ret (.one w x) M6 hw3 s6⟩
    simp
    refine lcI_from (fun i acc M' => Step p M M' ∧ ∃ ks : List Nat, acc = ks.map (fun k : Nat => D.int k) ∧ ks.length ≤ i ∧ ∀ k, k < i → k ≠ x → (k < v ∨ v = 1) → k ∈ ks) ?_ ?_ ⟨s3, [], rfl, Nat.le_refl 0, fun k h => absurd h (Nat.not_lt_zero _)⟩
    · rintro acc M4 ⟨s4, ks, rfl, hkl, hks⟩
      refine ⟨trivial, ?_⟩
      rw [rangeD_length] at hkl hks
      have hkl : ks.length ≤ 4 := hkl
      have hks : ∀ k, k < 4 → k ≠ x → (k < v ∨ v = 1) → k ∈ ks := hks
      have nx : ∀ (tail : List Nat), (v = 1 → tail ≠ []) → tail.length ≤ 1 → sp__law_pick [.ref p, .lst (ks.map (fun k : Nat => D.int k) ++ tail.map (fun k : Nat => D.int k))] M4 (fun d M1 => S (retE M.length Q E) [some (.ref p), some (.int v), some (.str w), some (.int x), some d, none, none, none] M1) (fun x M1 => E x (popX M.length x M1)) := by
        intro tail ht htl
        refine ⟨p, _, _, rfl, s4.2, nofun, rfl, fun _ _ => rfl, ?_, ?_, fun d M5 hd k5 => ?_⟩
        · by_cases h1 : v = 1
          · have := ht h1
            simp [this]
          · have : (if x = 0 then 1 else 0) ∈ ks := hks _ (by split <;> omega) (by split <;> omega) (.inl (by split <;> omega))
            intro z
            have z2 := List.append_eq_nil_iff.mp z
            rw [List.map_eq_nil_iff.mp z2.1] at this
            cases this
        · simp; omega
        · rw [← List.map_append] at hd
          obtain ⟨y, _, rfl⟩ := List.mem_map.mp hd
          exact key2 y M5 (s4.trans k5)
      refine ⟨by rw [hz]; decide, ?_⟩
      by_cases h1 : v = 1
      · have := nx [((x + 1) % 4 : Nat)] (fun _ => by simp) (by simp)
        rw [if_pos (by rw [h1]; rfl)]
        rw [Int.fmod_eq_emod_of_nonneg _ (by decide : (0 : Int) ≤ 4)]
        refine ⟨⟨by decide, by decide, by rw [hz]; simp⟩, ?_⟩
        simp
        refine ⟨_, rfl, by simp [hz]; omega, ?_⟩
        simpa [newL] using this
      · have := nx [] (fun z => absurd z h1) (by simp)
        rw [if_neg (by omega)]
        refine ⟨⟨by decide, by decide, by rw [hz]; simp⟩, ?_⟩
        simp
        refine ⟨_, rfl, by simp [hz]; omega, ?_⟩
        simpa [newL] using this
    · rintro i d acc M4 F hd ⟨s4, ks, rfl, hkl, hks⟩ hF
      refine ⟨trivial, ?_⟩
      have hi : i < 4 := by have := (List.getElem?_eq_some_iff.mp hd).1; rwa [rangeD_length] at this
      obtain rfl : d = .int (i : Int) := by
        rw [range_at hi] at hd
        have := Option.some.inj hd
        rw [← this, Int.zero_add]
      have yes : ∀ M5, Step p M M5 → ks.length < sizeLine ∧ F (ks.map (fun k : Nat => D.int k) ++ [.int (i : Int)]) M5 := fun M5 s5 => by
        refine ⟨by rw [hz]; omega, hF _ _ ⟨s5, ks ++ [i], by rw [List.map_append]; rfl, by simp; omega, fun k hk hx' hc => ?_⟩⟩
        by_cases e : k = i
        · rw [e]; simp
        · exact List.mem_append_left _ (hks k (by omega) hx' hc)
      have no : ∀ M5, Step p M M5 → (i ≠ x → ¬ (i < v ∨ v = 1)) → F (ks.map (fun k : Nat => D.int k)) M5 := fun M5 s5 hn =>
        hF _ _ ⟨s5, ks, rfl, by omega, fun k hk hx' hc => by
          by_cases e : k = i
          · subst e; exact absurd hc (hn hx')
          · exact hks k (by omega) hx' hc⟩
      simp [wipeD]
      by_cases hix : (i : Int) = (x : Int)
      · rw [if_pos hix]
        exact no _ s4 (fun z => absurd (by omega) z)
      rw [if_neg hix]
      by_cases hiv : i < v
      · rw [if_pos hiv]
        exact yes _ s4
      rw [if_neg hiv]
      by_cases h1 : (v : Int) = 1
      · rw [if_pos h1]
        exact yes _ s4
      rw [if_neg h1]
      refine ⟨p, 20, rfl, by decide, by decide, s4.2, fun r M5 r0 r20 k5 => ?_⟩
      simp
      split
      · exact yes _ (s4.trans k5)
      · exact no _ (s4.trans k5) (fun _ z => by omega)
  simp
  refine ⟨p, 12, rfl, by decide, by decide, k1.2, fun r M2 r0 r12 k2 => ?_⟩
  have s2 := k1.trans k2
  simp
  split
  · refine ⟨p, v, rfl, by omega, by omega, s2.2, fun r M3 r0 r4 k3 => ?_⟩
    have := key r.toNat M3 (by omega) (s2.trans k3)
    rwa [Int.toNat_of_nonneg r0] at this
  · refine ⟨p, 4, rfl, by omega, by omega, s2.2, fun r M3 r0 r4 k3 => ?_⟩
    have := key r.toNat M3 (by omega) (s2.trans k3)
    rwa [Int.toNat_of_nonneg r0] at this
end K25
namespace K25
open MD L2 PySem Kit
theorem math__law_near (ds M Q E) (hM : WFM M) (hb : D.belL M.length ds = true) (h : sp__law_near ds M Q E) : r__law_near (retE M.length Q E) (startD N__law_near ds) M := by
  obtain ⟨p, v, a, b, rfl, hp, hv1, ⟨hv4, ha, hb2, hd, hea, heb⟩, q⟩ := h
  have ret : ∀ (t : Test) (M' : MH), okT t → Step p M M' → Q (testD t) (popM M.length (testD t) M') := fun t M' h1 h2 => by
    rw [popM_same (by rw [h2.length]; exact Nat.le_refl _)]
    exact q t M' h1 h2
  unfold r__law_near
  refine seq_step fun S hS => ?_
  simp [startD, colD]
  refine ⟨p, _, rfl, by omega, by omega, hp, fun r M1 r0 rv s1 => ?_⟩
  obtain ⟨x, rfl, hx⟩ : ∃ x : Nat, r = (x : Int) ∧ x < v := ⟨r.toNat, by omega, by omega⟩
  have hxa : x < a.es.length := by omega
  have hxb : x < b.es.length := by omega
  subst hS
  refine seq_step fun S hS => ?_
  simp
  refine lcI_from (fun i acc M' => Step p M M' ∧ ∃ ks : List Nat, acc = ks.map (fun k : Nat => D.int k) ∧ ks.length ≤ i ∧ ∀ k, k < i → k ≠ x → k ∈ ks) ?_ ?_ ⟨s1, [], rfl, Nat.le_refl 0, fun k h => absurd h (Nat.not_lt_zero _)⟩
  rotate_left
  · rintro i d acc M4 F hd ⟨s4, ks, rfl, hkl, hks⟩ hF
    refine ⟨trivial, ?_⟩
    have hi : i < 4 := by have := (List.getElem?_eq_some_iff.mp hd).1; rwa [rangeD_length] at this
    obtain rfl : d = .int (i : Int) := by
      rw [range_at hi] at hd
      have := Option.some.inj hd
      rw [← this, Int.zero_add]
    simp [wipeD]
    by_cases hix : (i : Int) = (x : Int)
    · rw [if_pos hix]
      exact hF _ _ ⟨s4, ks, rfl, by omega, fun k hk hx' => by
        by_cases e : k = i
        · omega
        · exact hks k (by omega) hx'⟩
    · rw [if_neg hix]
      refine ⟨by rw [hz]; omega, hF _ _ ⟨s4, ks ++ [i], by rw [List.map_append]; rfl, by simp; omega, fun k hk hx' => ?_⟩⟩
      by_cases e : k = i
      · rw [e]; simp
      · exact List.mem_append_left _ (hks k (by omega) hx')
  · rintro acc M4 ⟨s4, ks, rfl, hkl, hks⟩
    refine ⟨trivial, ?_⟩
    rw [rangeD_length] at hkl hks
    have hkl : ks.length ≤ 4 := hkl
    have hks : ∀ k, k < 4 → k ≠ x → k ∈ ks := hks
    refine ⟨p, _, _, rfl, s4.2, nofun, rfl, fun _ _ => rfl, ?_, ?_, fun d M5 hd k5 => ?_⟩
    · intro z
      have : (if x = 0 then 1 else 0) ∈ ks := hks _ (by split <;> omega) (by split <;> omega)
      rw [List.map_eq_nil_iff.mp z] at this
      cases this
    · simp; omega
    have s5 := s4.trans k5
    obtain ⟨y, _, rfl⟩ := List.mem_map.mp hd
    show S _ _ _
    subst hS
    refine seq_step fun S hS => ?_
    simp
    refine ⟨by rw [hz]; decide, p, _, _, rfl, s5.2, nofun, rfl, fun _ _ => rfl, by simp, by simp, fun d M6 hd k6 => ?_⟩
    have s6 := s5.trans k6
    obtain ⟨more, rfl, hmo⟩ : ∃ m : Int, d = .int m ∧ Bg 4 m := by
      simp only [List.mem_cons, List.not_mem_nil, or_false] at hd
      rcases hd with rfl | rfl | rfl | rfl <;> exact ⟨_, rfl, by unfold Bg; decide⟩
    subst hS
    refine seq_step fun S hS => ?_
    simp
    refine ⟨x, a, b, rfl, hxa, hxb, ?_⟩
    have hmb : ∀ m, mel x a b = some m → Bg 66 m.1 ∧ Bg 66 m.2 := fun m e => mel_bg hea heb e
    generalize mel x a b = mm at hmb ⊢
    subst hS
    refine seq_step fun S hS => ?_
    have k2 : ∀ m M7, (Bg 66 m.1 ∧ Bg 66 m.2) → Step p M M7 → S (retE M.length Q E) [some (.ref p), some (.tup [MD.prD a.dur, .int a.acc, .tup (a.es.map entD)]), some (.tup [MD.prD b.dur, .int b.acc, .tup (b.es.map entD)]), some (.int x), some (.int y), some (.int more), some (optP (some m)), none, none, none] M7 := by
      intro m M7 hm s7
      subst hS
      refine seq_step fun S hS => ?_
      simp [optP]
      refine ⟨m, rfl, ⟨bg66 hm.1, bg66 hm.2⟩, ?_⟩
      generalize hgt m = hm0
      subst hS
      refine seq_step fun S hS => ?_
      simp
      refine ⟨p, 2, rfl, by decide, by decide, s7.2, fun r7 M8 _ _ k8 => ?_⟩
      have s8 := s7.trans k8
      have pm : MD.prD m = .tup [.int m.1, .int m.2] := rfl
      have b12 : Bg 4 (12 : Int) := by unfold Bg; decide
      have b7 : Bg 4 (7 : Int) := by unfold Bg; decide
      simp [pm]
      split
      · exact ⟨by rw [hz]; decide, mulBg b12 hmo (by decide), mulBg b7 hmo (by decide), by rw [hz]; decide, by rw [hz]; decide, ret (.by' x [(0, 0), (m.1 + 12 * more, m.2 - 7 * more)]) M8 (by show 2 ≤ 20; decide) s8⟩
      · subst hS
        simp
        refine ⟨_, _, ⟨rfl, rfl⟩, _, _, ⟨rfl, rfl⟩, by rw [hz]; decide, p, _, _, rfl, s8.2, nofun, rfl, fun _ _ => rfl, by simp, by simp, fun d M9 hd k9 => ?_⟩
        have s9 := s8.trans k9
        obtain ⟨m2, rfl⟩ : ∃ m : Int, d = .int m := by
          simp only [List.mem_cons, List.not_mem_nil, or_false] at hd
          rcases hd with rfl | rfl | rfl | rfl <;> exact ⟨_, rfl⟩
        simp
        exact ⟨_, _, ⟨rfl, rfl⟩, _, _, ⟨rfl, rfl⟩, by rw [hz]; decide, ret (.leap x _ _) M9 trivial s9⟩
    have lo : ∀ M7, Step p M M7 → 2 ≤ sizeLine ∧ Q (.tup [.str "loose", .int x]) (popM M.length (.tup [.str "loose", .int x]) M7) := fun M7 s7 =>
      ⟨by rw [hz]; decide, ret (.one "loose" x) M7 (.inr (.inr rfl)) s7⟩
    refine if_gen fun B hB => ?_
    generalize hDD : ({ nx := S (retE M.length Q E), rt := (retE M.length Q E).rt, bk := (retE M.length Q E).bk, ct := (retE M.length Q E).ct, ex := (retE M.length Q E).ex } : Ends') = DD
    have hrt : ∀ d M', Q d (popM M.length d M') → DD.rt d M' := fun d M' h => by rw [← hDD]; exact h
    have kB : ∀ (o : Option (Int × Int)) M7, Step p M M7 → B DD [some (.ref p), some (.tup [MD.prD a.dur, .int a.acc, .tup (a.es.map entD)]), some (.tup [MD.prD b.dur, .int b.acc, .tup (b.es.map entD)]), some (.int x), some (.int y), some (.int more), some (optP o), none, none, none] M7 := by
      intro o M7 s7
      subst hB
      refine seq_step fun S3 hS3 => ?_
      simp
      by_cases h1 : a.es.length ≤ y
      · rw [if_pos h1]
        exact ⟨(lo _ s7).1, hrt _ _ (lo _ s7).2⟩
      rw [if_neg h1]
      have hyb : y < b.es.length := by omega
      refine ⟨_, ent_at hxb, ?_⟩
      have g1 : ∀ t x', entAt b x = some (t, x') → T64 t := fun t x' e => okE_at heb e
      have g2 : ∀ t x', entAt b y = some (t, x') → T64 t := fun t x' e => okE_at heb e
      have aty := ent_at hyb
      have atx := ent_at hxb
      generalize entAt b x = e1 at g1 atx ⊢
      generalize entAt b y = e2 at g2 aty ⊢
      cases e1 with
      | none => exact ⟨nofun, by rw [if_pos (show nonD (entD none) = true from rfl)]; exact ⟨(lo _ s7).1, hrt _ _ (lo _ s7).2⟩⟩
      | some p1 =>
        refine ⟨nofun, ?_⟩
        rw [if_neg (show ¬ nonD (entD (some p1)) = true from fun z => by cases z)]
        refine ⟨_, aty, ?_⟩
        cases e2 with
        | none => exact ⟨nofun, by rw [if_pos (show nonD (entD none) = true from rfl)]; exact ⟨(lo _ s7).1, hrt _ _ (lo _ s7).2⟩⟩
        | some p2 =>
          refine ⟨nofun, ?_⟩
          rw [if_neg (show ¬ nonD (entD (some p2)) = true from fun z => by cases z)]
          obtain ⟨t, x'⟩ := p1
          obtain ⟨u, y'⟩ := p2
          have c1 := g1 t x' rfl
          have c2 := g2 u y' rfl
          subst hS3
          refine seq_step fun S3 hS3 => ?_
          simp [atx, aty]
          refine .inl ⟨_, rfl, _, rfl, u, rfl, ⟨c2.1.mono (by decide), c2.2.mono (by decide)⟩, .inl ⟨_, rfl, _, rfl, t, rfl, ⟨c1.1.mono (by decide), c1.2.mono (by decide)⟩, ?_⟩⟩
          simp
          generalize hgt u - hgt t = wide
          subst hS3
          refine seq_step fun S3 hS3 => ?_
          simp
          refine ⟨p, 2, rfl, by decide, by decide, s7.2, fun r8 M8 _ _ k8 => ?_⟩
          have s8 := s7.trans k8
          simp
          split
          · exact ⟨by rw [hz]; decide, by rw [hz]; decide, hrt _ _ (ret (.cls x y [(wide + more).fmod 12]) M8 (by show 1 ≤ 20; decide) s8)⟩
          · subst hS3
            simp
            refine ⟨_, _, ⟨rfl, rfl⟩, _, _, ⟨rfl, rfl⟩, by rw [hz]; decide, p, _, _, rfl, s8.2, nofun, rfl, fun _ _ => rfl, by simp, by simp, fun d M9 hd k9 => ?_⟩
            have s9 := s8.trans k9
            obtain ⟨m2, rfl⟩ : ∃ m : Int, d = .int m := by
              simp only [List.mem_cons, List.not_mem_nil, or_false] at hd
              rcases hd with rfl | rfl | rfl | rfl <;> exact ⟨_, rfl⟩
            simp
            exact ⟨_, _, ⟨rfl, rfl⟩, _, _, ⟨rfl, rfl⟩, by rw [hz]; decide, hrt _ _ (ret (.apart x y _ _) M9 trivial s9)⟩
    cases mm with
    | none =>
      simp [optP]
      exact kB none _ s6
    | some m =>
      simp [optP]
      refine ⟨nofun, ?_⟩
      rw [if_neg (show ¬ nonD (MD.prD m) = true from fun z => by cases z)]
      refine ⟨p, 3, rfl, by decide, by decide, s6.2, fun r7 M7 _ _ k7 => ?_⟩
      simp
      split
      · exact kB (some m) _ (s6.trans k7)
      · rw [← hDD]
        exact k2 m M7 (hmb m rfl) (s6.trans k7)
end K25
namespace K25
open MD L2 PySem Kit
/-! raised by an interval and paced, a pair answers alike -/
def movT (t : Tone) (b : Col) : Col := ⟨fr (b.dur.1 * 3) (b.dur.2 * 2), b.acc, b.es.map (moveE 1 t)⟩
theorem entAt_mov {t : Tone} {c : Col} {v : Nat} : entAt (movT t c) v = moveE 1 t (entAt c v) := by
  unfold entAt movT
  rw [List.getD_eq_getElem?_getD, List.getD_eq_getElem?_getD, List.getElem?_map]
  cases c.es[v]? with
  | none => rfl
  | some e => rfl
theorem mel_mov {t : Tone} {v : Nat} {a b : Col} : mel v (movT t a) (movT t b) = mel v a b := by
  rw [mel_at, mel_at, entAt_mov, entAt_mov]
  generalize entAt a v = e1
  generalize entAt b v = e2
  cases e1 with
  | none => cases e2 <;> rfl
  | some p1 =>
    cases e2 with
    | none => rfl
    | some p2 =>
      obtain ⟨u, x⟩ := p2
      obtain ⟨w, y⟩ := p1
      cases x with
      | false => rfl
      | true =>
        show some (_, _) = some (_, _)
        congr 2 <;> (simp [moveE]; omega)
theorem upr_mov {t : Tone} {v s : Nat} {b : Col} : upr v s (movT t b) = upr v s b := by
  unfold upr
  rw [entAt_mov, entAt_mov]
  generalize entAt b v = e1
  generalize entAt b s = e2
  cases e1 with
  | none => rfl
  | some p1 =>
    cases e2 with
    | none => rfl
    | some p2 =>
      show some _ = some _
      congr 2 <;> (simp [moveE]; omega)
theorem loose_mov {t : Tone} {e b : Ent} : looseB (moveE 1 t e) (moveE 1 t b) = looseB e b := by
  cases e with
  | none => rfl
  | some p =>
    obtain ⟨u, x⟩ := p
    cases b with
    | none => rfl
    | some q =>
      obtain ⟨w, y⟩ := q
      show (!x && decide ((t.1 + 1 * w.1, t.2 + 1 * w.2) ≠ (t.1 + 1 * u.1, t.2 + 1 * u.2))) = (!x && decide (w ≠ u))
      congr 1
      rw [decide_eq_decide]
      obtain ⟨w1, w2⟩ := w
      obtain ⟨u1, u2⟩ := u
      simp
theorem scale_le {g k X Y X' Y' : Int} (hg : 0 < g) (hk : 0 < k) (e1 : 6 * X = k * g * X') (e2 : 6 * Y = k * g * Y') : decide (X' ≤ Y') = decide (X ≤ Y) := by
  rw [decide_eq_decide]
  have hkg : 0 < k * g := Int.mul_pos hk hg
  rw [← Int.mul_le_mul_left hkg, ← e1, ← e2]
  exact Int.mul_le_mul_left (by decide)
theorem lasts_mov {t : Tone} {l h : Int × Int} {a b : Col} (ha : dOk a.dur) (hb : dOk b.dur) : lastsB l h (movT t a) (movT t b) = lastsB l h a b := by
  obtain ⟨a1, a2, _, _⟩ := dOk_f ha
  obtain ⟨b1, b2, _, _⟩ := dOk_f hb
  unfold lastsB
  show (if (fr (a.dur.1 * 3) (a.dur.2 * 2)).1 = 0 then false else decide (l.1 * ((fr (b.dur.1 * 3) (b.dur.2 * 2)).2 * (fr (a.dur.1 * 3) (a.dur.2 * 2)).1) ≤ (fr (b.dur.1 * 3) (b.dur.2 * 2)).1 * (fr (a.dur.1 * 3) (a.dur.2 * 2)).2 * l.2) && decide ((fr (b.dur.1 * 3) (b.dur.2 * 2)).1 * (fr (a.dur.1 * 3) (a.dur.2 * 2)).2 * h.2 ≤ h.1 * ((fr (b.dur.1 * 3) (b.dur.2 * 2)).2 * (fr (a.dur.1 * 3) (a.dur.2 * 2)).1))) = _
  obtain ⟨g, hg, p1, p2⟩ := fr_part (n := a.dur.1 * 3) (d := a.dur.2 * 2) (by omega)
  obtain ⟨k, hk, q1, q2⟩ := fr_part (n := b.dur.1 * 3) (d := b.dur.2 * 2) (by omega)
  generalize fr (a.dur.1 * 3) (a.dur.2 * 2) = p at p1 p2 ⊢
  generalize fr (b.dur.1 * 3) (b.dur.2 * 2) = q at q1 q2 ⊢
  have lo : ∀ x : Int, 6 * (x * (b.dur.2 * a.dur.1)) = k * g * (x * (q.2 * p.1)) := fun x => by
    rw [show k * g * (x * (q.2 * p.1)) = x * ((k * q.2) * (g * p.1)) by ac_rfl, ← q2, ← p1, show (6 : Int) = 2 * 3 from rfl]
    ac_rfl
  have hi : ∀ x : Int, 6 * (b.dur.1 * a.dur.2 * x) = k * g * (q.1 * p.2 * x) := fun x => by
    rw [show k * g * (q.1 * p.2 * x) = (k * q.1) * (g * p.2) * x by ac_rfl, ← q1, ← p2, show (6 : Int) = 3 * 2 from rfl]
    ac_rfl
  by_cases h0 : a.dur.1 = 0
  · have : p.1 = 0 := by
      rw [h0] at p1
      rcases Int.mul_eq_zero.mp (show g * p.1 = 0 by omega) with z | z
      · omega
      · exact z
    rw [if_pos h0, if_pos this]
  · have : p.1 ≠ 0 := fun z => by rw [z] at p1; omega
    rw [if_neg h0, if_neg this, scale_le hg hk (lo l.1) (hi l.2), scale_le hg hk (hi h.2) (lo h.1)]
theorem len_mov {t : Tone} {c : Col} : (movT t c).es.length = c.es.length := List.length_map ..
theorem holds_mov {s : Tone} {t : Test} {a b : Col} (ha : dOk a.dur) (hb : dOk b.dur) : holdsB t (movT s a) (movT s b) = holdsB t a b := by
  cases t with
  | accent x => rfl
  | lasts l h => exact lasts_mov ha hb
  | one w v =>
    unfold holdsB
    simp only [len_mov, entAt_mov, loose_mov]
    congr 1
    generalize entAt b v = e
    cases e with
    | none => rfl
    | some p => rfl
  | leap v l h => unfold holdsB; simp only [len_mov, mel_mov]
  | by' v ms => unfold holdsB; simp only [len_mov, mel_mov]
  | apart v s l h => unfold holdsB; simp only [len_mov, upr_mov]
  | cls v s rs => unfold holdsB; simp only [len_mov, upr_mov]
  | along v s => unfold holdsB; simp only [len_mov, mel_mov]
end K25
namespace K25
open MD L2 PySem Kit
theorem tup6_col {c : Col} (h : c.es.length ≤ sizeLine) : tupD 6 (colD c) = true := by
  show ((decide (0 < 6) && decide (3 ≤ sizeLine)) && (true && (true && (((decide (0 < 5) && decide ((c.es.map entD).length ≤ sizeLine)) && tupL 4 (c.es.map entD)) && true)))) = true
  rw [tupL_of (c.es.map entD) fun d hd => by
    obtain ⟨e, _, rfl⟩ := List.mem_map.mp hd
    cases e <;> rfl, List.length_map, decide_eq_true h]
  rfl
theorem tup6_test {t : Test} (hk : okT t) : tupD 6 (testD t) = true := by
  cases t with
  | by' v ms =>
    have hk : ms.length ≤ 20 := hk
    show ((decide (0 < 6) && decide (3 ≤ sizeLine)) && (true && (true && (((decide (0 < 5) && decide ((ms.map MD.prD).length ≤ sizeLine)) && tupL 4 (ms.map MD.prD)) && true)))) = true
    rw [tupL_of (ms.map MD.prD) fun d hd => by
      obtain ⟨e, _, rfl⟩ := List.mem_map.mp hd
      rfl, List.length_map, decide_eq_true (show ms.length ≤ sizeLine by rw [hz]; omega)]
    rfl
  | cls v s rs =>
    have hk : rs.length ≤ 20 := hk
    show ((decide (0 < 6) && decide (4 ≤ sizeLine)) && (true && (true && (true && (((decide (0 < 5) && decide ((rs.map D.int).length ≤ sizeLine)) && tupL 4 (rs.map D.int)) && true))))) = true
    rw [tupL_of (rs.map D.int) fun d hd => by
      obtain ⟨e, _, rfl⟩ := List.mem_map.mp hd
      rfl, List.length_map, decide_eq_true (show rs.length ≤ sizeLine by rw [hz]; omega)]
    rfl
  | _ => rfl
theorem so_col {r : D} {c : Col} (h : r = colD c ∨ r = lis (colD c)) : ColL r c := by
  rcases h with rfl | rfl
  · exact colL_colD c
  · exact lis_col c
theorem head_by (t : Test) : (∃ v ms, t = .by' v ms) ∨ ∃ w rest, testD t = .tup (.str w :: rest) ∧ w ≠ "by" ∨ (∃ v, t = .one w v) := by
  cases t with
  | by' v ms => exact .inl ⟨v, ms, rfl⟩
  | accent a => exact .inr ⟨"accent", _, .inl ⟨rfl, by decide⟩⟩
  | lasts l h => exact .inr ⟨"lasts", _, .inl ⟨rfl, by decide⟩⟩
  | one w v => exact .inr ⟨w, [], .inr ⟨v, rfl⟩⟩
  | leap v l h => exact .inr ⟨"leap", _, .inl ⟨rfl, by decide⟩⟩
  | apart v s l h => exact .inr ⟨"apart", _, .inl ⟨rfl, by decide⟩⟩
  | cls v s rs => exact .inr ⟨"class", _, .inl ⟨rfl, by decide⟩⟩
  | along v s => exact .inr ⟨"along", _, .inl ⟨rfl, by decide⟩⟩
theorem head_of {t : Test} (hk : okT t) : (∃ v ms, t = .by' v ms) ∨ ∃ w rest, testD t = .tup (.str w :: rest) ∧ w ≠ "by" := by
  rcases head_by t with h | ⟨w, rest, h | ⟨v, rfl⟩⟩
  · exact .inl h
  · exact .inr ⟨w, rest, h⟩
  · exact .inr ⟨w, [.int v], rfl, by rcases hk with rfl | rfl | rfl <;> decide⟩
def dS (d : Int × Int) : Prop := d = (0, 1) ∨ (okDur d ∧ sml d)
theorem dS_ok {d : Int × Int} (h : dS d) : dOk d := h.imp id fun h => h.1
theorem dS_mov {d : Int × Int} (h : dS d) : dOk (fr (d.1 * 3) (d.2 * 2)) := by
  rcases h with rfl | ⟨h, s⟩
  · exact .inl (by decide)
  · have h1 := h.1
    have h2 := h.2.1
    have s1 := s.1
    have s2 := s.2
    exact .inr (fr_okDur (by omega) (by omega) (by unfold Bg; omega) (by unfold Bg; omega))
theorem movE_T64 {s t : Tone} (hs : -100 ≤ s.1 ∧ s.1 ≤ 100 ∧ -100 ≤ s.2 ∧ s.2 ≤ 100) (ht : Near t) : T64 (s.1 + 1 * t.1, s.2 + 1 * t.2) := by
  unfold Near at ht
  exact ⟨bg64 (by simp; omega) (by decide), bg64 (by simp; omega) (by decide)⟩
theorem movT_okE {v : Nat} {s : Tone} {c : Col} (hs : -100 ≤ s.1 ∧ s.1 ≤ 100 ∧ -100 ≤ s.2 ∧ s.2 ≤ 100) (h : c.es.length = v ∧ ∀ e ∈ c.es, okEnt Near e) : okE (movT s c) := fun e he t b z => by
  obtain ⟨e0, he0, rfl⟩ := List.mem_map.mp he
  cases e0 with
  | none => cases z
  | some p =>
    obtain ⟨u, y⟩ := p
    cases z
    exact movE_T64 hs (h.2 _ he0 u y rfl)
theorem near_okE {v : Nat} {c : Col} (h : c.es.length = v ∧ ∀ e ∈ c.es, okEnt Near e) : okE c := fun e he t b z => near_64 (h.2 e he t b z)
theorem math_law (ds M Q E) (hM : WFM M) (hb : D.belL M.length ds = true) (h : sp_law ds M Q E) : r_law (retE M.length Q E) (startD N_law ds) M := by
  obtain ⟨ns, rfl, hns, rfl, q⟩ := h
  unfold r_law
  refine seq_step fun S hS => ?_
  simp [startD]
  refine ⟨ns, rfl, hns, fun ms hms => ?_⟩
  simp
  subst hS
  have hP : Pool [poolD ms 0 0 17] 0 := ⟨ms, 0, 0, 17, rfl, hms, by decide, by decide, by decide⟩
  refine seq_step fun S hS => ?_
  simp
  refine ⟨0, 4, rfl, by decide, by decide, hP, fun r M1 r0 r4 k1 => ?_⟩
  simp
  obtain ⟨v, hv, v1, v4⟩ : ∃ v : Nat, 1 + r = (v : Int) ∧ 1 ≤ v ∧ v ≤ 4 := ⟨(1 + r).toNat, by omega, by omega, by omega⟩
  rw [hv]
  subst hS
  refine seq_step fun S hS => ?_
  simp
  refine ⟨0, 4, rfl, by decide, by decide, k1.2, fun r M2 r0 r4 k2 => ?_⟩
  simp
  refine ⟨by omega, by omega, ?_⟩
  have s2 := k1.trans k2
  refine lcI_from (fun i acc M' => Step 0 [poolD ms 0 0 17] M' ∧ ∃ xs : List Tone, acc = xs.map MD.prD ∧ xs.length = i ∧ ∀ t ∈ xs, Near t) ?_ ?_ ⟨s2, [], rfl, rfl, nofun⟩
  rotate_left
  · rintro i d acc M3 F hd ⟨s3, xs, rfl, hl, hxs⟩ hF
    have hi : i < (1 + r).toNat := by have := (List.getElem?_eq_some_iff.mp hd).1; rwa [rangeD_length] at this
    refine ⟨trivial, ?_⟩
    simp [wipeD]
    refine ⟨0, rfl, s3.2, fun f o M4 h1 h2 h3 h4 k4 => ?_⟩
    exact ⟨by rw [hz]; omega, hF _ _ ⟨s3.trans k4, xs ++ [(f, o)], by rw [List.map_append]; rfl, by simp [hl], fun t ht => by
      rcases List.mem_append.mp ht with ht | ht
      · exact hxs t ht
      · rw [List.mem_singleton.mp ht]; exact ⟨h1, h2, h3, h4⟩⟩⟩
  rintro acc M3 ⟨s3, xs, rfl, hl, hxs⟩
  rw [rangeD_length] at hl
  have hne : xs ≠ [] := by intro z; rw [z] at hl; simp at hl; omega
  refine ⟨trivial, ?_⟩
  show S _ _ _
  subst hS
  refine seq_step fun S hS => ?_
  simp
  refine forR_ind (fun i δ M' => Pool M' 0 ∧ M'.length = 1 ∧ ∃ (a b c d e f g h j k : Option D), δ = [some (.scr ns), some (.ref 0), some (.int v), some (.lst (xs.map MD.prD)), a, b, c, d, e, f, g, h, j, k]) ?_ ?_ ⟨s3.2, s3.length, _, _, _, _, _, _, _, _, _, _, rfl⟩
  · rintro δ M' ⟨_, _, a, b, c, d, e, f, g, h, j, k, rfl⟩
    refine ⟨trivial, ?_⟩
    show S _ _ _
    subst hS
    simp
    exact q _
  · rintro i δ M0 F hi ⟨hP0, hl0, a, b, c, d, e, f, g, h, j, k, rfl⟩ hF
    refine ⟨trivial, ?_⟩
    refine seq_step fun S2 hS2 => ?_
    simp
    refine ⟨Near, 0, v, .non, _, xs, rfl, hP0, by omega, .inl rfl, rfl, hne, by omega, hxs, fun one M1 ho1 ho2 k1 => ?_⟩
    generalize hDD : ({ nx := F, rt := (retE 0 Q E).rt, bk := S (retE 0 Q E), ct := F, ex := (retE 0 Q E).ex } : Ends') = DD
    have hnx : ∀ δ M', F δ M' → DD.nx δ M' := fun δ M' h => by rw [← hDD]; exact h
    subst hS2
    refine seq_step fun S2 hS2 => ?_
    have kX : ∀ (one : Col) M2 (c d e f g h j k : Option D), (one.es.length = v ∧ ∀ e ∈ one.es, okEnt Near e) → dS one.dur → Step 0 M0 M2 → S2 DD [some (.scr ns), some (.ref 0), some (.int v), some (.lst (xs.map MD.prD)), some (.int i), some (colD one), c, d, e, f, g, h, j, k] M2 := by
      intro one M2 c d e f g h j k ho hd1 s2
      subst hS2
      refine seq_step fun S2 hS2 => ?_
      simp
      refine ⟨Near, 0, v, colD one, _, xs, rfl, s2.2, by omega, .inr ⟨one, rfl, ho⟩, rfl, hne, by omega, hxs, fun oth M3 hc1 hc2 k3 => ?_⟩
      have s3 := s2.trans k3
      have hO : okP v one oth := ⟨v4, ho.1, hc1.2.2.2.1, ⟨dS_ok hd1, .inr hc1.1⟩, near_okE ho, near_okE ⟨hc1.2.2.2.1, hc1.2.2.2.2⟩⟩
      have l1 : one.es.length ≤ sizeLine := by rw [ho.1, hz]; omega
      have l2 : oth.es.length ≤ sizeLine := by rw [hc1.2.2.2.1, hz]; omega
      subst hS2
      refine seq_step fun S2 hS2 => ?_
      have kT : ∀ t M4, okT t → Step 0 M0 M4 → S2 DD [some (.scr ns), some (.ref 0), some (.int v), some (.lst (xs.map MD.prD)), some (.int i), some (colD one), some (colD oth), some (testD t), e, f, g, h, j, k] M4 := by
        intro t M4 hk s4
        subst hS2
        refine seq_step fun S2 hS2 => ?_
        have kU : ∀ t M5 k, okT t → Step 0 M0 M5 → S2 DD [some (.scr ns), some (.ref 0), some (.int v), some (.lst (xs.map MD.prD)), some (.int i), some (colD one), some (colD oth), some (testD t), e, f, g, h, j, k] M5 := by
          intro t M5 k hk s5
          subst hS2
          refine seq_step fun S2 hS2 => ?_
          simp
          refine ⟨t, v, one, oth, rfl, hk, hO, ?_⟩
          subst hS2
          refine seq_step fun S2 hS2 => ?_
          simp
          refine ⟨0, testD t, rfl, s5.2, tup6_test hk, fun dt M6 hdt k6 => ?_⟩
          have s6 := s5.trans k6
          refine ⟨0, colD one, rfl, s6.2, tup6_col l1, fun d1 M7 hd1' k7 => ?_⟩
          have s7 := s6.trans k7
          refine ⟨0, colD oth, rfl, s7.2, tup6_col l2, fun d2 M8 hd2 k8 => ?_⟩
          have s8 := s7.trans k8
          refine ⟨dt, d1, d2, t, v, one, oth, rfl, hdt, so_col hd1', so_col hd2, hk, hO, ?_⟩
          refine ⟨_, rfl, rfl, ?_⟩
          simp
          subst hS2
          refine seq_step fun S2 hS2 => ?_
          simp
          refine ⟨0, rfl, s8.2, fun s M9 hs k9 => ?_⟩
          have s9 := s8.trans k9
          subst hS2
          refine seq_step fun S2 hS2 => ?_
          simp
          refine ⟨by rw [hz]; decide, ?_⟩
          refine lcL_rel (R := fun d (c : Col) => d = colD c) (fun c => colD (moveC 1 s c)) (by exact trivial) _ [one, oth] [] ⟨rfl, rfl, trivial⟩ (fun d c hc e Q' q' => ?_) (by rw [hz]; simp) ?_
          · subst e
            simp [wipeD]
            refine ⟨c, 1, _, s, rfl, by decide, .inl rfl, ?_, q'⟩
            simp only [List.mem_cons, List.not_mem_nil, or_false] at hc
            rcases hc with rfl | rfl
            · rw [hO.2.1, hz]; omega
            · rw [hO.2.2.1, hz]; omega
          rw [List.nil_append]
          subst hS2
          refine seq_step fun S2 hS2 => ?_
          simp
          refine lcL_rel (R := fun d (c : Col) => d = colD (moveC 1 s c)) (fun c => colD (movT s c)) (by exact trivial) _ [one, oth] [] ⟨rfl, rfl, trivial⟩ (fun d c hc e Q' q' => ?_) (by rw [hz]; simp) ?_
          · subst e
            have hcd : dOk c.dur := by
              simp only [List.mem_cons, List.not_mem_nil, or_false] at hc
              rcases hc with rfl | rfl
              · exact hO.2.2.2.1.1
              · exact hO.2.2.2.1.2
            obtain ⟨_, c2, c3, c4⟩ := dOk_f hcd
            simp [wipeD, colD, moveC]
            refine ⟨by rw [hz]; decide, _, _, _, _, _, _, rfl, .inl rfl, .inl rfl, c2, by decide, ⟨64, 8, by decide, c3, c4, by unfold Bg; decide, by unfold Bg; decide⟩, ?_⟩
            refine ⟨by rw [hz]; decide, ?_⟩
            rw [← List.map_map]
            exact q'
          rw [List.nil_append]
          have hO2 : okP v (movT s one) (movT s oth) := ⟨v4, by rw [len_mov]; exact hO.2.1, by rw [len_mov]; exact hO.2.2.1, ⟨dS_mov hd1, dS_mov (.inr ⟨hc1.1, hc2⟩)⟩, movT_okE hs ho, movT_okE hs ⟨hc1.2.2.2.1, hc1.2.2.2.2⟩⟩
          subst hS2
          simp
          refine ⟨testD t, _, _, t, v, movT s one, movT s oth, rfl, .inl rfl, colL_colD _, colL_colD _, hk, hO2, ?_⟩
          rw [holds_mov hO.2.2.2.1.1 hO.2.2.2.1.2]
          refine ⟨_, rfl, rfl, ?_⟩
          simp
          exact hnx _ _ (hF _ _ ⟨s9.2, by rw [s9.length]; exact hl0, _, _, _, _, _, _, _, _, _, _, rfl⟩)
        rcases head_of hk with ⟨x, ms, rfl⟩ | ⟨w, rest, e1, hw⟩
        · simp [testD]
          change lcL ⟨ms.map MD.prD, none⟩ _ _ _ _ _ _ (ms.map MD.prD) [] M4
          have hk : ms.length ≤ 20 := hk
          refine lcI_from (fun i acc M' => M' = M4 ∧ ∃ ks : List (Int × Int), acc = ks.map MD.prD ∧ ks.length ≤ i) ?_ ?_ ⟨rfl, [], rfl, Nat.le_refl 0⟩
          · rintro acc M' ⟨rfl, ks, rfl, hl⟩
            refine ⟨trivial, ?_⟩
            rw [List.length_map] at hl
            change 1 ≤ sizeLine ∧ 2 + 1 ≤ sizeLine ∧ S2 DD [some (.scr ns), some (.ref 0), some (.int v), some (.lst (xs.map MD.prD)), some (.int i), some (colD one), some (colD oth), some (testD (.by' x ks)), e, f, g, h, j, k] M'
            exact ⟨by rw [hz]; decide, by rw [hz]; decide, kU (.by' x ks) M' _ (by show ks.length ≤ 20; omega) s4⟩
          · rintro i d acc M' F' hd ⟨rfl, ks, rfl, hl⟩ hF'
            refine ⟨trivial, ?_⟩
            have hi : i < ms.length := by have := (List.getElem?_eq_some_iff.mp hd).1; rwa [List.length_map] at this
            obtain ⟨m, _, rfl⟩ := List.mem_map.mp (List.mem_of_getElem? hd)
            simp [wipeD, MD.prD]
            refine ⟨_, _, ⟨rfl, rfl⟩, ?_⟩
            generalize (if m.1 < 0 then -m.1 else m.1) = m1
            generalize (if m.2 < 0 then -m.2 else m.2) = m2
            generalize (if m1 < m2 then m2 else m1) = m3
            split
            · exact ⟨by rw [hz]; omega, hF' _ _ ⟨rfl, ks ++ [m], by rw [List.map_append]; rfl, by simp; omega⟩⟩
            · exact hF' _ _ ⟨rfl, ks, rfl, by omega⟩
        · rw [e1]
          simp [hw]
          rw [← e1]
          exact kU t M4 _ hk s4
      simp
      refine ⟨0, 2, rfl, by decide, by decide, s3.2, fun r M4 _ _ k4 => ?_⟩
      have s4 := s3.trans k4
      simp
      split
      · exact ⟨0, v, rfl, s4.2, v1, v4, fun t M5 hk k5 => kT t M5 hk (s4.trans k5)⟩
      · exact ⟨0, v, one, oth, rfl, s4.2, v1, hO, fun t M5 hk k5 => kT t M5 hk (s4.trans k5)⟩
    simp
    refine ⟨0, 8, rfl, by decide, by decide, k1.2, fun r M2 _ _ k2 => ?_⟩
    simp
    split
    · refine ⟨v, rfl, v1, v4, ?_⟩
      exact kX ⟨(0, 1), 0, List.replicate v none⟩ _ _ _ _ _ _ _ _ _ ⟨List.length_replicate .., fun e he => by rw [(List.mem_replicate.mp he).2]; exact nofun⟩ (.inl rfl) (k1.trans k2)
    · exact kX one _ _ _ _ _ _ _ _ _ ⟨ho1.2.2.2.1, ho1.2.2.2.2⟩ (.inr ⟨ho1.1, ho2⟩) (k1.trans k2)
end K25
namespace K25
open MD L2 PySem PySem.Spec PyProof.Rows Kit 
def topS (i : Nat) : Stmt := PySem.Challenge.pw_counterheld_k25_tests.main.body.getD i (.Pass ⟨0, 0, 0, 0⟩)
abbrev s_fraction : Stmt := topS 2
theorem sc_fraction : FnScope N_fraction ["n", "d"] (defScope s_fraction) := ⟨rfl, rfl, rfl, by decide +kernel, rfl, by decide +kernel, by decide +kernel⟩
abbrev s_quotient : Stmt := topS 3
theorem sc_quotient : FnScope N_quotient ["one", "other"] (defScope s_quotient) := ⟨rfl, rfl, rfl, by decide +kernel, rfl, by decide +kernel, by decide +kernel⟩
abbrev s_is_less : Stmt := topS 4
theorem sc_is_less : FnScope N_is_less ["one", "other"] (defScope s_is_less) := ⟨rfl, rfl, rfl, by decide +kernel, rfl, by decide +kernel, by decide +kernel⟩
abbrev s_height : Stmt := topS 6
theorem sc_height : FnScope N_height ["interval"] (defScope s_height) := ⟨rfl, rfl, rfl, by decide +kernel, rfl, by decide +kernel, by decide +kernel⟩
abbrev s_between : Stmt := topS 7
theorem sc_between : FnScope N_between ["one", "other"] (defScope s_between) := ⟨rfl, rfl, rfl, by decide +kernel, rfl, by decide +kernel, by decide +kernel⟩
abbrev s_settled_entry : Stmt := topS 9
theorem sc_settled_entry : FnScope N_settled_entry ["entry"] (defScope s_settled_entry) := ⟨rfl, rfl, rfl, by decide +kernel, rfl, by decide +kernel, by decide +kernel⟩
abbrev s_settled : Stmt := topS 10
theorem sc_settled : FnScope N_settled ["column"] (defScope s_settled) := ⟨rfl, rfl, rfl, by decide +kernel, rfl, by decide +kernel, by decide +kernel⟩
abbrev s_is_loose : Stmt := topS 11
theorem sc_is_loose : FnScope N_is_loose ["entry", "before"] (defScope s_is_loose) := ⟨rfl, rfl, rfl, by decide +kernel, rfl, by decide +kernel, by decide +kernel⟩
abbrev s_settled_test : Stmt := topS 14
theorem sc_settled_test : FnScope N_settled_test ["test"] (defScope s_settled_test) := ⟨rfl, rfl, rfl, by decide +kernel, rfl, by decide +kernel, by decide +kernel⟩
abbrev s_melodic : Stmt := topS 15
theorem sc_melodic : FnScope N_melodic ["voice", "one", "other"] (defScope s_melodic) := ⟨rfl, rfl, rfl, by decide +kernel, rfl, by decide +kernel, by decide +kernel⟩
abbrev s_upright : Stmt := topS 16
theorem sc_upright : FnScope N_upright ["voice", "higher", "other"] (defScope s_upright) := ⟨rfl, rfl, rfl, by decide +kernel, rfl, by decide +kernel, by decide +kernel⟩
abbrev s_along : Stmt := topS 17
theorem sc_along : FnScope N_along ["voice", "second", "one", "other"] (defScope s_along) := ⟨rfl, rfl, rfl, by decide +kernel, rfl, by decide +kernel, by decide +kernel⟩
abbrev s_lasts : Stmt := topS 18
theorem sc_lasts : FnScope N_lasts ["low", "high", "one", "other"] (defScope s_lasts) := ⟨rfl, rfl, rfl, by decide +kernel, rfl, by decide +kernel, by decide +kernel⟩
abbrev s_is_true : Stmt := topS 19
theorem sc_is_true : FnScope N_is_true ["test", "one", "other"] (defScope s_is_true) := ⟨rfl, rfl, rfl, by decide +kernel, rfl, by decide +kernel, by decide +kernel⟩
abbrev s_holds : Stmt := topS 20
theorem sc_holds : FnScope N_holds ["test", "one", "other"] (defScope s_holds) := ⟨rfl, rfl, rfl, by decide +kernel, rfl, by decide +kernel, by decide +kernel⟩
abbrev s__law_pool : Stmt := topS 22
theorem sc__law_pool : FnScope N__law_pool ["script"] (defScope s__law_pool) := ⟨rfl, rfl, rfl, by decide +kernel, rfl, by decide +kernel, by decide +kernel⟩
abbrev s__law_take : Stmt := topS 23
theorem sc__law_take : FnScope N__law_take ["pool", "many"] (defScope s__law_take) := ⟨rfl, rfl, rfl, by decide +kernel, rfl, by decide +kernel, by decide +kernel⟩
abbrev s__law_pick : Stmt := topS 24
theorem sc__law_pick : FnScope N__law_pick ["pool", "rows"] (defScope s__law_pick) := ⟨rfl, rfl, rfl, by decide +kernel, rfl, by decide +kernel, by decide +kernel⟩
abbrev s__law_is_integer : Stmt := topS 25
theorem sc__law_is_integer : FnScope N__law_is_integer ["actual"] (defScope s__law_is_integer) := ⟨rfl, rfl, rfl, by decide +kernel, rfl, by decide +kernel, by decide +kernel⟩
abbrev s__law_same : Stmt := topS 26
theorem sc__law_same : FnScope N__law_same ["actual", "due"] (defScope s__law_same) := ⟨rfl, rfl, rfl, by decide +kernel, rfl, by decide +kernel, by decide +kernel⟩
abbrev s__law_lowest : Stmt := topS 27
theorem sc__law_lowest : FnScope N__law_lowest ["n", "d"] (defScope s__law_lowest) := ⟨rfl, rfl, rfl, by decide +kernel, rfl, by decide +kernel, by decide +kernel⟩
abbrev s__law_sum : Stmt := topS 28
theorem sc__law_sum : FnScope N__law_sum ["one", "other"] (defScope s__law_sum) := ⟨rfl, rfl, rfl, by decide +kernel, rfl, by decide +kernel, by decide +kernel⟩
abbrev s__law_times : Stmt := topS 29
theorem sc__law_times : FnScope N__law_times ["one", "other"] (defScope s__law_times) := ⟨rfl, rfl, rfl, by decide +kernel, rfl, by decide +kernel, by decide +kernel⟩
abbrev s__law_duration : Stmt := topS 30
theorem sc__law_duration : FnScope N__law_duration ["pool"] (defScope s__law_duration) := ⟨rfl, rfl, rfl, by decide +kernel, rfl, by decide +kernel, by decide +kernel⟩
abbrev s__law_tone : Stmt := topS 31
theorem sc__law_tone : FnScope N__law_tone ["pool"] (defScope s__law_tone) := ⟨rfl, rfl, rfl, by decide +kernel, rfl, by decide +kernel, by decide +kernel⟩
abbrev s__law_interval : Stmt := topS 32
theorem sc__law_interval : FnScope N__law_interval ["pool"] (defScope s__law_interval) := ⟨rfl, rfl, rfl, by decide +kernel, rfl, by decide +kernel, by decide +kernel⟩
abbrev s__law_column : Stmt := topS 33
theorem sc__law_column : FnScope N__law_column ["pool", "voices", "before", "some"] (defScope s__law_column) := ⟨rfl, rfl, rfl, by decide +kernel, rfl, by decide +kernel, by decide +kernel⟩
abbrev s__law_raised : Stmt := topS 34
theorem sc__law_raised : FnScope N__law_raised ["cell", "sign", "tone"] (defScope s__law_raised) := ⟨rfl, rfl, rfl, by decide +kernel, rfl, by decide +kernel, by decide +kernel⟩
abbrev s__law_listed : Stmt := topS 35
theorem sc__law_listed : FnScope N__law_listed ["thing"] (defScope s__law_listed) := ⟨rfl, rfl, rfl, by decide +kernel, rfl, by decide +kernel, by decide +kernel⟩
abbrev s__law_height : Stmt := topS 36
theorem sc__law_height : FnScope N__law_height ["tone"] (defScope s__law_height) := ⟨rfl, rfl, rfl, by decide +kernel, rfl, by decide +kernel, by decide +kernel⟩
abbrev s__law_test : Stmt := topS 37
theorem sc__law_test : FnScope N__law_test ["pool", "voices"] (defScope s__law_test) := ⟨rfl, rfl, rfl, by decide +kernel, rfl, by decide +kernel, by decide +kernel⟩
abbrev s__law_loose : Stmt := topS 38
theorem sc__law_loose : FnScope N__law_loose ["entry", "before"] (defScope s__law_loose) := ⟨rfl, rfl, rfl, by decide +kernel, rfl, by decide +kernel, by decide +kernel⟩
abbrev s__law_melodic : Stmt := topS 39
theorem sc__law_melodic : FnScope N__law_melodic ["voice", "one", "other"] (defScope s__law_melodic) := ⟨rfl, rfl, rfl, by decide +kernel, rfl, by decide +kernel, by decide +kernel⟩
abbrev s__law_holds : Stmt := topS 40
theorem sc__law_holds : FnScope N__law_holds ["test", "one", "other"] (defScope s__law_holds) := ⟨rfl, rfl, rfl, by decide +kernel, rfl, by decide +kernel, by decide +kernel⟩
abbrev s__law_silence : Stmt := topS 41
theorem sc__law_silence : FnScope N__law_silence ["many"] (defScope s__law_silence) := ⟨rfl, rfl, rfl, by decide +kernel, rfl, by decide +kernel, by decide +kernel⟩
abbrev s__law_near : Stmt := topS 42
theorem sc__law_near : FnScope N__law_near ["pool", "one", "other"] (defScope s__law_near) := ⟨rfl, rfl, rfl, by decide +kernel, rfl, by decide +kernel, by decide +kernel⟩
abbrev s__law_so : Stmt := topS 43
theorem sc__law_so : FnScope N__law_so ["pool", "thing"] (defScope s__law_so) := ⟨rfl, rfl, rfl, by decide +kernel, rfl, by decide +kernel, by decide +kernel⟩
abbrev s_law : Stmt := topS 44
theorem sc_law : FnScope N_law ["script"] (defScope s_law) := ⟨rfl, rfl, rfl, by decide +kernel, rfl, by decide +kernel, by decide +kernel⟩

structure Txt (K : PySem.W.Frag) (mg : Str → Option Value) (wd : World) where
  f_fraction : Addr
  fd_fraction : FuncData
  F_fraction : Fun K "fraction" "fraction" s_fraction f_fraction fd_fraction
  g_fraction : mg "fraction" = some (.ref f_fraction)
  b_fraction : Binds K fd_fraction ["n", "d"] []
  f_quotient : Addr
  fd_quotient : FuncData
  F_quotient : Fun K "quotient" "quotient" s_quotient f_quotient fd_quotient
  g_quotient : mg "quotient" = some (.ref f_quotient)
  b_quotient : Binds K fd_quotient ["one", "other"] []
  f_is_less : Addr
  fd_is_less : FuncData
  F_is_less : Fun K "is_less" "is_less" s_is_less f_is_less fd_is_less
  g_is_less : mg "is_less" = some (.ref f_is_less)
  b_is_less : Binds K fd_is_less ["one", "other"] []
  f_height : Addr
  fd_height : FuncData
  F_height : Fun K "height" "height" s_height f_height fd_height
  g_height : mg "height" = some (.ref f_height)
  b_height : Binds K fd_height ["interval"] []
  f_between : Addr
  fd_between : FuncData
  F_between : Fun K "between" "between" s_between f_between fd_between
  g_between : mg "between" = some (.ref f_between)
  b_between : Binds K fd_between ["one", "other"] []
  f_settled_entry : Addr
  fd_settled_entry : FuncData
  F_settled_entry : Fun K "settled_entry" "settled_entry" s_settled_entry f_settled_entry fd_settled_entry
  g_settled_entry : mg "settled_entry" = some (.ref f_settled_entry)
  b_settled_entry : Binds K fd_settled_entry ["entry"] []
  f_settled : Addr
  fd_settled : FuncData
  F_settled : Fun K "settled" "settled" s_settled f_settled fd_settled
  g_settled : mg "settled" = some (.ref f_settled)
  b_settled : Binds K fd_settled ["column"] []
  f_is_loose : Addr
  fd_is_loose : FuncData
  F_is_loose : Fun K "is_loose" "is_loose" s_is_loose f_is_loose fd_is_loose
  g_is_loose : mg "is_loose" = some (.ref f_is_loose)
  b_is_loose : Binds K fd_is_loose ["entry", "before"] []
  f_settled_test : Addr
  fd_settled_test : FuncData
  F_settled_test : Fun K "settled_test" "settled_test" s_settled_test f_settled_test fd_settled_test
  g_settled_test : mg "settled_test" = some (.ref f_settled_test)
  b_settled_test : Binds K fd_settled_test ["test"] []
  f_melodic : Addr
  fd_melodic : FuncData
  F_melodic : Fun K "melodic" "melodic" s_melodic f_melodic fd_melodic
  g_melodic : mg "melodic" = some (.ref f_melodic)
  b_melodic : Binds K fd_melodic ["voice", "one", "other"] []
  f_upright : Addr
  fd_upright : FuncData
  F_upright : Fun K "upright" "upright" s_upright f_upright fd_upright
  g_upright : mg "upright" = some (.ref f_upright)
  b_upright : Binds K fd_upright ["voice", "higher", "other"] []
  f_along : Addr
  fd_along : FuncData
  F_along : Fun K "along" "along" s_along f_along fd_along
  g_along : mg "along" = some (.ref f_along)
  b_along : Binds K fd_along ["voice", "second", "one", "other"] []
  f_lasts : Addr
  fd_lasts : FuncData
  F_lasts : Fun K "lasts" "lasts" s_lasts f_lasts fd_lasts
  g_lasts : mg "lasts" = some (.ref f_lasts)
  b_lasts : Binds K fd_lasts ["low", "high", "one", "other"] []
  f_is_true : Addr
  fd_is_true : FuncData
  F_is_true : Fun K "is_true" "is_true" s_is_true f_is_true fd_is_true
  g_is_true : mg "is_true" = some (.ref f_is_true)
  b_is_true : Binds K fd_is_true ["test", "one", "other"] []
  f_holds : Addr
  fd_holds : FuncData
  F_holds : Fun K "holds" "holds" s_holds f_holds fd_holds
  g_holds : mg "holds" = some (.ref f_holds)
  b_holds : Binds K fd_holds ["test", "one", "other"] []
  f__law_pool : Addr
  fd__law_pool : FuncData
  F__law_pool : Fun K "_law_pool" "_law_pool" s__law_pool f__law_pool fd__law_pool
  g__law_pool : mg "_law_pool" = some (.ref f__law_pool)
  b__law_pool : Binds K fd__law_pool ["script"] []
  f__law_take : Addr
  fd__law_take : FuncData
  F__law_take : Fun K "_law_take" "_law_take" s__law_take f__law_take fd__law_take
  g__law_take : mg "_law_take" = some (.ref f__law_take)
  b__law_take : Binds K fd__law_take ["pool", "many"] []
  f__law_pick : Addr
  fd__law_pick : FuncData
  F__law_pick : Fun K "_law_pick" "_law_pick" s__law_pick f__law_pick fd__law_pick
  g__law_pick : mg "_law_pick" = some (.ref f__law_pick)
  b__law_pick : Binds K fd__law_pick ["pool", "rows"] []
  f__law_is_integer : Addr
  fd__law_is_integer : FuncData
  F__law_is_integer : Fun K "_law_is_integer" "_law_is_integer" s__law_is_integer f__law_is_integer fd__law_is_integer
  g__law_is_integer : mg "_law_is_integer" = some (.ref f__law_is_integer)
  b__law_is_integer : Binds K fd__law_is_integer ["actual"] []
  f__law_same : Addr
  fd__law_same : FuncData
  F__law_same : Fun K "_law_same" "_law_same" s__law_same f__law_same fd__law_same
  g__law_same : mg "_law_same" = some (.ref f__law_same)
  b__law_same : Binds K fd__law_same ["actual", "due"] []
  f__law_lowest : Addr
  fd__law_lowest : FuncData
  F__law_lowest : Fun K "_law_lowest" "_law_lowest" s__law_lowest f__law_lowest fd__law_lowest
  g__law_lowest : mg "_law_lowest" = some (.ref f__law_lowest)
  b__law_lowest : Binds K fd__law_lowest ["n", "d"] []
  f__law_sum : Addr
  fd__law_sum : FuncData
  F__law_sum : Fun K "_law_sum" "_law_sum" s__law_sum f__law_sum fd__law_sum
  g__law_sum : mg "_law_sum" = some (.ref f__law_sum)
  b__law_sum : Binds K fd__law_sum ["one", "other"] []
  f__law_times : Addr
  fd__law_times : FuncData
  F__law_times : Fun K "_law_times" "_law_times" s__law_times f__law_times fd__law_times
  g__law_times : mg "_law_times" = some (.ref f__law_times)
  b__law_times : Binds K fd__law_times ["one", "other"] []
  f__law_duration : Addr
  fd__law_duration : FuncData
  F__law_duration : Fun K "_law_duration" "_law_duration" s__law_duration f__law_duration fd__law_duration
  g__law_duration : mg "_law_duration" = some (.ref f__law_duration)
  b__law_duration : Binds K fd__law_duration ["pool"] []
  f__law_tone : Addr
  fd__law_tone : FuncData
  F__law_tone : Fun K "_law_tone" "_law_tone" s__law_tone f__law_tone fd__law_tone
  g__law_tone : mg "_law_tone" = some (.ref f__law_tone)
  b__law_tone : Binds K fd__law_tone ["pool"] []
  f__law_interval : Addr
  fd__law_interval : FuncData
  F__law_interval : Fun K "_law_interval" "_law_interval" s__law_interval f__law_interval fd__law_interval
  g__law_interval : mg "_law_interval" = some (.ref f__law_interval)
  b__law_interval : Binds K fd__law_interval ["pool"] []
  f__law_column : Addr
  fd__law_column : FuncData
  F__law_column : Fun K "_law_column" "_law_column" s__law_column f__law_column fd__law_column
  g__law_column : mg "_law_column" = some (.ref f__law_column)
  b__law_column : Binds K fd__law_column ["pool", "voices", "before", "some"] []
  f__law_raised : Addr
  fd__law_raised : FuncData
  F__law_raised : Fun K "_law_raised" "_law_raised" s__law_raised f__law_raised fd__law_raised
  g__law_raised : mg "_law_raised" = some (.ref f__law_raised)
  b__law_raised : Binds K fd__law_raised ["cell", "sign", "tone"] []
  f__law_listed : Addr
  fd__law_listed : FuncData
  F__law_listed : Fun K "_law_listed" "_law_listed" s__law_listed f__law_listed fd__law_listed
  g__law_listed : mg "_law_listed" = some (.ref f__law_listed)
  b__law_listed : Binds K fd__law_listed ["thing"] []
  f__law_height : Addr
  fd__law_height : FuncData
  F__law_height : Fun K "_law_height" "_law_height" s__law_height f__law_height fd__law_height
  g__law_height : mg "_law_height" = some (.ref f__law_height)
  b__law_height : Binds K fd__law_height ["tone"] []
  f__law_test : Addr
  fd__law_test : FuncData
  F__law_test : Fun K "_law_test" "_law_test" s__law_test f__law_test fd__law_test
  g__law_test : mg "_law_test" = some (.ref f__law_test)
  b__law_test : Binds K fd__law_test ["pool", "voices"] []
  f__law_loose : Addr
  fd__law_loose : FuncData
  F__law_loose : Fun K "_law_loose" "_law_loose" s__law_loose f__law_loose fd__law_loose
  g__law_loose : mg "_law_loose" = some (.ref f__law_loose)
  b__law_loose : Binds K fd__law_loose ["entry", "before"] []
  f__law_melodic : Addr
  fd__law_melodic : FuncData
  F__law_melodic : Fun K "_law_melodic" "_law_melodic" s__law_melodic f__law_melodic fd__law_melodic
  g__law_melodic : mg "_law_melodic" = some (.ref f__law_melodic)
  b__law_melodic : Binds K fd__law_melodic ["voice", "one", "other"] []
  f__law_holds : Addr
  fd__law_holds : FuncData
  F__law_holds : Fun K "_law_holds" "_law_holds" s__law_holds f__law_holds fd__law_holds
  g__law_holds : mg "_law_holds" = some (.ref f__law_holds)
  b__law_holds : Binds K fd__law_holds ["test", "one", "other"] []
  f__law_silence : Addr
  fd__law_silence : FuncData
  F__law_silence : Fun K "_law_silence" "_law_silence" s__law_silence f__law_silence fd__law_silence
  g__law_silence : mg "_law_silence" = some (.ref f__law_silence)
  b__law_silence : Binds K fd__law_silence ["many"] []
  f__law_near : Addr
  fd__law_near : FuncData
  F__law_near : Fun K "_law_near" "_law_near" s__law_near f__law_near fd__law_near
  g__law_near : mg "_law_near" = some (.ref f__law_near)
  b__law_near : Binds K fd__law_near ["pool", "one", "other"] []
  f__law_so : Addr
  fd__law_so : FuncData
  F__law_so : Fun K "_law_so" "_law_so" s__law_so f__law_so fd__law_so
  g__law_so : mg "_law_so" = some (.ref f__law_so)
  b__law_so : Binds K fd__law_so ["pool", "thing"] []
  f_law : Addr
  fd_law : FuncData
  F_law : Fun K "law" "law" s_law f_law fd_law
  g_law : mg "law" = some (.ref f_law)
  b_law : Binds K fd_law ["script"] []
  z_tuple : mg "tuple" = none
  z_len : mg "len" = none
  z_any : mg "any" = none
  z_int : mg "int" = none
  z_isinstance : mg "isinstance" = none
  z_bool : mg "bool" = none
  z_range : mg "range" = none
  z_all : mg "all" = none
  z_list : mg "list" = none
  z_str : mg "str" = none
  z_abs : mg "abs" = none
  z_max : mg "max" = none
  z_min : mg "min" = none
  m_gcd : mg "gcd" = some (.builtin "math.gcd")
  c_VOICES : GlobD K mg "VOICES" (.con (.ref aVOICES))
  k_VOICES : KdT K wd aVOICES tVOICES

section
variable {P : Program} {wd : World} {K : PySem.W.Frag} {mg : Str → Option Value} {base : Heap}
theorem ok_fraction (T : Txt K mg wd) : FnOk P wd K mg base (L2.CX P wd) 1 T.f_fraction T.fd_fraction ["n", "d"] (upP K sp_fraction) :=
  okM T.F_fraction sc_fraction len_fraction fun cdv A outer s H E hr => by
    have hu := hr.units
    exact ⟨r_fraction, (mss_cons (ms_set (i := 2) sc_fraction.nd (by rfl) (.inl rfl) (me_callBfun cr_gcd la_gcd mr_I2 (by rfl) T.m_gcd (ma_cons (mv 0) (ma_cons (mv 1) ma_nil))))
      (mss_cons (ms_if (mt_cmp op_lt lf_B0 mn_I0 (mv 1) me_int (nomark _)) (mss_one (ms_set (i := 2) sc_fraction.nd (by rfl) (.inl rfl) (me_un un_neg lf_neg mn_neg (mv 2)))) mss_nil)
      (mss_one (ms_ret (me_tup (ma_cons (me_op op_fdivA lf_I mn_I (mv 0) (mv 2)) (ma_cons (me_op op_fdivA lf_I mn_I (mv 1) (mv 2)) ma_nil))))))), math_fraction⟩
theorem ok_quotient (T : Txt K mg wd) : FnOk P wd K mg base (L2.CX P wd) 2 T.f_quotient T.fd_quotient ["one", "other"] (upP K sp_quotient) :=
  okM T.F_quotient sc_quotient len_quotient fun cdv A outer s H E hr => by
    have hu := hr.units
    exact ⟨r_quotient, (mss_one (ms_ret (me_call (ok_fraction T) mono_fraction (hr.mono (by decide)) (takes_of rfl rfl rfl rfl) (by rfl) T.g_fraction T.F_fraction.kp T.b_fraction (ma_cons (me_op op_mulAll (lf_mul (cell := false)) mn_mul (me_ix ix_seq lf_ix mn_ix (mv 0) me_int (fun _ _ => rfl)) (me_ix ix_seq lf_ix mn_ix (mv 1) me_int (fun _ _ => rfl))) (ma_cons (me_op op_mulAll (lf_mul (cell := false)) mn_mul (me_ix ix_seq lf_ix mn_ix (mv 0) me_int (fun _ _ => rfl)) (me_ix ix_seq lf_ix mn_ix (mv 1) me_int (fun _ _ => rfl))) ma_nil))))), math_quotient⟩
theorem ok_is_less (T : Txt K mg wd) : FnOk P wd K mg base (L2.CX P wd) 1 T.f_is_less T.fd_is_less ["one", "other"] (upP K sp_is_less) :=
  okM T.F_is_less sc_is_less len_is_less fun cdv A outer s H E hr => by
    have hu := hr.units
    exact ⟨r_is_less, (mss_one (ms_ret (me_cmp op_lt lf_B0 mn_I0 (me_op op_mulAll (lf_mul (cell := false)) mn_mul (me_ix ix_seq lf_ix mn_ix (mv 0) me_int (fun _ _ => rfl)) (me_ix ix_seq lf_ix mn_ix (mv 1) me_int (fun _ _ => rfl))) (me_op op_mulAll (lf_mul (cell := false)) mn_mul (me_ix ix_seq lf_ix mn_ix (mv 1) me_int (fun _ _ => rfl)) (me_ix ix_seq lf_ix mn_ix (mv 0) me_int (fun _ _ => rfl))) (nomark _)))), math_is_less⟩
theorem ok_height (T : Txt K mg wd) : FnOk P wd K mg base (L2.CX P wd) 1 T.f_height T.fd_height ["interval"] (upP K sp_height) :=
  okM T.F_height sc_height len_height fun cdv A outer s H E hr => by
    have hu := hr.units
    exact ⟨r_height, (mss_one (ms_ret (me_op op_addAll (lf_add (cell := false)) mn_add (me_op op_mulAll (lf_mul (cell := false)) mn_mul me_int (me_ix ix_seq lf_ix mn_ix (mv 0) me_int (fun _ _ => rfl))) (me_op op_mulAll (lf_mul (cell := false)) mn_mul me_int (me_ix ix_seq lf_ix mn_ix (mv 0) me_int (fun _ _ => rfl)))))), math_height⟩
theorem ok_between (T : Txt K mg wd) : FnOk P wd K mg base (L2.CX P wd) 1 T.f_between T.fd_between ["one", "other"] (upP K sp_between) :=
  okM T.F_between sc_between len_between fun cdv A outer s H E hr => by
    have hu := hr.units
    exact ⟨r_between, (mss_one (ms_ret (me_tup (ma_cons (me_op op_sub lf_I0 mn_I0 (me_ix ix_seq lf_ix mn_ix (mv 1) me_int (fun _ _ => rfl)) (me_ix ix_seq lf_ix mn_ix (mv 0) me_int (fun _ _ => rfl))) (ma_cons (me_op op_sub lf_I0 mn_I0 (me_ix ix_seq lf_ix mn_ix (mv 1) me_int (fun _ _ => rfl)) (me_ix ix_seq lf_ix mn_ix (mv 0) me_int (fun _ _ => rfl))) ma_nil))))), math_between⟩
theorem ok_settled_entry (T : Txt K mg wd) : FnOk P wd K mg base (L2.CX P wd) 1 T.f_settled_entry T.fd_settled_entry ["entry"] (upP K sp_settled_entry) :=
  okM T.F_settled_entry sc_settled_entry len_settled_entry fun cdv A outer s H E hr => by
    have hu := hr.units
    exact ⟨r_settled_entry, (mss_one (ms_ret (me_if (mt_cmp op_isN1 lf_isN mn_isN (mv 0) me_non (nomark _)) me_non (me_tup (ma_cons (me_callTy call_tuple_of la_tuple mr_tuple (by rfl) T.z_tuple (by decide +kernel) (ma_cons (me_ix ix_seq lf_ix mn_ix (mv 0) me_int (fun _ _ => rfl)) ma_nil)) (ma_cons (me_ix ix_seq lf_ix mn_ix (mv 0) me_int (fun _ _ => rfl)) ma_nil)))))), math_settled_entry⟩
theorem ok_settled (T : Txt K mg wd) : FnOk P wd K mg base (L2.CX P wd) 2 T.f_settled T.fd_settled ["column"] (upP K sp_settled) :=
  okM T.F_settled sc_settled len_settled fun cdv A outer s H E hr => by
    have hu := hr.units
    exact ⟨r_settled, (mss_one (ms_ret (me_tup (ma_cons (me_callTy call_tuple_of la_tuple mr_tuple (by rfl) T.z_tuple (by decide +kernel) (ma_cons (me_ix ix_seq lf_ix mn_ix (mv 0) me_int (fun _ _ => rfl)) ma_nil)) (ma_cons (me_ix ix_seq lf_ix mn_ix (mv 0) me_int (fun _ _ => rfl)) (ma_cons (me_callTy call_tuple_of la_tuple mr_tuple (by rfl) T.z_tuple (by decide +kernel) (ma_cons (me_lc (own := [("entry", 1)]) false rfl sc_settled.nd (mi_seq (me_ix ix_seq lf_ix mn_ix (mv 0) me_int (fun _ _ => rfl))) (blkOk_by (N := N_settled) (sc := defScope s_settled) (by decide +kernel)) (fun _ _ _ _ _ => pg_name (i := 1) sc_settled.nd (by rfl) (.inl rfl)) cg_name (fun _ _ _ _ _ => mts_nil) (fun _ _ _ _ _ => (me_call (ok_settled_entry T) mono_settled_entry (hr.mono (by decide)) takes0 (by rfl) T.g_settled_entry T.F_settled_entry.kp T.b_settled_entry (ma_cons (mv 1) ma_nil)))) ma_nil)) ma_nil)))))), math_settled⟩
theorem ok_is_loose (T : Txt K mg wd) : FnOk P wd K mg base (L2.CX P wd) 1 T.f_is_loose T.fd_is_loose ["entry", "before"] (upP K sp_is_loose) :=
  okM T.F_is_loose sc_is_loose len_is_loose fun cdv A outer s H E hr => by
    have hu := hr.units
    exact ⟨r_is_loose, (mss_one (ms_ret (me_and (me_cmp op_notN1 lf_notN mn_isN (mv 0) me_non (nomark _)) (me_and (me_not (me_ix ix_seq lf_ix mn_ix (mv 0) me_int (fun _ _ => rfl))) (me_one (me_or (me_cmp op_isN1 lf_isN mn_isN (mv 1) me_non (nomark _)) (me_one (me_cmp (op_neAll hu) lf_ne mn_eq (me_ix ix_seq lf_ix mn_ix (mv 1) me_int (fun _ _ => rfl)) (me_ix ix_seq lf_ix mn_ix (mv 0) me_int (fun _ _ => rfl)) (nomark _))))))))), math_is_loose⟩
theorem ok_settled_test (T : Txt K mg wd) : FnOk P wd K mg base (L2.CX P wd) 1 T.f_settled_test T.fd_settled_test ["test"] (upP K sp_settled_test) :=
  okM T.F_settled_test sc_settled_test len_settled_test fun cdv A outer s H E hr => by
    have hu := hr.units
    exact ⟨r_settled_test, (mss_cons (ms_if (mt_cmp (op_eqAll hu) lf_eq mn_eq (me_ix ix_seq lf_ix mn_ix (mv 0) me_int (fun _ _ => rfl)) me_str (nomark _)) (mss_one (ms_ret (me_tup (ma_cons me_str (ma_cons (me_ix ix_seq lf_ix mn_ix (mv 0) me_int (fun _ _ => rfl)) (ma_cons (me_callTy call_tuple_of la_tuple mr_tuple (by rfl) T.z_tuple (by decide +kernel) (ma_cons (me_lc (own := [("part", 1)]) false rfl sc_settled_test.nd (mi_seq (me_ix ix_seq lf_ix mn_ix (mv 0) me_int (fun _ _ => rfl))) (blkOk_by (N := N_settled_test) (sc := defScope s_settled_test) (by decide +kernel)) (fun _ _ _ _ _ => pg_name (i := 1) sc_settled_test.nd (by rfl) (.inl rfl)) cg_name (fun _ _ _ _ _ => mts_nil) (fun _ _ _ _ _ => (me_callTy call_tuple_of la_tuple mr_tuple (by rfl) T.z_tuple (by decide +kernel) (ma_cons (mv 1) ma_nil)))) ma_nil)) ma_nil)))))) mss_nil)
      (mss_cons (ms_if (mt_cmp (op_eqAll hu) lf_eq mn_eq (me_ix ix_seq lf_ix mn_ix (mv 0) me_int (fun _ _ => rfl)) me_str (nomark _)) (mss_one (ms_ret (me_tup (ma_cons me_str (ma_cons (me_ix ix_seq lf_ix mn_ix (mv 0) me_int (fun _ _ => rfl)) (ma_cons (me_ix ix_seq lf_ix mn_ix (mv 0) me_int (fun _ _ => rfl)) (ma_cons (me_callTy call_tuple_of la_tuple mr_tuple (by rfl) T.z_tuple (by decide +kernel) (ma_cons (me_ix ix_seq lf_ix mn_ix (mv 0) me_int (fun _ _ => rfl)) ma_nil)) ma_nil))))))) mss_nil)
      (mss_cons (ms_if (mt_cmp (op_eqAll hu) lf_eq mn_eq (me_ix ix_seq lf_ix mn_ix (mv 0) me_int (fun _ _ => rfl)) me_str (nomark _)) (mss_one (ms_ret (me_tup (ma_cons me_str (ma_cons (me_callTy call_tuple_of la_tuple mr_tuple (by rfl) T.z_tuple (by decide +kernel) (ma_cons (me_ix ix_seq lf_ix mn_ix (mv 0) me_int (fun _ _ => rfl)) ma_nil)) (ma_cons (me_callTy call_tuple_of la_tuple mr_tuple (by rfl) T.z_tuple (by decide +kernel) (ma_cons (me_ix ix_seq lf_ix mn_ix (mv 0) me_int (fun _ _ => rfl)) ma_nil)) ma_nil)))))) mss_nil)
      (mss_one (ms_ret (me_callTy call_tuple_of la_tuple mr_tuple (by rfl) T.z_tuple (by decide +kernel) (ma_cons (mv 0) ma_nil))))))), math_settled_test⟩
theorem ok_melodic (T : Txt K mg wd) : FnOk P wd K mg base (L2.CX P wd) 2 T.f_melodic T.fd_melodic ["voice", "one", "other"] (upP K sp_melodic) :=
  okM T.F_melodic sc_melodic len_melodic fun cdv A outer s H E hr => by
    have hu := hr.units
    exact ⟨r_melodic, (mss_cons (ms_par (i := 3) (j := 4) rfl sc_melodic.nd (by rfl) (by rfl) (by decide) (by rfl) (by rfl) (ma_cons (me_ix ix_seq lf_ix mn_ix (me_ix ix_seq lf_ix mn_ix (mv 1) me_int (fun _ _ => rfl)) (mv 0) (fun _ _ => rfl)) (ma_cons (me_ix ix_seq lf_ix mn_ix (me_ix ix_seq lf_ix mn_ix (mv 2) me_int (fun _ _ => rfl)) (mv 0) (fun _ _ => rfl)) ma_nil)) (by rfl))
      (mss_cons (ms_if (MW.mt (mw_or (mt_cmp op_isN1 lf_isN mn_isN (mv 3) me_non (nomark _)) (mw_or (mt_cmp op_isN1 lf_isN mn_isN (mv 4) me_non (nomark _)) (mw_or1 (mt_not (mt_tru (me_ix ix_seq lf_ix mn_ix (mv 4) me_int (fun _ _ => rfl)))))))) (mss_one (ms_ret me_non)) mss_nil)
      (mss_one (ms_ret (me_call (ok_between T) mono_between (hr.mono (by decide)) (takes_of rfl rfl rfl rfl) (by rfl) T.g_between T.F_between.kp T.b_between (ma_cons (me_ix ix_seq lf_ix mn_ix (mv 3) me_int (fun _ _ => rfl)) (ma_cons (me_ix ix_seq lf_ix mn_ix (mv 4) me_int (fun _ _ => rfl)) ma_nil))))))), math_melodic⟩
theorem ok_upright (T : Txt K mg wd) : FnOk P wd K mg base (L2.CX P wd) 2 T.f_upright T.fd_upright ["voice", "higher", "other"] (upP K sp_upright) :=
  okM T.F_upright sc_upright len_upright fun cdv A outer s H E hr => by
    have hu := hr.units
    exact ⟨r_upright, (mss_cons (ms_par (i := 3) (j := 4) rfl sc_upright.nd (by rfl) (by rfl) (by decide) (by rfl) (by rfl) (ma_cons (me_ix ix_seq lf_ix mn_ix (me_ix ix_seq lf_ix mn_ix (mv 2) me_int (fun _ _ => rfl)) (mv 0) (fun _ _ => rfl)) (ma_cons (me_ix ix_seq lf_ix mn_ix (me_ix ix_seq lf_ix mn_ix (mv 2) me_int (fun _ _ => rfl)) (mv 1) (fun _ _ => rfl)) ma_nil)) (by rfl))
      (mss_one (ms_ret (me_if (MW.mt (mw_or (mt_cmp op_isN1 lf_isN mn_isN (mv 3) me_non (nomark _)) (mw_or1 (mt_cmp op_isN1 lf_isN mn_isN (mv 4) me_non (nomark _))))) me_non (me_call (ok_height T) mono_height (hr.mono (by decide)) (takes_of rfl rfl rfl rfl) (by rfl) T.g_height T.F_height.kp T.b_height (ma_cons (me_call (ok_between T) mono_between (hr.mono (by decide)) (takes_of rfl rfl rfl rfl) (by rfl) T.g_between T.F_between.kp T.b_between (ma_cons (me_ix ix_seq lf_ix mn_ix (mv 3) me_int (fun _ _ => rfl)) (ma_cons (me_ix ix_seq lf_ix mn_ix (mv 4) me_int (fun _ _ => rfl)) ma_nil))) ma_nil)))))), math_upright⟩
theorem ok_along (T : Txt K mg wd) : FnOk P wd K mg base (L2.CX P wd) 3 T.f_along T.fd_along ["voice", "second", "one", "other"] (upP K sp_along) :=
  okM T.F_along sc_along len_along fun cdv A outer s H E hr => by
    have hu := hr.units
    exact ⟨r_along, (mss_cons (ms_set (i := 4) sc_along.nd (by rfl) (.inl rfl) (me_lst false (ma_cons (me_call (ok_melodic T) mono_melodic (hr.mono (by decide)) (takes_of rfl rfl rfl rfl) (by rfl) T.g_melodic T.F_melodic.kp T.b_melodic (ma_cons (mv 0) (ma_cons (mv 2) (ma_cons (mv 3) ma_nil)))) (ma_cons (me_call (ok_melodic T) mono_melodic (hr.mono (by decide)) (takes_of rfl rfl rfl rfl) (by rfl) T.g_melodic T.F_melodic.kp T.b_melodic (ma_cons (mv 1) (ma_cons (mv 2) (ma_cons (mv 3) ma_nil)))) ma_nil))))
      (mss_cons (ms_if (mt_cmp (op_inN (Nat.lt_of_le_of_lt (Nat.le_succ _) (room66 hr))) lf_inN mn_inN me_non (mv 4) rfl) (mss_one (ms_ret me_bl)) mss_nil)
      (mss_cons (ms_setLc (i := 5) (own := [("move", 6)]) false rfl sc_along.nd (by rfl) (by rfl) (by rfl) (mi_seq (mv 4)) (blkOk_by (N := N_along) (sc := defScope s_along) (by decide +kernel)) (fun _ _ _ _ _ => pg_name (i := 6) sc_along.nd (by rfl) (.inl rfl)) cg_name (fun _ _ _ _ _ => mts_nil) (fun _ _ _ _ _ => (me_call (ok_height T) mono_height (hr.mono (by decide)) takes0 (by rfl) T.g_height T.F_height.kp T.b_height (ma_cons (mv 6) ma_nil))))
      (mss_one (ms_ret (me_or (me_and (me_cmp op_gt lf_B0 mn_I0 (me_ix ix_seq lf_ix mn_ix (mv 5) me_int (fun _ _ => rfl)) me_int (nomark _)) (me_one (me_cmp op_gt lf_B0 mn_I0 (me_ix ix_seq lf_ix mn_ix (mv 5) me_int (fun _ _ => rfl)) me_int (nomark _)))) (me_one (me_and (me_cmp op_lt lf_B0 mn_I0 (me_ix ix_seq lf_ix mn_ix (mv 5) me_int (fun _ _ => rfl)) me_int (nomark _)) (me_one (me_cmp op_lt lf_B0 mn_I0 (me_ix ix_seq lf_ix mn_ix (mv 5) me_int (fun _ _ => rfl)) me_int (nomark _))))))))))), math_along⟩
theorem ok_lasts (T : Txt K mg wd) : FnOk P wd K mg base (L2.CX P wd) 3 T.f_lasts T.fd_lasts ["low", "high", "one", "other"] (upP K sp_lasts) :=
  okM T.F_lasts sc_lasts len_lasts fun cdv A outer s H E hr => by
    have hu := hr.units
    exact ⟨r_lasts, (mss_cons (ms_if (mt_cmp (op_eqAll hu) lf_eq mn_eq (me_ix ix_seq lf_ix mn_ix (me_ix ix_seq lf_ix mn_ix (mv 2) me_int (fun _ _ => rfl)) me_int (fun _ _ => rfl)) me_int (nomark _)) (mss_one (ms_ret me_bl)) mss_nil)
      (mss_cons (ms_set (i := 4) sc_lasts.nd (by rfl) (.inl rfl) (me_call (ok_quotient T) mono_quotient (hr.mono (by decide)) (takes_of rfl rfl rfl rfl) (by rfl) T.g_quotient T.F_quotient.kp T.b_quotient (ma_cons (me_ix ix_seq lf_ix mn_ix (mv 3) me_int (fun _ _ => rfl)) (ma_cons (me_ix ix_seq lf_ix mn_ix (mv 2) me_int (fun _ _ => rfl)) ma_nil))))
      (mss_one (ms_ret (me_and (me_not (me_call (ok_is_less T) mono_is_less (hr.mono (by decide)) (takes_of rfl rfl rfl rfl) (by rfl) T.g_is_less T.F_is_less.kp T.b_is_less (ma_cons (mv 4) (ma_cons (mv 0) ma_nil)))) (me_one (me_not (me_call (ok_is_less T) mono_is_less (hr.mono (by decide)) (takes_of rfl rfl rfl rfl) (by rfl) T.g_is_less T.F_is_less.kp T.b_is_less (ma_cons (mv 1) (ma_cons (mv 4) ma_nil)))))))))), math_lasts⟩
theorem ok_is_true (T : Txt K mg wd) : FnOk P wd K mg base (L2.CX P wd) 4 T.f_is_true T.fd_is_true ["test", "one", "other"] (upP K sp_is_true) :=
  okM T.F_is_true sc_is_true len_is_true fun cdv A outer s H E hr => by
    have hu := hr.units
    exact ⟨r_is_true, (mss_cons (ms_set (i := 3) sc_is_true.nd (by rfl) (.inl rfl) (me_ix ix_seq lf_ix mn_ix (mv 0) me_int (fun _ _ => rfl)))
      (mss_cons (ms_if (mt_cmp (op_eqAll hu) lf_eq mn_eq (mv 3) me_str (nomark _)) (mss_one (ms_ret (me_cmp (op_eqAll hu) lf_eq mn_eq (me_ix ix_seq lf_ix mn_ix (mv 2) me_int (fun _ _ => rfl)) (me_ix ix_seq lf_ix mn_ix (mv 0) me_int (fun _ _ => rfl)) (nomark _)))) mss_nil)
      (mss_cons (ms_if (mt_cmp (op_eqAll hu) lf_eq mn_eq (mv 3) me_str (nomark _)) (mss_one (ms_ret (me_call (ok_lasts T) mono_lasts (hr.mono (by decide)) (takes_of rfl rfl rfl rfl) (by rfl) T.g_lasts T.F_lasts.kp T.b_lasts (ma_cons (me_ix ix_seq lf_ix mn_ix (mv 0) me_int (fun _ _ => rfl)) (ma_cons (me_ix ix_seq lf_ix mn_ix (mv 0) me_int (fun _ _ => rfl)) (ma_cons (mv 1) (ma_cons (mv 2) ma_nil))))))) mss_nil)
      (mss_cons (ms_set (i := 4) sc_is_true.nd (by rfl) (.inr rfl) (me_callB call_len la_len mr_len (by rfl) T.z_len (by decide +kernel) (ma_cons (me_ix ix_seq lf_ix mn_ix (mv 2) me_int (fun _ _ => rfl)) ma_nil)))
      (mss_cons (ms_if (mt_tru (me_callB (cr_any rfl) la_any mr_bls (by rfl) T.z_any (by decide +kernel) (ma_cons (me_lc (own := [("voice", 8)]) false rfl sc_is_true.nd (mi_seq (me_slice sl_all (lsl_all (cell := false)) msl_all (mv 0) (mo_some me_int) (mo_some (me_op op_addAll (lf_add (cell := false)) mn_add me_int (me_ix ix_kdict (lf_kd T.k_VOICES) mn_kd (me_globD (by rfl) T.c_VOICES) (mv 3) (fun _ _ => rfl)))))) (blkOk_by (N := N_is_true) (sc := defScope s_is_true) (by decide +kernel)) (fun _ _ _ _ _ => pg_name (i := 8) sc_is_true.nd (by rfl) (.inl rfl)) cg_name (fun _ _ _ _ _ => mts_nil) (fun _ _ _ _ _ => (me_cmp op_ge lf_B0 mn_I0 (mv 8) (mv 4) (nomark _)))) ma_nil))) (mss_one (ms_ret me_bl)) mss_nil)
      (mss_cons (ms_set (i := 5) sc_is_true.nd (by rfl) (.inl rfl) (me_ix ix_seq lf_ix mn_ix (me_ix ix_seq lf_ix mn_ix (mv 2) me_int (fun _ _ => rfl)) (me_ix ix_seq lf_ix mn_ix (mv 0) me_int (fun _ _ => rfl)) (fun _ _ => rfl)))
      (mss_cons (ms_if (mt_cmp (op_eqAll hu) lf_eq mn_eq (mv 3) me_str (nomark _)) (mss_one (ms_ret (me_and (me_cmp op_notN1 lf_notN mn_isN (mv 5) me_non (nomark _)) (me_one (me_ix ix_seq lf_ix mn_ix (mv 5) me_int (fun _ _ => rfl)))))) mss_nil)
      (mss_cons (ms_if (mt_cmp (op_eqAll hu) lf_eq mn_eq (mv 3) me_str (nomark _)) (mss_one (ms_ret (me_cmp op_isN1 lf_isN mn_isN (mv 5) me_non (nomark _)))) mss_nil)
      (mss_cons (ms_if (mt_cmp (op_eqAll hu) lf_eq mn_eq (mv 3) me_str (nomark _)) (mss_one (ms_ret (me_call (ok_is_loose T) mono_is_loose (hr.mono (by decide)) (takes_of rfl rfl rfl rfl) (by rfl) T.g_is_loose T.F_is_loose.kp T.b_is_loose (ma_cons (mv 5) (ma_cons (me_ix ix_seq lf_ix mn_ix (me_ix ix_seq lf_ix mn_ix (mv 1) me_int (fun _ _ => rfl)) (me_ix ix_seq lf_ix mn_ix (mv 0) me_int (fun _ _ => rfl)) (fun _ _ => rfl)) ma_nil))))) mss_nil)
      (mss_cons (ms_if (mt_cmp (op_eqAll hu) lf_eq mn_eq (mv 3) me_str (nomark _)) (mss_one (ms_ret (me_call (ok_along T) mono_along (hr.mono (by decide)) (takes_of rfl rfl rfl rfl) (by rfl) T.g_along T.F_along.kp T.b_along (ma_cons (me_ix ix_seq lf_ix mn_ix (mv 0) me_int (fun _ _ => rfl)) (ma_cons (me_ix ix_seq lf_ix mn_ix (mv 0) me_int (fun _ _ => rfl)) (ma_cons (mv 1) (ma_cons (mv 2) ma_nil))))))) mss_nil)
      (mss_cons (ms_if (mt_cmp op_in_seq lf_inT mn_inT (mv 3) (me_tup (ma_cons me_str (ma_cons me_str ma_nil))) rfl) (mss_cons (ms_set (i := 7) sc_is_true.nd (by rfl) (.inl rfl) (me_call (ok_melodic T) mono_melodic (hr.mono (by decide)) (takes_of rfl rfl rfl rfl) (by rfl) T.g_melodic T.F_melodic.kp T.b_melodic (ma_cons (me_ix ix_seq lf_ix mn_ix (mv 0) me_int (fun _ _ => rfl)) (ma_cons (mv 1) (ma_cons (mv 2) ma_nil)))))
      (mss_cons (ms_if (mt_cmp op_isN1 lf_isN mn_isN (mv 7) me_non (nomark _)) (mss_one (ms_ret me_bl)) mss_nil)
      (mss_one (ms_ret (me_if (mt_cmp (op_eqAll hu) lf_eq mn_eq (mv 3) me_str (nomark _)) (me_cmp (op_inN (Nat.lt_of_le_of_lt (Nat.le_succ _) (room66 hr))) lf_inN mn_inN (mv 7) (me_ix ix_seq lf_ix mn_ix (mv 0) me_int (fun _ _ => rfl)) rfl) (me_chain op_le op_le lf_B0 lf_B0 mn_I0 mn_I0 (me_ix ix_seq lf_ix mn_ix (mv 0) me_int (fun _ _ => rfl)) (me_call (ok_height T) mono_height (hr.mono (by decide)) (takes_of rfl rfl rfl rfl) (by rfl) T.g_height T.F_height.kp T.b_height (ma_cons (mv 7) ma_nil)) (me_ix ix_seq lf_ix mn_ix (mv 0) me_int (fun _ _ => rfl)))))))) mss_nil)
      (mss_cons (ms_set (i := 6) sc_is_true.nd (by rfl) (.inl rfl) (me_call (ok_upright T) mono_upright (hr.mono (by decide)) (takes_of rfl rfl rfl rfl) (by rfl) T.g_upright T.F_upright.kp T.b_upright (ma_cons (me_ix ix_seq lf_ix mn_ix (mv 0) me_int (fun _ _ => rfl)) (ma_cons (me_ix ix_seq lf_ix mn_ix (mv 0) me_int (fun _ _ => rfl)) (ma_cons (mv 2) ma_nil)))))
      (mss_cons (ms_if (mt_cmp op_isN1 lf_isN mn_isN (mv 6) me_non (nomark _)) (mss_one (ms_ret me_bl)) mss_nil)
      (mss_one (ms_ret (me_if (mt_cmp (op_eqAll hu) lf_eq mn_eq (mv 3) me_str (nomark _)) (me_chain op_le op_le lf_B0 lf_B0 mn_I0 mn_I0 (me_ix ix_seq lf_ix mn_ix (mv 0) me_int (fun _ _ => rfl)) (mv 6) (me_ix ix_seq lf_ix mn_ix (mv 0) me_int (fun _ _ => rfl))) (me_cmp op_in_seq lf_inT mn_inT (me_op op_modN lf_I mn_I (mv 6) me_int) (me_ix ix_seq lf_ix mn_ix (mv 0) me_int (fun _ _ => rfl)) rfl))))))))))))))))), math_is_true⟩
theorem ok_holds (T : Txt K mg wd) : FnOk P wd K mg base (L2.CX P wd) 5 T.f_holds T.fd_holds ["test", "one", "other"] (upP K sp_holds) :=
  okM T.F_holds sc_holds len_holds fun cdv A outer s H E hr => by
    have hu := hr.units
    exact ⟨r_holds, (mss_one (ms_ret (me_call (ok_is_true T) mono_is_true (hr.mono (by decide)) (takes_of rfl rfl rfl rfl) (by rfl) T.g_is_true T.F_is_true.kp T.b_is_true (ma_cons (me_call (ok_settled_test T) mono_settled_test (hr.mono (by decide)) (takes_of rfl rfl rfl rfl) (by rfl) T.g_settled_test T.F_settled_test.kp T.b_settled_test (ma_cons (mv 0) ma_nil)) (ma_cons (me_call (ok_settled T) mono_settled (hr.mono (by decide)) (takes_of rfl rfl rfl rfl) (by rfl) T.g_settled T.F_settled.kp T.b_settled (ma_cons (mv 1) ma_nil)) (ma_cons (me_call (ok_settled T) mono_settled (hr.mono (by decide)) (takes_of rfl rfl rfl rfl) (by rfl) T.g_settled T.F_settled.kp T.b_settled (ma_cons (mv 2) ma_nil)) ma_nil)))))), math_holds⟩
theorem ok__law_pool (T : Txt K mg wd) : FnOk P wd K mg base (L2.CX P wd) 1 T.f__law_pool T.fd__law_pool ["script"] (upP K sp__law_pool) :=
  okM T.F__law_pool sc__law_pool len__law_pool fun cdv A outer s H E hr => by
    have hu := hr.units
    exact ⟨r__law_pool, (mss_one (ms_ret (me_lst true (ma_cons (me_lc (own := [("cell", 1)]) false rfl sc__law_pool.nd (mi_seq (mv 0)) (blkOk_by (N := N__law_pool) (sc := defScope s__law_pool) (by decide +kernel)) (fun _ _ _ _ _ => pg_name (i := 1) sc__law_pool.nd (by rfl) (.inl rfl)) cg_name (fun _ _ _ _ _ => mts_nil) (fun _ _ _ _ _ => (me_if (mt_cmp op_ge lf_B0 mn_I0 (mv 1) me_int (nomark _)) (me_op op_mulAll (lf_mul (cell := false)) mn_mul me_int (mv 1)) (me_op op_sub lf_I0 mn_I0 (me_op op_mulAll (lf_mul (cell := false)) mn_mul (me_un un_neg lf_neg mn_neg me_int) (mv 1)) me_int)))) (ma_cons me_int (ma_cons me_int (ma_cons me_int ma_nil))))))), math__law_pool⟩
theorem okr__law_take (T : Txt K mg wd) : ∀ i : Nat, FnOk P wd K mg base (L2.CX P wd) (1 + i) T.f__law_take T.fd__law_take ["pool", "many"] (upP K (spr__law_take i))
  | 0 => okM T.F__law_take sc__law_take (fun ds M Q E h => (lenr__law_take 0 ds M Q E h)) fun cdv A outer s H E hr => ⟨_, mss_never, fun ds M Q' E' _ _ h => (zero__law_take ds M Q' E' h).elim⟩
  | i + 1 => okM T.F__law_take sc__law_take (fun ds M Q E h => (lenr__law_take (i + 1) ds M Q E h)) fun cdv A outer s H E hr => by
    have hu := hr.units
    exact ⟨rr__law_take i, (mss_cons (ms_if (mt_cmp op_gt lf_B0 mn_I0 (me_ix ix_seq lf_ix mn_ix (mv 0) me_int (fun _ _ => rfl)) me_int (nomark _)) (mss_cons (ms_set (i := 4) sc__law_take.nd (by rfl) (.inl rfl) (me_op op_modN lf_I mn_I (me_callTy call_intAll la_int mr_int (by rfl) T.z_int (by decide +kernel) (ma_cons (me_ix ix_seq lf_ix mn_ix (mv 0) me_int (fun _ _ => rfl)) ma_nil)) (mv 1)))
      (mss_cons (ms_asg (me_op op_fdivA lf_I mn_I (me_ix ix_seq lf_ix mn_ix (mv 0) me_int (fun _ _ => rfl)) (mv 1)) (mg_sub (mv 0) me_int set_list ls_list ms_list))
      (mss_one (ms_ret (mv 4))))) mss_nil)
      (mss_cons (ms_set (i := 2) sc__law_take.nd (by rfl) (.inl rfl) me_int)
      (mss_cons (ms_if (mt_cmp op_lt lf_B0 mn_I0 (me_ix ix_seq lf_ix mn_ix (mv 0) me_int (fun _ _ => rfl)) (me_callB call_len la_len mr_len (by rfl) T.z_len (by decide +kernel) (ma_cons (me_ix ix_seq lf_ix mn_ix (mv 0) me_int (fun _ _ => rfl)) ma_nil)) (nomark _)) (mss_one (ms_set (i := 2) sc__law_take.nd (by rfl) (.inl rfl) (me_ix ix_seq lf_ix mn_ix (me_ix ix_seq lf_ix mn_ix (mv 0) me_int (fun _ _ => rfl)) (me_ix ix_seq lf_ix mn_ix (mv 0) me_int (fun _ _ => rfl)) (fun _ _ => rfl)))) mss_nil)
      (mss_cons (ms_asg (me_op op_addAll (lf_add (cell := false)) mn_add (me_ix ix_seq lf_ix mn_ix (mv 0) me_int (fun _ _ => rfl)) me_int) (mg_sub (mv 0) me_int set_list ls_list ms_list))
      (mss_cons (ms_if (mt_cmp op_ge lf_B0 mn_I0 (mv 2) (me_op op_pow lf_I mn_I me_int me_int) (nomark _)) (mss_cons (ms_asg (me_op op_fdivA lf_I mn_I (mv 2) me_int) (mg_sub (mv 0) me_int set_list ls_list ms_list))
      (mss_one (ms_ret (me_call (okr__law_take T i) (monor__law_take i) hr (takes_of rfl rfl rfl rfl) (by rfl) T.g__law_take T.F__law_take.kp T.b__law_take (ma_cons (mv 0) (ma_cons (mv 1) ma_nil)))))) mss_nil)
      (mss_cons (ms_asg (me_op op_modN lf_I mn_I (me_callTy call_intAll la_int mr_int (by rfl) T.z_int (by decide +kernel) (ma_cons (me_op op_addAll (lf_add (cell := false)) mn_add (me_op op_addAll (lf_add (cell := false)) mn_add (me_op op_mulAll (lf_mul (cell := false)) mn_mul (me_ix ix_seq lf_ix mn_ix (mv 0) me_int (fun _ _ => rfl)) me_int) (me_op op_mulAll (lf_mul (cell := false)) mn_mul (mv 2) me_int)) (me_op op_mulAll (lf_mul (cell := false)) mn_mul (me_ix ix_seq lf_ix mn_ix (mv 0) me_int (fun _ _ => rfl)) me_int)) ma_nil)) me_int) (mg_sub (mv 0) me_int set_list ls_list ms_list))
      (mss_cons (ms_set (i := 3) sc__law_take.nd (by rfl) (.inl rfl) (me_op op_modN lf_I mn_I (me_callTy call_intAll la_int mr_int (by rfl) T.z_int (by decide +kernel) (ma_cons (me_op op_addAll (lf_add (cell := false)) mn_add (me_op op_addAll (lf_add (cell := false)) mn_add (me_op op_mulAll (lf_mul (cell := false)) mn_mul (me_ix ix_seq lf_ix mn_ix (mv 0) me_int (fun _ _ => rfl)) (me_ix ix_seq lf_ix mn_ix (mv 0) me_int (fun _ _ => rfl))) (me_op op_mulAll (lf_mul (cell := false)) mn_mul (me_ix ix_seq lf_ix mn_ix (mv 0) me_int (fun _ _ => rfl)) me_int)) me_int) ma_nil)) me_int))
      (mss_one (ms_ret (me_op op_modN lf_I mn_I (me_callTy call_intAll la_int mr_int (by rfl) T.z_int (by decide +kernel) (ma_cons (me_op op_fdivA lf_I mn_I (mv 3) me_int) ma_nil)) (mv 1))))))))))), mathr__law_take i⟩
theorem ok__law_take (T : Txt K mg wd) : FnOk P wd K mg base (L2.CX P wd) 3 T.f__law_take T.fd__law_take ["pool", "many"] (upP K sp__law_take) := (okr__law_take T 2).imp fun vs H Q E => upP_imp (fun ds M Q E => sub__law_take)
theorem ok__law_pick (T : Txt K mg wd) : FnOk P wd K mg base (L2.CX P wd) 4 T.f__law_pick T.fd__law_pick ["pool", "rows"] (upP K sp__law_pick) :=
  okM T.F__law_pick sc__law_pick len__law_pick fun cdv A outer s H E hr => by
    have hu := hr.units
    exact ⟨r__law_pick, (mss_one (ms_ret (me_ix ix_seq lf_ix mn_ix (mv 1) (me_call (ok__law_take T) mono__law_take (hr.mono (by decide)) (takes_of rfl rfl rfl rfl) (by rfl) T.g__law_take T.F__law_take.kp T.b__law_take (ma_cons (mv 0) (ma_cons (me_callB call_len la_len mr_len (by rfl) T.z_len (by decide +kernel) (ma_cons (mv 1) ma_nil)) ma_nil))) (fun _ _ => rfl)))), math__law_pick⟩
theorem ok__law_is_integer (T : Txt K mg wd) : FnOk P wd K mg base (L2.CX P wd) 1 T.f__law_is_integer T.fd__law_is_integer ["actual"] (upP K sp__law_is_integer) :=
  okM T.F__law_is_integer sc__law_is_integer len__law_is_integer fun cdv A outer s H E hr => by
    have hu := hr.units
    exact ⟨r__law_is_integer, (mss_one (ms_ret (me_and (me_callB call_isi la_isi mr_isi (by rfl) T.z_isinstance (by decide +kernel) (ma_cons (mv 0) (ma_cons (me_ty (by rfl) T.z_int (by decide +kernel)) ma_nil))) (me_one (me_not (me_callB call_isi la_isi mr_isi (by rfl) T.z_isinstance (by decide +kernel) (ma_cons (mv 0) (ma_cons (me_ty (by rfl) T.z_bool (by decide +kernel)) ma_nil)))))))), math__law_is_integer⟩
theorem okr__law_same (T : Txt K mg wd) : ∀ i : Nat, FnOk P wd K mg base (L2.CX P wd) (2 + i) T.f__law_same T.fd__law_same ["actual", "due"] (upP K (spr__law_same i))
  | 0 => okM T.F__law_same sc__law_same (fun ds M Q E h => (lenr__law_same 0 ds M Q E h)) fun cdv A outer s H E hr => ⟨_, mss_never, fun ds M Q' E' _ _ h => (zero__law_same ds M Q' E' h).elim⟩
  | i + 1 => okM T.F__law_same sc__law_same (fun ds M Q E h => (lenr__law_same (i + 1) ds M Q E h)) fun cdv A outer s H E hr => by
    have hu := hr.units
    exact ⟨rr__law_same i, (mss_cons (ms_if (mt_tru (me_callB call_isi la_isi mr_isi (by rfl) T.z_isinstance (by decide +kernel) (ma_cons (mv 1) (ma_cons (me_ty (by rfl) T.z_tuple (by decide +kernel)) ma_nil)))) (mss_cons (ms_if (MW.mt (mw_or (mt_not (mt_tru (me_callB call_isi la_isi mr_isi (by rfl) T.z_isinstance (by decide +kernel) (ma_cons (mv 0) (ma_cons (me_ty (by rfl) T.z_tuple (by decide +kernel)) ma_nil))))) (mw_or1 (mt_cmp (op_neAll hu) lf_ne mn_eq (me_callB call_len la_len mr_len (by rfl) T.z_len (by decide +kernel) (ma_cons (mv 0) ma_nil)) (me_callB call_len la_len mr_len (by rfl) T.z_len (by decide +kernel) (ma_cons (mv 1) ma_nil)) (nomark _))))) (mss_one (ms_ret me_bl)) mss_nil)
      (mss_one (ms_ret (me_callB (cr_all rfl) la_all mr_bls (by rfl) T.z_all (by decide +kernel) (ma_cons (me_lc (own := [("k", 2)]) false rfl sc__law_same.nd (mi_range1 (by rfl) T.z_range (ma_cons (me_callB call_len la_len mr_len (by rfl) T.z_len (by decide +kernel) (ma_cons (mv 1) ma_nil)) ma_nil)) (blkOk_by (N := N__law_same) (sc := defScope s__law_same) (by decide +kernel)) (fun _ _ _ _ _ => pg_name (i := 2) sc__law_same.nd (by rfl) (.inl rfl)) cg_name (fun _ _ _ _ _ => mts_nil) (fun _ _ _ _ _ => (me_call (okr__law_same T i) (monor__law_same i) hr takes0 (by rfl) T.g__law_same T.F__law_same.kp T.b__law_same (ma_cons (me_ix ix_seq lf_ix mn_ix (mv 0) (mv 2) (fun _ _ => rfl)) (ma_cons (me_ix ix_seq lf_ix mn_ix (mv 1) (mv 2) (fun _ _ => rfl)) ma_nil))))) ma_nil))))) mss_nil)
      (mss_cons (ms_if (mt_tru (me_callB call_isi la_isi mr_isi (by rfl) T.z_isinstance (by decide +kernel) (ma_cons (mv 1) (ma_cons (me_ty (by rfl) T.z_list (by decide +kernel)) ma_nil)))) (mss_cons (ms_if (MW.mt (mw_or (mt_not (mt_tru (me_callB call_isi la_isi mr_isi (by rfl) T.z_isinstance (by decide +kernel) (ma_cons (mv 0) (ma_cons (me_ty (by rfl) T.z_list (by decide +kernel)) ma_nil))))) (mw_or1 (mt_cmp (op_neAll hu) lf_ne mn_eq (me_callB call_len la_len mr_len (by rfl) T.z_len (by decide +kernel) (ma_cons (mv 0) ma_nil)) (me_callB call_len la_len mr_len (by rfl) T.z_len (by decide +kernel) (ma_cons (mv 1) ma_nil)) (nomark _))))) (mss_one (ms_ret me_bl)) mss_nil)
      (mss_one (ms_ret (me_callB (cr_all rfl) la_all mr_bls (by rfl) T.z_all (by decide +kernel) (ma_cons (me_lc (own := [("k", 2)]) false rfl sc__law_same.nd (mi_range1 (by rfl) T.z_range (ma_cons (me_callB call_len la_len mr_len (by rfl) T.z_len (by decide +kernel) (ma_cons (mv 1) ma_nil)) ma_nil)) (blkOk_by (N := N__law_same) (sc := defScope s__law_same) (by decide +kernel)) (fun _ _ _ _ _ => pg_name (i := 2) sc__law_same.nd (by rfl) (.inl rfl)) cg_name (fun _ _ _ _ _ => mts_nil) (fun _ _ _ _ _ => (me_call (okr__law_same T i) (monor__law_same i) hr takes0 (by rfl) T.g__law_same T.F__law_same.kp T.b__law_same (ma_cons (me_ix ix_seq lf_ix mn_ix (mv 0) (mv 2) (fun _ _ => rfl)) (ma_cons (me_ix ix_seq lf_ix mn_ix (mv 1) (mv 2) (fun _ _ => rfl)) ma_nil))))) ma_nil))))) mss_nil)
      (mss_cons (ms_if (mt_cmp op_isN1 lf_isN mn_isN (mv 1) me_non (nomark _)) (mss_one (ms_ret (me_cmp op_isN1 lf_isN mn_isN (mv 0) me_non (nomark _)))) mss_nil)
      (mss_cons (ms_if (mt_tru (me_callB call_isi la_isi mr_isi (by rfl) T.z_isinstance (by decide +kernel) (ma_cons (mv 1) (ma_cons (me_ty (by rfl) T.z_bool (by decide +kernel)) ma_nil)))) (mss_one (ms_ret (me_and (me_callB call_isi la_isi mr_isi (by rfl) T.z_isinstance (by decide +kernel) (ma_cons (mv 0) (ma_cons (me_ty (by rfl) T.z_bool (by decide +kernel)) ma_nil))) (me_one (me_cmp (op_eqAll hu) lf_eq mn_eq (mv 0) (mv 1) (nomark _)))))) mss_nil)
      (mss_cons (ms_if (mt_tru (me_callB call_isi la_isi mr_isi (by rfl) T.z_isinstance (by decide +kernel) (ma_cons (mv 1) (ma_cons (me_ty (by rfl) T.z_str (by decide +kernel)) ma_nil)))) (mss_one (ms_ret (me_and (me_callB call_isi la_isi mr_isi (by rfl) T.z_isinstance (by decide +kernel) (ma_cons (mv 0) (ma_cons (me_ty (by rfl) T.z_str (by decide +kernel)) ma_nil))) (me_one (me_cmp (op_eqAll hu) lf_eq mn_eq (mv 0) (mv 1) (nomark _)))))) mss_nil)
      (mss_one (ms_ret (me_and (me_call (ok__law_is_integer T) mono__law_is_integer (hr.mono (by show 1 ≤ 2 + i; omega)) (takes_of rfl rfl rfl rfl) (by rfl) T.g__law_is_integer T.F__law_is_integer.kp T.b__law_is_integer (ma_cons (mv 0) ma_nil)) (me_one (me_cmp (op_eqAll hu) lf_eq mn_eq (mv 0) (mv 1) (nomark _))))))))))), mathr__law_same i⟩
theorem ok__law_same (T : Txt K mg wd) : FnOk P wd K mg base (L2.CX P wd) 8 T.f__law_same T.fd__law_same ["actual", "due"] (upP K sp__law_same) := (okr__law_same T 6).imp fun vs H Q E => upP_imp (fun ds M Q E => sub__law_same)
theorem ok__law_lowest (T : Txt K mg wd) : FnOk P wd K mg base (L2.CX P wd) 1 T.f__law_lowest T.fd__law_lowest ["n", "d"] (upP K sp__law_lowest) :=
  okM T.F__law_lowest sc__law_lowest len__law_lowest fun cdv A outer s H E hr => by
    have hu := hr.units
    exact ⟨r__law_lowest, (mss_cons (ms_par (i := 3) (j := 4) rfl sc__law_lowest.nd (by rfl) (by rfl) (by decide) (by rfl) (by rfl) (ma_cons (me_callB call_abs la_abs mr_I1 (by rfl) T.z_abs (by decide +kernel) (ma_cons (mv 0) ma_nil)) (ma_cons (mv 1) ma_nil)) (by rfl))
      (mss_cons (ms_for (passes_of rfl) rfl (mi_range1 (by rfl) T.z_range (ma_cons me_int ma_nil)) (mg_name (i := 2) sc__law_lowest.nd (by rfl) (.inl rfl)) (mss_cons (ms_if (mt_cmp (op_eqAll hu) lf_eq mn_eq (mv 4) me_int (nomark _)) (mss_one ms_break) mss_nil)
      (mss_one (ms_par (i := 3) (j := 4) rfl sc__law_lowest.nd (by rfl) (by rfl) (by decide) (by rfl) (by rfl) (ma_cons (mv 4) (ma_cons (me_op op_sub lf_I0 mn_I0 (mv 3) (me_op op_mulAll (lf_mul (cell := false)) mn_mul (mv 4) (me_callTy call_intAll la_int mr_int (by rfl) T.z_int (by decide +kernel) (ma_cons (me_op op_fdivA lf_I mn_I (mv 3) (mv 4)) ma_nil)))) ma_nil)) (by rfl)))))
      (mss_one (ms_ret (me_tup (ma_cons (me_op op_fdivA lf_I mn_I (mv 0) (mv 3)) (ma_cons (me_op op_fdivA lf_I mn_I (mv 1) (mv 3)) ma_nil))))))), math__law_lowest⟩
theorem ok__law_sum (T : Txt K mg wd) : FnOk P wd K mg base (L2.CX P wd) 2 T.f__law_sum T.fd__law_sum ["one", "other"] (upP K sp__law_sum) :=
  okM T.F__law_sum sc__law_sum len__law_sum fun cdv A outer s H E hr => by
    have hu := hr.units
    exact ⟨r__law_sum, (mss_one (ms_ret (me_call (ok__law_lowest T) mono__law_lowest (hr.mono (by decide)) (takes_of rfl rfl rfl rfl) (by rfl) T.g__law_lowest T.F__law_lowest.kp T.b__law_lowest (ma_cons (me_op op_addAll (lf_add (cell := false)) mn_add (me_op op_mulAll (lf_mul (cell := false)) mn_mul (me_ix ix_seq lf_ix mn_ix (mv 0) me_int (fun _ _ => rfl)) (me_ix ix_seq lf_ix mn_ix (mv 1) me_int (fun _ _ => rfl))) (me_op op_mulAll (lf_mul (cell := false)) mn_mul (me_ix ix_seq lf_ix mn_ix (mv 1) me_int (fun _ _ => rfl)) (me_ix ix_seq lf_ix mn_ix (mv 0) me_int (fun _ _ => rfl)))) (ma_cons (me_op op_mulAll (lf_mul (cell := false)) mn_mul (me_ix ix_seq lf_ix mn_ix (mv 0) me_int (fun _ _ => rfl)) (me_ix ix_seq lf_ix mn_ix (mv 1) me_int (fun _ _ => rfl))) ma_nil))))), math__law_sum⟩
theorem ok__law_times (T : Txt K mg wd) : FnOk P wd K mg base (L2.CX P wd) 2 T.f__law_times T.fd__law_times ["one", "other"] (upP K sp__law_times) :=
  okM T.F__law_times sc__law_times len__law_times fun cdv A outer s H E hr => by
    have hu := hr.units
    exact ⟨r__law_times, (mss_one (ms_ret (me_call (ok__law_lowest T) mono__law_lowest (hr.mono (by decide)) (takes_of rfl rfl rfl rfl) (by rfl) T.g__law_lowest T.F__law_lowest.kp T.b__law_lowest (ma_cons (me_op op_mulAll (lf_mul (cell := false)) mn_mul (me_ix ix_seq lf_ix mn_ix (mv 0) me_int (fun _ _ => rfl)) (me_ix ix_seq lf_ix mn_ix (mv 1) me_int (fun _ _ => rfl))) (ma_cons (me_op op_mulAll (lf_mul (cell := false)) mn_mul (me_ix ix_seq lf_ix mn_ix (mv 0) me_int (fun _ _ => rfl)) (me_ix ix_seq lf_ix mn_ix (mv 1) me_int (fun _ _ => rfl))) ma_nil))))), math__law_times⟩
theorem ok__law_duration (T : Txt K mg wd) : FnOk P wd K mg base (L2.CX P wd) 5 T.f__law_duration T.fd__law_duration ["pool"] (upP K sp__law_duration) :=
  okM T.F__law_duration sc__law_duration len__law_duration fun cdv A outer s H E hr => by
    have hu := hr.units
    exact ⟨r__law_duration, (mss_cons (ms_if (mt_cmp (op_eqAll hu) lf_eq mn_eq (me_call (ok__law_take T) mono__law_take (hr.mono (by decide)) (takes_of rfl rfl rfl rfl) (by rfl) T.g__law_take T.F__law_take.kp T.b__law_take (ma_cons (mv 0) (ma_cons me_int ma_nil))) me_int (nomark _)) (mss_one (ms_ret (me_call (ok__law_lowest T) mono__law_lowest (hr.mono (by decide)) (takes_of rfl rfl rfl rfl) (by rfl) T.g__law_lowest T.F__law_lowest.kp T.b__law_lowest (ma_cons (me_op op_addAll (lf_add (cell := false)) mn_add me_int (me_call (ok__law_take T) mono__law_take (hr.mono (by decide)) (takes_of rfl rfl rfl rfl) (by rfl) T.g__law_take T.F__law_take.kp T.b__law_take (ma_cons (mv 0) (ma_cons me_int ma_nil)))) (ma_cons (me_op op_addAll (lf_add (cell := false)) mn_add me_int (me_call (ok__law_take T) mono__law_take (hr.mono (by decide)) (takes_of rfl rfl rfl rfl) (by rfl) T.g__law_take T.F__law_take.kp T.b__law_take (ma_cons (mv 0) (ma_cons me_int ma_nil)))) ma_nil))))) mss_nil)
      (mss_one (ms_ret (me_call (ok__law_lowest T) mono__law_lowest (hr.mono (by decide)) (takes_of rfl rfl rfl rfl) (by rfl) T.g__law_lowest T.F__law_lowest.kp T.b__law_lowest (ma_cons (me_op op_addAll (lf_add (cell := false)) mn_add me_int (me_call (ok__law_take T) mono__law_take (hr.mono (by decide)) (takes_of rfl rfl rfl rfl) (by rfl) T.g__law_take T.F__law_take.kp T.b__law_take (ma_cons (mv 0) (ma_cons me_int ma_nil)))) (ma_cons (me_call (ok__law_pick T) mono__law_pick (hr.mono (by decide)) (takes_of rfl rfl rfl rfl) (by rfl) T.g__law_pick T.F__law_pick.kp T.b__law_pick (ma_cons (mv 0) (ma_cons (me_lst false (ma_cons me_int (ma_cons me_int (ma_cons me_int (ma_cons me_int (ma_cons me_int (ma_cons me_int (ma_cons me_int (ma_cons me_int ma_nil))))))))) ma_nil))) ma_nil)))))), math__law_duration⟩
theorem ok__law_tone (T : Txt K mg wd) : FnOk P wd K mg base (L2.CX P wd) 4 T.f__law_tone T.fd__law_tone ["pool"] (upP K sp__law_tone) :=
  okM T.F__law_tone sc__law_tone len__law_tone fun cdv A outer s H E hr => by
    have hu := hr.units
    exact ⟨r__law_tone, (mss_cons (ms_set (i := 1) sc__law_tone.nd (by rfl) (.inl rfl) (me_op op_sub lf_I0 mn_I0 (me_call (ok__law_take T) mono__law_take (hr.mono (by decide)) (takes_of rfl rfl rfl rfl) (by rfl) T.g__law_take T.F__law_take.kp T.b__law_take (ma_cons (mv 0) (ma_cons me_int ma_nil))) me_int))
      (mss_cons (ms_if (mt_cmp (op_eqAll hu) lf_eq mn_eq (me_call (ok__law_take T) mono__law_take (hr.mono (by decide)) (takes_of rfl rfl rfl rfl) (by rfl) T.g__law_take T.F__law_take.kp T.b__law_take (ma_cons (mv 0) (ma_cons me_int ma_nil))) me_int (nomark _)) (mss_one (ms_set (i := 1) sc__law_tone.nd (by rfl) (.inl rfl) (me_op op_sub lf_I0 mn_I0 (me_call (ok__law_take T) mono__law_take (hr.mono (by decide)) (takes_of rfl rfl rfl rfl) (by rfl) T.g__law_take T.F__law_take.kp T.b__law_take (ma_cons (mv 0) (ma_cons me_int ma_nil))) me_int))) mss_nil)
      (mss_one (ms_ret (me_tup (ma_cons (mv 1) (ma_cons (me_op op_sub lf_I0 mn_I0 (me_call (ok__law_take T) mono__law_take (hr.mono (by decide)) (takes_of rfl rfl rfl rfl) (by rfl) T.g__law_take T.F__law_take.kp T.b__law_take (ma_cons (mv 0) (ma_cons me_int ma_nil))) (me_callTy call_intAll la_int mr_int (by rfl) T.z_int (by decide +kernel) (ma_cons (me_op op_fdivA lf_I mn_I (me_op op_mulAll (lf_mul (cell := false)) mn_mul me_int (mv 1)) me_int) ma_nil))) ma_nil))))))), math__law_tone⟩
theorem ok__law_interval (T : Txt K mg wd) : FnOk P wd K mg base (L2.CX P wd) 4 T.f__law_interval T.fd__law_interval ["pool"] (upP K sp__law_interval) :=
  okM T.F__law_interval sc__law_interval len__law_interval fun cdv A outer s H E hr => by
    have hu := hr.units
    exact ⟨r__law_interval, (mss_cons (ms_if (mt_cmp (op_eqAll hu) lf_eq mn_eq (me_call (ok__law_take T) mono__law_take (hr.mono (by decide)) (takes_of rfl rfl rfl rfl) (by rfl) T.g__law_take T.F__law_take.kp T.b__law_take (ma_cons (mv 0) (ma_cons me_int ma_nil))) me_int (nomark _)) (mss_one (ms_ret (me_tup (ma_cons (me_op op_sub lf_I0 mn_I0 (me_call (ok__law_take T) mono__law_take (hr.mono (by decide)) (takes_of rfl rfl rfl rfl) (by rfl) T.g__law_take T.F__law_take.kp T.b__law_take (ma_cons (mv 0) (ma_cons me_int ma_nil))) me_int) (ma_cons (me_op op_sub lf_I0 mn_I0 (me_call (ok__law_take T) mono__law_take (hr.mono (by decide)) (takes_of rfl rfl rfl rfl) (by rfl) T.g__law_take T.F__law_take.kp T.b__law_take (ma_cons (mv 0) (ma_cons me_int ma_nil))) me_int) ma_nil))))) mss_nil)
      (mss_one (ms_ret (me_tup (ma_cons (me_op op_sub lf_I0 mn_I0 (me_call (ok__law_take T) mono__law_take (hr.mono (by decide)) (takes_of rfl rfl rfl rfl) (by rfl) T.g__law_take T.F__law_take.kp T.b__law_take (ma_cons (mv 0) (ma_cons me_int ma_nil))) me_int) (ma_cons (me_op op_sub lf_I0 mn_I0 (me_call (ok__law_take T) mono__law_take (hr.mono (by decide)) (takes_of rfl rfl rfl rfl) (by rfl) T.g__law_take T.F__law_take.kp T.b__law_take (ma_cons (mv 0) (ma_cons me_int ma_nil))) me_int) ma_nil)))))), math__law_interval⟩
theorem ok__law_column (T : Txt K mg wd) : FnOk P wd K mg base (L2.CX P wd) 6 T.f__law_column T.fd__law_column ["pool", "voices", "before", "some"] (upP K sp__law_column) :=
  okM T.F__law_column sc__law_column len__law_column fun cdv A outer s H E hr => by
    have hu := hr.units
    exact ⟨r__law_column, (mss_cons (ms_set (i := 4) sc__law_column.nd (by rfl) (.inl rfl) (me_tup ma_nil))
      (mss_cons (ms_for (passes_of rfl) rfl (mi_range1 (by rfl) T.z_range (ma_cons (mv 1) ma_nil)) (mg_name (i := 5) sc__law_column.nd (by rfl) (.inl rfl)) (mss_cons (ms_set (i := 6) sc__law_column.nd (by rfl) (.inl rfl) (me_call (ok__law_take T) mono__law_take (hr.mono (by decide)) (takes_of rfl rfl rfl rfl) (by rfl) T.g__law_take T.F__law_take.kp T.b__law_take (ma_cons (mv 0) (ma_cons me_int ma_nil))))
      (mss_cons (ms_set (i := 7) sc__law_column.nd (by rfl) (.inl rfl) (me_tup (ma_cons (me_call (ok__law_pick T) mono__law_pick (hr.mono (by decide)) (takes_of rfl rfl rfl rfl) (by rfl) T.g__law_pick T.F__law_pick.kp T.b__law_pick (ma_cons (mv 0) (ma_cons (mv 3) ma_nil))) (ma_cons me_bl ma_nil))))
      (mss_cons (ms_if (mt_cmp (op_eqAll hu) lf_eq mn_eq (mv 6) me_int (nomark _)) (mss_one (ms_set (i := 7) sc__law_column.nd (by rfl) (.inl rfl) me_non)) (mss_one (ms_if (mt_cmp op_lt lf_B0 mn_I0 (mv 6) me_int (nomark _)) (mss_cons (ms_set (i := 8) sc__law_column.nd (by rfl) (.inl rfl) (me_if (mt_cmp op_isN1 lf_isN mn_isN (mv 2) me_non (nomark _)) me_non (me_ix ix_seq lf_ix mn_ix (me_ix ix_seq lf_ix mn_ix (mv 2) me_int (fun _ _ => rfl)) (mv 5) (fun _ _ => rfl))))
      (mss_cons (ms_set (i := 9) sc__law_column.nd (by rfl) (.inl rfl) (me_if (MW.mt (mw_and (mt_cmp op_notN1 lf_notN mn_isN (mv 8) me_non (nomark _)) (mw_and1 (mt_cmp op_gt lf_B0 mn_I0 (me_call (ok__law_take T) mono__law_take (hr.mono (by decide)) (takes_of rfl rfl rfl rfl) (by rfl) T.g__law_take T.F__law_take.kp T.b__law_take (ma_cons (mv 0) (ma_cons me_int ma_nil))) me_int (nomark _))))) (me_ix ix_seq lf_ix mn_ix (mv 8) me_int (fun _ _ => rfl)) (me_ix ix_seq lf_ix mn_ix (mv 7) me_int (fun _ _ => rfl))))
      (mss_one (ms_set (i := 7) sc__law_column.nd (by rfl) (.inl rfl) (me_tup (ma_cons (mv 9) (ma_cons me_bl ma_nil))))))) mss_nil)))
      (mss_one (ms_set (i := 4) sc__law_column.nd (by rfl) (.inl rfl) (me_op op_addAll (lf_add (cell := false)) mn_add (mv 4) (me_tup (ma_cons (mv 7) ma_nil)))))))))
      (mss_one (ms_ret (me_tup (ma_cons (me_call (ok__law_duration T) mono__law_duration (hr.mono (by decide)) (takes_of rfl rfl rfl rfl) (by rfl) T.g__law_duration T.F__law_duration.kp T.b__law_duration (ma_cons (mv 0) ma_nil)) (ma_cons (me_if (mt_cmp (op_eqAll hu) lf_eq mn_eq (me_call (ok__law_take T) mono__law_take (hr.mono (by decide)) (takes_of rfl rfl rfl rfl) (by rfl) T.g__law_take T.F__law_take.kp T.b__law_take (ma_cons (mv 0) (ma_cons me_int ma_nil))) me_int (nomark _)) (me_call (ok__law_take T) mono__law_take (hr.mono (by decide)) (takes_of rfl rfl rfl rfl) (by rfl) T.g__law_take T.F__law_take.kp T.b__law_take (ma_cons (mv 0) (ma_cons me_int ma_nil))) me_int) (ma_cons (mv 4) ma_nil)))))))), math__law_column⟩
theorem ok__law_raised (T : Txt K mg wd) : FnOk P wd K mg base (L2.CX P wd) 1 T.f__law_raised T.fd__law_raised ["cell", "sign", "tone"] (upP K sp__law_raised) :=
  okM T.F__law_raised sc__law_raised len__law_raised fun cdv A outer s H E hr => by
    have hu := hr.units
    exact ⟨r__law_raised, (mss_cons (ms_set (i := 3) sc__law_raised.nd (by rfl) (.inl rfl) (me_tup ma_nil))
      (mss_cons (ms_for (passes_of rfl) rfl (mi_seq (me_ix ix_seq lf_ix mn_ix (mv 0) me_int (fun _ _ => rfl))) (mg_name (i := 4) sc__law_raised.nd (by rfl) (.inl rfl)) (mss_cons (ms_if (mt_cmp op_notN1 lf_notN mn_isN (mv 4) me_non (nomark _)) (mss_one (ms_set (i := 4) sc__law_raised.nd (by rfl) (.inl rfl) (me_tup (ma_cons (me_tup (ma_cons (me_op op_addAll (lf_add (cell := false)) mn_add (me_ix ix_seq lf_ix mn_ix (mv 2) me_int (fun _ _ => rfl)) (me_op op_mulAll (lf_mul (cell := false)) mn_mul (mv 1) (me_ix ix_seq lf_ix mn_ix (me_ix ix_seq lf_ix mn_ix (mv 4) me_int (fun _ _ => rfl)) me_int (fun _ _ => rfl)))) (ma_cons (me_op op_addAll (lf_add (cell := false)) mn_add (me_ix ix_seq lf_ix mn_ix (mv 2) me_int (fun _ _ => rfl)) (me_op op_mulAll (lf_mul (cell := false)) mn_mul (mv 1) (me_ix ix_seq lf_ix mn_ix (me_ix ix_seq lf_ix mn_ix (mv 4) me_int (fun _ _ => rfl)) me_int (fun _ _ => rfl)))) ma_nil))) (ma_cons (me_ix ix_seq lf_ix mn_ix (mv 4) me_int (fun _ _ => rfl)) ma_nil))))) mss_nil)
      (mss_one (ms_set (i := 3) sc__law_raised.nd (by rfl) (.inl rfl) (me_op op_addAll (lf_add (cell := false)) mn_add (mv 3) (me_tup (ma_cons (mv 4) ma_nil)))))))
      (mss_one (ms_ret (me_tup (ma_cons (me_ix ix_seq lf_ix mn_ix (mv 0) me_int (fun _ _ => rfl)) (ma_cons (me_ix ix_seq lf_ix mn_ix (mv 0) me_int (fun _ _ => rfl)) (ma_cons (mv 3) ma_nil)))))))), math__law_raised⟩
theorem okr__law_listed (T : Txt K mg wd) : ∀ i : Nat, FnOk P wd K mg base (L2.CX P wd) (1 + i) T.f__law_listed T.fd__law_listed ["thing"] (upP K (spr__law_listed i))
  | 0 => okM T.F__law_listed sc__law_listed (fun ds M Q E h => (lenr__law_listed 0 ds M Q E h)) fun cdv A outer s H E hr => ⟨_, mss_never, fun ds M Q' E' _ _ h => (zero__law_listed ds M Q' E' h).elim⟩
  | i + 1 => okM T.F__law_listed sc__law_listed (fun ds M Q E h => (lenr__law_listed (i + 1) ds M Q E h)) fun cdv A outer s H E hr => by
    have hu := hr.units
    exact ⟨rr__law_listed i, (mss_cons (ms_if (mt_tru (me_callB call_isi la_isi mr_isi (by rfl) T.z_isinstance (by decide +kernel) (ma_cons (mv 0) (ma_cons (me_ty (by rfl) T.z_tuple (by decide +kernel)) ma_nil)))) (mss_one (ms_ret (me_lc (own := [("part", 1)]) false rfl sc__law_listed.nd (mi_seq (mv 0)) (blkOk_by (N := N__law_listed) (sc := defScope s__law_listed) (by decide +kernel)) (fun _ _ _ _ _ => pg_name (i := 1) sc__law_listed.nd (by rfl) (.inl rfl)) cg_name (fun _ _ _ _ _ => mts_nil) (fun _ _ _ _ _ => (me_call (okr__law_listed T i) (monor__law_listed i) hr takes0 (by rfl) T.g__law_listed T.F__law_listed.kp T.b__law_listed (ma_cons (mv 1) ma_nil)))))) mss_nil)
      (mss_one (ms_ret (mv 0)))), mathr__law_listed i⟩
theorem ok__law_listed (T : Txt K mg wd) : FnOk P wd K mg base (L2.CX P wd) 8 T.f__law_listed T.fd__law_listed ["thing"] (upP K sp__law_listed) := (okr__law_listed T 7).imp fun vs H Q E => upP_imp (fun ds M Q E => sub__law_listed)
theorem ok__law_height (T : Txt K mg wd) : FnOk P wd K mg base (L2.CX P wd) 1 T.f__law_height T.fd__law_height ["tone"] (upP K sp__law_height) :=
  okM T.F__law_height sc__law_height len__law_height fun cdv A outer s H E hr => by
    have hu := hr.units
    exact ⟨r__law_height, (mss_one (ms_ret (me_op op_addAll (lf_add (cell := false)) mn_add (me_op op_mulAll (lf_mul (cell := false)) mn_mul me_int (me_ix ix_seq lf_ix mn_ix (mv 0) me_int (fun _ _ => rfl))) (me_op op_mulAll (lf_mul (cell := false)) mn_mul me_int (me_ix ix_seq lf_ix mn_ix (mv 0) me_int (fun _ _ => rfl)))))), math__law_height⟩
theorem ok__law_test (T : Txt K mg wd) : FnOk P wd K mg base (L2.CX P wd) 5 T.f__law_test T.fd__law_test ["pool", "voices"] (upP K sp__law_test) :=
  okM T.F__law_test sc__law_test len__law_test fun cdv A outer s H E hr => by
    have hu := hr.units
    exact ⟨r__law_test, (mss_cons (ms_set (i := 2) sc__law_test.nd (by rfl) (.inl rfl) (me_call (ok__law_pick T) mono__law_pick (hr.mono (by decide)) (takes_of rfl rfl rfl rfl) (by rfl) T.g__law_pick T.F__law_pick.kp T.b__law_pick (ma_cons (mv 0) (ma_cons (me_lst false (ma_cons me_str (ma_cons me_str (ma_cons me_str (ma_cons me_str (ma_cons me_str (ma_cons me_str (ma_cons me_str (ma_cons me_str (ma_cons me_str (ma_cons me_str (ma_cons me_str (ma_cons me_str ma_nil))))))))))))) ma_nil))))
      (mss_cons (ms_set (i := 3) sc__law_test.nd (by rfl) (.inr rfl) (me_if (mt_cmp op_gt lf_B0 mn_I0 (me_call (ok__law_take T) mono__law_take (hr.mono (by decide)) (takes_of rfl rfl rfl rfl) (by rfl) T.g__law_take T.F__law_take.kp T.b__law_take (ma_cons (mv 0) (ma_cons me_int ma_nil))) me_int (nomark _)) (me_call (ok__law_take T) mono__law_take (hr.mono (by decide)) (takes_of rfl rfl rfl rfl) (by rfl) T.g__law_take T.F__law_take.kp T.b__law_take (ma_cons (mv 0) (ma_cons (mv 1) ma_nil))) (me_call (ok__law_take T) mono__law_take (hr.mono (by decide)) (takes_of rfl rfl rfl rfl) (by rfl) T.g__law_take T.F__law_take.kp T.b__law_take (ma_cons (mv 0) (ma_cons me_int ma_nil)))))
      (mss_cons (ms_set (i := 4) sc__law_test.nd (by rfl) (.inl rfl) (me_call (ok__law_pick T) mono__law_pick (hr.mono (by decide)) (takes_of rfl rfl rfl rfl) (by rfl) T.g__law_pick T.F__law_pick.kp T.b__law_pick (ma_cons (mv 0) (ma_cons (me_op op_addAll (lf_add (cell := false)) mn_add (me_lc (own := [("k", 7)]) false rfl sc__law_test.nd (mi_range1 (by rfl) T.z_range (ma_cons me_int ma_nil)) (blkOk_by (N := N__law_test) (sc := defScope s__law_test) (by decide +kernel)) (fun _ _ _ _ _ => pg_name (i := 7) sc__law_test.nd (by rfl) (.inl rfl)) cg_name (fun _ _ _ _ _ => (mts_one (MW.mt (mw_and (mt_cmp (op_neAll hu) lf_ne mn_eq (mv 7) (mv 3) (nomark _)) (mw_and1 (MW.mt (mw_or (mt_cmp op_lt lf_B0 mn_I0 (mv 7) (mv 1) (nomark _)) (mw_or (mt_cmp (op_eqAll hu) lf_eq mn_eq (mv 1) me_int (nomark _)) (mw_or1 (mt_cmp (op_eqAll hu) lf_eq mn_eq (me_call (ok__law_take T) mono__law_take (hr.mono (by decide)) takes0 (by rfl) T.g__law_take T.F__law_take.kp T.b__law_take (ma_cons (mv 0) (ma_cons me_int ma_nil))) me_int (nomark _))))))))))) (fun _ _ _ _ _ => (mv 7))) (me_op op_mulAll (lf_mul (cell := false)) mn_mul (me_lst false (ma_cons (me_op op_modN lf_I mn_I (me_op op_addAll (lf_add (cell := false)) mn_add (mv 3) me_int) me_int) ma_nil)) (me_callTy call_intAll la_int mr_int (by rfl) T.z_int (by decide +kernel) (ma_cons (me_cmp (op_eqAll hu) lf_eq mn_eq (mv 1) me_int (nomark _)) ma_nil)))) ma_nil))))
      (mss_cons (ms_set (i := 5) sc__law_test.nd (by rfl) (.inl rfl) (me_op op_sub lf_I0 mn_I0 (me_call (ok__law_take T) mono__law_take (hr.mono (by decide)) (takes_of rfl rfl rfl rfl) (by rfl) T.g__law_take T.F__law_take.kp T.b__law_take (ma_cons (mv 0) (ma_cons me_int ma_nil))) me_int))
      (mss_cons (ms_set (i := 6) sc__law_test.nd (by rfl) (.inl rfl) (me_op op_addAll (lf_add (cell := false)) mn_add (mv 5) (me_call (ok__law_take T) mono__law_take (hr.mono (by decide)) (takes_of rfl rfl rfl rfl) (by rfl) T.g__law_take T.F__law_take.kp T.b__law_take (ma_cons (mv 0) (ma_cons me_int ma_nil)))))
      (mss_cons (ms_if (mt_cmp (op_eqAll hu) lf_eq mn_eq (mv 2) me_str (nomark _)) (mss_one (ms_ret (me_tup (ma_cons me_str (ma_cons (me_if (mt_cmp (op_eqAll hu) lf_eq mn_eq (me_call (ok__law_take T) mono__law_take (hr.mono (by decide)) (takes_of rfl rfl rfl rfl) (by rfl) T.g__law_take T.F__law_take.kp T.b__law_take (ma_cons (mv 0) (ma_cons me_int ma_nil))) me_int (nomark _)) (me_call (ok__law_take T) mono__law_take (hr.mono (by decide)) (takes_of rfl rfl rfl rfl) (by rfl) T.g__law_take T.F__law_take.kp T.b__law_take (ma_cons (mv 0) (ma_cons me_int ma_nil))) me_int) ma_nil))))) mss_nil)
      (mss_cons (ms_if (mt_cmp (op_eqAll hu) lf_eq mn_eq (mv 2) me_str (nomark _)) (mss_one (ms_ret (me_tup (ma_cons me_str (ma_cons (mv 3) (ma_cons (mv 5) (ma_cons (mv 6) ma_nil))))))) mss_nil)
      (mss_cons (ms_if (mt_cmp (op_eqAll hu) lf_eq mn_eq (mv 2) me_str (nomark _)) (mss_one (ms_ret (me_tup (ma_cons me_str (ma_cons (mv 3) (ma_cons (me_callTy call_tuple_of la_tuple mr_tuple (by rfl) T.z_tuple (by decide +kernel) (ma_cons (me_lc (own := [("k", 7)]) false rfl sc__law_test.nd (mi_range1 (by rfl) T.z_range (ma_cons (me_call (ok__law_take T) mono__law_take (hr.mono (by decide)) (takes_of rfl rfl rfl rfl) (by rfl) T.g__law_take T.F__law_take.kp T.b__law_take (ma_cons (mv 0) (ma_cons me_int ma_nil))) ma_nil)) (blkOk_by (N := N__law_test) (sc := defScope s__law_test) (by decide +kernel)) (fun _ _ _ _ _ => pg_name (i := 7) sc__law_test.nd (by rfl) (.inl rfl)) cg_name (fun _ _ _ _ _ => mts_nil) (fun _ _ _ _ _ => (me_call (ok__law_interval T) mono__law_interval (hr.mono (by decide)) takes0 (by rfl) T.g__law_interval T.F__law_interval.kp T.b__law_interval (ma_cons (mv 0) ma_nil)))) ma_nil)) ma_nil)))))) mss_nil)
      (mss_cons (ms_if (mt_cmp (op_eqAll hu) lf_eq mn_eq (mv 2) me_str (nomark _)) (mss_one (ms_ret (me_tup (ma_cons me_str (ma_cons (mv 3) (ma_cons (mv 4) (ma_cons (mv 5) (ma_cons (mv 6) ma_nil)))))))) mss_nil)
      (mss_cons (ms_if (mt_cmp (op_eqAll hu) lf_eq mn_eq (mv 2) me_str (nomark _)) (mss_one (ms_ret (me_tup (ma_cons me_str (ma_cons (mv 3) (ma_cons (mv 4) (ma_cons (me_callTy call_tuple_of la_tuple mr_tuple (by rfl) T.z_tuple (by decide +kernel) (ma_cons (me_lc (own := [("k", 7)]) false rfl sc__law_test.nd (mi_range1 (by rfl) T.z_range (ma_cons (me_call (ok__law_take T) mono__law_take (hr.mono (by decide)) (takes_of rfl rfl rfl rfl) (by rfl) T.g__law_take T.F__law_take.kp T.b__law_take (ma_cons (mv 0) (ma_cons me_int ma_nil))) ma_nil)) (blkOk_by (N := N__law_test) (sc := defScope s__law_test) (by decide +kernel)) (fun _ _ _ _ _ => pg_name (i := 7) sc__law_test.nd (by rfl) (.inl rfl)) cg_name (fun _ _ _ _ _ => mts_nil) (fun _ _ _ _ _ => (me_call (ok__law_take T) mono__law_take (hr.mono (by decide)) takes0 (by rfl) T.g__law_take T.F__law_take.kp T.b__law_take (ma_cons (mv 0) (ma_cons me_int ma_nil))))) ma_nil)) ma_nil))))))) mss_nil)
      (mss_cons (ms_if (mt_cmp (op_eqAll hu) lf_eq mn_eq (mv 2) me_str (nomark _)) (mss_one (ms_ret (me_tup (ma_cons me_str (ma_cons (mv 3) (ma_cons (mv 4) ma_nil)))))) mss_nil)
      (mss_cons (ms_if (mt_cmp (op_eqAll hu) lf_eq mn_eq (mv 2) me_str (nomark _)) (mss_cons (ms_set (i := 5) sc__law_test.nd (by rfl) (.inl rfl) (me_call (ok__law_lowest T) mono__law_lowest (hr.mono (by decide)) (takes_of rfl rfl rfl rfl) (by rfl) T.g__law_lowest T.F__law_lowest.kp T.b__law_lowest (ma_cons (me_call (ok__law_take T) mono__law_take (hr.mono (by decide)) (takes_of rfl rfl rfl rfl) (by rfl) T.g__law_take T.F__law_take.kp T.b__law_take (ma_cons (mv 0) (ma_cons me_int ma_nil))) (ma_cons (me_op op_addAll (lf_add (cell := false)) mn_add me_int (me_call (ok__law_take T) mono__law_take (hr.mono (by decide)) (takes_of rfl rfl rfl rfl) (by rfl) T.g__law_take T.F__law_take.kp T.b__law_take (ma_cons (mv 0) (ma_cons me_int ma_nil)))) ma_nil))))
      (mss_one (ms_ret (me_tup (ma_cons me_str (ma_cons (mv 5) (ma_cons (me_call (ok__law_pick T) mono__law_pick (hr.mono (by decide)) (takes_of rfl rfl rfl rfl) (by rfl) T.g__law_pick T.F__law_pick.kp T.b__law_pick (ma_cons (mv 0) (ma_cons (me_lst false (ma_cons (mv 5) (ma_cons (me_tup (ma_cons me_int (ma_cons me_int ma_nil))) (ma_cons (me_tup (ma_cons me_int (ma_cons me_int ma_nil))) (ma_cons (me_call (ok__law_sum T) mono__law_sum (hr.mono (by decide)) (takes_of rfl rfl rfl rfl) (by rfl) T.g__law_sum T.F__law_sum.kp T.b__law_sum (ma_cons (mv 5) (ma_cons (me_tup (ma_cons me_int (ma_cons me_int ma_nil))) ma_nil))) ma_nil))))) ma_nil))) ma_nil))))))) mss_nil)
      (mss_one (ms_ret (me_tup (ma_cons (mv 2) (ma_cons (mv 3) ma_nil))))))))))))))))), math__law_test⟩
theorem ok__law_loose (T : Txt K mg wd) : FnOk P wd K mg base (L2.CX P wd) 1 T.f__law_loose T.fd__law_loose ["entry", "before"] (upP K sp__law_loose) :=
  okM T.F__law_loose sc__law_loose len__law_loose fun cdv A outer s H E hr => by
    have hu := hr.units
    exact ⟨r__law_loose, (mss_one (ms_ret (me_and (me_cmp op_notN1 lf_notN mn_isN (mv 0) me_non (nomark _)) (me_and (me_not (me_ix ix_seq lf_ix mn_ix (mv 0) me_int (fun _ _ => rfl))) (me_one (me_or (me_cmp op_isN1 lf_isN mn_isN (mv 1) me_non (nomark _)) (me_one (me_cmp (op_neAll hu) lf_ne mn_eq (me_ix ix_seq lf_ix mn_ix (mv 1) me_int (fun _ _ => rfl)) (me_ix ix_seq lf_ix mn_ix (mv 0) me_int (fun _ _ => rfl)) (nomark _))))))))), math__law_loose⟩
theorem ok__law_melodic (T : Txt K mg wd) : FnOk P wd K mg base (L2.CX P wd) 1 T.f__law_melodic T.fd__law_melodic ["voice", "one", "other"] (upP K sp__law_melodic) :=
  okM T.F__law_melodic sc__law_melodic len__law_melodic fun cdv A outer s H E hr => by
    have hu := hr.units
    exact ⟨r__law_melodic, (mss_cons (ms_par (i := 3) (j := 4) rfl sc__law_melodic.nd (by rfl) (by rfl) (by decide) (by rfl) (by rfl) (ma_cons (me_ix ix_seq lf_ix mn_ix (me_ix ix_seq lf_ix mn_ix (mv 1) me_int (fun _ _ => rfl)) (mv 0) (fun _ _ => rfl)) (ma_cons (me_ix ix_seq lf_ix mn_ix (me_ix ix_seq lf_ix mn_ix (mv 2) me_int (fun _ _ => rfl)) (mv 0) (fun _ _ => rfl)) ma_nil)) (by rfl))
      (mss_cons (ms_if (MW.mt (mw_or (mt_cmp op_isN1 lf_isN mn_isN (mv 3) me_non (nomark _)) (mw_or (mt_cmp op_isN1 lf_isN mn_isN (mv 4) me_non (nomark _)) (mw_or1 (mt_not (mt_tru (me_ix ix_seq lf_ix mn_ix (mv 4) me_int (fun _ _ => rfl)))))))) (mss_one (ms_ret me_non)) mss_nil)
      (mss_one (ms_ret (me_tup (ma_cons (me_op op_sub lf_I0 mn_I0 (me_ix ix_seq lf_ix mn_ix (me_ix ix_seq lf_ix mn_ix (mv 4) me_int (fun _ _ => rfl)) me_int (fun _ _ => rfl)) (me_ix ix_seq lf_ix mn_ix (me_ix ix_seq lf_ix mn_ix (mv 3) me_int (fun _ _ => rfl)) me_int (fun _ _ => rfl))) (ma_cons (me_op op_sub lf_I0 mn_I0 (me_ix ix_seq lf_ix mn_ix (me_ix ix_seq lf_ix mn_ix (mv 4) me_int (fun _ _ => rfl)) me_int (fun _ _ => rfl)) (me_ix ix_seq lf_ix mn_ix (me_ix ix_seq lf_ix mn_ix (mv 3) me_int (fun _ _ => rfl)) me_int (fun _ _ => rfl))) ma_nil))))))), math__law_melodic⟩
theorem ok__law_holds (T : Txt K mg wd) : FnOk P wd K mg base (L2.CX P wd) 2 T.f__law_holds T.fd__law_holds ["test", "one", "other"] (upP K sp__law_holds) :=
  okM T.F__law_holds sc__law_holds len__law_holds fun cdv A outer s H E hr => by
    have hu := hr.units
    exact ⟨r__law_holds, (mss_cons (ms_set (i := 3) sc__law_holds.nd (by rfl) (.inl rfl) (me_ix ix_seq lf_ix mn_ix (mv 0) me_int (fun _ _ => rfl)))
      (mss_cons (ms_set (i := 4) sc__law_holds.nd (by rfl) (.inl rfl) (me_callB call_len la_len mr_len (by rfl) T.z_len (by decide +kernel) (ma_cons (me_ix ix_seq lf_ix mn_ix (mv 2) me_int (fun _ _ => rfl)) ma_nil)))
      (mss_cons (ms_if (mt_cmp (op_eqAll hu) lf_eq mn_eq (mv 3) me_str (nomark _)) (mss_one (ms_ret (me_cmp (op_eqAll hu) lf_eq mn_eq (me_ix ix_seq lf_ix mn_ix (mv 2) me_int (fun _ _ => rfl)) (me_ix ix_seq lf_ix mn_ix (mv 0) me_int (fun _ _ => rfl)) (nomark _)))) mss_nil)
      (mss_cons (ms_if (mt_cmp (op_eqAll hu) lf_eq mn_eq (mv 3) me_str (nomark _)) (mss_cons (ms_if (mt_cmp (op_eqAll hu) lf_eq mn_eq (me_ix ix_seq lf_ix mn_ix (me_ix ix_seq lf_ix mn_ix (mv 1) me_int (fun _ _ => rfl)) me_int (fun _ _ => rfl)) me_int (nomark _)) (mss_one (ms_ret me_bl)) mss_nil)
      (mss_cons (ms_set (i := 9) sc__law_holds.nd (by rfl) (.inl rfl) (me_tup (ma_cons (me_op op_mulAll (lf_mul (cell := false)) mn_mul (me_ix ix_seq lf_ix mn_ix (me_ix ix_seq lf_ix mn_ix (mv 2) me_int (fun _ _ => rfl)) me_int (fun _ _ => rfl)) (me_ix ix_seq lf_ix mn_ix (me_ix ix_seq lf_ix mn_ix (mv 1) me_int (fun _ _ => rfl)) me_int (fun _ _ => rfl))) (ma_cons (me_op op_mulAll (lf_mul (cell := false)) mn_mul (me_ix ix_seq lf_ix mn_ix (me_ix ix_seq lf_ix mn_ix (mv 2) me_int (fun _ _ => rfl)) me_int (fun _ _ => rfl)) (me_ix ix_seq lf_ix mn_ix (me_ix ix_seq lf_ix mn_ix (mv 1) me_int (fun _ _ => rfl)) me_int (fun _ _ => rfl))) ma_nil))))
      (mss_cons (ms_set (i := 10) sc__law_holds.nd (by rfl) (.inl rfl) (me_cmp op_le lf_B0 mn_I0 (me_op op_mulAll (lf_mul (cell := false)) mn_mul (me_ix ix_seq lf_ix mn_ix (me_ix ix_seq lf_ix mn_ix (mv 0) me_int (fun _ _ => rfl)) me_int (fun _ _ => rfl)) (me_ix ix_seq lf_ix mn_ix (mv 9) me_int (fun _ _ => rfl))) (me_op op_mulAll (lf_mul (cell := false)) mn_mul (me_ix ix_seq lf_ix mn_ix (mv 9) me_int (fun _ _ => rfl)) (me_ix ix_seq lf_ix mn_ix (me_ix ix_seq lf_ix mn_ix (mv 0) me_int (fun _ _ => rfl)) me_int (fun _ _ => rfl))) (nomark _)))
      (mss_one (ms_ret (me_and (mv 10) (me_one (me_cmp op_le lf_B0 mn_I0 (me_op op_mulAll (lf_mul (cell := false)) mn_mul (me_ix ix_seq lf_ix mn_ix (mv 9) me_int (fun _ _ => rfl)) (me_ix ix_seq lf_ix mn_ix (me_ix ix_seq lf_ix mn_ix (mv 0) me_int (fun _ _ => rfl)) me_int (fun _ _ => rfl))) (me_op op_mulAll (lf_mul (cell := false)) mn_mul (me_ix ix_seq lf_ix mn_ix (me_ix ix_seq lf_ix mn_ix (mv 0) me_int (fun _ _ => rfl)) me_int (fun _ _ => rfl)) (me_ix ix_seq lf_ix mn_ix (mv 9) me_int (fun _ _ => rfl))) (nomark _))))))))) mss_nil)
      (mss_cons (ms_if (mt_cmp op_ge lf_B0 mn_I0 (me_ix ix_seq lf_ix mn_ix (mv 0) me_int (fun _ _ => rfl)) (mv 4) (nomark _)) (mss_one (ms_ret me_bl)) mss_nil)
      (mss_cons (ms_set (i := 5) sc__law_holds.nd (by rfl) (.inl rfl) (me_ix ix_seq lf_ix mn_ix (me_ix ix_seq lf_ix mn_ix (mv 2) me_int (fun _ _ => rfl)) (me_ix ix_seq lf_ix mn_ix (mv 0) me_int (fun _ _ => rfl)) (fun _ _ => rfl)))
      (mss_cons (ms_if (mt_cmp (op_eqAll hu) lf_eq mn_eq (mv 3) me_str (nomark _)) (mss_one (ms_ret (me_and (me_cmp op_notN1 lf_notN mn_isN (mv 5) me_non (nomark _)) (me_one (me_ix ix_seq lf_ix mn_ix (mv 5) me_int (fun _ _ => rfl)))))) mss_nil)
      (mss_cons (ms_if (mt_cmp (op_eqAll hu) lf_eq mn_eq (mv 3) me_str (nomark _)) (mss_one (ms_ret (me_cmp op_isN1 lf_isN mn_isN (mv 5) me_non (nomark _)))) mss_nil)
      (mss_cons (ms_if (mt_cmp (op_eqAll hu) lf_eq mn_eq (mv 3) me_str (nomark _)) (mss_one (ms_ret (me_call (ok__law_loose T) mono__law_loose (hr.mono (by decide)) (takes_of rfl rfl rfl rfl) (by rfl) T.g__law_loose T.F__law_loose.kp T.b__law_loose (ma_cons (mv 5) (ma_cons (me_ix ix_seq lf_ix mn_ix (me_ix ix_seq lf_ix mn_ix (mv 1) me_int (fun _ _ => rfl)) (me_ix ix_seq lf_ix mn_ix (mv 0) me_int (fun _ _ => rfl)) (fun _ _ => rfl)) ma_nil))))) mss_nil)
      (mss_cons (ms_set (i := 6) sc__law_holds.nd (by rfl) (.inl rfl) (me_call (ok__law_melodic T) mono__law_melodic (hr.mono (by decide)) (takes_of rfl rfl rfl rfl) (by rfl) T.g__law_melodic T.F__law_melodic.kp T.b__law_melodic (ma_cons (me_ix ix_seq lf_ix mn_ix (mv 0) me_int (fun _ _ => rfl)) (ma_cons (mv 1) (ma_cons (mv 2) ma_nil)))))
      (mss_cons (ms_if (mt_cmp (op_eqAll hu) lf_eq mn_eq (mv 3) me_str (nomark _)) (mss_one (ms_ret (me_and (me_cmp op_notN1 lf_notN mn_isN (mv 6) me_non (nomark _)) (me_one (me_chain op_le op_le lf_B0 lf_B0 mn_I0 mn_I0 (me_ix ix_seq lf_ix mn_ix (mv 0) me_int (fun _ _ => rfl)) (me_call (ok__law_height T) mono__law_height (hr.mono (by decide)) (takes_of rfl rfl rfl rfl) (by rfl) T.g__law_height T.F__law_height.kp T.b__law_height (ma_cons (mv 6) ma_nil)) (me_ix ix_seq lf_ix mn_ix (mv 0) me_int (fun _ _ => rfl))))))) mss_nil)
      (mss_cons (ms_if (mt_cmp (op_eqAll hu) lf_eq mn_eq (mv 3) me_str (nomark _)) (mss_one (ms_ret (me_and (me_cmp op_notN1 lf_notN mn_isN (mv 6) me_non (nomark _)) (me_one (me_cmp (op_inN (Nat.lt_of_le_of_lt (Nat.le_succ _) (room66 hr))) lf_inN mn_inN (mv 6) (me_ix ix_seq lf_ix mn_ix (mv 0) me_int (fun _ _ => rfl)) rfl))))) mss_nil)
      (mss_cons (ms_if (mt_cmp op_ge lf_B0 mn_I0 (me_ix ix_seq lf_ix mn_ix (mv 0) me_int (fun _ _ => rfl)) (mv 4) (nomark _)) (mss_one (ms_ret me_bl)) mss_nil)
      (mss_cons (ms_if (mt_cmp (op_eqAll hu) lf_eq mn_eq (mv 3) me_str (nomark _)) (mss_cons (ms_set (i := 11) sc__law_holds.nd (by rfl) (.inl rfl) (me_call (ok__law_melodic T) mono__law_melodic (hr.mono (by decide)) (takes_of rfl rfl rfl rfl) (by rfl) T.g__law_melodic T.F__law_melodic.kp T.b__law_melodic (ma_cons (me_ix ix_seq lf_ix mn_ix (mv 0) me_int (fun _ _ => rfl)) (ma_cons (mv 1) (ma_cons (mv 2) ma_nil)))))
      (mss_cons (ms_if (MW.mt (mw_or (mt_cmp op_isN1 lf_isN mn_isN (mv 6) me_non (nomark _)) (mw_or1 (mt_cmp op_isN1 lf_isN mn_isN (mv 11) me_non (nomark _))))) (mss_one (ms_ret me_bl)) mss_nil)
      (mss_one (ms_ret (me_cmp op_gt lf_B0 mn_I0 (me_op op_mulAll (lf_mul (cell := false)) mn_mul (me_call (ok__law_height T) mono__law_height (hr.mono (by decide)) (takes_of rfl rfl rfl rfl) (by rfl) T.g__law_height T.F__law_height.kp T.b__law_height (ma_cons (mv 6) ma_nil)) (me_call (ok__law_height T) mono__law_height (hr.mono (by decide)) (takes_of rfl rfl rfl rfl) (by rfl) T.g__law_height T.F__law_height.kp T.b__law_height (ma_cons (mv 11) ma_nil))) me_int (nomark _)))))) mss_nil)
      (mss_cons (ms_set (i := 7) sc__law_holds.nd (by rfl) (.inl rfl) (me_ix ix_seq lf_ix mn_ix (me_ix ix_seq lf_ix mn_ix (mv 2) me_int (fun _ _ => rfl)) (me_ix ix_seq lf_ix mn_ix (mv 0) me_int (fun _ _ => rfl)) (fun _ _ => rfl)))
      (mss_cons (ms_if (MW.mt (mw_or (mt_cmp op_isN1 lf_isN mn_isN (mv 5) me_non (nomark _)) (mw_or1 (mt_cmp op_isN1 lf_isN mn_isN (mv 7) me_non (nomark _))))) (mss_one (ms_ret me_bl)) mss_nil)
      (mss_cons (ms_set (i := 8) sc__law_holds.nd (by rfl) (.inl rfl) (me_op op_sub lf_I0 mn_I0 (me_call (ok__law_height T) mono__law_height (hr.mono (by decide)) (takes_of rfl rfl rfl rfl) (by rfl) T.g__law_height T.F__law_height.kp T.b__law_height (ma_cons (me_ix ix_seq lf_ix mn_ix (mv 7) me_int (fun _ _ => rfl)) ma_nil)) (me_call (ok__law_height T) mono__law_height (hr.mono (by decide)) (takes_of rfl rfl rfl rfl) (by rfl) T.g__law_height T.F__law_height.kp T.b__law_height (ma_cons (me_ix ix_seq lf_ix mn_ix (mv 5) me_int (fun _ _ => rfl)) ma_nil))))
      (mss_one (ms_ret (me_if (mt_cmp (op_eqAll hu) lf_eq mn_eq (mv 3) me_str (nomark _)) (me_chain op_le op_le lf_B0 lf_B0 mn_I0 mn_I0 (me_ix ix_seq lf_ix mn_ix (mv 0) me_int (fun _ _ => rfl)) (mv 8) (me_ix ix_seq lf_ix mn_ix (mv 0) me_int (fun _ _ => rfl))) (me_cmp op_in_seq lf_inT mn_inT (me_op op_modN lf_I mn_I (me_callTy call_intAll la_int mr_int (by rfl) T.z_int (by decide +kernel) (ma_cons (mv 8) ma_nil)) me_int) (me_ix ix_seq lf_ix mn_ix (mv 0) me_int (fun _ _ => rfl)) rfl))))))))))))))))))))), math__law_holds⟩
theorem ok__law_silence (T : Txt K mg wd) : FnOk P wd K mg base (L2.CX P wd) 1 T.f__law_silence T.fd__law_silence ["many"] (upP K sp__law_silence) :=
  okM T.F__law_silence sc__law_silence len__law_silence fun cdv A outer s H E hr => by
    have hu := hr.units
    exact ⟨r__law_silence, (mss_one (ms_ret (me_tup (ma_cons (me_tup (ma_cons me_int (ma_cons me_int ma_nil))) (ma_cons me_int (ma_cons (me_op op_mulT lf_mulT mn_mulT (me_tup (ma_cons me_non ma_nil)) (mv 0)) ma_nil)))))), math__law_silence⟩
theorem ok__law_near (T : Txt K mg wd) : FnOk P wd K mg base (L2.CX P wd) 5 T.f__law_near T.fd__law_near ["pool", "one", "other"] (upP K sp__law_near) :=
  okM T.F__law_near sc__law_near len__law_near fun cdv A outer s H E hr => by
    have hu := hr.units
    exact ⟨r__law_near, (mss_cons (ms_set (i := 3) sc__law_near.nd (by rfl) (.inr rfl) (me_call (ok__law_take T) mono__law_take (hr.mono (by decide)) (takes_of rfl rfl rfl rfl) (by rfl) T.g__law_take T.F__law_take.kp T.b__law_take (ma_cons (mv 0) (ma_cons (me_callB call_len la_len mr_len (by rfl) T.z_len (by decide +kernel) (ma_cons (me_ix ix_seq lf_ix mn_ix (mv 1) me_int (fun _ _ => rfl)) ma_nil)) ma_nil))))
      (mss_cons (ms_set (i := 4) sc__law_near.nd (by rfl) (.inl rfl) (me_call (ok__law_pick T) mono__law_pick (hr.mono (by decide)) (takes_of rfl rfl rfl rfl) (by rfl) T.g__law_pick T.F__law_pick.kp T.b__law_pick (ma_cons (mv 0) (ma_cons (me_lc (own := [("k", 9)]) false rfl sc__law_near.nd (mi_range1 (by rfl) T.z_range (ma_cons me_int ma_nil)) (blkOk_by (N := N__law_near) (sc := defScope s__law_near) (by decide +kernel)) (fun _ _ _ _ _ => pg_name (i := 9) sc__law_near.nd (by rfl) (.inl rfl)) cg_name (fun _ _ _ _ _ => (mts_one (mt_cmp (op_neAll hu) lf_ne mn_eq (mv 9) (mv 3) (nomark _)))) (fun _ _ _ _ _ => (mv 9))) ma_nil))))
      (mss_cons (ms_set (i := 5) sc__law_near.nd (by rfl) (.inl rfl) (me_call (ok__law_pick T) mono__law_pick (hr.mono (by decide)) (takes_of rfl rfl rfl rfl) (by rfl) T.g__law_pick T.F__law_pick.kp T.b__law_pick (ma_cons (mv 0) (ma_cons (me_lst false (ma_cons me_int (ma_cons me_int (ma_cons me_int (ma_cons (me_un un_neg lf_neg mn_neg me_int) ma_nil))))) ma_nil))))
      (mss_cons (ms_set (i := 6) sc__law_near.nd (by rfl) (.inl rfl) (me_call (ok__law_melodic T) mono__law_melodic (hr.mono (by decide)) (takes_of rfl rfl rfl rfl) (by rfl) T.g__law_melodic T.F__law_melodic.kp T.b__law_melodic (ma_cons (mv 3) (ma_cons (mv 1) (ma_cons (mv 2) ma_nil)))))
      (mss_cons (ms_if (MW.mt (mw_or (mt_cmp op_isN1 lf_isN mn_isN (mv 6) me_non (nomark _)) (mw_or1 (mt_cmp (op_eqAll hu) lf_eq mn_eq (me_call (ok__law_take T) mono__law_take (hr.mono (by decide)) (takes_of rfl rfl rfl rfl) (by rfl) T.g__law_take T.F__law_take.kp T.b__law_take (ma_cons (mv 0) (ma_cons me_int ma_nil))) me_int (nomark _))))) (mss_cons (ms_if (MW.mt (mw_or (mt_cmp op_ge lf_B0 mn_I0 (mv 4) (me_callB call_len la_len mr_len (by rfl) T.z_len (by decide +kernel) (ma_cons (me_ix ix_seq lf_ix mn_ix (mv 1) me_int (fun _ _ => rfl)) ma_nil)) (nomark _)) (mw_or (mt_cmp op_isN1 lf_isN mn_isN (me_ix ix_seq lf_ix mn_ix (me_ix ix_seq lf_ix mn_ix (mv 2) me_int (fun _ _ => rfl)) (mv 3) (fun _ _ => rfl)) me_non (nomark _)) (mw_or1 (mt_cmp op_isN1 lf_isN mn_isN (me_ix ix_seq lf_ix mn_ix (me_ix ix_seq lf_ix mn_ix (mv 2) me_int (fun _ _ => rfl)) (mv 4) (fun _ _ => rfl)) me_non (nomark _)))))) (mss_one (ms_ret (me_tup (ma_cons me_str (ma_cons (mv 3) ma_nil))))) mss_nil)
      (mss_cons (ms_set (i := 8) sc__law_near.nd (by rfl) (.inl rfl) (me_op op_sub lf_I0 mn_I0 (me_call (ok__law_height T) mono__law_height (hr.mono (by decide)) (takes_of rfl rfl rfl rfl) (by rfl) T.g__law_height T.F__law_height.kp T.b__law_height (ma_cons (me_ix ix_seq lf_ix mn_ix (me_ix ix_seq lf_ix mn_ix (me_ix ix_seq lf_ix mn_ix (mv 2) me_int (fun _ _ => rfl)) (mv 4) (fun _ _ => rfl)) me_int (fun _ _ => rfl)) ma_nil)) (me_call (ok__law_height T) mono__law_height (hr.mono (by decide)) (takes_of rfl rfl rfl rfl) (by rfl) T.g__law_height T.F__law_height.kp T.b__law_height (ma_cons (me_ix ix_seq lf_ix mn_ix (me_ix ix_seq lf_ix mn_ix (me_ix ix_seq lf_ix mn_ix (mv 2) me_int (fun _ _ => rfl)) (mv 3) (fun _ _ => rfl)) me_int (fun _ _ => rfl)) ma_nil))))
      (mss_cons (ms_if (mt_cmp (op_eqAll hu) lf_eq mn_eq (me_call (ok__law_take T) mono__law_take (hr.mono (by decide)) (takes_of rfl rfl rfl rfl) (by rfl) T.g__law_take T.F__law_take.kp T.b__law_take (ma_cons (mv 0) (ma_cons me_int ma_nil))) me_int (nomark _)) (mss_one (ms_ret (me_tup (ma_cons me_str (ma_cons (mv 3) (ma_cons (mv 4) (ma_cons (me_tup (ma_cons (me_op op_modN lf_I mn_I (me_callTy call_intAll la_int mr_int (by rfl) T.z_int (by decide +kernel) (ma_cons (me_op op_addAll (lf_add (cell := false)) mn_add (mv 8) (mv 5)) ma_nil)) me_int) ma_nil)) ma_nil))))))) mss_nil)
      (mss_one (ms_ret (me_tup (ma_cons me_str (ma_cons (mv 3) (ma_cons (mv 4) (ma_cons (me_callB (call_min2 rfl) la_min2 mr_I2 (by rfl) T.z_min (by decide +kernel) (ma_cons me_int (ma_cons (me_callB (call_max2 rfl) la_max2 mr_I2 (by rfl) T.z_max (by decide +kernel) (ma_cons (me_un un_neg lf_neg mn_neg me_int) (ma_cons (me_op op_addAll (lf_add (cell := false)) mn_add (mv 8) (mv 5)) ma_nil))) ma_nil))) (ma_cons (me_callB (call_min2 rfl) la_min2 mr_I2 (by rfl) T.z_min (by decide +kernel) (ma_cons me_int (ma_cons (me_callB (call_max2 rfl) la_max2 mr_I2 (by rfl) T.z_max (by decide +kernel) (ma_cons (me_un un_neg lf_neg mn_neg me_int) (ma_cons (me_op op_addAll (lf_add (cell := false)) mn_add (mv 8) (me_call (ok__law_pick T) mono__law_pick (hr.mono (by decide)) (takes_of rfl rfl rfl rfl) (by rfl) T.g__law_pick T.F__law_pick.kp T.b__law_pick (ma_cons (mv 0) (ma_cons (me_lst false (ma_cons me_int (ma_cons me_int (ma_cons me_int (ma_cons (me_un un_neg lf_neg mn_neg me_int) ma_nil))))) ma_nil)))) ma_nil))) ma_nil))) ma_nil))))))))))) mss_nil)
      (mss_cons (ms_set (i := 7) sc__law_near.nd (by rfl) (.inl rfl) (me_call (ok__law_height T) mono__law_height (hr.mono (by decide)) (takes_of rfl rfl rfl rfl) (by rfl) T.g__law_height T.F__law_height.kp T.b__law_height (ma_cons (mv 6) ma_nil)))
      (mss_cons (ms_if (mt_cmp (op_eqAll hu) lf_eq mn_eq (me_call (ok__law_take T) mono__law_take (hr.mono (by decide)) (takes_of rfl rfl rfl rfl) (by rfl) T.g__law_take T.F__law_take.kp T.b__law_take (ma_cons (mv 0) (ma_cons me_int ma_nil))) me_int (nomark _)) (mss_one (ms_ret (me_tup (ma_cons me_str (ma_cons (mv 3) (ma_cons (me_tup (ma_cons (me_tup (ma_cons me_int (ma_cons me_int ma_nil))) (ma_cons (me_tup (ma_cons (me_op op_addAll (lf_add (cell := false)) mn_add (me_ix ix_seq lf_ix mn_ix (mv 6) me_int (fun _ _ => rfl)) (me_op op_mulAll (lf_mul (cell := false)) mn_mul me_int (mv 5))) (ma_cons (me_op op_sub lf_I0 mn_I0 (me_ix ix_seq lf_ix mn_ix (mv 6) me_int (fun _ _ => rfl)) (me_op op_mulAll (lf_mul (cell := false)) mn_mul me_int (mv 5))) ma_nil))) ma_nil))) ma_nil)))))) mss_nil)
      (mss_one (ms_ret (me_tup (ma_cons me_str (ma_cons (mv 3) (ma_cons (me_callB (call_min2 rfl) la_min2 mr_I2 (by rfl) T.z_min (by decide +kernel) (ma_cons me_int (ma_cons (me_callB (call_max2 rfl) la_max2 mr_I2 (by rfl) T.z_max (by decide +kernel) (ma_cons (me_un un_neg lf_neg mn_neg me_int) (ma_cons (me_op op_addAll (lf_add (cell := false)) mn_add (mv 7) (mv 5)) ma_nil))) ma_nil))) (ma_cons (me_callB (call_min2 rfl) la_min2 mr_I2 (by rfl) T.z_min (by decide +kernel) (ma_cons me_int (ma_cons (me_callB (call_max2 rfl) la_max2 mr_I2 (by rfl) T.z_max (by decide +kernel) (ma_cons (me_un un_neg lf_neg mn_neg me_int) (ma_cons (me_op op_addAll (lf_add (cell := false)) mn_add (mv 7) (me_call (ok__law_pick T) mono__law_pick (hr.mono (by decide)) (takes_of rfl rfl rfl rfl) (by rfl) T.g__law_pick T.F__law_pick.kp T.b__law_pick (ma_cons (mv 0) (ma_cons (me_lst false (ma_cons me_int (ma_cons me_int (ma_cons me_int (ma_cons (me_un un_neg lf_neg mn_neg me_int) ma_nil))))) ma_nil)))) ma_nil))) ma_nil))) ma_nil)))))))))))))), math__law_near⟩
theorem ok__law_so (T : Txt K mg wd) : FnOk P wd K mg base (L2.CX P wd) 9 T.f__law_so T.fd__law_so ["pool", "thing"] (upP K sp__law_so) :=
  okM T.F__law_so sc__law_so len__law_so fun cdv A outer s H E hr => by
    have hu := hr.units
    exact ⟨r__law_so, (mss_one (ms_ret (me_if (mt_cmp (op_eqAll hu) lf_eq mn_eq (me_call (ok__law_take T) mono__law_take (hr.mono (by decide)) (takes_of rfl rfl rfl rfl) (by rfl) T.g__law_take T.F__law_take.kp T.b__law_take (ma_cons (mv 0) (ma_cons me_int ma_nil))) me_int (nomark _)) (me_call (ok__law_listed T) mono__law_listed (hr.mono (by decide)) (takes_of rfl rfl rfl rfl) (by rfl) T.g__law_listed T.F__law_listed.kp T.b__law_listed (ma_cons (mv 1) ma_nil)) (mv 1)))), math__law_so⟩
theorem ok_law (T : Txt K mg wd) : FnG P wd K mg base 10 T.f_law T.fd_law ["script"] (upP K sp_law) :=
  okMG T.F_law sc_law len_law fun cdv A outer s H E gd hr => by
    have hu := hr.units
    exact ⟨r_law, (mss_cons (ms_set (i := 1) sc_law.nd (by rfl) (.inr rfl) (me_call (ok__law_pool T) mono__law_pool (hr.mono (by decide)) (takes_of rfl rfl rfl rfl) (by rfl) T.g__law_pool T.F__law_pool.kp T.b__law_pool (ma_cons (mv 0) ma_nil)))
      (mss_cons (ms_set (i := 2) sc_law.nd (by rfl) (.inl rfl) (me_op op_addAll (lf_add (cell := false)) mn_add me_int (me_call (ok__law_take T) mono__law_take (hr.mono (by decide)) (takes_of rfl rfl rfl rfl) (by rfl) T.g__law_take T.F__law_take.kp T.b__law_take (ma_cons (mv 1) (ma_cons me_int ma_nil)))))
      (mss_cons (ms_setLc (i := 3) (own := [("k", 11)]) false rfl sc_law.nd (by rfl) (by rfl) (by rfl) (mi_range1 (by rfl) T.z_range (ma_cons (me_op op_addAll (lf_add (cell := false)) mn_add me_int (me_call (ok__law_take T) mono__law_take (hr.mono (by decide)) (takes_of rfl rfl rfl rfl) (by rfl) T.g__law_take T.F__law_take.kp T.b__law_take (ma_cons (mv 1) (ma_cons me_int ma_nil)))) ma_nil)) (blkOk_by (N := N_law) (sc := defScope s_law) (by decide +kernel)) (fun _ _ _ _ _ => pg_name (i := 11) sc_law.nd (by rfl) (.inl rfl)) cg_name (fun _ _ _ _ _ => mts_nil) (fun _ _ _ _ _ => (me_call (ok__law_tone T) mono__law_tone (hr.mono (by decide)) takes0 (by rfl) T.g__law_tone T.F__law_tone.kp T.b__law_tone (ma_cons (mv 1) ma_nil))))
      (mss_cons (ms_for (passes_of rfl) rfl (mi_range1 (by rfl) T.z_range (ma_cons me_int ma_nil)) (mg_name (i := 4) sc_law.nd (by rfl) (.inl rfl)) (mss_cons (ms_set (i := 5) sc_law.nd (by rfl) (.inl rfl) (me_call (ok__law_column T) mono__law_column (hr.mono (by decide)) (takes_of rfl rfl rfl rfl) (by rfl) T.g__law_column T.F__law_column.kp T.b__law_column (ma_cons (mv 1) (ma_cons (mv 2) (ma_cons me_non (ma_cons (mv 3) ma_nil))))))
      (mss_cons (ms_if (mt_cmp (op_eqAll hu) lf_eq mn_eq (me_call (ok__law_take T) mono__law_take (hr.mono (by decide)) (takes_of rfl rfl rfl rfl) (by rfl) T.g__law_take T.F__law_take.kp T.b__law_take (ma_cons (mv 1) (ma_cons me_int ma_nil))) me_int (nomark _)) (mss_one (ms_set (i := 5) sc_law.nd (by rfl) (.inl rfl) (me_call (ok__law_silence T) mono__law_silence (hr.mono (by decide)) (takes_of rfl rfl rfl rfl) (by rfl) T.g__law_silence T.F__law_silence.kp T.b__law_silence (ma_cons (mv 2) ma_nil)))) mss_nil)
      (mss_cons (ms_set (i := 6) sc_law.nd (by rfl) (.inl rfl) (me_call (ok__law_column T) mono__law_column (hr.mono (by decide)) (takes_of rfl rfl rfl rfl) (by rfl) T.g__law_column T.F__law_column.kp T.b__law_column (ma_cons (mv 1) (ma_cons (mv 2) (ma_cons (mv 5) (ma_cons (mv 3) ma_nil))))))
      (mss_cons (ms_set (i := 7) sc_law.nd (by rfl) (.inl rfl) (me_if (mt_cmp (op_eqAll hu) lf_eq mn_eq (me_call (ok__law_take T) mono__law_take (hr.mono (by decide)) (takes_of rfl rfl rfl rfl) (by rfl) T.g__law_take T.F__law_take.kp T.b__law_take (ma_cons (mv 1) (ma_cons me_int ma_nil))) me_int (nomark _)) (me_call (ok__law_test T) mono__law_test (hr.mono (by decide)) (takes_of rfl rfl rfl rfl) (by rfl) T.g__law_test T.F__law_test.kp T.b__law_test (ma_cons (mv 1) (ma_cons (mv 2) ma_nil))) (me_call (ok__law_near T) mono__law_near (hr.mono (by decide)) (takes_of rfl rfl rfl rfl) (by rfl) T.g__law_near T.F__law_near.kp T.b__law_near (ma_cons (mv 1) (ma_cons (mv 5) (ma_cons (mv 6) ma_nil))))))
      (mss_cons (ms_if (mt_cmp (op_eqAll hu) lf_eq mn_eq (me_ix ix_seq lf_ix mn_ix (mv 7) me_int (fun _ _ => rfl)) me_str (nomark _)) (mss_one (ms_set (i := 7) sc_law.nd (by rfl) (.inl rfl) (me_op op_addAll (lf_add (cell := false)) mn_add (me_slice sl_all (lsl_all (cell := false)) msl_all (mv 7) mo_none (mo_some me_int)) (me_tup (ma_cons (me_callTy call_tuple_of la_tuple mr_tuple (by rfl) T.z_tuple (by decide +kernel) (ma_cons (me_lc (own := [("part", 13)]) false rfl sc_law.nd (mi_seq (me_ix ix_seq lf_ix mn_ix (mv 7) me_int (fun _ _ => rfl))) (blkOk_by (N := N_law) (sc := defScope s_law) (by decide +kernel)) (fun _ _ _ _ _ => pg_name (i := 13) sc_law.nd (by rfl) (.inl rfl)) cg_name (fun _ _ _ _ _ => (mts_one (mt_cmp op_le lf_B0 mn_I0 (me_callB (call_max2 rfl) la_max2 mr_I2 (by rfl) T.z_max (by decide +kernel) (ma_cons (me_callB call_abs la_abs mr_I1 (by rfl) T.z_abs (by decide +kernel) (ma_cons (me_ix ix_seq lf_ix mn_ix (mv 13) me_int (fun _ _ => rfl)) ma_nil)) (ma_cons (me_callB call_abs la_abs mr_I1 (by rfl) T.z_abs (by decide +kernel) (ma_cons (me_ix ix_seq lf_ix mn_ix (mv 13) me_int (fun _ _ => rfl)) ma_nil)) ma_nil))) me_int (nomark _)))) (fun _ _ _ _ _ => (mv 13))) ma_nil)) ma_nil))))) mss_nil)
      (mss_cons (ms_set (i := 8) sc_law.nd (by rfl) (.inl rfl) (me_call (ok__law_holds T) mono__law_holds (hr.mono (by decide)) (takes_of rfl rfl rfl rfl) (by rfl) T.g__law_holds T.F__law_holds.kp T.b__law_holds (ma_cons (mv 7) (ma_cons (mv 5) (ma_cons (mv 6) ma_nil)))))
      (mss_cons (ms_if (mt_not (mt_tru (me_call (ok__law_same T) mono__law_same (hr.mono (by decide)) (takes_of rfl rfl rfl rfl) (by rfl) T.g__law_same T.F__law_same.kp T.b__law_same (ma_cons (me_call (ok_holds T) mono_holds (hr.mono (by decide)) (takes_of rfl rfl rfl rfl) (by rfl) T.g_holds T.F_holds.kp T.b_holds (ma_cons (me_call (ok__law_so T) mono__law_so (hr.mono (by decide)) (takes_of rfl rfl rfl rfl) (by rfl) T.g__law_so T.F__law_so.kp T.b__law_so (ma_cons (mv 1) (ma_cons (mv 7) ma_nil))) (ma_cons (me_call (ok__law_so T) mono__law_so (hr.mono (by decide)) (takes_of rfl rfl rfl rfl) (by rfl) T.g__law_so T.F__law_so.kp T.b__law_so (ma_cons (mv 1) (ma_cons (mv 5) ma_nil))) (ma_cons (me_call (ok__law_so T) mono__law_so (hr.mono (by decide)) (takes_of rfl rfl rfl rfl) (by rfl) T.g__law_so T.F__law_so.kp T.b__law_so (ma_cons (mv 1) (ma_cons (mv 6) ma_nil))) ma_nil)))) (ma_cons (mv 8) ma_nil))))) (mss_one (ms_ret me_bl)) mss_nil)
      (mss_cons (ms_set (i := 9) sc_law.nd (by rfl) (.inr rfl) (me_call (ok__law_interval T) mono__law_interval (hr.mono (by decide)) (takes_of rfl rfl rfl rfl) (by rfl) T.g__law_interval T.F__law_interval.kp T.b__law_interval (ma_cons (mv 1) ma_nil)))
      (mss_cons (ms_setLc (i := 10) (own := [("cell", 12)]) false rfl sc_law.nd (by rfl) (by rfl) (by rfl) (mi_seq (me_tup (ma_cons (mv 5) (ma_cons (mv 6) ma_nil)))) (blkOk_by (N := N_law) (sc := defScope s_law) (by decide +kernel)) (fun _ _ _ _ _ => pg_name (i := 12) sc_law.nd (by rfl) (.inl rfl)) cg_name (fun _ _ _ _ _ => mts_nil) (fun _ _ _ _ _ => (me_call (ok__law_raised T) mono__law_raised (hr.mono (by decide)) takes0 (by rfl) T.g__law_raised T.F__law_raised.kp T.b__law_raised (ma_cons (mv 12) (ma_cons me_int (ma_cons (mv 9) ma_nil))))))
      (mss_cons (ms_setLc (i := 10) (own := [("cell", 12)]) false rfl sc_law.nd (by rfl) (by rfl) (by rfl) (mi_seq (mv 10)) (blkOk_by (N := N_law) (sc := defScope s_law) (by decide +kernel)) (fun _ _ _ _ _ => pg_name (i := 12) sc_law.nd (by rfl) (.inl rfl)) cg_name (fun _ _ _ _ _ => mts_nil) (fun _ _ _ _ _ => (me_tup (ma_cons (me_call (ok__law_times T) mono__law_times (hr.mono (by decide)) takes0 (by rfl) T.g__law_times T.F__law_times.kp T.b__law_times (ma_cons (me_ix ix_seq lf_ix mn_ix (mv 12) me_int (fun _ _ => rfl)) (ma_cons (me_tup (ma_cons me_int (ma_cons me_int ma_nil))) ma_nil))) (ma_cons (me_ix ix_seq lf_ix mn_ix (mv 12) me_int (fun _ _ => rfl)) (ma_cons (me_ix ix_seq lf_ix mn_ix (mv 12) me_int (fun _ _ => rfl)) ma_nil))))))
      (mss_one (ms_if (mt_not (mt_tru (me_call (ok__law_same T) mono__law_same (hr.mono (by decide)) (takes_of rfl rfl rfl rfl) (by rfl) T.g__law_same T.F__law_same.kp T.b__law_same (ma_cons (me_call (ok_holds T) mono_holds (hr.mono (by decide)) (takes_of rfl rfl rfl rfl) (by rfl) T.g_holds T.F_holds.kp T.b_holds (ma_cons (mv 7) (ma_cons (me_ix ix_seq lf_ix mn_ix (mv 10) me_int (fun _ _ => rfl)) (ma_cons (me_ix ix_seq lf_ix mn_ix (mv 10) me_int (fun _ _ => rfl)) ma_nil)))) (ma_cons (mv 8) ma_nil))))) (mss_one (ms_ret me_bl)) mss_nil)))))))))))))
      (mss_one (ms_ret me_bl)))))), math_law⟩
end

theorem bnd_fraction {K : PySem.W.Frag} {f : Addr} {fd : FuncData} (F : Fun K "fraction" "fraction" s_fraction f fd) : Binds K fd ["n", "d"] [] := F.binds fun _ _ _ _ _ _ us hl => match us, hl with | [_, _], _ => rfl
theorem bnd_quotient {K : PySem.W.Frag} {f : Addr} {fd : FuncData} (F : Fun K "quotient" "quotient" s_quotient f fd) : Binds K fd ["one", "other"] [] := F.binds fun _ _ _ _ _ _ us hl => match us, hl with | [_, _], _ => rfl
theorem bnd_is_less {K : PySem.W.Frag} {f : Addr} {fd : FuncData} (F : Fun K "is_less" "is_less" s_is_less f fd) : Binds K fd ["one", "other"] [] := F.binds fun _ _ _ _ _ _ us hl => match us, hl with | [_, _], _ => rfl
theorem bnd_height {K : PySem.W.Frag} {f : Addr} {fd : FuncData} (F : Fun K "height" "height" s_height f fd) : Binds K fd ["interval"] [] := F.binds fun _ _ _ _ _ _ us hl => match us, hl with | [_], _ => rfl
theorem bnd_between {K : PySem.W.Frag} {f : Addr} {fd : FuncData} (F : Fun K "between" "between" s_between f fd) : Binds K fd ["one", "other"] [] := F.binds fun _ _ _ _ _ _ us hl => match us, hl with | [_, _], _ => rfl
theorem bnd_settled_entry {K : PySem.W.Frag} {f : Addr} {fd : FuncData} (F : Fun K "settled_entry" "settled_entry" s_settled_entry f fd) : Binds K fd ["entry"] [] := F.binds fun _ _ _ _ _ _ us hl => match us, hl with | [_], _ => rfl
theorem bnd_settled {K : PySem.W.Frag} {f : Addr} {fd : FuncData} (F : Fun K "settled" "settled" s_settled f fd) : Binds K fd ["column"] [] := F.binds fun _ _ _ _ _ _ us hl => match us, hl with | [_], _ => rfl
theorem bnd_is_loose {K : PySem.W.Frag} {f : Addr} {fd : FuncData} (F : Fun K "is_loose" "is_loose" s_is_loose f fd) : Binds K fd ["entry", "before"] [] := F.binds fun _ _ _ _ _ _ us hl => match us, hl with | [_, _], _ => rfl
theorem bnd_settled_test {K : PySem.W.Frag} {f : Addr} {fd : FuncData} (F : Fun K "settled_test" "settled_test" s_settled_test f fd) : Binds K fd ["test"] [] := F.binds fun _ _ _ _ _ _ us hl => match us, hl with | [_], _ => rfl
theorem bnd_melodic {K : PySem.W.Frag} {f : Addr} {fd : FuncData} (F : Fun K "melodic" "melodic" s_melodic f fd) : Binds K fd ["voice", "one", "other"] [] := F.binds fun _ _ _ _ _ _ us hl => match us, hl with | [_, _, _], _ => rfl
theorem bnd_upright {K : PySem.W.Frag} {f : Addr} {fd : FuncData} (F : Fun K "upright" "upright" s_upright f fd) : Binds K fd ["voice", "higher", "other"] [] := F.binds fun _ _ _ _ _ _ us hl => match us, hl with | [_, _, _], _ => rfl
theorem bnd_along {K : PySem.W.Frag} {f : Addr} {fd : FuncData} (F : Fun K "along" "along" s_along f fd) : Binds K fd ["voice", "second", "one", "other"] [] := F.binds fun _ _ _ _ _ _ us hl => match us, hl with | [_, _, _, _], _ => rfl
theorem bnd_lasts {K : PySem.W.Frag} {f : Addr} {fd : FuncData} (F : Fun K "lasts" "lasts" s_lasts f fd) : Binds K fd ["low", "high", "one", "other"] [] := F.binds fun _ _ _ _ _ _ us hl => match us, hl with | [_, _, _, _], _ => rfl
theorem bnd_is_true {K : PySem.W.Frag} {f : Addr} {fd : FuncData} (F : Fun K "is_true" "is_true" s_is_true f fd) : Binds K fd ["test", "one", "other"] [] := F.binds fun _ _ _ _ _ _ us hl => match us, hl with | [_, _, _], _ => rfl
theorem bnd_holds {K : PySem.W.Frag} {f : Addr} {fd : FuncData} (F : Fun K "holds" "holds" s_holds f fd) : Binds K fd ["test", "one", "other"] [] := F.binds fun _ _ _ _ _ _ us hl => match us, hl with | [_, _, _], _ => rfl
theorem bnd__law_pool {K : PySem.W.Frag} {f : Addr} {fd : FuncData} (F : Fun K "_law_pool" "_law_pool" s__law_pool f fd) : Binds K fd ["script"] [] := F.binds fun _ _ _ _ _ _ us hl => match us, hl with | [_], _ => rfl
theorem bnd__law_take {K : PySem.W.Frag} {f : Addr} {fd : FuncData} (F : Fun K "_law_take" "_law_take" s__law_take f fd) : Binds K fd ["pool", "many"] [] := F.binds fun _ _ _ _ _ _ us hl => match us, hl with | [_, _], _ => rfl
theorem bnd__law_pick {K : PySem.W.Frag} {f : Addr} {fd : FuncData} (F : Fun K "_law_pick" "_law_pick" s__law_pick f fd) : Binds K fd ["pool", "rows"] [] := F.binds fun _ _ _ _ _ _ us hl => match us, hl with | [_, _], _ => rfl
theorem bnd__law_is_integer {K : PySem.W.Frag} {f : Addr} {fd : FuncData} (F : Fun K "_law_is_integer" "_law_is_integer" s__law_is_integer f fd) : Binds K fd ["actual"] [] := F.binds fun _ _ _ _ _ _ us hl => match us, hl with | [_], _ => rfl
theorem bnd__law_same {K : PySem.W.Frag} {f : Addr} {fd : FuncData} (F : Fun K "_law_same" "_law_same" s__law_same f fd) : Binds K fd ["actual", "due"] [] := F.binds fun _ _ _ _ _ _ us hl => match us, hl with | [_, _], _ => rfl
theorem bnd__law_lowest {K : PySem.W.Frag} {f : Addr} {fd : FuncData} (F : Fun K "_law_lowest" "_law_lowest" s__law_lowest f fd) : Binds K fd ["n", "d"] [] := F.binds fun _ _ _ _ _ _ us hl => match us, hl with | [_, _], _ => rfl
theorem bnd__law_sum {K : PySem.W.Frag} {f : Addr} {fd : FuncData} (F : Fun K "_law_sum" "_law_sum" s__law_sum f fd) : Binds K fd ["one", "other"] [] := F.binds fun _ _ _ _ _ _ us hl => match us, hl with | [_, _], _ => rfl
theorem bnd__law_times {K : PySem.W.Frag} {f : Addr} {fd : FuncData} (F : Fun K "_law_times" "_law_times" s__law_times f fd) : Binds K fd ["one", "other"] [] := F.binds fun _ _ _ _ _ _ us hl => match us, hl with | [_, _], _ => rfl
theorem bnd__law_duration {K : PySem.W.Frag} {f : Addr} {fd : FuncData} (F : Fun K "_law_duration" "_law_duration" s__law_duration f fd) : Binds K fd ["pool"] [] := F.binds fun _ _ _ _ _ _ us hl => match us, hl with | [_], _ => rfl
theorem bnd__law_tone {K : PySem.W.Frag} {f : Addr} {fd : FuncData} (F : Fun K "_law_tone" "_law_tone" s__law_tone f fd) : Binds K fd ["pool"] [] := F.binds fun _ _ _ _ _ _ us hl => match us, hl with | [_], _ => rfl
theorem bnd__law_interval {K : PySem.W.Frag} {f : Addr} {fd : FuncData} (F : Fun K "_law_interval" "_law_interval" s__law_interval f fd) : Binds K fd ["pool"] [] := F.binds fun _ _ _ _ _ _ us hl => match us, hl with | [_], _ => rfl
theorem bnd__law_column {K : PySem.W.Frag} {f : Addr} {fd : FuncData} (F : Fun K "_law_column" "_law_column" s__law_column f fd) : Binds K fd ["pool", "voices", "before", "some"] [] := F.binds fun _ _ _ _ _ _ us hl => match us, hl with | [_, _, _, _], _ => rfl
theorem bnd__law_raised {K : PySem.W.Frag} {f : Addr} {fd : FuncData} (F : Fun K "_law_raised" "_law_raised" s__law_raised f fd) : Binds K fd ["cell", "sign", "tone"] [] := F.binds fun _ _ _ _ _ _ us hl => match us, hl with | [_, _, _], _ => rfl
theorem bnd__law_listed {K : PySem.W.Frag} {f : Addr} {fd : FuncData} (F : Fun K "_law_listed" "_law_listed" s__law_listed f fd) : Binds K fd ["thing"] [] := F.binds fun _ _ _ _ _ _ us hl => match us, hl with | [_], _ => rfl
theorem bnd__law_height {K : PySem.W.Frag} {f : Addr} {fd : FuncData} (F : Fun K "_law_height" "_law_height" s__law_height f fd) : Binds K fd ["tone"] [] := F.binds fun _ _ _ _ _ _ us hl => match us, hl with | [_], _ => rfl
theorem bnd__law_test {K : PySem.W.Frag} {f : Addr} {fd : FuncData} (F : Fun K "_law_test" "_law_test" s__law_test f fd) : Binds K fd ["pool", "voices"] [] := F.binds fun _ _ _ _ _ _ us hl => match us, hl with | [_, _], _ => rfl
theorem bnd__law_loose {K : PySem.W.Frag} {f : Addr} {fd : FuncData} (F : Fun K "_law_loose" "_law_loose" s__law_loose f fd) : Binds K fd ["entry", "before"] [] := F.binds fun _ _ _ _ _ _ us hl => match us, hl with | [_, _], _ => rfl
theorem bnd__law_melodic {K : PySem.W.Frag} {f : Addr} {fd : FuncData} (F : Fun K "_law_melodic" "_law_melodic" s__law_melodic f fd) : Binds K fd ["voice", "one", "other"] [] := F.binds fun _ _ _ _ _ _ us hl => match us, hl with | [_, _, _], _ => rfl
theorem bnd__law_holds {K : PySem.W.Frag} {f : Addr} {fd : FuncData} (F : Fun K "_law_holds" "_law_holds" s__law_holds f fd) : Binds K fd ["test", "one", "other"] [] := F.binds fun _ _ _ _ _ _ us hl => match us, hl with | [_, _, _], _ => rfl
theorem bnd__law_silence {K : PySem.W.Frag} {f : Addr} {fd : FuncData} (F : Fun K "_law_silence" "_law_silence" s__law_silence f fd) : Binds K fd ["many"] [] := F.binds fun _ _ _ _ _ _ us hl => match us, hl with | [_], _ => rfl
theorem bnd__law_near {K : PySem.W.Frag} {f : Addr} {fd : FuncData} (F : Fun K "_law_near" "_law_near" s__law_near f fd) : Binds K fd ["pool", "one", "other"] [] := F.binds fun _ _ _ _ _ _ us hl => match us, hl with | [_, _, _], _ => rfl
theorem bnd__law_so {K : PySem.W.Frag} {f : Addr} {fd : FuncData} (F : Fun K "_law_so" "_law_so" s__law_so f fd) : Binds K fd ["pool", "thing"] [] := F.binds fun _ _ _ _ _ _ us hl => match us, hl with | [_, _], _ => rfl
theorem bnd_law {K : PySem.W.Frag} {f : Addr} {fd : FuncData} (F : Fun K "law" "law" s_law f fd) : Binds K fd ["script"] [] := F.binds fun _ _ _ _ _ _ us hl => match us, hl with | [_], _ => rfl
noncomputable def txt_mk {wd : World} {K : PySem.W.Frag} {h : Heap} {mg : Str → Option Value} (X : K.In h) (G : h.Ns mainGlobals mg)
    {oc_fraction kV_fraction dc_fraction pm_fraction cd_fraction ct_fraction : Value} {od_fraction an_fraction : Option Addr} {sl_fraction : Array (Option Value)} {f_fraction : Addr}
    {oc_quotient kV_quotient dc_quotient pm_quotient cd_quotient ct_quotient : Value} {od_quotient an_quotient : Option Addr} {sl_quotient : Array (Option Value)} {f_quotient : Addr}
    {oc_is_less kV_is_less dc_is_less pm_is_less cd_is_less ct_is_less : Value} {od_is_less an_is_less : Option Addr} {sl_is_less : Array (Option Value)} {f_is_less : Addr}
    {oc_height kV_height dc_height pm_height cd_height ct_height : Value} {od_height an_height : Option Addr} {sl_height : Array (Option Value)} {f_height : Addr}
    {oc_between kV_between dc_between pm_between cd_between ct_between : Value} {od_between an_between : Option Addr} {sl_between : Array (Option Value)} {f_between : Addr}
    {oc_settled_entry kV_settled_entry dc_settled_entry pm_settled_entry cd_settled_entry ct_settled_entry : Value} {od_settled_entry an_settled_entry : Option Addr} {sl_settled_entry : Array (Option Value)} {f_settled_entry : Addr}
    {oc_settled kV_settled dc_settled pm_settled cd_settled ct_settled : Value} {od_settled an_settled : Option Addr} {sl_settled : Array (Option Value)} {f_settled : Addr}
    {oc_is_loose kV_is_loose dc_is_loose pm_is_loose cd_is_loose ct_is_loose : Value} {od_is_loose an_is_loose : Option Addr} {sl_is_loose : Array (Option Value)} {f_is_loose : Addr}
    {oc_settled_test kV_settled_test dc_settled_test pm_settled_test cd_settled_test ct_settled_test : Value} {od_settled_test an_settled_test : Option Addr} {sl_settled_test : Array (Option Value)} {f_settled_test : Addr}
    {oc_melodic kV_melodic dc_melodic pm_melodic cd_melodic ct_melodic : Value} {od_melodic an_melodic : Option Addr} {sl_melodic : Array (Option Value)} {f_melodic : Addr}
    {oc_upright kV_upright dc_upright pm_upright cd_upright ct_upright : Value} {od_upright an_upright : Option Addr} {sl_upright : Array (Option Value)} {f_upright : Addr}
    {oc_along kV_along dc_along pm_along cd_along ct_along : Value} {od_along an_along : Option Addr} {sl_along : Array (Option Value)} {f_along : Addr}
    {oc_lasts kV_lasts dc_lasts pm_lasts cd_lasts ct_lasts : Value} {od_lasts an_lasts : Option Addr} {sl_lasts : Array (Option Value)} {f_lasts : Addr}
    {oc_is_true kV_is_true dc_is_true pm_is_true cd_is_true ct_is_true : Value} {od_is_true an_is_true : Option Addr} {sl_is_true : Array (Option Value)} {f_is_true : Addr}
    {oc_holds kV_holds dc_holds pm_holds cd_holds ct_holds : Value} {od_holds an_holds : Option Addr} {sl_holds : Array (Option Value)} {f_holds : Addr}
    {oc__law_pool kV__law_pool dc__law_pool pm__law_pool cd__law_pool ct__law_pool : Value} {od__law_pool an__law_pool : Option Addr} {sl__law_pool : Array (Option Value)} {f__law_pool : Addr}
    {oc__law_take kV__law_take dc__law_take pm__law_take cd__law_take ct__law_take : Value} {od__law_take an__law_take : Option Addr} {sl__law_take : Array (Option Value)} {f__law_take : Addr}
    {oc__law_pick kV__law_pick dc__law_pick pm__law_pick cd__law_pick ct__law_pick : Value} {od__law_pick an__law_pick : Option Addr} {sl__law_pick : Array (Option Value)} {f__law_pick : Addr}
    {oc__law_is_integer kV__law_is_integer dc__law_is_integer pm__law_is_integer cd__law_is_integer ct__law_is_integer : Value} {od__law_is_integer an__law_is_integer : Option Addr} {sl__law_is_integer : Array (Option Value)} {f__law_is_integer : Addr}
    {oc__law_same kV__law_same dc__law_same pm__law_same cd__law_same ct__law_same : Value} {od__law_same an__law_same : Option Addr} {sl__law_same : Array (Option Value)} {f__law_same : Addr}
    {oc__law_lowest kV__law_lowest dc__law_lowest pm__law_lowest cd__law_lowest ct__law_lowest : Value} {od__law_lowest an__law_lowest : Option Addr} {sl__law_lowest : Array (Option Value)} {f__law_lowest : Addr}
    {oc__law_sum kV__law_sum dc__law_sum pm__law_sum cd__law_sum ct__law_sum : Value} {od__law_sum an__law_sum : Option Addr} {sl__law_sum : Array (Option Value)} {f__law_sum : Addr}
    {oc__law_times kV__law_times dc__law_times pm__law_times cd__law_times ct__law_times : Value} {od__law_times an__law_times : Option Addr} {sl__law_times : Array (Option Value)} {f__law_times : Addr}
    {oc__law_duration kV__law_duration dc__law_duration pm__law_duration cd__law_duration ct__law_duration : Value} {od__law_duration an__law_duration : Option Addr} {sl__law_duration : Array (Option Value)} {f__law_duration : Addr}
    {oc__law_tone kV__law_tone dc__law_tone pm__law_tone cd__law_tone ct__law_tone : Value} {od__law_tone an__law_tone : Option Addr} {sl__law_tone : Array (Option Value)} {f__law_tone : Addr}
    {oc__law_interval kV__law_interval dc__law_interval pm__law_interval cd__law_interval ct__law_interval : Value} {od__law_interval an__law_interval : Option Addr} {sl__law_interval : Array (Option Value)} {f__law_interval : Addr}
    {oc__law_column kV__law_column dc__law_column pm__law_column cd__law_column ct__law_column : Value} {od__law_column an__law_column : Option Addr} {sl__law_column : Array (Option Value)} {f__law_column : Addr}
    {oc__law_raised kV__law_raised dc__law_raised pm__law_raised cd__law_raised ct__law_raised : Value} {od__law_raised an__law_raised : Option Addr} {sl__law_raised : Array (Option Value)} {f__law_raised : Addr}
    {oc__law_listed kV__law_listed dc__law_listed pm__law_listed cd__law_listed ct__law_listed : Value} {od__law_listed an__law_listed : Option Addr} {sl__law_listed : Array (Option Value)} {f__law_listed : Addr}
    {oc__law_height kV__law_height dc__law_height pm__law_height cd__law_height ct__law_height : Value} {od__law_height an__law_height : Option Addr} {sl__law_height : Array (Option Value)} {f__law_height : Addr}
    {oc__law_test kV__law_test dc__law_test pm__law_test cd__law_test ct__law_test : Value} {od__law_test an__law_test : Option Addr} {sl__law_test : Array (Option Value)} {f__law_test : Addr}
    {oc__law_loose kV__law_loose dc__law_loose pm__law_loose cd__law_loose ct__law_loose : Value} {od__law_loose an__law_loose : Option Addr} {sl__law_loose : Array (Option Value)} {f__law_loose : Addr}
    {oc__law_melodic kV__law_melodic dc__law_melodic pm__law_melodic cd__law_melodic ct__law_melodic : Value} {od__law_melodic an__law_melodic : Option Addr} {sl__law_melodic : Array (Option Value)} {f__law_melodic : Addr}
    {oc__law_holds kV__law_holds dc__law_holds pm__law_holds cd__law_holds ct__law_holds : Value} {od__law_holds an__law_holds : Option Addr} {sl__law_holds : Array (Option Value)} {f__law_holds : Addr}
    {oc__law_silence kV__law_silence dc__law_silence pm__law_silence cd__law_silence ct__law_silence : Value} {od__law_silence an__law_silence : Option Addr} {sl__law_silence : Array (Option Value)} {f__law_silence : Addr}
    {oc__law_near kV__law_near dc__law_near pm__law_near cd__law_near ct__law_near : Value} {od__law_near an__law_near : Option Addr} {sl__law_near : Array (Option Value)} {f__law_near : Addr}
    {oc__law_so kV__law_so dc__law_so pm__law_so cd__law_so ct__law_so : Value} {od__law_so an__law_so : Option Addr} {sl__law_so : Array (Option Value)} {f__law_so : Addr}
    {oc_law kV_law dc_law pm_law cd_law ct_law : Value} {od_law an_law : Option Addr} {sl_law : Array (Option Value)} {f_law : Addr}
    (a_fraction : PySem.W.nsIn K mainGlobals "fraction" = some (some (.ref f_fraction))) (l_fraction : K.lookup f_fraction = some ⟨oc_fraction, od_fraction, .func (PySem.W.fnOf "fraction" "fraction" (defArgs s_fraction) (defBody s_fraction) (defScope s_fraction) .none kV_fraction dc_fraction pm_fraction an_fraction cd_fraction ct_fraction), sl_fraction⟩) (c_fraction : PySem.W.codeIn K cd_fraction "fraction" = true) (k_fraction : PySem.W.keepIn K (.ref f_fraction) = true)
    (a_quotient : PySem.W.nsIn K mainGlobals "quotient" = some (some (.ref f_quotient))) (l_quotient : K.lookup f_quotient = some ⟨oc_quotient, od_quotient, .func (PySem.W.fnOf "quotient" "quotient" (defArgs s_quotient) (defBody s_quotient) (defScope s_quotient) .none kV_quotient dc_quotient pm_quotient an_quotient cd_quotient ct_quotient), sl_quotient⟩) (c_quotient : PySem.W.codeIn K cd_quotient "quotient" = true) (k_quotient : PySem.W.keepIn K (.ref f_quotient) = true)
    (a_is_less : PySem.W.nsIn K mainGlobals "is_less" = some (some (.ref f_is_less))) (l_is_less : K.lookup f_is_less = some ⟨oc_is_less, od_is_less, .func (PySem.W.fnOf "is_less" "is_less" (defArgs s_is_less) (defBody s_is_less) (defScope s_is_less) .none kV_is_less dc_is_less pm_is_less an_is_less cd_is_less ct_is_less), sl_is_less⟩) (c_is_less : PySem.W.codeIn K cd_is_less "is_less" = true) (k_is_less : PySem.W.keepIn K (.ref f_is_less) = true)
    (a_height : PySem.W.nsIn K mainGlobals "height" = some (some (.ref f_height))) (l_height : K.lookup f_height = some ⟨oc_height, od_height, .func (PySem.W.fnOf "height" "height" (defArgs s_height) (defBody s_height) (defScope s_height) .none kV_height dc_height pm_height an_height cd_height ct_height), sl_height⟩) (c_height : PySem.W.codeIn K cd_height "height" = true) (k_height : PySem.W.keepIn K (.ref f_height) = true)
    (a_between : PySem.W.nsIn K mainGlobals "between" = some (some (.ref f_between))) (l_between : K.lookup f_between = some ⟨oc_between, od_between, .func (PySem.W.fnOf "between" "between" (defArgs s_between) (defBody s_between) (defScope s_between) .none kV_between dc_between pm_between an_between cd_between ct_between), sl_between⟩) (c_between : PySem.W.codeIn K cd_between "between" = true) (k_between : PySem.W.keepIn K (.ref f_between) = true)
    (a_settled_entry : PySem.W.nsIn K mainGlobals "settled_entry" = some (some (.ref f_settled_entry))) (l_settled_entry : K.lookup f_settled_entry = some ⟨oc_settled_entry, od_settled_entry, .func (PySem.W.fnOf "settled_entry" "settled_entry" (defArgs s_settled_entry) (defBody s_settled_entry) (defScope s_settled_entry) .none kV_settled_entry dc_settled_entry pm_settled_entry an_settled_entry cd_settled_entry ct_settled_entry), sl_settled_entry⟩) (c_settled_entry : PySem.W.codeIn K cd_settled_entry "settled_entry" = true) (k_settled_entry : PySem.W.keepIn K (.ref f_settled_entry) = true)
    (a_settled : PySem.W.nsIn K mainGlobals "settled" = some (some (.ref f_settled))) (l_settled : K.lookup f_settled = some ⟨oc_settled, od_settled, .func (PySem.W.fnOf "settled" "settled" (defArgs s_settled) (defBody s_settled) (defScope s_settled) .none kV_settled dc_settled pm_settled an_settled cd_settled ct_settled), sl_settled⟩) (c_settled : PySem.W.codeIn K cd_settled "settled" = true) (k_settled : PySem.W.keepIn K (.ref f_settled) = true)
    (a_is_loose : PySem.W.nsIn K mainGlobals "is_loose" = some (some (.ref f_is_loose))) (l_is_loose : K.lookup f_is_loose = some ⟨oc_is_loose, od_is_loose, .func (PySem.W.fnOf "is_loose" "is_loose" (defArgs s_is_loose) (defBody s_is_loose) (defScope s_is_loose) .none kV_is_loose dc_is_loose pm_is_loose an_is_loose cd_is_loose ct_is_loose), sl_is_loose⟩) (c_is_loose : PySem.W.codeIn K cd_is_loose "is_loose" = true) (k_is_loose : PySem.W.keepIn K (.ref f_is_loose) = true)
    (a_settled_test : PySem.W.nsIn K mainGlobals "settled_test" = some (some (.ref f_settled_test))) (l_settled_test : K.lookup f_settled_test = some ⟨oc_settled_test, od_settled_test, .func (PySem.W.fnOf "settled_test" "settled_test" (defArgs s_settled_test) (defBody s_settled_test) (defScope s_settled_test) .none kV_settled_test dc_settled_test pm_settled_test an_settled_test cd_settled_test ct_settled_test), sl_settled_test⟩) (c_settled_test : PySem.W.codeIn K cd_settled_test "settled_test" = true) (k_settled_test : PySem.W.keepIn K (.ref f_settled_test) = true)
    (a_melodic : PySem.W.nsIn K mainGlobals "melodic" = some (some (.ref f_melodic))) (l_melodic : K.lookup f_melodic = some ⟨oc_melodic, od_melodic, .func (PySem.W.fnOf "melodic" "melodic" (defArgs s_melodic) (defBody s_melodic) (defScope s_melodic) .none kV_melodic dc_melodic pm_melodic an_melodic cd_melodic ct_melodic), sl_melodic⟩) (c_melodic : PySem.W.codeIn K cd_melodic "melodic" = true) (k_melodic : PySem.W.keepIn K (.ref f_melodic) = true)
    (a_upright : PySem.W.nsIn K mainGlobals "upright" = some (some (.ref f_upright))) (l_upright : K.lookup f_upright = some ⟨oc_upright, od_upright, .func (PySem.W.fnOf "upright" "upright" (defArgs s_upright) (defBody s_upright) (defScope s_upright) .none kV_upright dc_upright pm_upright an_upright cd_upright ct_upright), sl_upright⟩) (c_upright : PySem.W.codeIn K cd_upright "upright" = true) (k_upright : PySem.W.keepIn K (.ref f_upright) = true)
    (a_along : PySem.W.nsIn K mainGlobals "along" = some (some (.ref f_along))) (l_along : K.lookup f_along = some ⟨oc_along, od_along, .func (PySem.W.fnOf "along" "along" (defArgs s_along) (defBody s_along) (defScope s_along) .none kV_along dc_along pm_along an_along cd_along ct_along), sl_along⟩) (c_along : PySem.W.codeIn K cd_along "along" = true) (k_along : PySem.W.keepIn K (.ref f_along) = true)
    (a_lasts : PySem.W.nsIn K mainGlobals "lasts" = some (some (.ref f_lasts))) (l_lasts : K.lookup f_lasts = some ⟨oc_lasts, od_lasts, .func (PySem.W.fnOf "lasts" "lasts" (defArgs s_lasts) (defBody s_lasts) (defScope s_lasts) .none kV_lasts dc_lasts pm_lasts an_lasts cd_lasts ct_lasts), sl_lasts⟩) (c_lasts : PySem.W.codeIn K cd_lasts "lasts" = true) (k_lasts : PySem.W.keepIn K (.ref f_lasts) = true)
    (a_is_true : PySem.W.nsIn K mainGlobals "is_true" = some (some (.ref f_is_true))) (l_is_true : K.lookup f_is_true = some ⟨oc_is_true, od_is_true, .func (PySem.W.fnOf "is_true" "is_true" (defArgs s_is_true) (defBody s_is_true) (defScope s_is_true) .none kV_is_true dc_is_true pm_is_true an_is_true cd_is_true ct_is_true), sl_is_true⟩) (c_is_true : PySem.W.codeIn K cd_is_true "is_true" = true) (k_is_true : PySem.W.keepIn K (.ref f_is_true) = true)
    (a_holds : PySem.W.nsIn K mainGlobals "holds" = some (some (.ref f_holds))) (l_holds : K.lookup f_holds = some ⟨oc_holds, od_holds, .func (PySem.W.fnOf "holds" "holds" (defArgs s_holds) (defBody s_holds) (defScope s_holds) .none kV_holds dc_holds pm_holds an_holds cd_holds ct_holds), sl_holds⟩) (c_holds : PySem.W.codeIn K cd_holds "holds" = true) (k_holds : PySem.W.keepIn K (.ref f_holds) = true)
    (a__law_pool : PySem.W.nsIn K mainGlobals "_law_pool" = some (some (.ref f__law_pool))) (l__law_pool : K.lookup f__law_pool = some ⟨oc__law_pool, od__law_pool, .func (PySem.W.fnOf "_law_pool" "_law_pool" (defArgs s__law_pool) (defBody s__law_pool) (defScope s__law_pool) .none kV__law_pool dc__law_pool pm__law_pool an__law_pool cd__law_pool ct__law_pool), sl__law_pool⟩) (c__law_pool : PySem.W.codeIn K cd__law_pool "_law_pool" = true) (k__law_pool : PySem.W.keepIn K (.ref f__law_pool) = true)
    (a__law_take : PySem.W.nsIn K mainGlobals "_law_take" = some (some (.ref f__law_take))) (l__law_take : K.lookup f__law_take = some ⟨oc__law_take, od__law_take, .func (PySem.W.fnOf "_law_take" "_law_take" (defArgs s__law_take) (defBody s__law_take) (defScope s__law_take) .none kV__law_take dc__law_take pm__law_take an__law_take cd__law_take ct__law_take), sl__law_take⟩) (c__law_take : PySem.W.codeIn K cd__law_take "_law_take" = true) (k__law_take : PySem.W.keepIn K (.ref f__law_take) = true)
    (a__law_pick : PySem.W.nsIn K mainGlobals "_law_pick" = some (some (.ref f__law_pick))) (l__law_pick : K.lookup f__law_pick = some ⟨oc__law_pick, od__law_pick, .func (PySem.W.fnOf "_law_pick" "_law_pick" (defArgs s__law_pick) (defBody s__law_pick) (defScope s__law_pick) .none kV__law_pick dc__law_pick pm__law_pick an__law_pick cd__law_pick ct__law_pick), sl__law_pick⟩) (c__law_pick : PySem.W.codeIn K cd__law_pick "_law_pick" = true) (k__law_pick : PySem.W.keepIn K (.ref f__law_pick) = true)
    (a__law_is_integer : PySem.W.nsIn K mainGlobals "_law_is_integer" = some (some (.ref f__law_is_integer))) (l__law_is_integer : K.lookup f__law_is_integer = some ⟨oc__law_is_integer, od__law_is_integer, .func (PySem.W.fnOf "_law_is_integer" "_law_is_integer" (defArgs s__law_is_integer) (defBody s__law_is_integer) (defScope s__law_is_integer) .none kV__law_is_integer dc__law_is_integer pm__law_is_integer an__law_is_integer cd__law_is_integer ct__law_is_integer), sl__law_is_integer⟩) (c__law_is_integer : PySem.W.codeIn K cd__law_is_integer "_law_is_integer" = true) (k__law_is_integer : PySem.W.keepIn K (.ref f__law_is_integer) = true)
    (a__law_same : PySem.W.nsIn K mainGlobals "_law_same" = some (some (.ref f__law_same))) (l__law_same : K.lookup f__law_same = some ⟨oc__law_same, od__law_same, .func (PySem.W.fnOf "_law_same" "_law_same" (defArgs s__law_same) (defBody s__law_same) (defScope s__law_same) .none kV__law_same dc__law_same pm__law_same an__law_same cd__law_same ct__law_same), sl__law_same⟩) (c__law_same : PySem.W.codeIn K cd__law_same "_law_same" = true) (k__law_same : PySem.W.keepIn K (.ref f__law_same) = true)
    (a__law_lowest : PySem.W.nsIn K mainGlobals "_law_lowest" = some (some (.ref f__law_lowest))) (l__law_lowest : K.lookup f__law_lowest = some ⟨oc__law_lowest, od__law_lowest, .func (PySem.W.fnOf "_law_lowest" "_law_lowest" (defArgs s__law_lowest) (defBody s__law_lowest) (defScope s__law_lowest) .none kV__law_lowest dc__law_lowest pm__law_lowest an__law_lowest cd__law_lowest ct__law_lowest), sl__law_lowest⟩) (c__law_lowest : PySem.W.codeIn K cd__law_lowest "_law_lowest" = true) (k__law_lowest : PySem.W.keepIn K (.ref f__law_lowest) = true)
    (a__law_sum : PySem.W.nsIn K mainGlobals "_law_sum" = some (some (.ref f__law_sum))) (l__law_sum : K.lookup f__law_sum = some ⟨oc__law_sum, od__law_sum, .func (PySem.W.fnOf "_law_sum" "_law_sum" (defArgs s__law_sum) (defBody s__law_sum) (defScope s__law_sum) .none kV__law_sum dc__law_sum pm__law_sum an__law_sum cd__law_sum ct__law_sum), sl__law_sum⟩) (c__law_sum : PySem.W.codeIn K cd__law_sum "_law_sum" = true) (k__law_sum : PySem.W.keepIn K (.ref f__law_sum) = true)
    (a__law_times : PySem.W.nsIn K mainGlobals "_law_times" = some (some (.ref f__law_times))) (l__law_times : K.lookup f__law_times = some ⟨oc__law_times, od__law_times, .func (PySem.W.fnOf "_law_times" "_law_times" (defArgs s__law_times) (defBody s__law_times) (defScope s__law_times) .none kV__law_times dc__law_times pm__law_times an__law_times cd__law_times ct__law_times), sl__law_times⟩) (c__law_times : PySem.W.codeIn K cd__law_times "_law_times" = true) (k__law_times : PySem.W.keepIn K (.ref f__law_times) = true)
    (a__law_duration : PySem.W.nsIn K mainGlobals "_law_duration" = some (some (.ref f__law_duration))) (l__law_duration : K.lookup f__law_duration = some ⟨oc__law_duration, od__law_duration, .func (PySem.W.fnOf "_law_duration" "_law_duration" (defArgs s__law_duration) (defBody s__law_duration) (defScope s__law_duration) .none kV__law_duration dc__law_duration pm__law_duration an__law_duration cd__law_duration ct__law_duration), sl__law_duration⟩) (c__law_duration : PySem.W.codeIn K cd__law_duration "_law_duration" = true) (k__law_duration : PySem.W.keepIn K (.ref f__law_duration) = true)
    (a__law_tone : PySem.W.nsIn K mainGlobals "_law_tone" = some (some (.ref f__law_tone))) (l__law_tone : K.lookup f__law_tone = some ⟨oc__law_tone, od__law_tone, .func (PySem.W.fnOf "_law_tone" "_law_tone" (defArgs s__law_tone) (defBody s__law_tone) (defScope s__law_tone) .none kV__law_tone dc__law_tone pm__law_tone an__law_tone cd__law_tone ct__law_tone), sl__law_tone⟩) (c__law_tone : PySem.W.codeIn K cd__law_tone "_law_tone" = true) (k__law_tone : PySem.W.keepIn K (.ref f__law_tone) = true)
    (a__law_interval : PySem.W.nsIn K mainGlobals "_law_interval" = some (some (.ref f__law_interval))) (l__law_interval : K.lookup f__law_interval = some ⟨oc__law_interval, od__law_interval, .func (PySem.W.fnOf "_law_interval" "_law_interval" (defArgs s__law_interval) (defBody s__law_interval) (defScope s__law_interval) .none kV__law_interval dc__law_interval pm__law_interval an__law_interval cd__law_interval ct__law_interval), sl__law_interval⟩) (c__law_interval : PySem.W.codeIn K cd__law_interval "_law_interval" = true) (k__law_interval : PySem.W.keepIn K (.ref f__law_interval) = true)
    (a__law_column : PySem.W.nsIn K mainGlobals "_law_column" = some (some (.ref f__law_column))) (l__law_column : K.lookup f__law_column = some ⟨oc__law_column, od__law_column, .func (PySem.W.fnOf "_law_column" "_law_column" (defArgs s__law_column) (defBody s__law_column) (defScope s__law_column) .none kV__law_column dc__law_column pm__law_column an__law_column cd__law_column ct__law_column), sl__law_column⟩) (c__law_column : PySem.W.codeIn K cd__law_column "_law_column" = true) (k__law_column : PySem.W.keepIn K (.ref f__law_column) = true)
    (a__law_raised : PySem.W.nsIn K mainGlobals "_law_raised" = some (some (.ref f__law_raised))) (l__law_raised : K.lookup f__law_raised = some ⟨oc__law_raised, od__law_raised, .func (PySem.W.fnOf "_law_raised" "_law_raised" (defArgs s__law_raised) (defBody s__law_raised) (defScope s__law_raised) .none kV__law_raised dc__law_raised pm__law_raised an__law_raised cd__law_raised ct__law_raised), sl__law_raised⟩) (c__law_raised : PySem.W.codeIn K cd__law_raised "_law_raised" = true) (k__law_raised : PySem.W.keepIn K (.ref f__law_raised) = true)
    (a__law_listed : PySem.W.nsIn K mainGlobals "_law_listed" = some (some (.ref f__law_listed))) (l__law_listed : K.lookup f__law_listed = some ⟨oc__law_listed, od__law_listed, .func (PySem.W.fnOf "_law_listed" "_law_listed" (defArgs s__law_listed) (defBody s__law_listed) (defScope s__law_listed) .none kV__law_listed dc__law_listed pm__law_listed an__law_listed cd__law_listed ct__law_listed), sl__law_listed⟩) (c__law_listed : PySem.W.codeIn K cd__law_listed "_law_listed" = true) (k__law_listed : PySem.W.keepIn K (.ref f__law_listed) = true)
    (a__law_height : PySem.W.nsIn K mainGlobals "_law_height" = some (some (.ref f__law_height))) (l__law_height : K.lookup f__law_height = some ⟨oc__law_height, od__law_height, .func (PySem.W.fnOf "_law_height" "_law_height" (defArgs s__law_height) (defBody s__law_height) (defScope s__law_height) .none kV__law_height dc__law_height pm__law_height an__law_height cd__law_height ct__law_height), sl__law_height⟩) (c__law_height : PySem.W.codeIn K cd__law_height "_law_height" = true) (k__law_height : PySem.W.keepIn K (.ref f__law_height) = true)
    (a__law_test : PySem.W.nsIn K mainGlobals "_law_test" = some (some (.ref f__law_test))) (l__law_test : K.lookup f__law_test = some ⟨oc__law_test, od__law_test, .func (PySem.W.fnOf "_law_test" "_law_test" (defArgs s__law_test) (defBody s__law_test) (defScope s__law_test) .none kV__law_test dc__law_test pm__law_test an__law_test cd__law_test ct__law_test), sl__law_test⟩) (c__law_test : PySem.W.codeIn K cd__law_test "_law_test" = true) (k__law_test : PySem.W.keepIn K (.ref f__law_test) = true)
    (a__law_loose : PySem.W.nsIn K mainGlobals "_law_loose" = some (some (.ref f__law_loose))) (l__law_loose : K.lookup f__law_loose = some ⟨oc__law_loose, od__law_loose, .func (PySem.W.fnOf "_law_loose" "_law_loose" (defArgs s__law_loose) (defBody s__law_loose) (defScope s__law_loose) .none kV__law_loose dc__law_loose pm__law_loose an__law_loose cd__law_loose ct__law_loose), sl__law_loose⟩) (c__law_loose : PySem.W.codeIn K cd__law_loose "_law_loose" = true) (k__law_loose : PySem.W.keepIn K (.ref f__law_loose) = true)
    (a__law_melodic : PySem.W.nsIn K mainGlobals "_law_melodic" = some (some (.ref f__law_melodic))) (l__law_melodic : K.lookup f__law_melodic = some ⟨oc__law_melodic, od__law_melodic, .func (PySem.W.fnOf "_law_melodic" "_law_melodic" (defArgs s__law_melodic) (defBody s__law_melodic) (defScope s__law_melodic) .none kV__law_melodic dc__law_melodic pm__law_melodic an__law_melodic cd__law_melodic ct__law_melodic), sl__law_melodic⟩) (c__law_melodic : PySem.W.codeIn K cd__law_melodic "_law_melodic" = true) (k__law_melodic : PySem.W.keepIn K (.ref f__law_melodic) = true)
    (a__law_holds : PySem.W.nsIn K mainGlobals "_law_holds" = some (some (.ref f__law_holds))) (l__law_holds : K.lookup f__law_holds = some ⟨oc__law_holds, od__law_holds, .func (PySem.W.fnOf "_law_holds" "_law_holds" (defArgs s__law_holds) (defBody s__law_holds) (defScope s__law_holds) .none kV__law_holds dc__law_holds pm__law_holds an__law_holds cd__law_holds ct__law_holds), sl__law_holds⟩) (c__law_holds : PySem.W.codeIn K cd__law_holds "_law_holds" = true) (k__law_holds : PySem.W.keepIn K (.ref f__law_holds) = true)
    (a__law_silence : PySem.W.nsIn K mainGlobals "_law_silence" = some (some (.ref f__law_silence))) (l__law_silence : K.lookup f__law_silence = some ⟨oc__law_silence, od__law_silence, .func (PySem.W.fnOf "_law_silence" "_law_silence" (defArgs s__law_silence) (defBody s__law_silence) (defScope s__law_silence) .none kV__law_silence dc__law_silence pm__law_silence an__law_silence cd__law_silence ct__law_silence), sl__law_silence⟩) (c__law_silence : PySem.W.codeIn K cd__law_silence "_law_silence" = true) (k__law_silence : PySem.W.keepIn K (.ref f__law_silence) = true)
    (a__law_near : PySem.W.nsIn K mainGlobals "_law_near" = some (some (.ref f__law_near))) (l__law_near : K.lookup f__law_near = some ⟨oc__law_near, od__law_near, .func (PySem.W.fnOf "_law_near" "_law_near" (defArgs s__law_near) (defBody s__law_near) (defScope s__law_near) .none kV__law_near dc__law_near pm__law_near an__law_near cd__law_near ct__law_near), sl__law_near⟩) (c__law_near : PySem.W.codeIn K cd__law_near "_law_near" = true) (k__law_near : PySem.W.keepIn K (.ref f__law_near) = true)
    (a__law_so : PySem.W.nsIn K mainGlobals "_law_so" = some (some (.ref f__law_so))) (l__law_so : K.lookup f__law_so = some ⟨oc__law_so, od__law_so, .func (PySem.W.fnOf "_law_so" "_law_so" (defArgs s__law_so) (defBody s__law_so) (defScope s__law_so) .none kV__law_so dc__law_so pm__law_so an__law_so cd__law_so ct__law_so), sl__law_so⟩) (c__law_so : PySem.W.codeIn K cd__law_so "_law_so" = true) (k__law_so : PySem.W.keepIn K (.ref f__law_so) = true)
    (a_law : PySem.W.nsIn K mainGlobals "law" = some (some (.ref f_law))) (l_law : K.lookup f_law = some ⟨oc_law, od_law, .func (PySem.W.fnOf "law" "law" (defArgs s_law) (defBody s_law) (defScope s_law) .none kV_law dc_law pm_law an_law cd_law ct_law), sl_law⟩) (c_law : PySem.W.codeIn K cd_law "law" = true) (k_law : PySem.W.keepIn K (.ref f_law) = true)
    (z_tuple : PySem.W.nsIn K mainGlobals "tuple" = some none)
    (z_len : PySem.W.nsIn K mainGlobals "len" = some none)
    (z_any : PySem.W.nsIn K mainGlobals "any" = some none)
    (z_int : PySem.W.nsIn K mainGlobals "int" = some none)
    (z_isinstance : PySem.W.nsIn K mainGlobals "isinstance" = some none)
    (z_bool : PySem.W.nsIn K mainGlobals "bool" = some none)
    (z_range : PySem.W.nsIn K mainGlobals "range" = some none)
    (z_all : PySem.W.nsIn K mainGlobals "all" = some none)
    (z_list : PySem.W.nsIn K mainGlobals "list" = some none)
    (z_str : PySem.W.nsIn K mainGlobals "str" = some none)
    (z_abs : PySem.W.nsIn K mainGlobals "abs" = some none)
    (z_max : PySem.W.nsIn K mainGlobals "max" = some none)
    (z_min : PySem.W.nsIn K mainGlobals "min" = some none)
    (m_gcd : PySem.W.nsIn K mainGlobals "gcd" = some (some (.builtin "math.gcd")))
    (gc_VOICES : GlobK K "VOICES" (.con (.ref aVOICES)))
    (kd_VOICES : KdT K wd aVOICES tVOICES) : Txt K mg wd :=
  { f_fraction := f_fraction, fd_fraction := _, F_fraction := fun_mk (st := s_fraction) l_fraction c_fraction k_fraction, g_fraction := PySem.W.mg_of X G a_fraction, b_fraction := bnd_fraction (fun_mk (st := s_fraction) l_fraction c_fraction k_fraction),
    f_quotient := f_quotient, fd_quotient := _, F_quotient := fun_mk (st := s_quotient) l_quotient c_quotient k_quotient, g_quotient := PySem.W.mg_of X G a_quotient, b_quotient := bnd_quotient (fun_mk (st := s_quotient) l_quotient c_quotient k_quotient),
    f_is_less := f_is_less, fd_is_less := _, F_is_less := fun_mk (st := s_is_less) l_is_less c_is_less k_is_less, g_is_less := PySem.W.mg_of X G a_is_less, b_is_less := bnd_is_less (fun_mk (st := s_is_less) l_is_less c_is_less k_is_less),
    f_height := f_height, fd_height := _, F_height := fun_mk (st := s_height) l_height c_height k_height, g_height := PySem.W.mg_of X G a_height, b_height := bnd_height (fun_mk (st := s_height) l_height c_height k_height),
    f_between := f_between, fd_between := _, F_between := fun_mk (st := s_between) l_between c_between k_between, g_between := PySem.W.mg_of X G a_between, b_between := bnd_between (fun_mk (st := s_between) l_between c_between k_between),
    f_settled_entry := f_settled_entry, fd_settled_entry := _, F_settled_entry := fun_mk (st := s_settled_entry) l_settled_entry c_settled_entry k_settled_entry, g_settled_entry := PySem.W.mg_of X G a_settled_entry, b_settled_entry := bnd_settled_entry (fun_mk (st := s_settled_entry) l_settled_entry c_settled_entry k_settled_entry),
    f_settled := f_settled, fd_settled := _, F_settled := fun_mk (st := s_settled) l_settled c_settled k_settled, g_settled := PySem.W.mg_of X G a_settled, b_settled := bnd_settled (fun_mk (st := s_settled) l_settled c_settled k_settled),
    f_is_loose := f_is_loose, fd_is_loose := _, F_is_loose := fun_mk (st := s_is_loose) l_is_loose c_is_loose k_is_loose, g_is_loose := PySem.W.mg_of X G a_is_loose, b_is_loose := bnd_is_loose (fun_mk (st := s_is_loose) l_is_loose c_is_loose k_is_loose),
    f_settled_test := f_settled_test, fd_settled_test := _, F_settled_test := fun_mk (st := s_settled_test) l_settled_test c_settled_test k_settled_test, g_settled_test := PySem.W.mg_of X G a_settled_test, b_settled_test := bnd_settled_test (fun_mk (st := s_settled_test) l_settled_test c_settled_test k_settled_test),
    f_melodic := f_melodic, fd_melodic := _, F_melodic := fun_mk (st := s_melodic) l_melodic c_melodic k_melodic, g_melodic := PySem.W.mg_of X G a_melodic, b_melodic := bnd_melodic (fun_mk (st := s_melodic) l_melodic c_melodic k_melodic),
    f_upright := f_upright, fd_upright := _, F_upright := fun_mk (st := s_upright) l_upright c_upright k_upright, g_upright := PySem.W.mg_of X G a_upright, b_upright := bnd_upright (fun_mk (st := s_upright) l_upright c_upright k_upright),
    f_along := f_along, fd_along := _, F_along := fun_mk (st := s_along) l_along c_along k_along, g_along := PySem.W.mg_of X G a_along, b_along := bnd_along (fun_mk (st := s_along) l_along c_along k_along),
    f_lasts := f_lasts, fd_lasts := _, F_lasts := fun_mk (st := s_lasts) l_lasts c_lasts k_lasts, g_lasts := PySem.W.mg_of X G a_lasts, b_lasts := bnd_lasts (fun_mk (st := s_lasts) l_lasts c_lasts k_lasts),
    f_is_true := f_is_true, fd_is_true := _, F_is_true := fun_mk (st := s_is_true) l_is_true c_is_true k_is_true, g_is_true := PySem.W.mg_of X G a_is_true, b_is_true := bnd_is_true (fun_mk (st := s_is_true) l_is_true c_is_true k_is_true),
    f_holds := f_holds, fd_holds := _, F_holds := fun_mk (st := s_holds) l_holds c_holds k_holds, g_holds := PySem.W.mg_of X G a_holds, b_holds := bnd_holds (fun_mk (st := s_holds) l_holds c_holds k_holds),
    f__law_pool := f__law_pool, fd__law_pool := _, F__law_pool := fun_mk (st := s__law_pool) l__law_pool c__law_pool k__law_pool, g__law_pool := PySem.W.mg_of X G a__law_pool, b__law_pool := bnd__law_pool (fun_mk (st := s__law_pool) l__law_pool c__law_pool k__law_pool),
    f__law_take := f__law_take, fd__law_take := _, F__law_take := fun_mk (st := s__law_take) l__law_take c__law_take k__law_take, g__law_take := PySem.W.mg_of X G a__law_take, b__law_take := bnd__law_take (fun_mk (st := s__law_take) l__law_take c__law_take k__law_take),
    f__law_pick := f__law_pick, fd__law_pick := _, F__law_pick := fun_mk (st := s__law_pick) l__law_pick c__law_pick k__law_pick, g__law_pick := PySem.W.mg_of X G a__law_pick, b__law_pick := bnd__law_pick (fun_mk (st := s__law_pick) l__law_pick c__law_pick k__law_pick),
    f__law_is_integer := f__law_is_integer, fd__law_is_integer := _, F__law_is_integer := fun_mk (st := s__law_is_integer) l__law_is_integer c__law_is_integer k__law_is_integer, g__law_is_integer := PySem.W.mg_of X G a__law_is_integer, b__law_is_integer := bnd__law_is_integer (fun_mk (st := s__law_is_integer) l__law_is_integer c__law_is_integer k__law_is_integer),
    f__law_same := f__law_same, fd__law_same := _, F__law_same := fun_mk (st := s__law_same) l__law_same c__law_same k__law_same, g__law_same := PySem.W.mg_of X G a__law_same, b__law_same := bnd__law_same (fun_mk (st := s__law_same) l__law_same c__law_same k__law_same),
    f__law_lowest := f__law_lowest, fd__law_lowest := _, F__law_lowest := fun_mk (st := s__law_lowest) l__law_lowest c__law_lowest k__law_lowest, g__law_lowest := PySem.W.mg_of X G a__law_lowest, b__law_lowest := bnd__law_lowest (fun_mk (st := s__law_lowest) l__law_lowest c__law_lowest k__law_lowest),
    f__law_sum := f__law_sum, fd__law_sum := _, F__law_sum := fun_mk (st := s__law_sum) l__law_sum c__law_sum k__law_sum, g__law_sum := PySem.W.mg_of X G a__law_sum, b__law_sum := bnd__law_sum (fun_mk (st := s__law_sum) l__law_sum c__law_sum k__law_sum),
    f__law_times := f__law_times, fd__law_times := _, F__law_times := fun_mk (st := s__law_times) l__law_times c__law_times k__law_times, g__law_times := PySem.W.mg_of X G a__law_times, b__law_times := bnd__law_times (fun_mk (st := s__law_times) l__law_times c__law_times k__law_times),
    f__law_duration := f__law_duration, fd__law_duration := _, F__law_duration := fun_mk (st := s__law_duration) l__law_duration c__law_duration k__law_duration, g__law_duration := PySem.W.mg_of X G a__law_duration, b__law_duration := bnd__law_duration (fun_mk (st := s__law_duration) l__law_duration c__law_duration k__law_duration),
    f__law_tone := f__law_tone, fd__law_tone := _, F__law_tone := fun_mk (st := s__law_tone) l__law_tone c__law_tone k__law_tone, g__law_tone := PySem.W.mg_of X G a__law_tone, b__law_tone := bnd__law_tone (fun_mk (st := s__law_tone) l__law_tone c__law_tone k__law_tone),
    f__law_interval := f__law_interval, fd__law_interval := _, F__law_interval := fun_mk (st := s__law_interval) l__law_interval c__law_interval k__law_interval, g__law_interval := PySem.W.mg_of X G a__law_interval, b__law_interval := bnd__law_interval (fun_mk (st := s__law_interval) l__law_interval c__law_interval k__law_interval),
    f__law_column := f__law_column, fd__law_column := _, F__law_column := fun_mk (st := s__law_column) l__law_column c__law_column k__law_column, g__law_column := PySem.W.mg_of X G a__law_column, b__law_column := bnd__law_column (fun_mk (st := s__law_column) l__law_column c__law_column k__law_column),
    f__law_raised := f__law_raised, fd__law_raised := _, F__law_raised := fun_mk (st := s__law_raised) l__law_raised c__law_raised k__law_raised, g__law_raised := PySem.W.mg_of X G a__law_raised, b__law_raised := bnd__law_raised (fun_mk (st := s__law_raised) l__law_raised c__law_raised k__law_raised),
    f__law_listed := f__law_listed, fd__law_listed := _, F__law_listed := fun_mk (st := s__law_listed) l__law_listed c__law_listed k__law_listed, g__law_listed := PySem.W.mg_of X G a__law_listed, b__law_listed := bnd__law_listed (fun_mk (st := s__law_listed) l__law_listed c__law_listed k__law_listed),
    f__law_height := f__law_height, fd__law_height := _, F__law_height := fun_mk (st := s__law_height) l__law_height c__law_height k__law_height, g__law_height := PySem.W.mg_of X G a__law_height, b__law_height := bnd__law_height (fun_mk (st := s__law_height) l__law_height c__law_height k__law_height),
    f__law_test := f__law_test, fd__law_test := _, F__law_test := fun_mk (st := s__law_test) l__law_test c__law_test k__law_test, g__law_test := PySem.W.mg_of X G a__law_test, b__law_test := bnd__law_test (fun_mk (st := s__law_test) l__law_test c__law_test k__law_test),
    f__law_loose := f__law_loose, fd__law_loose := _, F__law_loose := fun_mk (st := s__law_loose) l__law_loose c__law_loose k__law_loose, g__law_loose := PySem.W.mg_of X G a__law_loose, b__law_loose := bnd__law_loose (fun_mk (st := s__law_loose) l__law_loose c__law_loose k__law_loose),
    f__law_melodic := f__law_melodic, fd__law_melodic := _, F__law_melodic := fun_mk (st := s__law_melodic) l__law_melodic c__law_melodic k__law_melodic, g__law_melodic := PySem.W.mg_of X G a__law_melodic, b__law_melodic := bnd__law_melodic (fun_mk (st := s__law_melodic) l__law_melodic c__law_melodic k__law_melodic),
    f__law_holds := f__law_holds, fd__law_holds := _, F__law_holds := fun_mk (st := s__law_holds) l__law_holds c__law_holds k__law_holds, g__law_holds := PySem.W.mg_of X G a__law_holds, b__law_holds := bnd__law_holds (fun_mk (st := s__law_holds) l__law_holds c__law_holds k__law_holds),
    f__law_silence := f__law_silence, fd__law_silence := _, F__law_silence := fun_mk (st := s__law_silence) l__law_silence c__law_silence k__law_silence, g__law_silence := PySem.W.mg_of X G a__law_silence, b__law_silence := bnd__law_silence (fun_mk (st := s__law_silence) l__law_silence c__law_silence k__law_silence),
    f__law_near := f__law_near, fd__law_near := _, F__law_near := fun_mk (st := s__law_near) l__law_near c__law_near k__law_near, g__law_near := PySem.W.mg_of X G a__law_near, b__law_near := bnd__law_near (fun_mk (st := s__law_near) l__law_near c__law_near k__law_near),
    f__law_so := f__law_so, fd__law_so := _, F__law_so := fun_mk (st := s__law_so) l__law_so c__law_so k__law_so, g__law_so := PySem.W.mg_of X G a__law_so, b__law_so := bnd__law_so (fun_mk (st := s__law_so) l__law_so c__law_so k__law_so),
    f_law := f_law, fd_law := _, F_law := fun_mk (st := s_law) l_law c_law k_law, g_law := PySem.W.mg_of X G a_law, b_law := bnd_law (fun_mk (st := s_law) l_law c_law k_law),
    z_tuple := PySem.W.mg_none_of X G z_tuple,
    z_len := PySem.W.mg_none_of X G z_len,
    z_any := PySem.W.mg_none_of X G z_any,
    z_int := PySem.W.mg_none_of X G z_int,
    z_isinstance := PySem.W.mg_none_of X G z_isinstance,
    z_bool := PySem.W.mg_none_of X G z_bool,
    z_range := PySem.W.mg_none_of X G z_range,
    z_all := PySem.W.mg_none_of X G z_all,
    z_list := PySem.W.mg_none_of X G z_list,
    z_str := PySem.W.mg_none_of X G z_str,
    z_abs := PySem.W.mg_none_of X G z_abs,
    z_max := PySem.W.mg_none_of X G z_max,
    z_min := PySem.W.mg_none_of X G z_min,
    m_gcd := PySem.W.mg_of X G m_gcd,
    c_VOICES := globD_of X G gc_VOICES,
    k_VOICES := kd_VOICES }
theorem fin {K : PySem.W.Frag} {mg : Str → Option Value} {fa : Addr} {P : Program} {wd : World} (T : Txt K mg wd) (hmg : mg "law" = some (.ref fa)) : ∃ fd : FuncData, (∀ (s : Shared) (u : Value), BindsTo s fd ⟨[u], []⟩ [("script", u)]) ∧ ∀ base : Heap, K.In base → base.Ns mainGlobals mg → FnG P wd K mg base 10 fa fd ["script"] (upP K sp_law) := by
  have e := hmg.symm.trans T.g_law
  cases e
  exact ⟨T.fd_law, fun s v => MD.law_binds T.F_law s v (fun _ _ _ _ _ _ => rfl), fun base _ _ => ok_law T⟩
end K25
open PySem PySem.W PyProof.Rows
set_option maxHeartbeats 0 in
theorem PySem.Challenge.cw_counterheld_k25_tests_holds : PySem.Challenge.rw_counterheld_k25_tests.Holds := by
  w_on; o_law; k_head; (case hw => w_witness2)
  k_fill
  refine MD.walkG (l := PySem.Challenge.rw_counterheld_k25_tests) (n := 63) (k := 10) (x := "script") (sp := fun w => MD.upP _ K25.sp_law) rfl (by decide) rfl ⟨rfl, by decide, by decide⟩ (fun w h Y => PySem.W.kIn_of Y) ?F (fun w H a ns hl hb hO hS => MD.law_start hO hS (K25.law_start ns hl hb))
  case F =>
    intro w mg fa h KX G hmg
    refine' K25.fin (K25.txt_mk KX G ?a_fraction ?l_fraction ?c_fraction ?k_fraction ?a_quotient ?l_quotient ?c_quotient ?k_quotient ?a_is_less ?l_is_less ?c_is_less ?k_is_less ?a_height ?l_height ?c_height ?k_height ?a_between ?l_between ?c_between ?k_between ?a_settled_entry ?l_settled_entry ?c_settled_entry ?k_settled_entry ?a_settled ?l_settled ?c_settled ?k_settled ?a_is_loose ?l_is_loose ?c_is_loose ?k_is_loose ?a_settled_test ?l_settled_test ?c_settled_test ?k_settled_test ?a_melodic ?l_melodic ?c_melodic ?k_melodic ?a_upright ?l_upright ?c_upright ?k_upright ?a_along ?l_along ?c_along ?k_along ?a_lasts ?l_lasts ?c_lasts ?k_lasts ?a_is_true ?l_is_true ?c_is_true ?k_is_true ?a_holds ?l_holds ?c_holds ?k_holds ?a__law_pool ?l__law_pool ?c__law_pool ?k__law_pool ?a__law_take ?l__law_take ?c__law_take ?k__law_take ?a__law_pick ?l__law_pick ?c__law_pick ?k__law_pick ?a__law_is_integer ?l__law_is_integer ?c__law_is_integer ?k__law_is_integer ?a__law_same ?l__law_same ?c__law_same ?k__law_same ?a__law_lowest ?l__law_lowest ?c__law_lowest ?k__law_lowest ?a__law_sum ?l__law_sum ?c__law_sum ?k__law_sum ?a__law_times ?l__law_times ?c__law_times ?k__law_times ?a__law_duration ?l__law_duration ?c__law_duration ?k__law_duration ?a__law_tone ?l__law_tone ?c__law_tone ?k__law_tone ?a__law_interval ?l__law_interval ?c__law_interval ?k__law_interval ?a__law_column ?l__law_column ?c__law_column ?k__law_column ?a__law_raised ?l__law_raised ?c__law_raised ?k__law_raised ?a__law_listed ?l__law_listed ?c__law_listed ?k__law_listed ?a__law_height ?l__law_height ?c__law_height ?k__law_height ?a__law_test ?l__law_test ?c__law_test ?k__law_test ?a__law_loose ?l__law_loose ?c__law_loose ?k__law_loose ?a__law_melodic ?l__law_melodic ?c__law_melodic ?k__law_melodic ?a__law_holds ?l__law_holds ?c__law_holds ?k__law_holds ?a__law_silence ?l__law_silence ?c__law_silence ?k__law_silence ?a__law_near ?l__law_near ?c__law_near ?k__law_near ?a__law_so ?l__law_so ?c__law_so ?k__law_so ?a_law ?l_law ?c_law ?k_law ?z_tuple ?z_len ?z_any ?z_int ?z_isinstance ?z_bool ?z_range ?z_all ?z_list ?z_str ?z_abs ?z_max ?z_min ?m_gcd ?gc_VOICES ?kd_VOICES) hmg
    (case a_fraction => k_is)
    (case l_fraction => k_is)
    (case c_fraction => k_is)
    (case k_fraction => k_is)
    (case a_quotient => k_is)
    (case l_quotient => k_is)
    (case c_quotient => k_is)
    (case k_quotient => k_is)
    (case a_is_less => k_is)
    (case l_is_less => k_is)
    (case c_is_less => k_is)
    (case k_is_less => k_is)
    (case a_height => k_is)
    (case l_height => k_is)
    (case c_height => k_is)
    (case k_height => k_is)
    (case a_between => k_is)
    (case l_between => k_is)
    (case c_between => k_is)
    (case k_between => k_is)
    (case a_settled_entry => k_is)
    (case l_settled_entry => k_is)
    (case c_settled_entry => k_is)
    (case k_settled_entry => k_is)
    (case a_settled => k_is)
    (case l_settled => k_is)
    (case c_settled => k_is)
    (case k_settled => k_is)
    (case a_is_loose => k_is)
    (case l_is_loose => k_is)
    (case c_is_loose => k_is)
    (case k_is_loose => k_is)
    (case a_settled_test => k_is)
    (case l_settled_test => k_is)
    (case c_settled_test => k_is)
    (case k_settled_test => k_is)
    (case a_melodic => k_is)
    (case l_melodic => k_is)
    (case c_melodic => k_is)
    (case k_melodic => k_is)
    (case a_upright => k_is)
    (case l_upright => k_is)
    (case c_upright => k_is)
    (case k_upright => k_is)
    (case a_along => k_is)
    (case l_along => k_is)
    (case c_along => k_is)
    (case k_along => k_is)
    (case a_lasts => k_is)
    (case l_lasts => k_is)
    (case c_lasts => k_is)
    (case k_lasts => k_is)
    (case a_is_true => k_is)
    (case l_is_true => k_is)
    (case c_is_true => k_is)
    (case k_is_true => k_is)
    (case a_holds => k_is)
    (case l_holds => k_is)
    (case c_holds => k_is)
    (case k_holds => k_is)
    (case a__law_pool => k_is)
    (case l__law_pool => k_is)
    (case c__law_pool => k_is)
    (case k__law_pool => k_is)
    (case a__law_take => k_is)
    (case l__law_take => k_is)
    (case c__law_take => k_is)
    (case k__law_take => k_is)
    (case a__law_pick => k_is)
    (case l__law_pick => k_is)
    (case c__law_pick => k_is)
    (case k__law_pick => k_is)
    (case a__law_is_integer => k_is)
    (case l__law_is_integer => k_is)
    (case c__law_is_integer => k_is)
    (case k__law_is_integer => k_is)
    (case a__law_same => k_is)
    (case l__law_same => k_is)
    (case c__law_same => k_is)
    (case k__law_same => k_is)
    (case a__law_lowest => k_is)
    (case l__law_lowest => k_is)
    (case c__law_lowest => k_is)
    (case k__law_lowest => k_is)
    (case a__law_sum => k_is)
    (case l__law_sum => k_is)
    (case c__law_sum => k_is)
    (case k__law_sum => k_is)
    (case a__law_times => k_is)
    (case l__law_times => k_is)
    (case c__law_times => k_is)
    (case k__law_times => k_is)
    (case a__law_duration => k_is)
    (case l__law_duration => k_is)
    (case c__law_duration => k_is)
    (case k__law_duration => k_is)
    (case a__law_tone => k_is)
    (case l__law_tone => k_is)
    (case c__law_tone => k_is)
    (case k__law_tone => k_is)
    (case a__law_interval => k_is)
    (case l__law_interval => k_is)
    (case c__law_interval => k_is)
    (case k__law_interval => k_is)
    (case a__law_column => k_is)
    (case l__law_column => k_is)
    (case c__law_column => k_is)
    (case k__law_column => k_is)
    (case a__law_raised => k_is)
    (case l__law_raised => k_is)
    (case c__law_raised => k_is)
    (case k__law_raised => k_is)
    (case a__law_listed => k_is)
    (case l__law_listed => k_is)
    (case c__law_listed => k_is)
    (case k__law_listed => k_is)
    (case a__law_height => k_is)
    (case l__law_height => k_is)
    (case c__law_height => k_is)
    (case k__law_height => k_is)
    (case a__law_test => k_is)
    (case l__law_test => k_is)
    (case c__law_test => k_is)
    (case k__law_test => k_is)
    (case a__law_loose => k_is)
    (case l__law_loose => k_is)
    (case c__law_loose => k_is)
    (case k__law_loose => k_is)
    (case a__law_melodic => k_is)
    (case l__law_melodic => k_is)
    (case c__law_melodic => k_is)
    (case k__law_melodic => k_is)
    (case a__law_holds => k_is)
    (case l__law_holds => k_is)
    (case c__law_holds => k_is)
    (case k__law_holds => k_is)
    (case a__law_silence => k_is)
    (case l__law_silence => k_is)
    (case c__law_silence => k_is)
    (case k__law_silence => k_is)
    (case a__law_near => k_is)
    (case l__law_near => k_is)
    (case c__law_near => k_is)
    (case k__law_near => k_is)
    (case a__law_so => k_is)
    (case l__law_so => k_is)
    (case c__law_so => k_is)
    (case k__law_so => k_is)
    (case a_law => k_is)
    (case l_law => k_is)
    (case c_law => k_is)
    (case k_law => k_is)
    (case z_tuple => k_is)
    (case z_len => k_is)
    (case z_any => k_is)
    (case z_int => k_is)
    (case z_isinstance => k_is)
    (case z_bool => k_is)
    (case z_range => k_is)
    (case z_all => k_is)
    (case z_list => k_is)
    (case z_str => k_is)
    (case z_abs => k_is)
    (case z_max => k_is)
    (case z_min => k_is)
    (case m_gcd => k_is)
    (case kd_VOICES => (refine' K25.kdT_of ?vl ?vk ?vn; (case vl => k_is); (case vk => ((repeat (refine ⟨⟨_, _, rfl, rfl⟩, ?_⟩)); exact trivial)); (case vn => (intro z i hm; simp only [K25.tVOICES, List.mem_cons, Prod.mk.injEq, List.not_mem_nil, or_false] at hm; rcases hm with ⟨rfl, rfl⟩ | ⟨rfl, rfl⟩ | ⟨rfl, rfl⟩ | ⟨rfl, rfl⟩ | ⟨rfl, rfl⟩ | ⟨rfl, rfl⟩ | ⟨rfl, rfl⟩ | ⟨rfl, rfl⟩ | ⟨rfl, rfl⟩ | ⟨rfl, rfl⟩; (refine' K25.dwit ?qa0 ?qb0; (case qa0 => k_is); (case qb0 => exact ⟨_, rfl⟩)); (refine' K25.dwit ?qa1 ?qb1; (case qa1 => k_is); (case qb1 => exact ⟨_, rfl⟩)); (refine' K25.dwit ?qa2 ?qb2; (case qa2 => k_is); (case qb2 => exact ⟨_, rfl⟩)); (refine' K25.dwit ?qa3 ?qb3; (case qa3 => k_is); (case qb3 => exact ⟨_, rfl⟩)); (refine' K25.dwit ?qa4 ?qb4; (case qa4 => k_is); (case qb4 => exact ⟨_, rfl⟩)); (refine' K25.dwit ?qa5 ?qb5; (case qa5 => k_is); (case qb5 => exact ⟨_, rfl⟩)); (refine' K25.dwit ?qa6 ?qb6; (case qa6 => k_is); (case qb6 => exact ⟨_, rfl⟩)); (refine' K25.dwit ?qa7 ?qb7; (case qa7 => k_is); (case qb7 => exact ⟨_, rfl⟩)); (refine' K25.dwit ?qa8 ?qb8; (case qa8 => k_is); (case qb8 => exact ⟨_, rfl⟩)); (refine' K25.dwit ?qa9 ?qb9; (case qa9 => k_is); (case qb9 => exact ⟨_, rfl⟩))))))
    (case gc_VOICES => (refine' MD.globK_dct ?hVOI; (case hVOI => k_is)))
