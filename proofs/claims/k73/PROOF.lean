import PyProof.Rows.All
import HandS.ForExc
import HandS.ForMost
import HandS.Wide
import HandS.IsInst
import HandS.Gcd
import HandS.TupAny
import HandS.CallSlots
import HandS.EndBits
import HandS.Deep
import HandS.Replace
import HandS.WideBits
import HandS.StrMore
import HandS.Conv
import HandS.Steps
import HandS.SortRule
import HandS.Style
import KE.KTryMore
import HandS.TryOnly
import HandS.ExcOwn
import HandS.ExcField
import HandS.ExcIs
import HandS.Small
import KE.KIsAll
import HandS.ExcInit
import HandS.Nested
import KE.KExcSuper
import PyProof.Rows.ListStrD
import KE.GoesMore
import PyProof.EnumMake
import HandS.List
import PyProof.P3In
import HandS.TupMul
import KE.SortData
import KE.DataMinMax
import PySem.Challenge.RW_counterheld_k73_whole_best_lines
set_option maxHeartbeats 200000
set_option Elab.async false
set_option linter.all false
set_option maxRecDepth 100000
/-! MD: data with cells over the abstract heap: worlds, what stands for what, promises over data. -/
namespace MD
open PySem PySem.Spec PyProof.Rows L2

/-- data; lst: a list that nobody writes any more; scr: the script; ref: a cell; con: a class or a def as it is -/
inductive Lit where
  | non | bl (b : Bool) | int (i : Int) | str (x : Str)
def Lit.v : Lit → V
  | .non => .non
  | .bl b => .bl b
  | .int i => .int i
  | .str x => .str x
/-- exc: an exception that an except suite holds: its address, class, dict, fields -/
inductive D where
  | non | bl (b : Bool) | int (i : Int) | str (x : Str)
  | tup (ds : List D) | lst (ds : List D) | scr (ns : List Int) | ref (i : Nat) | con (v : V) | exc (a : Addr) (cls : Value) (d : Option Addr) (fs : List (Str × Lit)) | dct
inductive Cell where
  | lst (ds : List D) | dic (kvs : List (Key × D)) | dit (kvs : List (List Key × D)) | ins (n : Str) (fs : List (Str × D)) | dead
abbrev MH := List Cell
/-- cells' addresses, cells, addresses held back, the heap -/
structure Wd where
  m : List Addr
  M : MH
  r : List Addr
  H : Hp
def Live (w : Wd) (a : Addr) : Prop := ∃ (i : Nat) (c : Cell), w.m[i]? = some a ∧ w.M[i]? = some c ∧ c ≠ Cell.dead

mutual
def Rep (K : PySem.W.Frag) (w : Wd) : D → V → Prop
  | .non, v => v = .non
  | .bl b, v => v = .bl b
  | .int i, v => v = .int i
  | .str x, v => v = .str x
  | .con u, v => v = u
  | .dct, v => ∃ a es, v = .ref a ∧ w.H a = some (.dK es) ∧ ¬ Live w a ∧ a ∉ w.r
  | .exc a cls d fs, v => v = .ref a ∧ ((d = none ∧ fs = []) ∨ ∃ dd, d = some dd ∧ w.H dd = some (.xd (fs.map fun p => (p.1, p.2.v))))
  | .tup ds, v => ∃ a xs, v = .ref a ∧ SqT K w.H a xs ∧ RepL K w ds xs
  | .lst ds, v => ∃ a xs, v = .ref a ∧ w.H a = some (.lst xs) ∧ ¬ Live w a ∧ a ∉ w.r ∧ RepL K w ds xs
  | .scr ns, v => ∃ a, v = .ref a ∧ ((∃ o, w.H a = some (.frz o (.lst (ns.map V.int)))) ∨ (∀ H, SqL K H a (ns.map V.int)))
  | .ref i, v => ∃ a, v = .ref a ∧ w.m[i]? = some a
def RepL (K : PySem.W.Frag) (w : Wd) : List D → List V → Prop
  | [], xs => xs = []
  | d :: ds, xs => ∃ x r, xs = x :: r ∧ Rep K w d x ∧ RepL K w ds r
end

def RepF (K : PySem.W.Frag) (w : Wd) (fs : List (Str × D)) (gs : List (Str × V)) : Prop := gs.map (·.1) = fs.map (·.1) ∧ RepL K w (fs.map (·.2)) (gs.map (·.2))
def RepK {κ : Type} (K : PySem.W.Frag) (w : Wd) (kvs : List (κ × D)) (es : List (κ × V)) : Prop := es.map (·.1) = kvs.map (·.1) ∧ RepL K w (kvs.map (·.2)) (es.map (·.2))
def CellOk (K : PySem.W.Frag) (w : Wd) (a : Addr) : Cell → Prop
  | .lst ds => ∃ xs, w.H a = some (.lst xs) ∧ RepL K w ds xs
  | .dic kvs => ∃ es, w.H a = some (.dK es) ∧ RepK K w kvs es
  | .dit kvs => ∃ es, w.H a = some (.dT es) ∧ RepK K w kvs es
  | .ins n fs => ∃ C dx gs, PySem.W.nsIn K mainGlobals n = some (some (.ref C)) ∧ w.H a = some (.ins C dx gs) ∧ RepF K w fs gs
  | .dead => ∃ u, w.H a = some u
structure RH (K : PySem.W.Frag) (w : Wd) : Prop where
  len : w.m.length = w.M.length
  nd : w.m.Nodup
  dr : ∀ a ∈ w.m, a ∉ w.r
  ok : ∀ (i : Nat) (a : Addr) (c : Cell), w.m[i]? = some a → w.M[i]? = some c → CellOk K w a c
  rk : ∀ a ∈ w.r, ∃ xs, w.H a = some (.lst xs)
structure Le (w w1 : Wd) : Prop where
  pre : ∃ t, w1.m = w.m ++ t ∧ ∀ a ∈ t, w.H a = none
  dead : ∀ i : Nat, w.M[i]? = some Cell.dead → w1.M[i]? = some Cell.dead
  keep : ∀ a u, w.H a = some u → ¬ Live w a → w1.H a = some u
  rr : ∃ s, w1.r = s ++ w.r ∧ ∀ a ∈ s, w.H a = none

theorem Le.refl (w : Wd) : Le w w := ⟨⟨[], by simp, by simp⟩, fun _ h => h, fun _ _ h _ => h, ⟨[], rfl, by simp⟩⟩
variable {K : PySem.W.Frag} {w w1 w2 : Wd}
theorem CellOk.there {a : Addr} : ∀ {c : Cell}, CellOk K w a c → ∃ u, w.H a = some u
  | .lst _, ⟨_, h, _⟩ => ⟨_, h⟩
  | .dic _, ⟨_, h, _⟩ => ⟨_, h⟩
  | .dit _, ⟨_, h, _⟩ => ⟨_, h⟩
  | .ins _ _, ⟨_, _, _, _, h, _⟩ => ⟨_, h⟩
  | .dead, h => h
theorem RH.at_ (r : RH K w) {i : Nat} {a : Addr} (h : w.m[i]? = some a) : ∃ c, w.M[i]? = some c ∧ CellOk K w a c := by
  have hi : i < w.m.length := (List.getElem?_eq_some_iff.mp h).1
  have hM : i < w.M.length := by rw [← r.len]; exact hi
  exact ⟨w.M[i], List.getElem?_eq_getElem hM, r.ok i a _ h (List.getElem?_eq_getElem hM)⟩
theorem RH.there (r : RH K w) {a : Addr} (h : a ∈ w.m) : ∃ u, w.H a = some u := by
  obtain ⟨i, hi, e⟩ := List.getElem_of_mem h
  have h2 : w.m[i]? = some a := by rw [List.getElem?_eq_getElem hi, e]
  obtain ⟨c, _, ok⟩ := r.at_ h2
  exact ok.there
theorem Le.live (r : RH K w) (l : Le w w1) {a : Addr} {u : HO} (h : w.H a = some u) (n : ¬ Live w a) : ¬ Live w1 a := by
  rintro ⟨i, c, e, ec, nd⟩
  obtain ⟨t, et, ft⟩ := l.pre
  rw [et] at e
  by_cases hi : i < w.m.length
  · rw [List.getElem?_append_left hi] at e
    obtain ⟨c2, e2, _⟩ := r.at_ e
    by_cases hd : c2 = Cell.dead
    · rw [hd] at e2
      have := l.dead i e2
      rw [this] at ec; cases ec; exact nd rfl
    · exact n ⟨i, _, e, e2, hd⟩
  · rw [List.getElem?_append_right (by omega)] at e
    have := ft a (List.mem_of_getElem? e)
    rw [h] at this; cases this
theorem Le.back (r : RH K w) (r1 : RH K w1) (a : Le w w1) {x : Addr} (h : w1.H x = none) : w.H x = none := by
  obtain ⟨t, et, ft⟩ := a.pre
  cases q : w.H x with
  | none => rfl
  | some u =>
    by_cases n : Live w x
    · obtain ⟨i, c, e, ec, nd⟩ := n
      have hm : x ∈ w1.m := by rw [et]; exact List.mem_append_left _ (List.mem_of_getElem? e)
      obtain ⟨u1, h1⟩ := r1.there hm
      rw [h] at h1; cases h1
    · have := a.keep x u q n
      rw [h] at this; cases this
theorem Le.trans (r : RH K w) (r1 : RH K w1) (a : Le w w1) (b : Le w1 w2) : Le w w2 := by
  obtain ⟨t, et, ft⟩ := a.pre
  obtain ⟨t2, et2, ft2⟩ := b.pre
  obtain ⟨s, es, fs⟩ := a.rr
  obtain ⟨s2, es2, fs2⟩ := b.rr
  refine ⟨⟨t ++ t2, by rw [et2, et, List.append_assoc], fun x hx => ?_⟩, fun i h => b.dead i (a.dead i h), fun x u h n => b.keep x u (a.keep x u h n) (a.live r h n), ⟨s2 ++ s, by rw [es2, es, List.append_assoc], fun x hx => ?_⟩⟩
  · rcases List.mem_append.mp hx with h | h
    · exact ft x h
    · exact a.back r r1 (ft2 x h)
  · rcases List.mem_append.mp hx with h | h
    · exact a.back r r1 (fs2 x h)
    · exact fs x h
def cellKind : HO → Bool
  | .lst _ | .dK _ | .dT _ | .ins _ _ _ => true
  | _ => false
theorem RH.kind_dead (r : RH K w) {a : Addr} {u : HO} (h : w.H a = some u) (hu : cellKind u = false) : ¬ Live w a := by
  rintro ⟨i, c, e, ec, nd⟩
  have ok := r.ok i a c e ec
  cases c with
  | lst ds => obtain ⟨xs, h1, _⟩ := ok; rw [h] at h1; cases h1; cases hu
  | dic ds => obtain ⟨xs, h1, _⟩ := ok; rw [h] at h1; cases h1; cases hu
  | dit ds => obtain ⟨xs, h1, _⟩ := ok; rw [h] at h1; cases h1; cases hu
  | ins C fs => obtain ⟨_, _, xs, _, h1, _⟩ := ok; rw [h] at h1; cases h1; cases hu
  | dead => exact nd rfl

/-- a tuple is no live cell -/
theorem RH.tup_dead (r : RH K w) {a : Addr} {u : HO} (h : w.H a = some u) (hu : (∃ xs, u = .tup xs) ∨ (∃ o v, u = .frz o v)) : ¬ Live w a := by
  rintro ⟨i, c, e, ec, nd⟩
  have ok := r.ok i a c e ec
  cases c with
  | lst ds => obtain ⟨xs, h1, _⟩ := ok; rw [h] at h1; cases h1; rcases hu with ⟨_, z⟩ | ⟨_, _, z⟩ <;> cases z
  | dic ds => obtain ⟨xs, h1, _⟩ := ok; rw [h] at h1; cases h1; rcases hu with ⟨_, z⟩ | ⟨_, _, z⟩ <;> cases z
  | dit ds => obtain ⟨xs, h1, _⟩ := ok; rw [h] at h1; cases h1; rcases hu with ⟨_, z⟩ | ⟨_, _, z⟩ <;> cases z
  | ins C fs => obtain ⟨_, _, xs, _, h1, _⟩ := ok; rw [h] at h1; cases h1; rcases hu with ⟨_, z⟩ | ⟨_, _, z⟩ <;> cases z
  | dead => exact nd rfl
theorem Le.nr (l : Le w w1) {a : Addr} {u : HO} (h : w.H a = some u) (n : a ∉ w.r) : a ∉ w1.r := by
  obtain ⟨s, es, fs⟩ := l.rr
  rw [es]
  intro z
  rcases List.mem_append.mp z with z | z
  · rw [fs a z] at h; cases h
  · exact n z
theorem Le.sqT (r : RH K w) (l : Le w w1) {a : Addr} {xs : List V} (h : SqT K w.H a xs) : SqT K w1.H a xs := by
  rcases h with (h | ⟨o, h⟩) | h
  · exact .inl (.inl (l.keep a _ h (r.tup_dead h (.inl ⟨_, rfl⟩))))
  · exact .inl (.inr ⟨o, l.keep a _ h (r.tup_dead h (.inr ⟨_, _, rfl⟩))⟩)
  · exact .inr h
mutual
theorem Rep.le (r : RH K w) (l : Le w w1) : ∀ (d : D) {v : V}, Rep K w d v → Rep K w1 d v
  | .non, _, h => by simpa [Rep] using h
  | .bl b, _, h => by simpa [Rep] using h
  | .int i, _, h => by simpa [Rep] using h
  | .str x, _, h => by simpa [Rep] using h
  | .con u, _, h => by simpa [Rep] using h
  | .dct, _, h => by
    simp only [Rep] at h ⊢
    obtain ⟨a, xs, e, hs, nl, nr⟩ := h
    exact ⟨a, xs, e, l.keep a _ hs nl, l.live r hs nl, l.nr hs nr⟩
  | .exc a cls d fs, _, h => by
    simp only [Rep] at h ⊢
    obtain ⟨e, h | ⟨dd, e1, h1⟩⟩ := h
    · exact ⟨e, .inl h⟩
    · exact ⟨e, .inr ⟨dd, e1, l.keep dd _ h1 (r.kind_dead h1 rfl)⟩⟩
  | .tup ds, _, h => by
    simp only [Rep] at h ⊢
    obtain ⟨a, xs, e, hs, hr⟩ := h
    exact ⟨a, xs, e, l.sqT r hs, RepL.le r l ds hr⟩
  | .lst ds, _, h => by
    simp only [Rep] at h ⊢
    obtain ⟨a, xs, e, hs, nl, nr, hr⟩ := h
    exact ⟨a, xs, e, l.keep a _ hs nl, l.live r hs nl, l.nr hs nr, RepL.le r l ds hr⟩
  | .scr ns, _, h => by
    simp only [Rep] at h ⊢
    obtain ⟨a, e, h | h⟩ := h
    · obtain ⟨o, h⟩ := h
      exact ⟨a, e, .inl ⟨o, l.keep a _ h (r.tup_dead h (.inr ⟨_, _, rfl⟩))⟩⟩
    · exact ⟨a, e, .inr h⟩
  | .ref i, _, h => by
    simp only [Rep] at h ⊢
    obtain ⟨a, e, h⟩ := h
    obtain ⟨t, et, _⟩ := l.pre
    exact ⟨a, e, by rw [et, List.getElem?_append_left (List.getElem?_eq_some_iff.mp h).1]; exact h⟩
theorem RepL.le (r : RH K w) (l : Le w w1) : ∀ (ds : List D) {xs : List V}, RepL K w ds xs → RepL K w1 ds xs
  | [], _, h => by simpa [RepL] using h
  | d :: ds, _, h => by
    simp only [RepL] at h ⊢
    obtain ⟨x, r', e, h1, h2⟩ := h
    exact ⟨x, r', e, Rep.le r l d h1, RepL.le r l ds h2⟩
end
theorem RepL.length : ∀ {ds : List D} {xs : List V}, RepL K w ds xs → xs.length = ds.length
  | [], _, h => by simp only [RepL] at h; subst h; rfl
  | d :: ds, _, h => by
    simp only [RepL] at h
    obtain ⟨x, r, rfl, _, h⟩ := h
    simp [RepL.length h]
theorem RepL.get : ∀ {ds : List D} {xs : List V} {i : Nat} {d : D}, RepL K w ds xs → ds[i]? = some d → ∃ x, xs[i]? = some x ∧ Rep K w d x
  | [], _, _, _, _, e => by simp at e
  | d :: ds, _, 0, _, h, e => by
    simp only [RepL] at h
    obtain ⟨x, r, rfl, h1, h⟩ := h
    simp at e; subst e
    exact ⟨x, rfl, h1⟩
  | d :: ds, _, i + 1, _, h, e => by
    simp only [RepL] at h
    obtain ⟨x, r, rfl, h1, h⟩ := h
    exact RepL.get (i := i) h (by simpa using e)
theorem RepL.back : ∀ {ds : List D} {xs : List V} {i : Nat} {x : V}, RepL K w ds xs → xs[i]? = some x → ∃ d, ds[i]? = some d ∧ Rep K w d x
  | [], _, _, _, h, e => by simp only [RepL] at h; subst h; simp at e
  | d :: ds, _, 0, _, h, e => by
    simp only [RepL] at h
    obtain ⟨x, r, rfl, h1, h⟩ := h
    simp at e; subst e
    exact ⟨d, rfl, h1⟩
  | d :: ds, _, i + 1, _, h, e => by
    simp only [RepL] at h
    obtain ⟨x, r, rfl, h1, h⟩ := h
    exact RepL.back (i := i) h (by simpa using e)
theorem RepL.append : ∀ {ds es : List D} {xs ys : List V}, RepL K w ds xs → RepL K w es ys → RepL K w (ds ++ es) (xs ++ ys)
  | [], _, _, _, h, q => by simp only [RepL] at h; subst h; exact q
  | d :: ds, _, _, _, h, q => by
    simp only [RepL] at h
    obtain ⟨x, r, rfl, h1, h⟩ := h
    exact ⟨x, r ++ _, rfl, h1, RepL.append h q⟩
theorem RepL.cons {d : D} {ds : List D} {x : V} {xs : List V} (h : Rep K w d x) (q : RepL K w ds xs) : RepL K w (d :: ds) (x :: xs) := ⟨x, xs, rfl, h, q⟩
theorem RepL.nil : RepL K w [] [] := rfl
theorem RepL.take : ∀ (n : Nat) {ds : List D} {xs : List V}, RepL K w ds xs → RepL K w (ds.take n) (xs.take n)
  | 0, _, _, _ => by simp [RepL]
  | n + 1, [], _, h => by simp only [RepL] at h; subst h; simp [RepL]
  | n + 1, d :: ds, _, h => by
    simp only [RepL] at h
    obtain ⟨x, r, rfl, h1, h⟩ := h
    exact ⟨x, r.take n, rfl, h1, RepL.take n h⟩
theorem RepL.drop : ∀ (n : Nat) {ds : List D} {xs : List V}, RepL K w ds xs → RepL K w (ds.drop n) (xs.drop n)
  | 0, _, _, h => by simpa using h
  | n + 1, [], _, h => by simp only [RepL] at h; subst h; simp [RepL]
  | n + 1, d :: ds, _, h => by
    simp only [RepL] at h
    obtain ⟨x, r, rfl, h1, h⟩ := h
    exact RepL.drop n h
theorem RepL.set {d : D} {x : V} (hd : Rep K w d x) : ∀ (i : Nat) {ds : List D} {xs : List V}, RepL K w ds xs → RepL K w (ds.set i d) (xs.set i x)
  | _, [], _, h => by simp only [RepL] at h; subst h; simp [RepL]
  | 0, e :: ds, _, h => by
    simp only [RepL] at h
    obtain ⟨y, r, rfl, h1, h⟩ := h
    exact ⟨x, r, rfl, hd, h⟩
  | i + 1, e :: ds, _, h => by
    simp only [RepL] at h
    obtain ⟨y, r, rfl, h1, h⟩ := h
    exact ⟨y, r.set i x, rfl, h1, RepL.set hd i h⟩
theorem RepL.eraseIdx : ∀ (i : Nat) {ds : List D} {xs : List V}, RepL K w ds xs → RepL K w (ds.eraseIdx i) (xs.eraseIdx i)
  | _, [], _, h => by simp only [RepL] at h; subst h; simp [RepL]
  | 0, e :: ds, _, h => by
    simp only [RepL] at h
    obtain ⟨y, r, rfl, h1, h⟩ := h
    simpa using h
  | i + 1, e :: ds, _, h => by
    simp only [RepL] at h
    obtain ⟨y, r, rfl, h1, h⟩ := h
    exact ⟨y, r.eraseIdx i, rfl, h1, RepL.eraseIdx i h⟩
theorem RepL.ints : ∀ (ns : List Int), RepL K w (ns.map D.int) (ns.map V.int)
  | [] => rfl
  | n :: ns => ⟨.int n, ns.map V.int, rfl, rfl, RepL.ints ns⟩
theorem CellOk.le (r : RH K w) (l : Le w w1) {a : Addr} {c : Cell} (e : w1.H a = w.H a) (h : CellOk K w a c) : CellOk K w1 a c := by
  cases c with
  | lst ds => obtain ⟨xs, h1, h2⟩ := h; exact ⟨xs, e.trans h1, RepL.le r l _ h2⟩
  | dic kvs => obtain ⟨xs, h1, h2⟩ := h; exact ⟨xs, e.trans h1, h2.1, RepL.le r l _ h2.2⟩
  | dit kvs => obtain ⟨xs, h1, h2⟩ := h; exact ⟨xs, e.trans h1, h2.1, RepL.le r l _ h2.2⟩
  | ins C fs => obtain ⟨C, dx, gs, hn, h1, h2⟩ := h; exact ⟨C, dx, gs, hn, e.trans h1, h2.1, RepL.le r l _ h2.2⟩
  | dead => obtain ⟨u, h⟩ := h; exact ⟨u, e.trans h⟩
/-! ### steps of worlds -/
/-- a new object that is no cell -/
def Wd.new (w : Wd) (p : Addr) (o : HO) : Wd := { w with H := upd w.H p o }
theorem Le.new {p : Addr} {o : HO} (h : w.H p = none) : Le w (w.new p o) :=
  ⟨⟨[], by simp [Wd.new], by simp⟩, fun _ h => h, fun a u e _ => by
    show upd w.H p o a = some u
    rw [upd_ne (ne_of_none e h)]; exact e, ⟨[], rfl, by simp⟩⟩
theorem RH.new {p : Addr} {o : HO} (r : RH K w) (h : w.H p = none) : RH K (w.new p o) := by
  refine ⟨r.len, r.nd, r.dr, fun i a c e ec => (r.ok i a c e ec).le r (Le.new h) ?_, fun a ha => ?_⟩
  · obtain ⟨u, hu⟩ := (r.ok i a c e ec).there
    show upd w.H p o a = w.H a
    rw [upd_ne (ne_of_none hu h)]
  · obtain ⟨xs, hx⟩ := r.rk a ha
    exact ⟨xs, by show upd w.H p o a = _; rw [upd_ne (ne_of_none hx h)]; exact hx⟩
theorem RH.not_live_new {p : Addr} (r : RH K w) (h : w.H p = none) : ¬ Live w p := by
  rintro ⟨i, c, e, ec, _⟩
  obtain ⟨u, hu⟩ := (r.ok i p c e ec).there
  rw [h] at hu; cases hu
theorem RH.not_r_new {p : Addr} (r : RH K w) (h : w.H p = none) : p ∉ w.r := fun hp => by
  obtain ⟨xs, hx⟩ := r.rk p hp
  rw [h] at hx; cases hx
theorem rep_new_tup {p : Addr} {ds : List D} {xs : List V} (r : RH K w) (h : w.H p = none) (hr : RepL K w ds xs) : Rep K (w.new p (.tup xs)) (.tup ds) (.ref p) := by
  simp only [Rep]
  exact ⟨p, xs, rfl, .inl (.inl upd_same), RepL.le r (Le.new h) _ hr⟩
theorem rep_new_lst {p : Addr} {ds : List D} {xs : List V} (r : RH K w) (h : w.H p = none) (hr : RepL K w ds xs) : Rep K (w.new p (.lst xs)) (.lst ds) (.ref p) := by
  simp only [Rep]
  refine ⟨p, xs, rfl, upd_same, ?_, r.not_r_new h, RepL.le r (Le.new h) _ hr⟩
  exact fun z => r.not_live_new h z
/-- a new cell -/
def Wd.cell (w : Wd) (p : Addr) (o : HO) (c : Cell) : Wd := { w with m := w.m ++ [p], M := w.M ++ [c], H := upd w.H p o }
theorem Le.cell {p : Addr} {o : HO} {c : Cell} (r : RH K w) (h : w.H p = none) : Le w (w.cell p o c) :=
  ⟨⟨[p], rfl, fun a ha => by rw [List.mem_singleton.mp ha]; exact h⟩, fun i e => by
    show (w.M ++ [c])[i]? = _
    rw [List.getElem?_append_left (List.getElem?_eq_some_iff.mp e).1]; exact e, fun a u e _ => by
    show upd w.H p o a = some u
    rw [upd_ne (ne_of_none e h)]; exact e, ⟨[], rfl, by simp⟩⟩
theorem RH.cell {p : Addr} {o : HO} {c : Cell} (r : RH K w) (h : w.H p = none) (hc : CellOk K (w.cell p o c) p c) : RH K (w.cell p o c) := by
  have hne : ∀ {a : Addr}, a ∈ w.m → a ≠ p := fun {a} ha z => by
    obtain ⟨u, hu⟩ := r.there ha
    rw [z, h] at hu; cases hu
  refine ⟨by simp [Wd.cell, r.len], ?_, fun a ha => ?_, fun i a c' e ec => ?_, fun a ha => ?_⟩
  · show (w.m ++ [p]).Nodup
    rw [List.nodup_append]
    refine ⟨r.nd, by simp, fun a ha b hb => ?_⟩
    rw [List.mem_singleton.mp hb]; exact hne ha
  · rcases List.mem_append.mp ha with ha | ha
    · exact r.dr a ha
    · rw [List.mem_singleton.mp ha]; exact r.not_r_new h
  · by_cases hi : i < w.m.length
    · have e' : w.m[i]? = some a := by
        have : (w.m ++ [p])[i]? = some a := e
        rwa [List.getElem?_append_left hi] at this
      have ec' : w.M[i]? = some c' := by
        have : (w.M ++ [c])[i]? = some c' := ec
        rwa [List.getElem?_append_left (by rw [← r.len]; exact hi)] at this
      refine (r.ok i a c' e' ec').le r (Le.cell r h) ?_
      show upd w.H p o a = w.H a
      rw [upd_ne (hne (List.mem_of_getElem? e'))]
    · have e' : (w.m ++ [p])[i]? = some a := e
      have ec' : (w.M ++ [c])[i]? = some c' := ec
      rw [List.getElem?_append_right (by omega)] at e'
      rw [List.getElem?_append_right (by rw [← r.len]; omega)] at ec'
      have h0 : i - w.m.length = 0 := by
        have := (List.getElem?_eq_some_iff.mp e').1
        simp at this; omega
      rw [h0] at e'
      rw [← r.len, h0] at ec'
      simp at e' ec'
      subst e' ec'
      exact hc
  · obtain ⟨xs, hx⟩ := r.rk a ha
    exact ⟨xs, by show upd w.H p o a = _; rw [upd_ne (ne_of_none hx h)]; exact hx⟩
theorem RH.cell_ix (r : RH K w) {p : Addr} {o : HO} {c : Cell} : Rep K (w.cell p o c) (.ref w.M.length) (.ref p) := by
  simp only [Rep]
  refine ⟨p, rfl, ?_⟩
  show (w.m ++ [p])[w.M.length]? = some p
  rw [← r.len]; simp
/-- a cell is written -/
def Wd.put (w : Wd) (i : Nat) (a : Addr) (o : HO) (c : Cell) : Wd := { w with M := w.M.set i c, H := upd w.H a o }
theorem Le.put {i : Nat} {a : Addr} {o : HO} {c c0 : Cell} (r : RH K w) (e : w.m[i]? = some a) (e0 : w.M[i]? = some c0) (h0 : c0 ≠ Cell.dead) : Le w (w.put i a o c) :=
  ⟨⟨[], by simp [Wd.put], by simp⟩, fun j h => by
    show (w.M.set i c)[j]? = _
    have hne : i ≠ j := fun z => by subst z; rw [e0] at h; cases h; exact h0 rfl
    rw [List.getElem?_set_ne hne]; exact h, fun b u hb n => by
    show upd w.H a o b = some u
    rw [upd_ne fun z => n (by subst z; exact ⟨i, c0, e, e0, h0⟩)]; exact hb, ⟨[], rfl, by simp⟩⟩
theorem nd_ix' {α : Type} {l : List α} (hN : l.Nodup) {i j : Nat} {x : α} (a : l[i]? = some x) (b : l[j]? = some x) : i = j := nd_ix hN a b
theorem RH.put {i : Nat} {a : Addr} {o : HO} {c c0 : Cell} (r : RH K w) (e : w.m[i]? = some a) (e0 : w.M[i]? = some c0) (h0 : c0 ≠ Cell.dead) (hc : CellOk K (w.put i a o c) a c) : RH K (w.put i a o c) := by
  refine ⟨by simp [Wd.put, r.len], r.nd, r.dr, fun j b c' ej ec => ?_, fun b hb => ?_⟩
  · by_cases hji : j = i
    · subst hji
      have : b = a := Option.some.inj ((show w.m[j]? = some b from ej).symm.trans e)
      subst this
      have ec' : (w.M.set j c)[j]? = some c' := ec
      rw [List.getElem?_set_self (List.getElem?_eq_some_iff.mp e0).1] at ec'
      cases ec'; exact hc
    · have ec' : (w.M.set i c)[j]? = some c' := ec
      rw [List.getElem?_set_ne (Ne.symm hji)] at ec'
      refine (r.ok j b c' ej ec').le r (Le.put r e e0 h0) ?_
      show upd w.H a o b = w.H b
      rw [upd_ne]
      rintro rfl
      exact hji (nd_ix r.nd ej e)
  · obtain ⟨xs, hx⟩ := r.rk b hb
    refine ⟨xs, ?_⟩
    show upd w.H a o b = _
    rw [upd_ne]; exact hx
    rintro rfl
    exact r.dr b (List.mem_of_getElem? e) hb
/-- a cell is never written again -/
def Wd.kill (w : Wd) (i : Nat) : Wd := { w with M := w.M.set i Cell.dead }
theorem Le.kill {i : Nat} : Le w (w.kill i) :=
  ⟨⟨[], by simp [Wd.kill], by simp⟩, fun j h => by
    show (w.M.set i Cell.dead)[j]? = _
    by_cases hj : i = j
    · subst hj; exact List.getElem?_set_self (List.getElem?_eq_some_iff.mp h).1
    · rw [List.getElem?_set_ne hj]; exact h, fun _ _ h _ => h, ⟨[], rfl, by simp⟩⟩
theorem RH.kill {i : Nat} (r : RH K w) : RH K (w.kill i) := by
  refine ⟨by simp [Wd.kill, r.len], r.nd, r.dr, fun j b c' ej ec => ?_, r.rk⟩
  have ec' : (w.M.set i Cell.dead)[j]? = some c' := ec
  by_cases hj : i = j
  · subst hj
    have hl : i < w.M.length := by
      have := (List.getElem?_eq_some_iff.mp ec').1
      simpa using this
    rw [List.getElem?_set_self hl] at ec'
    cases ec'
    obtain ⟨c, _, ok⟩ := r.at_ ej
    exact ok.there
  · rw [List.getElem?_set_ne hj] at ec'
    exact (r.ok j b c' ej ec').le r Le.kill rfl
theorem rep_kill {i : Nat} {a : Addr} {ds : List D} (r : RH K w) (e : w.m[i]? = some a) (ec : w.M[i]? = some (Cell.lst ds)) : Rep K (w.kill i) (.lst ds) (.ref a) := by
  obtain ⟨xs, h1, h2⟩ := r.ok i a _ e ec
  simp only [Rep]
  refine ⟨a, xs, rfl, h1, ?_, r.dr a (List.mem_of_getElem? e), RepL.le r Le.kill _ h2⟩
  rintro ⟨j, c, ej, ecj, nd⟩
  have hj : j = i := nd_ix r.nd ej e
  subst hj
  have ecj' : (w.M.set j Cell.dead)[j]? = some c := ecj
  rw [List.getElem?_set_self (List.getElem?_eq_some_iff.mp ec).1] at ecj'
  cases ecj'; exact nd rfl
/-! ### a list held back -/
def Wd.hold (w : Wd) (p : Addr) : Wd := { w with H := upd w.H p (.lst []), r := p :: w.r }
theorem Le.hold {p : Addr} (h : w.H p = none) : Le w (w.hold p) :=
  ⟨⟨[], by simp [Wd.hold], by simp⟩, fun _ h => h, fun a u e _ => by
    show upd w.H p _ a = some u
    rw [upd_ne (ne_of_none e h)]; exact e, ⟨[p], rfl, fun a ha => by rw [List.mem_singleton.mp ha]; exact h⟩⟩
theorem RH.hold {p : Addr} (r : RH K w) (h : w.H p = none) : RH K (w.hold p) := by
  refine ⟨r.len, r.nd, fun a ha z => ?_, fun i a c e ec => (r.ok i a c e ec).le r (Le.hold h) ?_, fun a ha => ?_⟩
  · rcases List.mem_cons.mp z with z | z
    · obtain ⟨u, hu⟩ := r.there ha
      rw [z, h] at hu; cases hu
    · exact r.dr a ha z
  · obtain ⟨u, hu⟩ := (r.ok i a c e ec).there
    show upd w.H p _ a = w.H a
    rw [upd_ne (ne_of_none hu h)]
  · rcases List.mem_cons.mp ha with z | z
    · subst z; exact ⟨[], upd_same⟩
    · obtain ⟨xs, hx⟩ := r.rk a z
      exact ⟨xs, by show upd w.H p _ a = _; rw [upd_ne (ne_of_none hx h)]; exact hx⟩
theorem RH.r_dead (r : RH K w) {p : Addr} (h : p ∈ w.r) : ¬ Live w p := by
  rintro ⟨i, c, e, _, _⟩
  exact r.dr p (List.mem_of_getElem? e) h
/-- the held list changes -/
def Wd.turn (w : Wd) (p : Addr) (ys : List V) : Wd := { w with H := upd w.H p (.lst ys) }
mutual
theorem Rep.turn {p : Addr} {xs ys : List V} (hp : p ∈ w.r) (hl : w.H p = some (.lst xs)) : ∀ (d : D) {v : V}, Rep K w d v → Rep K (w.turn p ys) d v
  | .non, _, h => by simpa [Rep] using h
  | .bl b, _, h => by simpa [Rep] using h
  | .int i, _, h => by simpa [Rep] using h
  | .str x, _, h => by simpa [Rep] using h
  | .con u, _, h => by simpa [Rep] using h
  | .exc a cls d fs, _, h => by
    simp only [Rep] at h ⊢
    obtain ⟨e, h | ⟨dd, e1, h1⟩⟩ := h
    · exact ⟨e, .inl h⟩
    · exact ⟨e, .inr ⟨dd, e1, by show upd w.H p _ dd = _; rw [upd_ne (ne_of h1 hl (by intro z; cases z))]; exact h1⟩⟩
  | .dct, _, h => by
    simp only [Rep] at h ⊢
    obtain ⟨a, zs, e, hs, nl, nr⟩ := h
    exact ⟨a, zs, e, by show upd w.H p _ a = _; rw [upd_ne (fun z => nr (by rw [z]; exact hp))]; exact hs, nl, nr⟩
  | .tup ds, _, h => by
    simp only [Rep] at h ⊢
    obtain ⟨a, zs, e, hs, hr⟩ := h
    refine ⟨a, zs, e, ?_, RepL.turn hp hl ds hr⟩
    rcases hs with (hs | ⟨o, hs⟩) | hs
    · exact .inl (.inl (by show upd w.H p _ a = _; rw [upd_ne (ne_of hs hl (by intro z; cases z))]; exact hs))
    · exact .inl (.inr ⟨o, by show upd w.H p _ a = _; rw [upd_ne (ne_of hs hl (by intro z; cases z))]; exact hs⟩)
    · exact .inr hs
  | .lst ds, _, h => by
    simp only [Rep] at h ⊢
    obtain ⟨a, zs, e, hs, nl, nr, hr⟩ := h
    refine ⟨a, zs, e, by show upd w.H p _ a = _; rw [upd_ne (fun z => nr (by rw [z]; exact hp))]; exact hs, nl, nr, RepL.turn hp hl ds hr⟩
  | .scr ns, _, h => by
    simp only [Rep] at h ⊢
    obtain ⟨a, e, h | h⟩ := h
    · obtain ⟨o, h⟩ := h
      exact ⟨a, e, .inl ⟨o, by show upd w.H p _ a = _; rw [upd_ne (ne_of h hl (by intro z; cases z))]; exact h⟩⟩
    · exact ⟨a, e, .inr h⟩
  | .ref i, _, h => by simp only [Rep] at h ⊢; exact h
theorem RepL.turn {p : Addr} {xs ys : List V} (hp : p ∈ w.r) (hl : w.H p = some (.lst xs)) : ∀ (ds : List D) {vs : List V}, RepL K w ds vs → RepL K (w.turn p ys) ds vs
  | [], _, h => by simpa [RepL] using h
  | d :: ds, _, h => by
    simp only [RepL] at h ⊢
    obtain ⟨x, r', e, h1, h2⟩ := h
    exact ⟨x, r', e, Rep.turn hp hl d h1, RepL.turn hp hl ds h2⟩
end
theorem RH.turn {p : Addr} {xs ys : List V} (r : RH K w) (hp : p ∈ w.r) (hl : w.H p = some (.lst xs)) : RH K (w.turn p ys) := by
  have hne : ∀ {a : Addr}, a ∈ w.m → upd w.H p (.lst ys) a = w.H a := fun {a} ha => upd_ne fun z => r.dr a ha (by rw [z]; exact hp)
  refine ⟨r.len, r.nd, r.dr, fun i a c e ec => ?_, fun a ha => ?_⟩
  · have h := r.ok i a c e ec
    have e2 : (w.turn p ys).H a = w.H a := hne (List.mem_of_getElem? e)
    cases c with
    | lst ds => obtain ⟨xs, h1, h2⟩ := h; exact ⟨xs, e2.trans h1, RepL.turn hp hl _ h2⟩
    | dic kvs => obtain ⟨xs, h1, h2⟩ := h; exact ⟨xs, e2.trans h1, h2.1, RepL.turn hp hl _ h2.2⟩
    | dit kvs => obtain ⟨xs, h1, h2⟩ := h; exact ⟨xs, e2.trans h1, h2.1, RepL.turn hp hl _ h2.2⟩
    | ins C fs => obtain ⟨C, dx, gs, hn, h1, h2⟩ := h; exact ⟨C, dx, gs, hn, e2.trans h1, h2.1, RepL.turn hp hl _ h2.2⟩
    | dead => obtain ⟨u, h⟩ := h; exact ⟨u, e2.trans h⟩
  · by_cases z : a = p
    · subst z; exact ⟨ys, upd_same⟩
    · obtain ⟨xs, hx⟩ := r.rk a ha
      exact ⟨xs, by show upd w.H p _ a = _; rw [upd_ne z]; exact hx⟩
/-! what is held back is let go -/
mutual
theorem Rep.drop {s : List Addr} (hs : ∀ a ∈ s, a ∈ w.r) : ∀ (d : D) {v : V}, Rep K w d v → Rep K { w with r := s } d v
  | .non, _, h => by simpa [Rep] using h
  | .bl b, _, h => by simpa [Rep] using h
  | .int i, _, h => by simpa [Rep] using h
  | .str x, _, h => by simpa [Rep] using h
  | .con u, _, h => by simpa [Rep] using h
  | .exc a cls d fs, _, h => by simp only [Rep] at h ⊢; exact h
  | .dct, _, h => by
    simp only [Rep] at h ⊢
    obtain ⟨a, zs, e, h1, nl, nr⟩ := h
    exact ⟨a, zs, e, h1, nl, fun z => nr (hs a z)⟩
  | .tup ds, _, h => by
    simp only [Rep] at h ⊢
    obtain ⟨a, zs, e, h1, hr⟩ := h
    exact ⟨a, zs, e, h1, RepL.dropr hs ds hr⟩
  | .lst ds, _, h => by
    simp only [Rep] at h ⊢
    obtain ⟨a, zs, e, h1, nl, nr, hr⟩ := h
    exact ⟨a, zs, e, h1, nl, fun z => nr (hs a z), RepL.dropr hs ds hr⟩
  | .scr ns, _, h => by simp only [Rep] at h ⊢; exact h
  | .ref i, _, h => by simp only [Rep] at h ⊢; exact h
theorem RepL.dropr {s : List Addr} (hs : ∀ a ∈ s, a ∈ w.r) : ∀ (ds : List D) {vs : List V}, RepL K w ds vs → RepL K { w with r := s } ds vs
  | [], _, h => by simpa [RepL] using h
  | d :: ds, _, h => by
    simp only [RepL] at h ⊢
    obtain ⟨x, r', e, h1, h2⟩ := h
    exact ⟨x, r', e, Rep.drop hs d h1, RepL.dropr hs ds h2⟩
end
theorem RH.drop {s : List Addr} (r : RH K w) (hs : ∀ a ∈ s, a ∈ w.r) : RH K { w with r := s } := by
  refine ⟨r.len, r.nd, fun a ha z => r.dr a ha (hs a z), fun i a c e ec => ?_, fun a ha => r.rk a (hs a ha)⟩
  have h := r.ok i a c e ec
  cases c with
  | lst ds => obtain ⟨xs, h1, h2⟩ := h; exact ⟨xs, h1, RepL.dropr hs _ h2⟩
  | dic kvs => obtain ⟨xs, h1, h2⟩ := h; exact ⟨xs, h1, h2.1, RepL.dropr hs _ h2.2⟩
  | dit kvs => obtain ⟨xs, h1, h2⟩ := h; exact ⟨xs, h1, h2.1, RepL.dropr hs _ h2.2⟩
  | ins C fs => obtain ⟨C, dx, gs, hn, h1, h2⟩ := h; exact ⟨C, dx, gs, hn, h1, h2.1, RepL.dropr hs _ h2.2⟩
  | dead => exact h
end MD
/-! MD: judgements over data, their lifting to the layer's readings. -/
namespace MD
open PySem PySem.Spec PyProof.Rows L2

variable {K : PySem.W.Frag} {w w1 w2 : Wd}
/-- the class that a name of the module, or of the built-ins, stands for -/
def ClsOf (K : PySem.W.Frag) (n : Str) (c : Value) : Prop := PySem.W.nsIn K mainGlobals n = some (some c) ∨ (PySem.W.nsIn K mainGlobals n = some none ∧ bootBuiltins n = some c)
theorem ClsOf.one {K : PySem.W.Frag} {n : Str} {c c' : Value} (h : ClsOf K n c) (k : ClsOf K n c') : c = c' := by
  rcases h with h | ⟨h, h2⟩ <;> rcases k with k | ⟨k, k2⟩
  · rw [h] at k; exact Option.some.inj (Option.some.inj k)
  · rw [h] at k; cases k
  · rw [h] at k; cases k
  · rw [h2] at k2; exact Option.some.inj k2
/-- an exception: its class by name, its fields -/
structure Xc where
  cls : Str
  fs : List (Str × Lit)
def fsV (fs : List (Str × Lit)) : List (Str × V) := fs.map fun p => (p.1, p.2.v)
def RepX (K : PySem.W.Frag) (w : Wd) (x : Xc) (cls : Value) (dx : Option Addr) : Prop :=
  ClsOf K x.cls cls ∧ ((dx = none ∧ x.fs = []) ∨ ∃ a, dx = some a ∧ w.H a = some (.xd (fsV x.fs)))
theorem RepX.le (r : RH K w) (l : Le w w1) {x : Xc} {cls : Value} {dx : Option Addr} (h : RepX K w x cls dx) : RepX K w1 x cls dx := by
  obtain ⟨e, h | ⟨a, e1, h1⟩⟩ := h
  · exact ⟨e, .inl h⟩
  · exact ⟨e, .inr ⟨a, e1, l.keep a _ h1 (r.kind_dead h1 rfl)⟩⟩

abbrev EnvD := List (Option D)
abbrev QE := D → MH → Prop
abbrev QX := Xc → MH → Prop
abbrev TE' := EnvD → MH → QE → QX → Prop
abbrev TT' := EnvD → MH → (Bool → MH → Prop) → QX → Prop
abbrev TA' := EnvD → MH → (List D → MH → Prop) → QX → Prop
structure Ends' where
  nx : EnvD → MH → Prop
  rt : QE
  bk : EnvD → MH → Prop := fun _ _ => False
  ct : EnvD → MH → Prop := fun _ _ => False
  ex : Xc → EnvD → MH → Prop := fun _ _ _ => False
abbrev TS' := Ends' → EnvD → MH → Prop
abbrev TG' := D → EnvD → MH → (EnvD → MH → Prop) → Prop

def MonoE (t : TE') : Prop := ∀ δ M (Q Q' : QE) (E E' : QX), (∀ d M, Q d M → Q' d M) → (∀ x M, E x M → E' x M) → t δ M Q E → t δ M Q' E'
def MonoT (t : TT') : Prop := ∀ δ M (Q Q' : Bool → MH → Prop) (E E' : QX), (∀ d M, Q d M → Q' d M) → (∀ x M, E x M → E' x M) → t δ M Q E → t δ M Q' E'
def MonoA (t : TA') : Prop := ∀ δ M (Q Q' : List D → MH → Prop) (E E' : QX), (∀ d M, Q d M → Q' d M) → (∀ x M, E x M → E' x M) → t δ M Q E → t δ M Q' E'
structure Ends'.le (D D' : Ends') : Prop where
  nx : ∀ δ M, D.nx δ M → D'.nx δ M
  rt : ∀ d M, D.rt d M → D'.rt d M
  bk : ∀ δ M, D.bk δ M → D'.bk δ M
  ct : ∀ δ M, D.ct δ M → D'.ct δ M
  ex : ∀ x δ M, D.ex x δ M → D'.ex x δ M
theorem Ends'.le.refl (D : Ends') : D.le D := ⟨fun _ _ h => h, fun _ _ h => h, fun _ _ h => h, fun _ _ h => h, fun _ _ _ h => h⟩
def MonoS (t : TS') : Prop := ∀ δ M (D D' : Ends'), D.le D' → t D δ M → t D' δ M
def MonoG (g : TG') : Prop := ∀ d δ M (Q Q' : EnvD → MH → Prop), (∀ δ M, Q δ M → Q' δ M) → g d δ M Q → g d δ M Q'

/-! ### slots -/
def RepS (K : PySem.W.Frag) (w : Wd) (δ : EnvD) (σ : L2.St) : Prop := δ.length = σ.length ∧ ∀ (i : Nat) (d : D), δ[i]? = some (some d) → ∃ v, σ[i]? = some (some v) ∧ Rep K w d v
theorem RepS.le {δ : EnvD} {σ : L2.St} (r : RH K w) (l : Le w w1) (h : RepS K w δ σ) : RepS K w1 δ σ :=
  ⟨h.1, fun i d e => let ⟨v, e1, h1⟩ := h.2 i d e; ⟨v, e1, Rep.le r l d h1⟩⟩
theorem RepS.set {δ : EnvD} {σ : L2.St} (h : RepS K w δ σ) (i : Nat) {d : D} {v : V} (hd : Rep K w d v) : RepS K w (δ.set i (some d)) (σ.set i (some v)) := by
  refine ⟨by simp [h.1], fun j e q => ?_⟩
  by_cases hj : i = j
  · subst hj
    have hi : i < δ.length := by
      have := (List.getElem?_eq_some_iff.mp q).1
      simpa using this
    rw [List.getElem?_set_self hi] at q
    cases q
    exact ⟨v, List.getElem?_set_self (by rw [← h.1]; exact hi), hd⟩
  · rw [List.getElem?_set_ne hj] at q
    obtain ⟨u, e1, h1⟩ := h.2 j e q
    exact ⟨u, by rw [List.getElem?_set_ne hj]; exact e1, h1⟩
theorem RepS.wipe1 {δ : EnvD} {σ : L2.St} (h : RepS K w δ σ) (i : Nat) (x : Option V) : RepS K w (δ.set i none) (σ.set i x) := by
  refine ⟨by simp [h.1], fun j e q => ?_⟩
  by_cases hj : i = j
  · subst hj
    have hi : i < δ.length := by
      have := (List.getElem?_eq_some_iff.mp q).1
      simpa using this
    rw [List.getElem?_set_self hi] at q
    cases q
  · rw [List.getElem?_set_ne hj] at q
    obtain ⟨u, e1, h1⟩ := h.2 j e q
    exact ⟨u, by rw [List.getElem?_set_ne hj]; exact e1, h1⟩

/-! ### lifted wishes -/
def PV (K : PySem.W.Frag) (w : Wd) (Q : VK) : QE := fun d M1 => ∀ v w1, w1.M = M1 → Le w w1 → RH K w1 → Rep K w1 d v → Q v w1.H
def PB (K : PySem.W.Frag) (w : Wd) (Q : Bool → Hp → Prop) : Bool → MH → Prop := fun b M1 => ∀ w1, w1.M = M1 → Le w w1 → RH K w1 → Q b w1.H
def PL (K : PySem.W.Frag) (w : Wd) (Q : List V → Hp → Prop) : List D → MH → Prop := fun ds M1 => ∀ vs w1, w1.M = M1 → Le w w1 → RH K w1 → RepL K w1 ds vs → Q vs w1.H
def PX (K : PySem.W.Frag) (w : Wd) (W : Value → Option Addr → Hp → Prop) : QX := fun x M1 => ∀ cls dx w1, w1.M = M1 → Le w w1 → RH K w1 → RepX K w1 x cls dx → W cls dx w1.H
def PN (K : PySem.W.Frag) (w : Wd) (Q : L2.St → Hp → Prop) : EnvD → MH → Prop := fun δ M1 => ∀ σ w1, w1.M = M1 → Le w w1 → RH K w1 → RepS K w1 δ σ → Q σ w1.H
theorem PV.le {Q : VK} {d : D} {M : MH} (r : RH K w) (r1 : RH K w1) (l : Le w w1) (h : PV K w Q d M) : PV K w1 Q d M := fun v w2 e l2 r2 q => h v w2 e (l.trans r r1 l2) r2 q
theorem PB.le {Q : Bool → Hp → Prop} {d : Bool} {M : MH} (r : RH K w) (r1 : RH K w1) (l : Le w w1) (h : PB K w Q d M) : PB K w1 Q d M := fun w2 e l2 r2 => h w2 e (l.trans r r1 l2) r2
theorem PL.le {Q : List V → Hp → Prop} {d : List D} {M : MH} (r : RH K w) (r1 : RH K w1) (l : Le w w1) (h : PL K w Q d M) : PL K w1 Q d M := fun v w2 e l2 r2 q => h v w2 e (l.trans r r1 l2) r2 q
theorem PX.le {W : Value → Option Addr → Hp → Prop} {d : Xc} {M : MH} (r : RH K w) (r1 : RH K w1) (l : Le w w1) (h : PX K w W d M) : PX K w1 W d M := fun c v w2 e l2 r2 q => h c v w2 e (l.trans r r1 l2) r2 q
theorem PN.le {Q : L2.St → Hp → Prop} {δ : EnvD} {M : MH} (r : RH K w) (r1 : RH K w1) (l : Le w w1) (h : PN K w Q δ M) : PN K w1 Q δ M := fun v w2 e l2 r2 q => h v w2 e (l.trans r r1 l2) r2 q

def up (K : PySem.W.Frag) (W : WX) (t : TE') : TE := fun σ H Q => ∃ (w : Wd) (δ : EnvD), w.H = H ∧ RH K w ∧ RepS K w δ σ ∧ t δ w.M (PV K w Q) (PX K w fun c d H => W c d σ H)
def upT (K : PySem.W.Frag) (W : WX) (t : TT') : TT := fun σ H Q => ∃ (w : Wd) (δ : EnvD), w.H = H ∧ RH K w ∧ RepS K w δ σ ∧ t δ w.M (PB K w Q) (PX K w fun c d H => W c d σ H)
def upA (K : PySem.W.Frag) (W : WX) (t : TA') : TA := fun σ H Q => ∃ (w : Wd) (δ : EnvD), w.H = H ∧ RH K w ∧ RepS K w δ σ ∧ t δ w.M (PL K w Q) (PX K w fun c d H => W c d σ H)
def PXS (K : PySem.W.Frag) (w : Wd) (W : WX) : Xc → EnvD → MH → Prop := fun x δ M1 => ∀ cls dx σ w1, w1.M = M1 → Le w w1 → RH K w1 → RepS K w1 δ σ → RepX K w1 x cls dx → W cls dx σ w1.H
theorem PXS.le {W : WX} {d : Xc} {δ : EnvD} {M : MH} (r : RH K w) (r1 : RH K w1) (l : Le w w1) (h : PXS K w W d δ M) : PXS K w1 W d δ M := fun c v σ w2 e l2 r2 s q => h c v σ w2 e (l.trans r r1 l2) r2 s q
def endsD (K : PySem.W.Frag) (w : Wd) (W : WX) (D : Ends) : Ends' := { nx := PN K w D.nx, rt := PV K w D.rt, bk := PN K w D.bk, ct := PN K w D.ct, ex := PXS K w W }
theorem endsD.le {W : WX} {D : Ends} (r : RH K w) (r1 : RH K w1) (l : Le w w1) : (endsD K w W D).le (endsD K w1 W D) :=
  ⟨fun _ _ h => h.le r r1 l, fun _ _ h => h.le r r1 l, fun _ _ h => h.le r r1 l, fun _ _ h => h.le r r1 l, fun _ _ _ h => h.le r r1 l⟩
def upS (K : PySem.W.Frag) (W : WX) (t : TS') : TS := fun D σ H => ∃ (w : Wd) (δ : EnvD), w.H = H ∧ RH K w ∧ RepS K w δ σ ∧ t (endsD K w W D) δ w.M
def upG (K : PySem.W.Frag) (g : TG') : TG := fun v σ H Q => ∃ (w : Wd) (δ : EnvD) (d : D), w.H = H ∧ RH K w ∧ RepS K w δ σ ∧ Rep K w d v ∧ g d δ w.M (PN K w Q)

structure ME (X : Cx) (W : WX) (e : Expr) (t : TE') : Prop where
  pe : PE X e (up X.K W t)
  mono : MonoE t
structure MT (X : Cx) (W : WX) (e : Expr) (t : TT') : Prop where
  pt : PT X e (upT X.K W t)
  mono : MonoT t
structure MW (X : Cx) (W : WX) (e : Expr) (t : TT') : Prop where
  pw : PW X e (upT X.K W t)
  mono : MonoT t
structure MA (X : Cx) (W : WX) (e : List Expr) (t : TA') : Prop where
  pa : PA X e (upA X.K W t)
  mono : MonoA t
structure MS (X : Cx) (W : WX) (st : Stmt) (t : TS') : Prop where
  ps : PS X st (upS X.K W t)
  mono : MonoS t
structure MSs (X : Cx) (W : WX) (st : List Stmt) (t : TS') : Prop where
  ps : PSs X st (upS X.K W t)
  mono : MonoS t
structure MG (X : Cx) (e : Expr) (g : TG') : Prop where
  pg : PG X e (upG X.K g)
  mono : MonoG g

/-! ### weaker readings -/
variable {X : Cx} {W : WX} {e a b c : Expr} {pos : Pos}
theorem PE.imp {t t' : TE} (h : PE X e t) (i : ∀ σ H Q, t' σ H Q → t σ H Q) : PE X e t' := ⟨fun pins s σ H Q I q => h.run pins s σ H Q I (i _ _ _ q)⟩
theorem PT.imp {t t' : TT} (h : PT X e t) (i : ∀ σ H Q, t' σ H Q → t σ H Q) : PT X e t' := ⟨fun pins s σ H Q I q => h.run pins s σ H Q I (i _ _ _ q)⟩
theorem PW.imp {t t' : TT} (h : PW X e t) (i : ∀ σ H Q, t' σ H Q → t σ H Q) : PW X e t' := ⟨fun wh pins s σ H Q I q => h.run wh pins s σ H Q I (i _ _ _ q)⟩
theorem PA.imp {es : List Expr} {t t' : TA} (h : PA X es t) (i : ∀ σ H Q, t' σ H Q → t σ H Q) : PA X es t' := ⟨fun p pins s σ H Q I q => h.run p pins s σ H Q I (i _ _ _ q)⟩
theorem PS.imp {st : Stmt} {t t' : TS} (h : PS X st t) (i : ∀ D σ H, t' D σ H → t D σ H) : PS X st t' := ⟨fun pins s σ H Q I q => h.run pins s σ H Q I (i _ _ _ q)⟩
theorem PSs.imp {st : List Stmt} {t t' : TS} (h : PSs X st t) (i : ∀ D σ H, t' D σ H → t D σ H) : PSs X st t' := ⟨fun pins s σ H Q I q => h.run pins s σ H Q I (i _ _ _ q)⟩

/-! ### values -/
def tVar' (i : Nat) : TE' := fun δ M Q _ => ∃ d, δ[i]? = some (some d) ∧ Q d M
def tC' (d : D) : TE' := fun _ M Q _ => Q d M
theorem mono_var {i : Nat} : MonoE (tVar' i) := fun _ _ _ _ _ _ q _ ⟨d, e, h⟩ => ⟨d, e, q _ _ h⟩
theorem mono_c {d : D} : MonoE (tC' d) := fun _ _ _ _ _ _ q _ h => q _ _ h
theorem mv (i : Nat) {x : Str} {pos : Pos} (hN : X.N[i]? = some x := by rfl) (hv : Vis X.env.scope x := by first | exact Or.inl rfl | exact Or.inr (Or.inl rfl) | exact Or.inr (Or.inr rfl)) (hd : (x == ("__debug__" : Str)) = false := by decide)
    (hcd : (x == ("__classdict__" : Str)) = false := by decide) : ME X W (.Name x pos) (tVar' i) :=
  ⟨PE.imp (pe_var hN hv hd hcd) fun σ H Q ⟨w, δ, e, r, s, d, ed, q⟩ => by
    obtain ⟨v, ev, hr⟩ := s.2 i d ed
    subst e
    exact ⟨v, ev, q v w rfl (Le.refl w) r hr⟩, mono_var⟩
theorem me_c {v : V} {d : D} (h : PE X e (tC v)) (hr : ∀ w, Rep X.K w d v) : ME X W e (tC' d) :=
  ⟨PE.imp h fun σ H Q ⟨w, δ, e, r, s, q⟩ => by
    subst e
    exact q v w rfl (Le.refl w) r (hr w), mono_c⟩
theorem me_int {i : Int} {j : Nat} : ME X W (.Constant (.int i) j pos) (tC' (.int i)) := me_c pe_int fun _ => by simp [Rep]
theorem me_bl {i : Bool} {j : Nat} : ME X W (.Constant (.bool i) j pos) (tC' (.bl i)) := me_c pe_bl fun _ => by simp [Rep]
theorem me_non {j : Nat} : ME X W (.Constant .none j pos) (tC' .non) := me_c pe_non fun _ => by simp [Rep]
theorem me_str {x : Str} {j : Nat} : ME X W (.Constant (.str x) j pos) (tC' (.str x)) := me_c pe_str fun _ => by simp [Rep]
/-- a constant of the module -/
theorem me_glob {x : Str} {d : D} {v : V} {u : Value} (hg : Gl X x) (hm : X.mg x = some u) (r : RelV v u) (hr : ∀ w, Rep X.K w d v) (hd : (x == ("__debug__" : Str)) = false := by decide) : ME X W (.Name x pos) (tC' d) := me_c (pe_glob hg hm r hd) hr

/-! ### operators by values -/
abbrev R2' := D → D → MH → QE → Prop
abbrev R1' := D → MH → QE → Prop
abbrev RA' := List D → MH → QE → Prop
def Lift2 (K : PySem.W.Frag) (r : R2) (r' : R2') : Prop := ∀ (w : Wd) (x y : V) (dx dy : D) (Q : VK), RH K w → Rep K w dx x → Rep K w dy y → r' dx dy w.M (PV K w Q) → r x y w.H Q
def Lift1 (K : PySem.W.Frag) (r : V → Hp → VK → Prop) (r' : R1') : Prop := ∀ (w : Wd) (x : V) (dx : D) (Q : VK), RH K w → Rep K w dx x → r' dx w.M (PV K w Q) → r x w.H Q
def LiftA (K : PySem.W.Frag) (r : List V → Hp → VK → Prop) (r' : RA') : Prop := ∀ (w : Wd) (xs : List V) (ds : List D) (Q : VK), RH K w → RepL K w ds xs → r' ds w.M (PV K w Q) → r xs w.H Q
def Mono2 (r : R2') : Prop := ∀ x y M (Q Q' : QE), (∀ d M, Q d M → Q' d M) → r x y M Q → r x y M Q'
def Mono1 (r : R1') : Prop := ∀ x M (Q Q' : QE), (∀ d M, Q d M → Q' d M) → r x M Q → r x M Q'
def MonoR (r : RA') : Prop := ∀ x M (Q Q' : QE), (∀ d M, Q d M → Q' d M) → r x M Q → r x M Q'
def tOp' (r : R2') (ta tb : TE') : TE' := fun δ M Q E => ta δ M (fun x M1 => tb δ M1 (fun y M2 => r x y M2 Q) E) E
def tUn' (r : R1') (ta : TE') : TE' := fun δ M Q E => ta δ M (fun x M1 => r x M1 Q) E
theorem mono_op {r : R2'} {ta tb : TE'} (hr : Mono2 r) (ha : MonoE ta) (hb : MonoE tb) : MonoE (tOp' r ta tb) := fun δ M Q Q' E E' q x h =>
  ha δ M _ _ E E' (fun d M1 h1 => hb δ M1 _ _ E E' (fun d2 M2 h2 => hr _ _ _ _ _ q h2) x h1) x h
theorem mono_un {r : R1'} {ta : TE'} (hr : Mono1 r) (ha : MonoE ta) : MonoE (tUn' r ta) := fun δ M Q Q' E E' q x h =>
  ha δ M _ _ E E' (fun d M1 h1 => hr _ _ _ _ q h1) x h
/-- the step: what holds of an expression's data, at its end -/
theorem up_go {ta : TE'} (ma : MonoE ta) {σ : L2.St} {δ : EnvD} {G : VK} {Q0 : QE} {E0 : QX} {w : Wd} (r : RH K w) (s : RepS K w δ σ) (h : ta δ w.M Q0 E0)
    (hE : ∀ x M, E0 x M → PX K w (fun c d H => W c d σ H) x M)
    (hG : ∀ d v w1, Le w w1 → RH K w1 → RepS K w1 δ σ → Rep K w1 d v → Q0 d w1.M → G v w1.H) : up K W ta σ w.H G :=
  ⟨w, δ, rfl, r, s, ma _ _ _ _ _ _ (fun d M q v w1 e l r1 rv => by subst e; exact hG d v w1 l r1 (s.le r l) rv q) hE h⟩
theorem op2_lift {r : R2} {r' : R2'} {ta tb : TE'} (L : Lift2 K r r') (mr : Mono2 r') (ma : MonoE ta) (mb : MonoE tb) (σ : L2.St) (H : Hp) (Q : VK) (h : up K W (tOp' r' ta tb) σ H Q) : tOp r (up K W ta) (up K W tb) σ H Q := by
  obtain ⟨w, δ, rfl, rh, rs, h⟩ := h
  refine up_go ma rh rs h (fun _ _ x => x) fun dx vx w1 l1 rh1 rs1 rx h1 => ?_
  refine up_go mb rh1 rs1 h1 (fun _ _ x => x.le rh rh1 l1) fun dy vy w2 l2 rh2 rs2 ry h2 => ?_
  refine L w2 vx vy dx dy Q rh2 (rx.le rh1 l2) ry (mr _ _ _ _ _ (fun d M q => (q.le rh rh1 l1).le rh1 rh2 l2) h2)
theorem me_op {op : Operator} {r : R2} {r' : R2'} {ta tb : TE'} (ho : OpR X (binaryOp op) r) (L : Lift2 X.K r r') (mr : Mono2 r') (ha : ME X W a ta) (hb : ME X W b tb) : ME X W (.BinOp a op b pos) (tOp' r' ta tb) :=
  ⟨PE.imp (pe_op ho ha.pe hb.pe) (op2_lift L mr ha.mono hb.mono), mono_op mr ha.mono hb.mono⟩
theorem me_cmp {op : CmpOp} {r : R2} {r' : R2'} {ta tb : TE'} (ho : OpR X (compareOp op) r) (L : Lift2 X.K r r') (mr : Mono2 r') (ha : ME X W a ta) (hb : ME X W b tb) (hm : behindInMarks op b = false) : ME X W (.Compare a [op] [b] pos) (tOp' r' ta tb) :=
  ⟨PE.imp (pe_cmpR ho ha.pe hb.pe hm) (op2_lift L mr ha.mono hb.mono), mono_op mr ha.mono hb.mono⟩
theorem me_ix {r : R2} {r' : R2'} {ta tb : TE'} (ho : IxR X r) (L : Lift2 X.K r r') (mr : Mono2 r') (ha : ME X W a ta) (hb : ME X W b tb) (hs : PlainIx b) : ME X W (.Subscript a b pos) (tOp' r' ta tb) :=
  ⟨PE.imp (pe_ix ho ha.pe hb.pe hs) (op2_lift L mr ha.mono hb.mono), mono_op mr ha.mono hb.mono⟩
theorem me_un {op : UnaryOp} {r : V → Hp → VK → Prop} {r' : R1'} {ta : TE'} (ho : UnR X (unaryOp op) r) (L : Lift1 X.K r r') (mr : Mono1 r') (ha : ME X W a ta) : ME X W (.UnaryOp op a pos) (tUn' r' ta) :=
  ⟨PE.imp (pe_un ho ha.pe) fun σ H Q ⟨w, δ, e, rh, rs, h⟩ => by
    subst e
    refine up_go ha.mono rh rs h (fun _ _ x => x) fun dx vx w1 l1 rh1 rs1 rx h1 => ?_
    exact L w1 vx dx Q rh1 rx (mr _ _ _ _ (fun d M q => q.le rh rh1 l1) h1), mono_un mr ha.mono⟩

/-! ### tests -/
def tB' (t : TE') : TT' := fun δ M Q E => t δ M (fun d M1 => ∃ c, d = .bl c ∧ Q c M1) E
theorem mono_B {t : TE'} (h : MonoE t) : MonoT (tB' t) := fun δ M Q Q' E E' q x hh => h δ M _ _ E E' (fun d M1 ⟨c, e, h1⟩ => ⟨c, e, q _ _ h1⟩) x hh
theorem rep_bl {v : V} {b : Bool} (h : Rep K w (.bl b) v) : v = .bl b := by simpa [Rep] using h
theorem rep_int {v : V} {i : Int} (h : Rep K w (.int i) v) : v = .int i := by simpa [Rep] using h
theorem rep_str {v : V} {i : Str} (h : Rep K w (.str i) v) : v = .str i := by simpa [Rep] using h
theorem rep_non {v : V} (h : Rep K w .non v) : v = .non := by simpa [Rep] using h
theorem mt_cmp {op : CmpOp} {r : R2} {r' : R2'} {ta tb : TE'} (ho : OpR X (compareOp op) r) (L : Lift2 X.K r r') (mr : Mono2 r') (ha : ME X W a ta) (hb : ME X W b tb) (hm : behindInMarks op b = false) : MT X W (.Compare a [op] [b] pos) (tB' (tOp' r' ta tb)) :=
  ⟨PT.imp (pt_cmpR ho ha.pe hb.pe hm) fun σ H Q ⟨w, δ, e, rh, rs, h⟩ => by
    refine op2_lift L mr ha.mono hb.mono σ H (fun x H' => ∃ k, x = .bl k ∧ Q k H') ⟨w, δ, e, rh, rs, ?_⟩
    refine mono_op mr ha.mono hb.mono _ _ _ _ _ _ (fun d M ⟨c, e, h1⟩ v w1 e1 l r1 rv => ?_) (fun _ _ x => x) h
    subst e
    exact ⟨c, rep_bl rv, h1 w1 e1 l r1⟩, mono_B (mono_op mr ha.mono hb.mono)⟩
theorem mt_val {t : TE'} (h : ME X W e t) (he : ∀ whole, isTrue e X.env whole = (do let v ← whole; standAt e.pos; holding [v] (truthy v)) := by intro _; rfl) : MT X W e (tB' t) :=
  ⟨PT.imp (pt_val h.pe he) fun σ H Q ⟨w, δ, e, rh, rs, h1⟩ => ⟨w, δ, e, rh, rs, h.mono _ _ _ _ _ _ (fun d M ⟨c, e2, h2⟩ v w1 e1 l r1 rv => by
    subst e2; exact ⟨c, rep_bl rv, h2 w1 e1 l r1⟩) (fun _ _ x => x) h1⟩, mono_B h.mono⟩
def tAnd' (t u : TT') : TT' := fun δ M Q E => t δ M (fun c M1 => if c = true then u δ M1 Q E else Q false M1) E
def tOr' (t u : TT') : TT' := fun δ M Q E => t δ M (fun c M1 => if c = true then Q true M1 else u δ M1 Q E) E
def tNot' (t : TT') : TT' := fun δ M Q E => t δ M (fun c M1 => Q (!c) M1) E
theorem mono_and {t u : TT'} (h : MonoT t) (k : MonoT u) : MonoT (tAnd' t u) := fun δ M Q Q' E E' q x hh => h δ M _ _ E E' (fun c M1 h1 => by
  cases c with
  | true => exact k _ _ _ _ _ _ q x h1
  | false => exact q _ _ h1) x hh
theorem mono_or {t u : TT'} (h : MonoT t) (k : MonoT u) : MonoT (tOr' t u) := fun δ M Q Q' E E' q x hh => h δ M _ _ E E' (fun c M1 h1 => by
  cases c with
  | false => exact k _ _ _ _ _ _ q x h1
  | true => exact q _ _ h1) x hh
theorem mono_not {t : TT'} (h : MonoT t) : MonoT (tNot' t) := fun δ M Q Q' E E' q x hh => h δ M _ _ E E' (fun c M1 h1 => q _ _ h1) x hh
theorem upT_go {t : TT'} (ma : MonoT t) {σ : L2.St} {δ : EnvD} {G : Bool → Hp → Prop} {Q0 : Bool → MH → Prop} {E0 : QX} {w : Wd} (r : RH K w) (s : RepS K w δ σ) (h : t δ w.M Q0 E0)
    (hE : ∀ x M, E0 x M → PX K w (fun c d H => W c d σ H) x M)
    (hG : ∀ b w1, Le w w1 → RH K w1 → RepS K w1 δ σ → Q0 b w1.M → G b w1.H) : upT K W t σ w.H G :=
  ⟨w, δ, rfl, r, s, ma _ _ _ _ _ _ (fun d M q w1 e l r1 => by subst e; exact hG d w1 l r1 (s.le r l) q) hE h⟩
theorem and_lift {t u : TT'} (mt : MonoT t) (mu : MonoT u) (σ : L2.St) (H : Hp) (Q : Bool → Hp → Prop) (h : upT K W (tAnd' t u) σ H Q) : tAnd (upT K W t) (upT K W u) σ H Q := by
  obtain ⟨w, δ, rfl, rh, rs, h⟩ := h
  refine upT_go mt rh rs h (fun _ _ x => x) fun c w1 l1 rh1 rs1 h1 => ?_
  cases c with
  | true => exact upT_go mu rh1 rs1 h1 (fun _ _ x => x.le rh rh1 l1) fun c w2 l2 rh2 rs2 h2 => h2 w2 rfl (l1.trans rh rh1 l2) rh2
  | false => exact h1 w1 rfl l1 rh1
theorem or_lift {t u : TT'} (mt : MonoT t) (mu : MonoT u) (σ : L2.St) (H : Hp) (Q : Bool → Hp → Prop) (h : upT K W (tOr' t u) σ H Q) : tOr (upT K W t) (upT K W u) σ H Q := by
  obtain ⟨w, δ, rfl, rh, rs, h⟩ := h
  refine upT_go mt rh rs h (fun _ _ x => x) fun c w1 l1 rh1 rs1 h1 => ?_
  cases c with
  | false => exact upT_go mu rh1 rs1 h1 (fun _ _ x => x.le rh rh1 l1) fun c w2 l2 rh2 rs2 h2 => h2 w2 rfl (l1.trans rh rh1 l2) rh2
  | true => exact h1 w1 rfl l1 rh1
theorem mw_and1 {t : TT'} (h : MT X W a t) : MW X W (.BoolOp .And [a] pos) t := ⟨pw_and1 h.pt, h.mono⟩
theorem mw_or1 {t : TT'} (h : MT X W a t) : MW X W (.BoolOp .Or [a] pos) t := ⟨pw_or1 h.pt, h.mono⟩
theorem mw_and {rest : List Expr} {t u : TT'} (h : MT X W a t) (k : MW X W (.BoolOp .And (b :: rest) pos) u) : MW X W (.BoolOp .And (a :: b :: rest) pos) (tAnd' t u) := ⟨PW.imp (pw_and h.pt k.pw) (and_lift h.mono k.mono), mono_and h.mono k.mono⟩
theorem mw_or {rest : List Expr} {t u : TT'} (h : MT X W a t) (k : MW X W (.BoolOp .Or (b :: rest) pos) u) : MW X W (.BoolOp .Or (a :: b :: rest) pos) (tOr' t u) := ⟨PW.imp (pw_or h.pt k.pw) (or_lift h.mono k.mono), mono_or h.mono k.mono⟩
theorem MW.mt {t : TT'} (h : MW X W e t) : MT X W e t := ⟨h.pw.pt, h.mono⟩
theorem mt_not {t : TT'} (h : MT X W a t) : MT X W (.UnaryOp .Not a pos) (tNot' t) :=
  ⟨PT.imp (pt_not h.pt) fun σ H Q ⟨w, δ, e, rh, rs, h1⟩ => ⟨w, δ, e, rh, rs, h.mono _ _ _ _ _ _ (fun c M q w1 e1 l r1 => q w1 e1 l r1) (fun _ _ x => x) h1⟩, mono_not h.mono⟩
/-- and, or, not as values -/
def tAndV' (ta tb : TE') : TE' := fun δ M Q E => ta δ M (fun x M1 => ∃ c, x = .bl c ∧ if c = true then tb δ M1 Q E else Q (.bl false) M1) E
def tOrV' (ta tb : TE') : TE' := fun δ M Q E => ta δ M (fun x M1 => ∃ c, x = .bl c ∧ if c = true then Q (.bl true) M1 else tb δ M1 Q E) E
def tNotV' (ta : TE') : TE' := fun δ M Q E => ta δ M (fun x M1 => ∃ c, x = .bl c ∧ Q (.bl (!c)) M1) E
theorem me_one {op : BoolOp} {t : TE'} (h : ME X W a t) : ME X W (.BoolOp op [a] pos) t := ⟨pe_one h.pe, h.mono⟩
theorem mono_andV {ta tb : TE'} (h : MonoE ta) (k : MonoE tb) : MonoE (tAndV' ta tb) := fun δ M Q Q' E E' q x hh => h δ M _ _ E E' (fun d M1 ⟨c, e, h1⟩ => ⟨c, e, by
  cases c with
  | true => exact k _ _ _ _ _ _ q x h1
  | false => exact q _ _ h1⟩) x hh
theorem mono_orV {ta tb : TE'} (h : MonoE ta) (k : MonoE tb) : MonoE (tOrV' ta tb) := fun δ M Q Q' E E' q x hh => h δ M _ _ E E' (fun d M1 ⟨c, e, h1⟩ => ⟨c, e, by
  cases c with
  | false => exact k _ _ _ _ _ _ q x h1
  | true => exact q _ _ h1⟩) x hh
theorem me_and {rest : List Expr} {ta tb : TE'} (ha : ME X W a ta) (hb : ME X W (.BoolOp .And (b :: rest) pos) tb) : ME X W (.BoolOp .And (a :: b :: rest) pos) (tAndV' ta tb) :=
  ⟨PE.imp (pe_and ha.pe hb.pe) fun σ H Q ⟨w, δ, e, rh, rs, h⟩ => by
    subst e
    refine up_go ha.mono rh rs h (fun _ _ x => x) fun d v w1 l1 rh1 rs1 rv ⟨c, e, h1⟩ => ?_
    subst e
    refine ⟨c, rep_bl rv, ?_⟩
    cases c with
    | true => exact up_go hb.mono rh1 rs1 h1 (fun _ _ x => x.le rh rh1 l1) fun d2 v2 w2 l2 rh2 rs2 rv2 h2 => h2 v2 w2 rfl (l1.trans rh rh1 l2) rh2 rv2
    | false => exact h1 _ w1 rfl l1 rh1 (by simp [Rep]), mono_andV ha.mono hb.mono⟩
theorem me_or {rest : List Expr} {ta tb : TE'} (ha : ME X W a ta) (hb : ME X W (.BoolOp .Or (b :: rest) pos) tb) : ME X W (.BoolOp .Or (a :: b :: rest) pos) (tOrV' ta tb) :=
  ⟨PE.imp (pe_or ha.pe hb.pe) fun σ H Q ⟨w, δ, e, rh, rs, h⟩ => by
    subst e
    refine up_go ha.mono rh rs h (fun _ _ x => x) fun d v w1 l1 rh1 rs1 rv ⟨c, e, h1⟩ => ?_
    subst e
    refine ⟨c, rep_bl rv, ?_⟩
    cases c with
    | false => exact up_go hb.mono rh1 rs1 h1 (fun _ _ x => x.le rh rh1 l1) fun d2 v2 w2 l2 rh2 rs2 rv2 h2 => h2 v2 w2 rfl (l1.trans rh rh1 l2) rh2 rv2
    | true => exact h1 _ w1 rfl l1 rh1 (by simp [Rep]), mono_orV ha.mono hb.mono⟩
theorem me_not {ta : TE'} (ha : ME X W a ta) : ME X W (.UnaryOp .Not a pos) (tNotV' ta) :=
  ⟨PE.imp (pe_not ha.pe) fun σ H Q ⟨w, δ, e, rh, rs, h⟩ => by
    subst e
    refine up_go ha.mono rh rs h (fun _ _ x => x) fun d v w1 l1 rh1 rs1 rv ⟨c, e, h1⟩ => ?_
    subst e
    exact ⟨c, rep_bl rv, h1 _ w1 rfl l1 rh1 (by simp [Rep])⟩, fun δ M Q Q' E E' q x hh => ha.mono δ M _ _ E E' (fun d M1 ⟨c, e, h1⟩ => ⟨c, e, q _ _ h1⟩) x hh⟩
def tIf' (t : TT') (ta tb : TE') : TE' := fun δ M Q E => t δ M (fun c M1 => if c = true then ta δ M1 Q E else tb δ M1 Q E) E
theorem me_if {t : TT'} {ta tb : TE'} (hc : MT X W c t) (ha : ME X W a ta) (hb : ME X W b tb) : ME X W (.IfExp c a b pos) (tIf' t ta tb) :=
  ⟨PE.imp (pe_ifExp hc.pt ha.pe hb.pe) fun σ H Q ⟨w, δ, e, rh, rs, h⟩ => by
    subst e
    refine upT_go hc.mono rh rs h (fun _ _ x => x) fun c w1 l1 rh1 rs1 h1 => ?_
    cases c with
    | true => exact up_go ha.mono rh1 rs1 h1 (fun _ _ x => x.le rh rh1 l1) fun d2 v2 w2 l2 rh2 rs2 rv2 h2 => h2 v2 w2 rfl (l1.trans rh rh1 l2) rh2 rv2
    | false => exact up_go hb.mono rh1 rs1 h1 (fun _ _ x => x.le rh rh1 l1) fun d2 v2 w2 l2 rh2 rs2 rv2 h2 => h2 v2 w2 rfl (l1.trans rh rh1 l2) rh2 rv2,
   fun δ M Q Q' E E' q x hh => hc.mono δ M _ _ E E' (fun c M1 h1 => by
    cases c with
    | true => exact ha.mono _ _ _ _ _ _ q x h1
    | false => exact hb.mono _ _ _ _ _ _ q x h1) x hh⟩

/-! ### arguments, displays -/
def tNil' : TA' := fun _ M Q _ => Q [] M
def tCons' (t : TE') (u : TA') : TA' := fun δ M Q E => t δ M (fun d M1 => u δ M1 (fun ds M2 => Q (d :: ds) M2) E) E
theorem mono_cons {t : TE'} {u : TA'} (h : MonoE t) (k : MonoA u) : MonoA (tCons' t u) := fun δ M Q Q' E E' q x hh => h _ _ _ _ _ _ (fun d M1 h1 => k _ _ _ _ _ _ (fun ds M2 h2 => q _ _ h2) x h1) x hh
theorem upA_go {ta : TA'} (ma : MonoA ta) {σ : L2.St} {δ : EnvD} {G : List V → Hp → Prop} {Q0 : List D → MH → Prop} {E0 : QX} {w : Wd} (r : RH K w) (s : RepS K w δ σ) (h : ta δ w.M Q0 E0)
    (hE : ∀ x M, E0 x M → PX K w (fun c d H => W c d σ H) x M)
    (hG : ∀ d v w1, Le w w1 → RH K w1 → RepS K w1 δ σ → RepL K w1 d v → Q0 d w1.M → G v w1.H) : upA K W ta σ w.H G :=
  ⟨w, δ, rfl, r, s, ma _ _ _ _ _ _ (fun d M q v w1 e l r1 rv => by subst e; exact hG d v w1 l r1 (s.le r l) rv q) hE h⟩
theorem ma_nil : MA X W [] tNil' := ⟨PA.imp pa_nil fun σ H Q ⟨w, δ, e, rh, rs, h⟩ => by subst e; exact h [] w rfl (Le.refl w) rh rfl, fun _ _ _ _ _ _ q _ h => q _ _ h⟩
theorem ma_cons {es : List Expr} {t : TE'} {u : TA'} (h : ME X W e t) (k : MA X W es u) (hs : starEach (e :: es) X.env = (false, eval e X.env) :: starEach es X.env := by rfl) : MA X W (e :: es) (tCons' t u) :=
  ⟨PA.imp (pa_cons h.pe k.pa hs) fun σ H Q ⟨w, δ, e, rh, rs, h1⟩ => by
    subst e
    refine up_go h.mono rh rs h1 (fun _ _ x => x) fun d v w1 l1 rh1 rs1 rv h1 => ?_
    refine upA_go k.mono rh1 rs1 h1 (fun _ _ x => x.le rh rh1 l1) fun d2 v2 w2 l2 rh2 rs2 rv2 h2 => ?_
    exact h2 _ w2 rfl (l1.trans rh rh1 l2) rh2 (RepL.cons (rv.le rh1 l2) rv2), mono_cons h.mono k.mono⟩
/-- a new list: a cell, or one that stays as it is -/
def newL (cell : Bool) (ds : List D) (M : MH) (Q : QE) : Prop := if cell = true then Q (.ref M.length) (M ++ [.lst ds]) else Q (.lst ds) M
theorem newL.mono {cell : Bool} {ds : List D} {M : MH} {Q Q' : QE} (q : ∀ d M, Q d M → Q' d M) (h : newL cell ds M Q) : newL cell ds M Q' := by
  cases cell with
  | true => exact q _ _ h
  | false => exact q _ _ h
theorem newL.lift {cell : Bool} {ds : List D} {xs : List V} {Q : VK} (rh : RH K w) (hr : RepL K w ds xs) (h : newL cell ds w.M (PV K w Q)) : ∀ p, w.H p = none → Q (.ref p) (upd w.H p (.lst xs)) := by
  intro p hp
  cases cell with
  | true =>
    have h : PV K w Q (.ref w.M.length) (w.M ++ [.lst ds]) := h
    have l : Le w (w.cell p (.lst xs) (.lst ds)) := Le.cell rh hp
    exact h (.ref p) (w.cell p (.lst xs) (.lst ds)) rfl l (rh.cell hp ⟨xs, upd_same, RepL.le rh l _ hr⟩) rh.cell_ix
  | false =>
    have h : PV K w Q (.lst ds) w.M := h
    exact h (.ref p) (w.new p (.lst xs)) rfl (Le.new hp) (rh.new hp) (rep_new_lst rh hp hr)
def newT (ds : List D) (M : MH) (Q : QE) : Prop := Q (.tup ds) M
theorem newT.lift {ds : List D} {xs : List V} {Q : VK} (rh : RH K w) (hr : RepL K w ds xs) (h : PV K w Q (.tup ds) w.M) : ∀ p, w.H p = none → Q (.ref p) (upd w.H p (.tup xs)) := fun p hp =>
  h (.ref p) (w.new p (.tup xs)) rfl (Le.new hp) (rh.new hp) (rep_new_tup rh hp hr)
def tTup' (t : TA') : TE' := fun δ M Q E => t δ M (fun ds M1 => ds.length ≤ sizeLine ∧ Q (.tup ds) M1) E
def tLst' (cell : Bool) (t : TA') : TE' := fun δ M Q E => t δ M (fun ds M1 => ds.length ≤ sizeLine ∧ newL cell ds M1 Q) E
theorem me_tup {es : List Expr} {x1} {t : TA'} (h : MA X W es t) : ME X W (.Tuple es x1 pos) (tTup' t) :=
  ⟨PE.imp (pe_tup h.pa) fun σ H Q ⟨w, δ, e, rh, rs, h1⟩ => by
    subst e
    refine upA_go h.mono rh rs h1 (fun _ _ x => x) fun d v w1 l1 rh1 rs1 rv ⟨hz, h2⟩ => ⟨by rw [rv.length]; exact hz, ?_⟩
    exact newT.lift rh1 rv (h2.le rh rh1 l1), fun δ M Q Q' E E' q x hh => h.mono _ _ _ _ _ _ (fun d M1 ⟨z, h1⟩ => ⟨z, q _ _ h1⟩) x hh⟩
theorem me_lst (cell : Bool) {es : List Expr} {t : TA'} (h : MA X W es t) : ME X W (.List es pos) (tLst' cell t) :=
  ⟨PE.imp (pe_lst h.pa) fun σ H Q ⟨w, δ, e, rh, rs, h1⟩ => by
    subst e
    refine upA_go h.mono rh rs h1 (fun _ _ x => x) fun d v w1 l1 rh1 rs1 rv ⟨hz, h2⟩ => ⟨by rw [rv.length]; exact hz, ?_⟩
    exact newL.lift rh1 rv (newL.mono (fun d M q => q.le rh rh1 l1) h2), fun δ M Q Q' E E' q x hh => h.mono _ _ _ _ _ _ (fun d M1 ⟨z, h1⟩ => ⟨z, h1.mono q⟩) x hh⟩
/-- a list that no one writes from here on -/
def tFrz (t : TE') : TE' := fun δ M Q E => t δ M (fun d M1 => ∃ i ds, d = .ref i ∧ M1[i]? = some (.lst ds) ∧ Q (.lst ds) (M1.set i .dead)) E
theorem me_frz {t : TE'} (h : ME X W e t) : ME X W e (tFrz t) :=
  ⟨PE.imp h.pe fun σ H Q ⟨w, δ, e, rh, rs, h1⟩ => by
    subst e
    refine up_go h.mono rh rs h1 (fun _ _ x => x) fun d v w1 l1 rh1 rs1 rv ⟨i, ds, e, ei, h2⟩ => ?_
    subst e
    simp only [Rep] at rv
    obtain ⟨a, e, em⟩ := rv
    subst e
    exact h2 (.ref a) (w1.kill i) rfl (l1.trans rh rh1 Le.kill) rh1.kill (rep_kill rh1 em ei), fun δ M Q Q' E E' q x hh => h.mono _ _ _ _ _ _ (fun d M1 ⟨i, ds, e, z, h1⟩ => ⟨i, ds, e, z, q _ _ h1⟩) x hh⟩

/-! ### calls of built-ins by values -/
def tCB' (r : RA') (t : TA') : TE' := fun δ M Q E => t δ M (fun ds M1 => r ds M1 Q) E
theorem mono_CB {r : RA'} {t : TA'} (hr : MonoR r) (h : MonoA t) : MonoE (tCB' r t) := fun δ M Q Q' E E' q x hh => h _ _ _ _ _ _ (fun d M1 h1 => hr _ _ _ _ q h1) x hh
theorem cb_lift {r : List V → Hp → VK → Prop} {r' : RA'} {t : TA'} (L : LiftA K r r') (mr : MonoR r') (m : MonoA t) (σ : L2.St) (H : Hp) (Q : VK) (h : up K W (tCB' r' t) σ H Q) : tCB r (upA K W t) σ H Q := by
  obtain ⟨w, δ, rfl, rh, rs, h1⟩ := h
  refine upA_go m rh rs h1 (fun _ _ x => x) fun d v w1 l1 rh1 rs1 rv h2 => ?_
  exact L w1 v d Q rh1 rv (mr _ _ _ _ (fun d M q => q.le rh rh1 l1) h2)
theorem me_callB {x : Str} {p : Pos} {es : List Expr} {id : String} {r : List V → Hp → VK → Prop} {r' : RA'} {t : TA'} (hc : CallR X (.builtin id) r) (L : LiftA X.K r r') (mr : MonoR r') (hg : Gl X x) (hm : X.mg x = none) (hv : bootBuiltins x = some (.builtin id)) (ha : MA X W (e :: es) t)
    (hn : x ≠ "__name__" := by decide) (hdb : (x == ("__debug__" : Str)) = false := by decide)
    (he : starEach (e :: es) X.env = (false, eval e X.env) :: starEach es X.env := by rfl) (hpl : (backTo pos (starEach es X.env)).any (·.1) = false := by rfl) : ME X W (.Call (.Name x p) (e :: es) [] pos) (tCB' r' t) :=
  ⟨PE.imp (pe_callB hc hg hm hv ha.pa hn hdb he hpl) (cb_lift L mr ha.mono), mono_CB mr ha.mono⟩
theorem me_callBfun {x : Str} {p : Pos} {es : List Expr} {id : String} {r : List V → Hp → VK → Prop} {r' : RA'} {t : TA'} (hc : CallR X (.builtin id) r) (L : LiftA X.K r r') (mr : MonoR r') (hg : Gl X x) (hm : X.mg x = some (.builtin id)) (ha : MA X W (e :: es) t)
    (hdb : (x == ("__debug__" : Str)) = false := by decide)
    (he : starEach (e :: es) X.env = (false, eval e X.env) :: starEach es X.env := by rfl) (hpl : (backTo pos (starEach es X.env)).any (·.1) = false := by rfl) : ME X W (.Call (.Name x p) (e :: es) [] pos) (tCB' r' t) :=
  ⟨PE.imp (pe_callBfun hc hg hm ha.pa hdb he hpl) (cb_lift L mr ha.mono), mono_CB mr ha.mono⟩
theorem me_callTy {x : Str} {p : Pos} {es : List Expr} {T : String} {r : List V → Hp → VK → Prop} {r' : RA'} {t : TA'} (hc : CallR X (.type T) r) (L : LiftA X.K r r') (mr : MonoR r') (hg : Gl X x) (hm : X.mg x = none) (hv : bootBuiltins x = some (.type T)) (ha : MA X W (e :: es) t)
    (hn : x ≠ "__name__" := by decide) (hdb : (x == ("__debug__" : Str)) = false := by decide)
    (he : starEach (e :: es) X.env = (false, eval e X.env) :: starEach es X.env := by rfl) (hpl : (backTo pos (starEach es X.env)).any (·.1) = false := by rfl) : ME X W (.Call (.Name x p) (e :: es) [] pos) (tCB' r' t) :=
  ⟨PE.imp (pe_callTy hc hg hm hv ha.pa hn hdb he hpl) (cb_lift L mr ha.mono), mono_CB mr ha.mono⟩

/-! ### defs -/
abbrev SpD := List D → MH → QE → QX → Prop
def MonoP (sp : SpD) : Prop := ∀ ds M (Q Q' : QE) (E E' : QX), (∀ d M, Q d M → Q' d M) → (∀ x M, E x M → E' x M) → sp ds M Q E → sp ds M Q' E'
def upP (K : PySem.W.Frag) (sp : SpD) : Sp := fun vs H Q E => ∃ (w : Wd) (ds : List D), w.H = H ∧ RH K w ∧ RepL K w ds vs ∧ sp ds w.M (PV K w Q) (PX K w E)
def tCall' (sp : SpD) (t : TA') : TE' := fun δ M Q E => t δ M (fun ds M1 => sp ds M1 Q E) E
theorem me_call {x : Str} {p : Pos} {es : List Expr} {k : Nat} {f : Addr} {fd : FuncData} {ps : List Str} {sp : SpD} {t : TA'} (F : FnOk X.prog X.w X.K X.mg X.base (L2.CX X.prog X.w) k f fd ps (upP X.K sp)) (ms : MonoP sp) (hr : Room k X.A) (tk : Takes X W)
    (hg : Gl X x) (hm : X.mg x = some (.ref f)) (hk : PySem.W.keepIn X.K (.ref f) = true) (hb : Binds X.K fd ps []) (ha : MA X W (e :: es) t)
    (hdb : (x == ("__debug__" : Str)) = false := by decide) (he : starEach (e :: es) X.env = (false, eval e X.env) :: starEach es X.env := by rfl) (hpl : (backTo pos (starEach es X.env)).any (·.1) = false := by rfl) :
    ME X W (.Call (.Name x p) (e :: es) [] pos) (tCall' sp t) :=
  ⟨PE.imp (pe_callSD (E := fun σ c d H => W c d σ H) F hr hg hm hk hb .nil (fun σ pins H s e s' I c => tk e s' (XE.of_call I (fun _ _ _ h => h) c)) ha.pa hdb he hpl) fun σ H Q ⟨w, δ, e, rh, rs, h1⟩ => by
    subst e
    refine upA_go ha.mono rh rs h1 (fun _ _ x => x) fun d v w1 l1 rh1 rs1 rv h2 => ?_
    exact ⟨w1, d, rfl, rh1, by rw [List.append_nil]; exact rv, ms _ _ _ _ _ _ (fun d M q => q.le rh rh1 l1) (fun x M q => q.le rh rh1 l1) h2⟩,
   fun δ M Q Q' E E' q x hh => ha.mono _ _ _ _ _ _ (fun d M1 h1 => ms _ _ _ _ _ _ q x h1) x hh⟩
end MD
/-! MD: targets, statements, loops, comprehensions, defs. -/
namespace MD
open PySem PySem.Spec PyProof.Rows L2
variable {K : PySem.W.Frag} {w w1 w2 : Wd} {X : Cx} {W : WX} {e a b c : Expr} {pos : Pos}

/-! ### targets -/
def gName' (i : Nat) : TG' := fun d δ M Q => Q (δ.set i (some d)) M
theorem mg_name {i : Nat} {x : Str} (hN : X.N.Nodup) (hi : X.N[i]? = some x) (hx : Loc X.env.scope x) (hf : X.fn x = true ∨ X.env.scope.names.lookup x = some .local := by first | exact .inl rfl | exact .inr rfl | assumption) : MG X (.Name x pos) (gName' i) :=
  ⟨⟨fun pins s σ H v u Q I r ⟨w, δ, d, e, rh, rs, rd, q⟩ => by
    subst e
    exact (pg_name hN hi hx hf).run pins s σ w.H v u Q I r (q _ w rfl (Le.refl w) rh (rs.set i rd))⟩, fun d δ M Q Q' q h => q _ _ h⟩
def gAll' : List TG' → List D → EnvD → MH → (EnvD → MH → Prop) → Prop
  | [], ds, δ, M, Q => ds = [] ∧ Q δ M
  | g :: gs, ds, δ, M, Q => ∃ d r, ds = d :: r ∧ g d δ M fun δ1 M1 => gAll' gs r δ1 M1 Q
def upGs (K : PySem.W.Frag) (gs : List TG') : TGs := fun vs σ H Q => ∃ (w : Wd) (δ : EnvD) (ds : List D), w.H = H ∧ RH K w ∧ RepS K w δ σ ∧ RepL K w ds vs ∧ gAll' gs ds δ w.M (PN K w Q)
structure MGs (X : Cx) (es : List Expr) (gs : List TG') : Prop where
  pg : PGs X es (upGs X.K gs)
  mono : ∀ ds δ M (Q Q' : EnvD → MH → Prop), (∀ δ M, Q δ M → Q' δ M) → gAll' gs ds δ M Q → gAll' gs ds δ M Q'
theorem mgs_nil : MGs X [] [] := ⟨⟨fun pins s σ H vs us Q I r ⟨w, δ, ds, e, rh, rs, rd, e2, q⟩ => by
    subst e e2
    have : vs = [] := rd
    subst this
    exact pgs_nil.run pins s σ w.H [] us Q I r ⟨rfl, q σ w rfl (Le.refl w) rh rs⟩⟩, fun ds δ M Q Q' q ⟨e, h⟩ => ⟨e, q _ _ h⟩⟩
theorem mgs_cons {es : List Expr} {g : TG'} {gs : List TG'} (h1 : MG X e g) (h2 : MGs X es gs)
    (hs : (assignEach (e :: es) X.env).map (·.2) = assign e X.env :: (assignEach es X.env).map (·.2) := by rfl) : MGs X (e :: es) (g :: gs) :=
  ⟨⟨fun pins s σ H vs us Q I r ⟨w, δ, ds, eH, rh, rs, rd, d, r', eD, q⟩ => by
    subst eH eD
    obtain ⟨v, vr, rfl, rv, rvr⟩ := rd
    refine (pgs_cons h1.pg h2.pg hs).run pins s σ w.H _ us Q I r ⟨v, vr, rfl, w, δ, d, rfl, rh, rs, rv, h1.mono _ _ _ _ _ (fun δ1 M1 q1 σ1 w1 e1 l r1 s1 => ?_) q⟩
    subst e1
    exact ⟨w1, δ1, r', rfl, r1, s1, RepL.le rh l _ rvr, h2.mono _ _ _ _ _ (fun δ2 M2 q2 => q2.le rh r1 l) q1⟩⟩,
   fun ds δ M Q Q' q ⟨d, r, e, h⟩ => ⟨d, r, e, h1.mono _ _ _ _ _ (fun δ1 M1 h3 => h2.mono _ _ _ _ _ q h3) h⟩⟩
/-- x, y = a tuple, a list -/
def gTup' (n : Nat) (gs : List TG') : TG' := fun d δ M Q => ∃ ds, (d = .tup ds ∨ d = .lst ds) ∧ ds.length = n ∧ gAll' gs ds δ M Q
theorem mg_tup {es : List Expr} {k : Nat} {gs : List TG'} {n : Nat} (hc : X.calm = true) (h : MGs X es gs)
    (hn : (assignEach es X.env).length = n := by rfl) (hst : (assignEach es X.env).findIdx? (·.1) = none := by rfl) : MG X (.Tuple es k pos) (gTup' n gs) :=
  ⟨⟨fun pins s σ H v u Q I r ⟨w, δ, d, e, rh, rs, rd, ds, ed, hl, q⟩ => by
    subst e
    rcases ed with ed | ed
    · subst ed
      obtain ⟨a, xs, e, hq, hr⟩ := rd
      exact (pg_tup hc h.pg hn hst).run pins s σ w.H v u Q I r ⟨a, xs, e, hq, by rw [hr.length]; exact hl, w, δ, ds, rfl, rh, rs, hr, q⟩
    · subst ed
      obtain ⟨a, xs, e, hq, _, _, hr⟩ := rd
      exact (pg_lst hc h.pg hn hst).run pins s σ w.H v u Q I r ⟨a, xs, e, SqL.of hq, by rw [hr.length]; exact hl, w, δ, ds, rfl, rh, rs, hr, q⟩⟩,
   fun d δ M Q Q' q ⟨ds, e, hl, h1⟩ => ⟨ds, e, hl, h.mono _ _ _ _ _ q h1⟩⟩
/-- o[i] = v -/
abbrev TSet' := D → D → D → MH → (MH → Prop) → Prop
def LiftS (K : PySem.W.Frag) (t : TSet) (t' : TSet') : Prop := ∀ (w : Wd) (o i v : V) (do_ di dv : D) (Q : Hp → Prop), RH K w → Rep K w do_ o → Rep K w di i → Rep K w dv v →
  t' do_ di dv w.M (fun M1 => ∀ w1, w1.M = M1 → Le w w1 → RH K w1 → Q w1.H) → t o i v w.H Q
def gSub' (to ti : TE') (t : TSet') : TG' := fun v δ M Q => to δ M (fun o M1 => ti δ M1 (fun i M2 => t o i v M2 fun M3 => Q δ M3) fun _ _ => False) fun _ _ => False
theorem mg_sub {o i : Expr} {to ti : TE'} {t : TSet} {t' : TSet'} (ho : ME X (fun _ _ _ _ => False) o to) (hi : ME X (fun _ _ _ _ => False) i ti) (hs : PSet X t) (L : LiftS X.K t t')
    (ms : ∀ o i v M (Q Q' : MH → Prop), (∀ M, Q M → Q' M) → t' o i v M Q → t' o i v M Q')
    (ha : ∀ v, assign (.Subscript o i pos) X.env v = (do
      let ov ← holding [v] (eval o X.env)
      let iv ← holding [v, ov] (eval i X.env)
      standAt pos
      holding [v, ov, iv] (setItem ov iv v)
      release [v, ov, iv] []) := by intro _; rfl) : MG X (.Subscript o i pos) (gSub' to ti t') :=
  ⟨⟨fun pins s σ H v u Q I r ⟨w, δ, d, e, rh, rs, rd, q⟩ => by
    subst e
    refine (pg_sub ho.pe hi.pe hs ha).run pins s σ w.H v u Q I r ?_
    refine up_go ho.mono rh rs q (fun _ _ z => z.elim) fun do_ vo w1 l1 rh1 rs1 ro h1 => ?_
    refine up_go hi.mono rh1 rs1 h1 (fun _ _ z => z.elim) fun di vi w2 l2 rh2 rs2 ri h2 => ?_
    refine L w2 vo vi v do_ di d _ rh2 (ro.le rh1 l2) ri ((rd.le rh l1).le rh1 l2) (ms _ _ _ _ _ _ (fun M3 q3 w3 e3 l3 rh3 => ?_) h2)
    subst e3
    exact q3 σ w3 rfl ((l1.trans rh rh1 l2).trans rh rh2 l3) rh3 (rs2.le rh2 l3)⟩,
   fun d δ M Q Q' q h => ho.mono _ _ _ _ _ _ (fun o M1 h1 => hi.mono _ _ _ _ _ _ (fun i M2 h2 => ms _ _ _ _ _ _ (fun M3 h3 => q _ _ h3) h2) (fun _ _ z => z) h1) (fun _ _ z => z) h⟩

/-! ### statements -/
def tNext' : TS' := fun D δ M => D.nx δ M
def tSeq' (t u : TS') : TS' := fun D δ M => t { D with nx := u D } δ M
theorem upS_go {t : TS'} (ma : MonoS t) {σ : L2.St} {δ : EnvD} {D : Ends} {D0 : Ends'} {w : Wd} (r : RH K w) (s : RepS K w δ σ) (h : t D0 δ w.M) (hD : D0.le (endsD K w W D)) : upS K W t D σ w.H :=
  ⟨w, δ, rfl, r, s, ma _ _ _ _ hD h⟩
theorem mss_nil : MSs X W [] tNext' := ⟨PSs.imp pss_nil fun D σ H ⟨w, δ, e, rh, rs, h⟩ => by subst e; exact h σ w rfl (Le.refl w) rh rs, fun _ _ _ _ l h => l.nx _ _ h⟩
theorem mono_seq {t u : TS'} (h : MonoS t) (k : MonoS u) : MonoS (tSeq' t u) := fun δ M D D' l q =>
  h δ M { D with nx := u D } { D' with nx := u D' } ⟨fun δ M q => k δ M D D' l q, l.rt, l.bk, l.ct, l.ex⟩ q
theorem mss_cons {st : Stmt} {rest : List Stmt} {t u : TS'} (h : MS X W st t) (k : MSs X W rest u) : MSs X W (st :: rest) (tSeq' t u) :=
  ⟨PSs.imp (pss_cons h.ps k.ps) fun D σ H ⟨w, δ, e, rh, rs, q⟩ => by
    subst e
    refine upS_go h.mono rh rs q ⟨fun δ1 M1 q1 σ1 w1 e1 l r1 s1 => ?_, fun _ _ h => h, fun _ _ h => h, fun _ _ h => h, fun _ _ _ h => h⟩
    subst e1
    exact ⟨w1, δ1, rfl, r1, s1, k.mono _ _ _ _ (endsD.le rh r1 l) q1⟩, mono_seq h.mono k.mono⟩
theorem mss_one {st : Stmt} {t : TS'} (h : MS X W st t) : MSs X W [st] t := ⟨pss_one h.ps, h.mono⟩
def tBreak' : TS' := fun D δ M => D.bk δ M
def tCont' : TS' := fun D δ M => D.ct δ M
theorem ms_pass : MS X W (.Pass pos) tNext' := ⟨PS.imp ps_pass fun D σ H ⟨w, δ, e, rh, rs, h⟩ => by subst e; exact h σ w rfl (Le.refl w) rh rs, fun _ _ _ _ l h => l.nx _ _ h⟩
theorem ms_break : MS X W (.Break pos) tBreak' := ⟨PS.imp ps_break fun D σ H ⟨w, δ, e, rh, rs, h⟩ => by subst e; exact h σ w rfl (Le.refl w) rh rs, fun _ _ _ _ l h => l.bk _ _ h⟩
theorem ms_continue : MS X W (.Continue pos) tCont' := ⟨PS.imp ps_continue fun D σ H ⟨w, δ, e, rh, rs, h⟩ => by subst e; exact h σ w rfl (Le.refl w) rh rs, fun _ _ _ _ l h => l.ct _ _ h⟩
def tNever' : TS' := fun _ _ _ => False
theorem ms_never {st : Stmt} : MS X W st tNever' := ⟨PS.imp (t := fun _ _ _ => False) ⟨fun _ _ _ _ _ _ h => h.elim⟩ fun D σ H ⟨w, δ, e, rh, rs, h⟩ => h, fun _ _ _ _ _ h => h⟩
theorem mss_never {sts : List Stmt} : MSs X W sts tNever' := ⟨PSs.imp (t := fun _ _ _ => False) ⟨fun _ _ _ _ _ _ h => h.elim⟩ fun D σ H ⟨w, δ, e, rh, rs, h⟩ => h, fun _ _ _ _ _ h => h⟩
def tDrop' (te : TE') : TS' := fun D δ M => te δ M (fun _ M1 => D.nx δ M1) (fun x M1 => D.ex x δ M1)
/-- exceptions of an expression, as a statement's -/
theorem ex_of {D0 : Ends'} {D : Ends} {σ : L2.St} {δ : EnvD} (rs : RepS K w δ σ) (rh : RH K w) (l : D0.le (endsD K w W D)) : ∀ x M, D0.ex x δ M → PX K w (fun c d H => W c d σ H) x M :=
  fun x M h cls dx w1 e1 l1 r1 q => l.ex x δ M h cls dx σ w1 e1 l1 r1 (rs.le rh l1) q
theorem ms_expr {te : TE'} (he : ME X W e te) (hs : swapsWith e none pos.line X.env = pure false := by rfl) : MS X W (.Expr e pos) (tDrop' te) :=
  ⟨PS.imp (ps_expr he.pe hs) fun D σ H ⟨w, δ, e, rh, rs, h⟩ => by
    subst e
    exact up_go he.mono rh rs h (ex_of rs rh (Ends'.le.refl _)) fun d v w1 l1 rh1 rs1 rv h1 => h1 σ w1 rfl l1 rh1 rs1,
   fun δ M D D' l h => he.mono _ _ _ _ _ _ (fun d M1 h1 => l.nx _ _ h1) (fun x M1 h1 => l.ex _ _ _ h1) h⟩
def tRet' (te : TE') : TS' := fun D δ M => te δ M D.rt (fun x M1 => D.ex x δ M1)
theorem ms_ret {te : TE'} (he : ME X W e te) : MS X W (.Return (some e) pos) (tRet' te) :=
  ⟨PS.imp (ps_ret he.pe) fun D σ H ⟨w, δ, e, rh, rs, h⟩ => by
    subst e
    exact up_go he.mono rh rs h (ex_of rs rh (Ends'.le.refl _)) fun d v w1 l1 rh1 rs1 rv h1 => h1 v w1 rfl l1 rh1 rv,
   fun δ M D D' l h => he.mono _ _ _ _ _ _ (fun d M1 h1 => l.rt _ _ h1) (fun x M1 h1 => l.ex _ _ _ h1) h⟩
def tRetN' : TS' := fun D _ M => D.rt .non M
theorem ms_retN : MS X W (.Return none pos) tRetN' := ⟨PS.imp ps_retN fun D σ H ⟨w, δ, e, rh, rs, h⟩ => by subst e; exact h .non w rfl (Le.refl w) rh (by simp [Rep]), fun _ _ _ _ l h => l.rt _ _ h⟩
def tIfS' (c : TT') (t u : TS') : TS' := fun D δ M => c δ M (fun b M1 => if b = true then t D δ M1 else u D δ M1) (fun x M1 => D.ex x δ M1)
theorem mono_ifS {c : TT'} {t u : TS'} (hc : MonoT c) (ht : MonoS t) (hu : MonoS u) : MonoS (tIfS' c t u) := fun δ M D D' l h => hc _ _ _ _ _ _ (fun b M1 h1 => by
  cases b with
  | true => exact ht _ _ _ _ l h1
  | false => exact hu _ _ _ _ l h1) (fun x M1 h1 => l.ex _ _ _ h1) h
theorem ms_if {p q : List Stmt} {tc : TT'} {t u : TS'} (hc : MT X W c tc) (ha : MSs X W p t) (hb : MSs X W q u) : MS X W (.If c p q pos) (tIfS' tc t u) :=
  ⟨PS.imp (ps_if hc.pt ha.ps hb.ps) fun D σ H ⟨w, δ, e, rh, rs, h⟩ => by
    subst e
    refine upT_go hc.mono rh rs h (ex_of rs rh (Ends'.le.refl _)) fun b w1 l1 rh1 rs1 h1 => ?_
    cases b with
    | true => exact upS_go ha.mono rh1 rs1 h1 (endsD.le rh rh1 l1)
    | false => exact upS_go hb.mono rh1 rs1 h1 (endsD.le rh rh1 l1), mono_ifS hc.mono ha.mono hb.mono⟩
def tAsg' (te : TE') (g : TG') : TS' := fun D δ M => te δ M (fun d M1 => g d δ M1 D.nx) (fun x M1 => D.ex x δ M1)
theorem mono_asg {te : TE'} {g : TG'} (he : MonoE te) (hg : MonoG g) : MonoS (tAsg' te g) := fun δ M D D' l h => he _ _ _ _ _ _ (fun d M1 h1 => hg _ _ _ _ _ l.nx h1) (fun x M1 h1 => l.ex _ _ _ h1) h
theorem asg_lift {te : TE'} {g : TG'} (he : MonoE te) (hg : MonoG g) (D : Ends) (σ : L2.St) (H : Hp) (h : upS K W (tAsg' te g) D σ H) : tAsg (up K W te) (upG K g) D σ H := by
  obtain ⟨w, δ, rfl, rh, rs, h⟩ := h
  refine up_go he rh rs h (ex_of rs rh (Ends'.le.refl _)) fun d v w1 l1 rh1 rs1 rv h1 => ?_
  exact ⟨w1, δ, d, rfl, rh1, rs1, rv, hg _ _ _ _ _ (fun δ2 M2 q => q.le rh rh1 l1) h1⟩
theorem ms_asg {tg : Expr} {te : TE'} {g : TG'} (he : ME X W e te) (hg : MG X tg g) (hs : swapsWithSole [tg] e pos.line X.env = pure false := by rfl) (hw : swappedStores [tg] e X.env = pure none := by rfl)
    (h1 : (assignEach [tg] X.env).map (·.2) = [assign tg X.env] := by rfl) : MS X W (.Assign [tg] e pos) (tAsg' te g) :=
  ⟨PS.imp (ps_asg he.pe hg.pg hs hw h1) (asg_lift he.mono hg.mono), mono_asg he.mono hg.mono⟩
theorem ms_set {i : Nat} {x : Str} {te : TE'} {pos' : Pos} (hN : X.N.Nodup) (hi : X.N[i]? = some x) (hx : Loc X.env.scope x) (he : ME X W e te) (hs : swapsWith e (some (.Name x pos')) pos.line X.env = pure false := by rfl)
    (hf : X.fn x = true ∨ X.env.scope.names.lookup x = some .local := by first | exact .inl rfl | exact .inr rfl | assumption) : MS X W (.Assign [.Name x pos'] e pos) (tAsg' te (gName' i)) :=
  ⟨PS.imp (ps_set hN hi hx he.pe hs hf) fun D σ H ⟨w, δ, eH, rh, rs, h⟩ => by
    subst eH
    refine up_go he.mono rh rs h (ex_of rs rh (Ends'.le.refl _)) fun d v w1 l1 rh1 rs1 rv h1 => ?_
    exact h1 _ w1 rfl l1 rh1 (rs1.set i rv), mono_asg he.mono fun d δ M Q Q' q h => q _ _ h⟩
/-- a, b = x, y -/
def tPar' (i j : Nat) (ta : TA') : TS' := fun D δ M => ta δ M (fun ds M1 => ∃ d d', ds = [d, d'] ∧ D.nx ((δ.set i (some d)).set j (some d')) M1) (fun x M1 => D.ex x δ M1)
theorem ms_par {i j : Nat} {x y : Str} {ta : TA'} {px py pt : Pos} {kt k2 pt2} (hc : X.calm = true) (hN : X.N.Nodup) (hi : X.N[i]? = some x) (hj : X.N[j]? = some y) (hij : i ≠ j)
    (hx : X.env.scope.names.lookup x = some .local) (hy : X.env.scope.names.lookup y = some .local) (ha : MA X W [a, b] ta)
    (hw : swappedStores [.Tuple [.Name x px, .Name y py] kt pt] (.Tuple [a, b] k2 pt2) X.env = pure (some [x, y]))
    (hs : swapsWithSole [.Tuple [.Name x px, .Name y py] kt pt] (.Tuple [a, b] k2 pt2) pos.line X.env = pure false := by rfl) :
    MS X W (.Assign [.Tuple [.Name x px, .Name y py] kt pt] (.Tuple [a, b] k2 pt2) pos) (tPar' i j ta) :=
  ⟨PS.imp (ps_par hc hN hi hj hij hx hy ha.pa hw hs) fun D σ H ⟨w, δ, eH, rh, rs, h⟩ => by
    subst eH
    refine upA_go ha.mono rh rs h (ex_of rs rh (Ends'.le.refl _)) fun d v w1 l1 rh1 rs1 rv ⟨d1, d2, e, h1⟩ => ?_
    subst e
    obtain ⟨v1, r1, e, rv1, v2, r2, e2, rv2, e3⟩ := rv
    have e3 : r2 = [] := e3
    subst e e2 e3
    exact ⟨v1, v2, rfl, h1 _ w1 rfl l1 rh1 ((rs1.set i rv1).set j rv2)⟩,
   fun δ M D D' l h => ha.mono _ _ _ _ _ _ (fun ds M1 ⟨d, d', e, h1⟩ => ⟨d, d', e, l.nx _ _ h1⟩) (fun x M1 h1 => l.ex _ _ _ h1) h⟩

/-! ### while -/
def whileN (c : TT') (tb : TS') (D : Ends') : Nat → EnvD → MH → Prop
  | 0, _, _ => False
  | n + 1, δ, M => c δ M (fun b M1 => if b = true then tb { D with nx := whileN c tb D n, ct := whileN c tb D n, bk := D.nx } δ M1 else D.nx δ M1) (fun x M1 => D.ex x δ M1)
def tWhile' (c : TT') (tb : TS') : TS' := fun D δ M => ∃ n, whileN c tb D n δ M
theorem mono_whileN {c : TT'} {tb : TS'} (hc : MonoT c) (hb : MonoS tb) {D D' : Ends'} (l : D.le D') : ∀ n δ M, whileN c tb D n δ M → whileN c tb D' n δ M
  | 0, _, _, h => h
  | n + 1, δ, M, h => hc _ _ _ _ _ _ (fun b M1 h1 => by
    cases b with
    | true => exact hb _ _ { D with nx := whileN c tb D n, ct := whileN c tb D n, bk := D.nx } { D' with nx := whileN c tb D' n, ct := whileN c tb D' n, bk := D'.nx } ⟨mono_whileN hc hb l n, l.rt, l.nx, mono_whileN hc hb l n, l.ex⟩ h1
    | false => exact l.nx _ _ h1) (fun x M1 h1 => l.ex _ _ _ h1) h
theorem ms_while {body : List Stmt} {tc : TT'} {tb : TS'} (hp : PassesOwn (model X.prog X.w) X.A X.env X.xe) (hc : MT X W c tc) (hb : MSs X W body tb) : MS X W (.While c body [] pos) (tWhile' tc tb) :=
  ⟨PS.imp (ps_while hp hc.pt hb.ps) fun D σ H ⟨w, δ, eH, rh, rs, n, h⟩ => by
    subst eH
    refine ⟨fun m σ H => ∃ (w1 : Wd) (δ1 : EnvD), w1.H = H ∧ Le w w1 ∧ RH X.K w1 ∧ RepS X.K w1 δ1 σ ∧ whileN tc tb (endsD X.K w W D) m δ1 w1.M, ⟨n, w, δ, rfl, Le.refl w, rh, rs, h⟩, ?_⟩
    rintro m σ1 H1 ⟨w1, δ1, rfl, l1, rh1, rs1, h1⟩
    cases m with
    | zero => exact h1.elim
    | succ m =>
      refine upT_go hc.mono rh1 rs1 h1 (fun x M q cls dx w2 e2 l2 r2 q2 => q cls dx σ1 w2 e2 (l1.trans rh rh1 l2) r2 (rs1.le rh1 l2) q2) fun b w2 l2 rh2 rs2 h2 => ?_
      have l02 := l1.trans rh rh1 l2
      cases b with
      | false => exact h2 σ1 w2 rfl l02 rh2 rs2
      | true =>
        rw [if_pos rfl]
        refine ⟨fun σ' H' => ∃ (w3 : Wd) (δ3 : EnvD), w3.H = H' ∧ Le w w3 ∧ RH X.K w3 ∧ RepS X.K w3 δ3 σ' ∧ whileN tc tb (endsD X.K w W D) m δ3 w3.M, fun σ' H' ⟨w3, δ3, e3, l3, r3, s3, q3⟩ => ⟨m, Nat.lt_succ_self m, w3, δ3, e3, l3, r3, s3, q3⟩, ?_⟩
        refine upS_go hb.mono rh2 rs2 h2 ⟨fun δ3 M3 q3 σ3 w3 e3 l3 r3 s3 => ?_, fun _ _ h => PV.le rh rh2 l02 h, fun _ _ h => PN.le rh rh2 l02 h, fun δ3 M3 q3 σ3 w3 e3 l3 r3 s3 => ?_, fun _ _ _ h => PXS.le rh rh2 l02 h⟩
        · subst e3; exact ⟨w3, δ3, rfl, l02.trans rh rh2 l3, r3, s3, q3⟩
        · subst e3; exact ⟨w3, δ3, rfl, l02.trans rh rh2 l3, r3, s3, q3⟩,
   fun δ M D D' l ⟨n, h⟩ => ⟨n, mono_whileN hc.mono hb.mono l n _ _ h⟩⟩

/-! ### what a loop walks -/
structure ItD where
  items : List D
  src : Option Nat
def ItD.still (it : ItD) (M : MH) : Prop := match it.src with
  | none => True
  | some c => M[c]? = some (.lst it.items)
def ItOk (K : PySem.W.Frag) (it : ItD) (J : It) (w0 : Wd) : Prop := ∀ w2, Le w0 w2 → RH K w2 → it.still w2.M →
  J.stop it.items.length w2.H ∧ ∀ i d, it.items[i]? = some d → J.go i w2.H ∧ ∀ x H', J.yld i w2.H x H' → ∃ w3, w3.H = H' ∧ w3.M = w2.M ∧ Le w2 w3 ∧ RH K w3 ∧ Rep K w3 d x
abbrev TI' := EnvD → MH → (ItD → MH → Prop) → QX → Prop
def MonoI (t : TI') : Prop := ∀ δ M (Q Q' : ItD → MH → Prop) (E E' : QX), (∀ d M, Q d M → Q' d M) → (∀ x M, E x M → E' x M) → t δ M Q E → t δ M Q' E'
def upI (K : PySem.W.Frag) (W : WX) (t : TI') : TI := fun σ H R => ∃ (w : Wd) (δ : EnvD), w.H = H ∧ RH K w ∧ RepS K w δ σ ∧
  t δ w.M (fun it M1 => ∀ J w1, w1.M = M1 → Le w w1 → RH K w1 → ItOk K it J w1 → it.still w1.M → R J w1.H) (PX K w fun c d H => W c d σ H)
structure MI (X : Cx) (W : WX) (tg iter : Expr) (t : TI') : Prop where
  pi : PI X tg iter (upI X.K W t)
  mono : MonoI t
theorem PI.imp {tg iter : Expr} {t t' : TI} (h : PI X tg iter t) (i : ∀ σ H Q, t' σ H Q → t σ H Q) : PI X tg iter t' := ⟨fun pins s σ H Q I q => h.run pins s σ H Q I (i _ _ _ q)⟩

/-- a list, a tuple, a text: what walks it -/
inductive SeqJ (K : PySem.W.Frag) (H : Hp) : V → It → Prop where
  | lst {a : Addr} {xs : List V} (h : SqL K H a xs) : SeqJ K H (.ref a) (Itl K a)
  | tup {a : Addr} {xs : List V} (h : SqT K H a xs) : SeqJ K H (.ref a) (Itt K a)
  | str (x : Str) : SeqJ K H (.str x) (Its x)
def iSeq (K : PySem.W.Frag) (tl : TE) : TI := fun σ H R => tl σ H fun x H1 => ∃ J, SeqJ K H1 x J ∧ R J H1
theorem pi_seq {tg l : Expr} {tl : TE} (hl : PE X l tl) : PI X tg l (iSeq X.K tl) := by
  refine ⟨fun pins s σ H R I h => ?_⟩
  refine thn (hl.run pins s σ H _ I h) fun v s1 ⟨x, H1, I1, r1, q1⟩ => ?_
  obtain ⟨J, hj, q⟩ := q1
  have v0 : PE { X with } l (fun σ' H' Q' => σ' = σ ∧ H' = H1 ∧ Q' x H1) → True := fun _ => trivial
  cases hj with
  | @lst a xs hq =>
    cases r1
    obtain ⟨its, rv, p, hz⟩ := I1.list hq
    refine wpAny_pyIter_list p.isList ?_
    refine ⟨s1.heap.objs.size, [s1.heap.objs.size], _, _, H1, rfl, I1.kept (t' := s1.toks) fun b o e => Heap.get?_push_of_some _ e, turn_list a _, ⟨_, Heap.get?_push_size _ rfl, rfl, rfl⟩, fun b hb => ?_, q⟩
    have e : b = s1.heap.objs.size := by simpa using hb
    subst e
    exact I1.fpOk (Nat.le_refl _) (I1.hok.fresh (Nat.le_refl _))
  | @tup a xs hq =>
    cases r1
    obtain ⟨its, rv, p, hz⟩ := I1.tuple hq
    refine wpAny_pyIter_tuple (show s1.heap.IsTuple a its.toArray from p) ?_
    refine ⟨s1.heap.objs.size, [s1.heap.objs.size], _, _, H1, rfl, I1.kept (t' := s1.toks) fun b o e => Heap.get?_push_of_some _ e, turn_tuple a _, ⟨_, Heap.get?_push_size _ rfl, rfl, rfl⟩, fun b hb => ?_, q⟩
    have e : b = s1.heap.objs.size := by simpa using hb
    subst e
    exact I1.fpOk (Nat.le_refl _) (I1.hok.fresh (Nat.le_refl _))
  | str x =>
    obtain ⟨t, rfl⟩ := r1
    cases ha : x.cps.all (· < 128)
    · exact wpAny_pyIter_wide ha (pi_one (tk := s1.toks) I1 _ (turn_str _ x t "str_iterator" (.inr rfl)) ⟨_, Heap.get?_push_size _ rfl, rfl, rfl⟩ q)
    · exact wpAny_pyIter_ascii ha (pi_one (tk := s1.toks) I1 _ (turn_str _ x t "str_ascii_iterator" (.inl rfl)) ⟨_, Heap.get?_push_size _ rfl, rfl, rfl⟩ q)
/-- what a datum is walked as -/
def seqD (d : D) (M : MH) (R : ItD → MH → Prop) : Prop := match d with
  | .tup ds => R ⟨ds, none⟩ M
  | .lst ds => R ⟨ds, none⟩ M
  | .scr ns => R ⟨ns.map D.int, none⟩ M
  | .str x => R ⟨x.cps.toList.map fun c => D.str ⟨#[c]⟩, none⟩ M
  | .ref i => ∃ ds, M[i]? = some (.lst ds) ∧ R ⟨ds, some i⟩ M
  | _ => False
def tIt' (te : TE') : TI' := fun δ M R E => te δ M (fun d M1 => seqD d M1 R) E
theorem mono_seqD {d : D} {M : MH} {R R' : ItD → MH → Prop} (q : ∀ d M, R d M → R' d M) (h : seqD d M R) : seqD d M R' := by
  cases d with
  | ref i => obtain ⟨ds, e, h⟩ := h; exact ⟨ds, e, q _ _ h⟩
  | tup ds => exact q _ _ h
  | lst ds => exact q _ _ h
  | scr ds => exact q _ _ h
  | str ds => exact q _ _ h
  | _ => exact h.elim
theorem itOk_list {a : Addr} {ds : List D} {src : Option Nat} {w0 : Wd} (h : ∀ w2, Le w0 w2 → RH K w2 → (ItD.still ⟨ds, src⟩ w2.M) → ∃ xs, SqL K w2.H a xs ∧ RepL K w2 ds xs) : ItOk K ⟨ds, src⟩ (Itl K a) w0 := by
  intro w2 l r st
  obtain ⟨xs, hx, hr⟩ := h w2 l r st
  refine ⟨⟨xs, hx, by rw [hr.length]; exact Nat.le_refl _⟩, fun i d hd => ?_⟩
  obtain ⟨x, ex, rx⟩ := hr.get hd
  refine ⟨⟨xs, x, hx, ex⟩, fun y H' ⟨e, hy⟩ => ⟨w2, e.symm, rfl, Le.refl _, r, ?_⟩⟩
  rw [show y = x from Option.some.inj ((hy xs hx).symm.trans ex)]; exact rx
theorem itOk_tup {a : Addr} {ds : List D} {src : Option Nat} {w0 : Wd} (h : ∀ w2, Le w0 w2 → RH K w2 → (ItD.still ⟨ds, src⟩ w2.M) → ∃ xs, SqT K w2.H a xs ∧ RepL K w2 ds xs) : ItOk K ⟨ds, src⟩ (Itt K a) w0 := by
  intro w2 l r st
  obtain ⟨xs, hx, hr⟩ := h w2 l r st
  refine ⟨⟨xs, hx, by rw [hr.length]; exact Nat.le_refl _⟩, fun i d hd => ?_⟩
  obtain ⟨x, ex, rx⟩ := hr.get hd
  refine ⟨⟨xs, x, hx, ex⟩, fun y H' ⟨e, hy⟩ => ⟨w2, e.symm, rfl, Le.refl _, r, ?_⟩⟩
  rw [show y = x from Option.some.inj ((hy xs hx).symm.trans ex)]; exact rx
theorem itOk_str {x : Str} {src : Option Nat} {w0 : Wd} : ItOk K ⟨x.cps.toList.map fun c => D.str ⟨#[c]⟩, src⟩ (Its x) w0 := by
  intro w2 l r st
  refine ⟨by show x.cps.size ≤ _; simp, fun i d hd => ?_⟩
  rw [List.getElem?_map] at hd
  cases hc : x.cps.toList[i]? with
  | none => rw [hc] at hd; cases hd
  | some c =>
    rw [hc] at hd
    cases hd
    have hc' : x.cps[i]? = some c := by simpa using hc
    refine ⟨(Array.getElem?_eq_some_iff.mp hc').1, fun y H' ⟨e, c', ec, ey⟩ => ⟨w2, e.symm, rfl, Le.refl _, r, ?_⟩⟩
    rw [hc'] at ec; cases ec; subst ey; simp [Rep]
theorem seqD_lift {d : D} {v : V} {R : ItD → MH → Prop} (rh : RH K w) (rv : Rep K w d v) (h : seqD d w.M R) : ∃ J it, SeqJ K w.H v J ∧ ItOk K it J w ∧ it.still w.M ∧ R it w.M := by
  cases d with
  | tup ds =>
    obtain ⟨a, xs, e, hs, hr⟩ := rv
    subst e
    exact ⟨_, ⟨ds, none⟩, .tup hs, itOk_tup fun w2 l r st => ⟨xs, l.sqT rh hs, RepL.le rh l _ hr⟩, trivial, h⟩
  | lst ds =>
    obtain ⟨a, xs, e, hs, nl, nr, hr⟩ := rv
    subst e
    exact ⟨_, ⟨ds, none⟩, .lst (SqL.of hs), itOk_list fun w2 l r st => ⟨xs, SqL.of (l.keep a _ hs nl), RepL.le rh l _ hr⟩, trivial, h⟩
  | scr ns =>
    obtain ⟨a, e, hs⟩ := rv
    subst e
    rcases hs with ⟨o, hs⟩ | hs
    · exact ⟨_, ⟨ns.map D.int, none⟩, .lst (xs := ns.map V.int) (.inl (.inr ⟨o, hs⟩)), itOk_list fun w2 l r st => ⟨ns.map V.int, .inl (.inr ⟨o, l.keep a _ hs (rh.kind_dead hs rfl)⟩), RepL.ints ns⟩, trivial, h⟩
    · exact ⟨_, ⟨ns.map D.int, none⟩, .lst (hs w.H), itOk_list fun w2 l r st => ⟨ns.map V.int, hs _, RepL.ints ns⟩, trivial, h⟩
  | str x =>
    have : v = .str x := by simpa [Rep] using rv
    subst this
    exact ⟨_, ⟨x.cps.toList.map fun c => D.str ⟨#[c]⟩, none⟩, .str x, itOk_str, trivial, h⟩
  | ref i =>
    obtain ⟨a, e, em⟩ := rv
    subst e
    obtain ⟨ds, ec, h⟩ := h
    obtain ⟨xs, hx, hr⟩ := rh.ok i a _ em ec
    refine ⟨_, ⟨ds, some i⟩, .lst (SqL.of hx), itOk_list fun w2 l r st => ?_, ec, h⟩
    obtain ⟨t, et, _⟩ := l.pre
    have em2 : w2.m[i]? = some a := by rw [et, List.getElem?_append_left (List.getElem?_eq_some_iff.mp em).1]; exact em
    obtain ⟨xs2, hx2, hr2⟩ := r.ok i a _ em2 st
    exact ⟨xs2, SqL.of hx2, hr2⟩
  | _ => exact h.elim
theorem mi_seq {tg l : Expr} {te : TE'} (h : ME X W l te) : MI X W tg l (tIt' te) :=
  ⟨PI.imp (pi_seq h.pe) fun σ H R ⟨w, δ, eH, rh, rs, q⟩ => by
    subst eH
    refine up_go h.mono rh rs q (fun _ _ x => x) fun d v w1 l1 rh1 rs1 rv h1 => ?_
    obtain ⟨J, it, hj, ok, st, q2⟩ := seqD_lift rh1 rv h1
    exact ⟨J, hj, q2 J w1 rfl l1 rh1 ok st⟩, fun δ M Q Q' E E' q x hh => h.mono _ _ _ _ _ _ (fun d M1 h1 => mono_seqD q h1) x hh⟩
/-- ranges -/
def rangeD (lo : Int) (n : Nat) : List D := (List.range n).map fun (i : Nat) => D.int (lo + (i : Int))
theorem rangeD_length {lo : Int} {n : Nat} : (rangeD lo n).length = n := by simp [rangeD]
theorem itOk_range {lo : Int} {n : Nat} {w0 : Wd} : ItOk K ⟨rangeD lo n, none⟩ (Itr lo n) w0 := by
  intro w2 l r st
  refine ⟨by show n ≤ (rangeD lo n).length; rw [rangeD_length]; exact Nat.le_refl _, fun i d hd => ?_⟩
  have hd' : (rangeD lo n)[i]? = some d := hd
  unfold rangeD at hd'
  rw [List.getElem?_map] at hd'
  have hi : i < n := by
    by_cases hi : i < n
    · exact hi
    · rw [List.getElem?_eq_none (by simp; omega)] at hd'; cases hd'
  rw [List.getElem?_range hi] at hd'
  cases hd'
  refine ⟨hi, fun y H' ⟨e, ey⟩ => ⟨w2, e.symm, rfl, Le.refl _, r, ?_⟩⟩
  subst ey; simp [Rep]
def tRng1' (ta : TA') : TI' := fun δ M R E => ta δ M (fun ds M1 => ∃ j : Int, ds = [.int j] ∧ -(2 ^ 62) ≤ j ∧ j < 2 ^ 62 ∧ R ⟨rangeD 0 j.toNat, none⟩ M1) E
def tRng2' (ta : TA') : TI' := fun δ M R E => ta δ M (fun ds M1 => ∃ i j : Int, ds = [.int i, .int j] ∧ (-(2 ^ 62) ≤ i ∧ i < 2 ^ 62 ∧ -(2 ^ 62) ≤ j ∧ j < 2 ^ 62) ∧ R ⟨rangeD i (j - i).toNat, none⟩ M1) E
theorem mi_range1 {tg : Expr} {ta : TA'} {p pos : Pos} (hg : Gl X "range") (hm : X.mg "range" = none) (ha : MA X W [a] ta) (hs : starEach [a] X.env = [(false, eval a X.env)] := by rfl) : MI X W tg (.Call (.Name "range" p) [a] [] pos) (tRng1' ta) :=
  ⟨PI.imp (pi_range1 hg hm ha.pa hs) fun σ H R ⟨w, δ, eH, rh, rs, q⟩ => by
    subst eH
    refine upA_go ha.mono rh rs q (fun _ _ x => x) fun d v w1 l1 rh1 rs1 rv ⟨j, e, h1, h2, h3⟩ => ?_
    subst e
    obtain ⟨v1, r1, e, rv1, e3⟩ := rv
    have e3 : r1 = [] := e3
    subst e e3
    exact ⟨j, by rw [rep_int rv1], h1, h2, h3 _ w1 rfl l1 rh1 itOk_range trivial⟩,
   fun δ M Q Q' E E' q x hh => ha.mono _ _ _ _ _ _ (fun d M1 ⟨j, e, h1, h2, h3⟩ => ⟨j, e, h1, h2, q _ _ h3⟩) x hh⟩
theorem mi_range2 {tg : Expr} {ta : TA'} {p pos : Pos} (hg : Gl X "range") (hm : X.mg "range" = none) (ha : MA X W [a, b] ta) (hs : starEach [a, b] X.env = [(false, eval a X.env), (false, eval b X.env)] := by rfl)
    (hs2 : starEach [b] X.env = [(false, eval b X.env)] := by rfl) : MI X W tg (.Call (.Name "range" p) [a, b] [] pos) (tRng2' ta) :=
  ⟨PI.imp (pi_range2 hg hm ha.pa hs hs2) fun σ H R ⟨w, δ, eH, rh, rs, q⟩ => by
    subst eH
    refine upA_go ha.mono rh rs q (fun _ _ x => x) fun d v w1 l1 rh1 rs1 rv ⟨i, j, e, h1, h3⟩ => ?_
    subst e
    obtain ⟨v1, r1, e, rv1, v2, r2, e2, rv2, e3⟩ := rv
    have e3 : r2 = [] := e3
    subst e e2 e3
    exact ⟨i, j, by rw [rep_int rv1, rep_int rv2], h1, h3 _ w1 rfl l1 rh1 itOk_range trivial⟩,
   fun δ M Q Q' E E' q x hh => ha.mono _ _ _ _ _ _ (fun d M1 ⟨i, j, e, h1, h3⟩ => ⟨i, j, e, h1, q _ _ h3⟩) x hh⟩

/-! ### for -/
def forL (it : ItD) (g : TG') (tb : TS') (D : Ends') : List MD.D → EnvD → MH → Prop
  | [], δ, M => it.still M ∧ D.nx δ M
  | d :: r, δ, M => it.still M ∧ g d δ M fun δ1 M1 => tb { D with nx := forL it g tb D r, ct := forL it g tb D r, bk := D.nx } δ1 M1
def tFor' (ti : TI') (g : TG') (tb : TS') : TS' := fun D δ M => ti δ M (fun it M1 => forL it g tb D it.items δ M1) (fun x M1 => D.ex x δ M1)
theorem mono_forL {it : ItD} {g : TG'} {tb : TS'} (hg : MonoG g) (hb : MonoS tb) {D D' : Ends'} (l : D.le D') : ∀ ds δ M, forL it g tb D ds δ M → forL it g tb D' ds δ M
  | [], _, _, h => ⟨h.1, l.nx _ _ h.2⟩
  | d :: r, δ, M, h => ⟨h.1, hg _ _ _ _ _ (fun δ1 M1 h1 => hb _ _ { D with nx := forL it g tb D r, ct := forL it g tb D r, bk := D.nx } { D' with nx := forL it g tb D' r, ct := forL it g tb D' r, bk := D'.nx } ⟨mono_forL hg hb l r, l.rt, l.nx, mono_forL hg hb l r, l.ex⟩ h1) h.2⟩
theorem ms_for {tg iter : Expr} {body : List Stmt} {ti : TI'} {g : TG'} {tb : TS'} (hp : PassesOwn (model X.prog X.w) X.A X.env X.xe) (hc : X.calm = true) (hi : MI X W tg iter ti) (hg : MG X tg g) (hb : MSs X W body tb)
    (hs : ∀ x, foldedSetIterable iter X.env x = pure x := by intro _; rfl) : MS X W (.For tg iter body [] pos) (tFor' ti g tb) :=
  ⟨PS.imp (ps_for hp hc hi.pi hg.pg hb.ps hs) fun D σ H ⟨w, δ, eH, rh, rs, h⟩ => by
    subst eH
    refine ⟨w, δ, rfl, rh, rs, hi.mono _ _ _ _ _ _ (fun it M1 h1 J w1 e1 l1 rh1 ok st => ?_) (ex_of rs rh (Ends'.le.refl _)) h⟩
    subst e1
    refine ⟨fun i m σ H => ∃ (w2 : Wd) (δ2 : EnvD) (r : List MD.D), w2.H = H ∧ Le w w2 ∧ Le w1 w2 ∧ RH X.K w2 ∧ RepS X.K w2 δ2 σ ∧ r = it.items.drop i ∧ i ≤ it.items.length ∧ m = r.length ∧ forL it g tb (endsD X.K w W D) r δ2 w2.M,
      ⟨it.items.length, w1, δ, it.items, rfl, l1, Le.refl _, rh1, rs.le rh l1, by simp, Nat.zero_le _, rfl, h1⟩, ?_⟩
    rintro i m σ2 H2 ⟨w2, δ2, r, rfl, l2, l12, rh2, rs2, er, hi, rfl, h2⟩
    cases r with
    | nil =>
      have hl : it.items.length ≤ i := by
        have := congrArg List.length er
        simp at this; omega
      have : i = it.items.length := by omega
      subst this
      exact .inl ⟨(ok w2 l12 rh2 h2.1).1, h2.2 σ2 w2 rfl l2 rh2 rs2⟩
    | cons d r =>
      have hd : it.items[i]? = some d := by
        have : (it.items.drop i)[0]? = some d := by rw [← er]; rfl
        simpa using this
      have hr : r = it.items.drop (i + 1) := by
        have : (it.items.drop i).drop 1 = r := by rw [← er]; rfl
        rw [← this, List.drop_drop]
      have hlt : i < it.items.length := (List.getElem?_eq_some_iff.mp hd).1
      obtain ⟨go, yl⟩ := (ok w2 l12 rh2 h2.1).2 i d hd
      refine .inr ⟨go, fun σ' H' => ∃ (w3 : Wd) (δ3 : EnvD), w3.H = H' ∧ Le w w3 ∧ Le w1 w3 ∧ RH X.K w3 ∧ RepS X.K w3 δ3 σ' ∧ forL it g tb (endsD X.K w W D) r δ3 w3.M,
        fun σ' H' ⟨w3, δ3, e3, l3, l13, r3, s3, q3⟩ => ⟨r.length, Nat.lt_succ_self _, w3, δ3, r, e3, l3, l13, r3, s3, hr, hlt, rfl, q3⟩, fun x H' hy => ?_⟩
      obtain ⟨w3, e3, eM, l3, rh3, rx⟩ := yl x H' hy
      subst e3
      have l03 := l2.trans rh rh2 l3
      have l13 := l12.trans rh1 rh2 l3
      have h2' := h2.2
      rw [← eM] at h2'
      refine ⟨w3, δ2, d, rfl, rh3, rs2.le rh2 l3, rx, hg.mono _ _ _ _ _ (fun δ4 M4 h4 σ4 w4 e4 l4 rh4 rs4 => ?_) h2'⟩
      subst e4
      have l04 := l03.trans rh rh3 l4
      have l14 := l13.trans rh1 rh3 l4
      refine upS_go hb.mono rh4 rs4 h4 ⟨fun δ5 M5 q5 σ5 w5 e5 l5 r5 s5 => ?_, fun _ _ h => PV.le rh rh4 l04 h, fun _ _ h => PN.le rh rh4 l04 h, fun δ5 M5 q5 σ5 w5 e5 l5 r5 s5 => ?_, fun _ _ _ h => PXS.le rh rh4 l04 h⟩
      · subst e5; exact ⟨w5, δ5, rfl, l04.trans rh rh4 l5, l14.trans rh1 rh4 l5, r5, s5, q5⟩
      · subst e5; exact ⟨w5, δ5, rfl, l04.trans rh rh4 l5, l14.trans rh1 rh4 l5, r5, s5, q5⟩,
   fun δ M D D' l h => hi.mono _ _ _ _ _ _ (fun it M1 h1 => mono_forL hg.mono hb.mono l _ _ _ h1) (fun x M1 h1 => l.ex _ _ _ h1) h⟩
end MD
/-! MD: comprehensions, defs, methods of built-ins, fields. -/
namespace MD
open PySem PySem.Spec PyProof.Rows L2
variable {K : PySem.W.Frag} {w w1 w2 : Wd} {X : Cx} {W : WX} {e a b c : Expr} {pos : Pos}

/-! ### comprehensions -/
abbrev WF : WX := fun _ _ _ _ => False
def wipeD (δ : EnvD) : List Nat → EnvD
  | [] => δ
  | v :: vs => (wipeD δ vs).set v none
theorem RepS.wipe {δ : EnvD} {σ : L2.St} (h : RepS K w δ σ) : ∀ vs, RepS K w (wipeD δ vs) (wipe σ vs)
  | [] => h
  | v :: vs => (RepS.wipe h vs).wipe1 v none
theorem wipe_get (σ : L2.St) (j : Nat) : ∀ vs : List Nat, (wipe σ vs)[j]? = if j ∈ vs then (σ[j]?).map (fun _ => none) else σ[j]?
  | [] => by simp [wipe]
  | v :: vs => by
    unfold wipe
    by_cases hv : v = j
    · subst hv
      rw [if_pos List.mem_cons_self]
      by_cases hl : v < σ.length
      · rw [List.getElem?_set_self (by rw [wipe_length]; exact hl), List.getElem?_eq_getElem hl]; rfl
      · rw [List.getElem?_eq_none (by rw [List.length_set, wipe_length]; omega), List.getElem?_eq_none (by omega)]; rfl
    · rw [List.getElem?_set_ne hv, wipe_get σ j vs]
      have : (j ∈ v :: vs) ↔ j ∈ vs := by
        rw [List.mem_cons]
        exact ⟨fun h => h.resolve_left (fun z => hv z.symm), .inr⟩
      by_cases hm : j ∈ vs
      · rw [if_pos hm, if_pos (this.mpr hm)]
      · rw [if_neg hm, if_neg (fun z => hm (this.mp z))]
theorem wipe_set {σ : L2.St} {vs : List Nat} {i : Nat} {x : Option V} (h : i ∈ vs) : wipe (σ.set i x) vs = wipe σ vs := by
  apply List.ext_getElem?
  intro j
  rw [wipe_get, wipe_get]
  by_cases hj : j ∈ vs
  · rw [if_pos hj, if_pos hj]
    by_cases e : i = j
    · subst e
      by_cases hl : i < σ.length
      · rw [List.getElem?_set_self hl, List.getElem?_eq_getElem hl]; rfl
      · rw [List.getElem?_eq_none (by simp; omega), List.getElem?_eq_none (by omega)]
    · rw [List.getElem?_set_ne e]
  · rw [if_neg hj, if_neg hj, List.getElem?_set_ne (fun z => hj (by rw [← z]; exact h))]
theorem wipe_wipe {σ : L2.St} {vs : List Nat} : wipe (wipe σ vs) vs = wipe σ vs := by
  apply List.ext_getElem?
  intro j
  rw [wipe_get, wipe_get]
  by_cases hj : j ∈ vs
  · rw [if_pos hj, if_pos hj, Option.map_map]; rfl
  · rw [if_neg hj, if_neg hj]
structure CompG (K : PySem.W.Frag) (vs : List Nat) (gH : TG) (g' : TG') : Prop where
  run : ∀ (w : Wd) (σ : L2.St) (δ : EnvD) (d : D) (v : V) (Q' : EnvD → MH → Prop), RH K w → RepS K w δ σ → Rep K w d v → g' d δ w.M Q' →
    gH v σ w.H fun σ2 H2 => wipe σ2 vs = wipe σ vs ∧ H2 = w.H ∧ ∃ δ2, RepS K w δ2 σ2 ∧ Q' δ2 w.M
  mono : MonoG g'
  hm : ∀ v σ H (P P' : L2.St → Hp → Prop), (∀ σ2 H2, P σ2 H2 → P' σ2 H2) → gH v σ H P → gH v σ H P'
theorem cg_name {vs : List Nat} {i : Nat} (h : i ∈ vs := by simp) : CompG K vs (gName i) (gName' i) :=
  ⟨fun w σ δ d v Q' rh rs rd q => ⟨wipe_set h, rfl, _, rs.set i rd, q⟩, fun d δ M Q Q' q h => q _ _ h, fun v σ H P P' q h => q _ _ h⟩
structure CompGs (K : PySem.W.Frag) (vs : List Nat) (gH : TGs) (gs : List TG') : Prop where
  run : ∀ (w : Wd) (σ : L2.St) (δ : EnvD) (ds : List D) (us : List V) (Q' : EnvD → MH → Prop), RH K w → RepS K w δ σ → RepL K w ds us → gAll' gs ds δ w.M Q' →
    gH us σ w.H fun σ2 H2 => wipe σ2 vs = wipe σ vs ∧ H2 = w.H ∧ ∃ δ2, RepS K w δ2 σ2 ∧ Q' δ2 w.M
  mono : ∀ ds δ M (Q Q' : EnvD → MH → Prop), (∀ δ M, Q δ M → Q' δ M) → gAll' gs ds δ M Q → gAll' gs ds δ M Q'
  hm : ∀ v σ H (P P' : L2.St → Hp → Prop), (∀ σ2 H2, P σ2 H2 → P' σ2 H2) → gH v σ H P → gH v σ H P'
theorem cgs_nil {vs : List Nat} : CompGs K vs gNil [] :=
  ⟨fun w σ δ ds us Q' rh rs rd ⟨e, q⟩ => by subst e; exact ⟨rd, rfl, rfl, δ, rs, q⟩, fun ds δ M Q Q' q ⟨e, h⟩ => ⟨e, q _ _ h⟩, fun v σ H P P' q ⟨e, h⟩ => ⟨e, q _ _ h⟩⟩
theorem cgs_cons {vs : List Nat} {i : Nat} {gH : TGs} {gs : List TG'} (k : CompGs K vs gH gs) (h : i ∈ vs := by simp) : CompGs K vs (gCons (gName i) gH) (gName' i :: gs) :=
  ⟨fun w σ δ ds us Q' rh rs rd ⟨d, r, e, q⟩ => by
    subst e
    obtain ⟨x, xr, rfl, rx, rr⟩ := rd
    refine ⟨x, xr, rfl, ?_⟩
    have := k.run w (σ.set i (some x)) (δ.set i (some d)) r xr Q' rh (rs.set i rx) rr q
    rw [wipe_set h] at this
    exact this, fun ds δ M Q Q' q ⟨d, r, e, h⟩ => ⟨d, r, e, k.mono _ _ _ _ _ q h⟩, fun v σ H P P' q ⟨x, r, e, h⟩ => ⟨x, r, e, k.hm _ _ _ _ _ q h⟩⟩
/-- the tuples that a loop makes or holds -/
theorem cg_tup {vs : List Nat} {n : Nat} {gH : TGs} {gs : List TG'} (k : CompGs K vs gH gs) : CompG K vs (fun v σ H Q => gTup K n gH v σ H Q ∨ gLst K n gH v σ H Q) (gTup' n gs) :=
  ⟨fun w σ δ d v Q' rh rs rd ⟨ds, ed, hl, q⟩ => by
    rcases ed with ed | ed
    · subst ed
      obtain ⟨a, xs, e, hq, hr⟩ := rd
      exact .inl ⟨a, xs, e, hq, by rw [hr.length]; exact hl, k.run w σ δ ds xs Q' rh rs hr q⟩
    · subst ed
      obtain ⟨a, xs, e, hq, _, _, hr⟩ := rd
      exact .inr ⟨a, xs, e, SqL.of hq, by rw [hr.length]; exact hl, k.run w σ δ ds xs Q' rh rs hr q⟩,
   fun d δ M Q Q' q ⟨ds, e, hl, h1⟩ => ⟨ds, e, hl, k.mono _ _ _ _ _ q h1⟩,
   fun v σ H P P' q h => by
    rcases h with ⟨a, xs, e, hs, hl, h⟩ | ⟨a, xs, e, hs, hl, h⟩
    · exact .inl ⟨a, xs, e, hs, hl, k.hm _ _ _ _ _ q h⟩
    · exact .inr ⟨a, xs, e, hs, hl, k.hm _ _ _ _ _ q h⟩⟩
theorem RepL.le' {w w1 : Wd} {ds : List D} {xs : List V} (h : RepL K w ds xs) (r : RH K w) (l : Le w w1) : RepL K w1 ds xs := RepL.le r l _ h
theorem Rep.le' {w w1 : Wd} {ds : D} {xs : V} (h : Rep K w ds xs) (r : RH K w) (l : Le w w1) : Rep K w1 ds xs := Rep.le r l _ h
theorem PG.or {t t' : TG} (h : PG X e t) (h' : PG X e t') : PG X e (fun v σ H Q => t v σ H Q ∨ t' v σ H Q) :=
  ⟨fun pins s σ H v u Q I r q => by
    rcases q with q | q
    · exact h.run pins s σ H v u Q I r q
    · exact h'.run pins s σ H v u Q I r q⟩
structure MTs (X : Cx) (W : WX) (ifs : List Expr) (t : TT') : Prop where
  pts : PTs X ifs (upT X.K W t)
  mono : MonoT t
def tYes' : TT' := fun _ M Q _ => Q true M
theorem mts_nil : MTs X W [] tYes' :=
  ⟨⟨fun pins s σ H Q I ⟨w, δ, e, rh, rs, h⟩ => by subst e; exact pts_nil.run pins s σ w.H Q I (h w rfl (Le.refl w) rh)⟩, fun _ _ _ _ _ _ q _ h => q _ _ h⟩
theorem mts_one {t : TT'} (h : MT X W c t) : MTs X W [c] t := ⟨pts_one h.pt, h.mono⟩
def lcL (it : ItD) (g : TG') (tt : TT') (te : TE') (vs : List Nat) (δ : EnvD) (Q : List D → MH → Prop) : List MD.D → List MD.D → MH → Prop
  | [], acc, M => it.still M ∧ Q acc M
  | d :: r, acc, M => it.still M ∧ g d (wipeD δ vs) M fun δ2 M2 => tt δ2 M2 (fun b M3 =>
      if b = true then te δ2 M3 (fun y M4 => acc.length < sizeLine ∧ lcL it g tt te vs δ Q r (acc ++ [y]) M4) (fun _ _ => False) else lcL it g tt te vs δ Q r acc M3) (fun _ _ => False)
theorem mono_lcL {it : ItD} {g : TG'} {tt : TT'} {te : TE'} {vs : List Nat} {δ : EnvD} (hg : MonoG g) (ht : MonoT tt) (he : MonoE te) {Q Q' : List D → MH → Prop} (q : ∀ a M, Q a M → Q' a M) : ∀ ds acc M, lcL it g tt te vs δ Q ds acc M → lcL it g tt te vs δ Q' ds acc M
  | [], _, _, h => ⟨h.1, q _ _ h.2⟩
  | d :: r, acc, M, h => ⟨h.1, hg _ _ _ _ _ (fun δ2 M2 h2 => ht _ _ _ _ _ _ (fun b M3 h3 => by
    cases b with
    | true => exact he _ _ _ _ _ _ (fun y M4 h4 => ⟨h4.1, mono_lcL hg ht he q r _ _ h4.2⟩) (fun _ _ z => z) h3
    | false => exact mono_lcL hg ht he q r _ _ h3) (fun _ _ z => z) h2) h.2⟩
def tLc' (cell : Bool) (ti : TI') (g : TG') (tt : TT') (te : TE') (vs : List Nat) : TE' := fun δ M Q E => ti δ M (fun it M1 => lcL it g tt te vs δ (fun acc M2 => newL cell acc M2 Q) it.items [] M1) E
structure Keeps (K : PySem.W.Frag) (w w' : Wd) : Prop where
  t : ∀ a xs, SqT K w.H a xs → SqT K w'.H a xs
  l : ∀ a xs, w.H a = some (.lst xs) → ¬ Live w a → a ∉ w.r → w'.H a = some (.lst xs) ∧ ¬ Live w' a ∧ a ∉ w'.r
  f : ∀ a o u, w.H a = some (.frz o u) → w'.H a = some (.frz o u)
  m : ∀ (i : Nat) a, w.m[i]? = some a → w'.m[i]? = some a
  x : ∀ a gs, w.H a = some (.xd gs) → w'.H a = some (.xd gs)
  d : ∀ a xs, w.H a = some (.dK xs) → ¬ Live w a → a ∉ w.r → w'.H a = some (.dK xs) ∧ ¬ Live w' a ∧ a ∉ w'.r
mutual
theorem Rep.keeps {w' : Wd} (k : Keeps K w w') : ∀ (d : D) {v : V}, Rep K w d v → Rep K w' d v
  | .non, _, h => by simpa [Rep] using h
  | .bl b, _, h => by simpa [Rep] using h
  | .int i, _, h => by simpa [Rep] using h
  | .str x, _, h => by simpa [Rep] using h
  | .con u, _, h => by simpa [Rep] using h
  | .exc a cls d fs, _, h => by
    simp only [Rep] at h ⊢
    obtain ⟨e, h | ⟨dd, e1, h1⟩⟩ := h
    · exact ⟨e, .inl h⟩
    · exact ⟨e, .inr ⟨dd, e1, k.x _ _ h1⟩⟩
  | .dct, _, h => by
    simp only [Rep] at h ⊢
    obtain ⟨a, zs, e, h1, nl, nr⟩ := h
    obtain ⟨h2, h3, h4⟩ := k.d _ _ h1 nl nr
    exact ⟨a, zs, e, h2, h3, h4⟩
  | .tup ds, _, h => by
    simp only [Rep] at h ⊢
    obtain ⟨a, zs, e, h1, hr⟩ := h
    exact ⟨a, zs, e, k.t _ _ h1, RepL.keeps k ds hr⟩
  | .lst ds, _, h => by
    simp only [Rep] at h ⊢
    obtain ⟨a, zs, e, h1, nl, nr, hr⟩ := h
    obtain ⟨h2, h3, h4⟩ := k.l _ _ h1 nl nr
    exact ⟨a, zs, e, h2, h3, h4, RepL.keeps k ds hr⟩
  | .scr ns, _, h => by
    simp only [Rep] at h ⊢
    obtain ⟨a, e, h | h⟩ := h
    · obtain ⟨o, h⟩ := h
      exact ⟨a, e, .inl ⟨o, k.f _ _ _ h⟩⟩
    · exact ⟨a, e, .inr h⟩
  | .ref i, _, h => by
    simp only [Rep] at h ⊢
    obtain ⟨a, e, h⟩ := h
    exact ⟨a, e, k.m _ _ h⟩
theorem RepL.keeps {w' : Wd} (k : Keeps K w w') : ∀ (ds : List D) {vs : List V}, RepL K w ds vs → RepL K w' ds vs
  | [], _, h => by simpa [RepL] using h
  | d :: ds, _, h => by
    simp only [RepL] at h ⊢
    obtain ⟨x, r', e, h1, h2⟩ := h
    exact ⟨x, r', e, Rep.keeps k d h1, RepL.keeps k ds h2⟩
end
theorem CellOk.keeps {w' : Wd} (k : Keeps K w w') {a : Addr} {c : Cell} (e : w'.H a = w.H a) (h : CellOk K w a c) : CellOk K w' a c := by
  cases c with
  | lst ds => obtain ⟨xs, h1, h2⟩ := h; exact ⟨xs, e.trans h1, RepL.keeps k _ h2⟩
  | dic kvs => obtain ⟨xs, h1, h2⟩ := h; exact ⟨xs, e.trans h1, h2.1, RepL.keeps k _ h2.2⟩
  | dit kvs => obtain ⟨xs, h1, h2⟩ := h; exact ⟨xs, e.trans h1, h2.1, RepL.keeps k _ h2.2⟩
  | ins C fs => obtain ⟨C, dx, gs, hn, h1, h2⟩ := h; exact ⟨C, dx, gs, hn, e.trans h1, h2.1, RepL.keeps k _ h2.2⟩
  | dead => obtain ⟨u, h⟩ := h; exact ⟨u, e.trans h⟩
/-- a held list becomes a cell -/
def Wd.adopt (w : Wd) (p : Addr) (ds : List D) (s : List Addr) : Wd := ⟨w.m ++ [p], w.M ++ [.lst ds], s, w.H⟩
theorem keeps_adopt {p : Addr} {ds : List D} {s : List Addr} (hp : p ∈ w.r) (hs : ∀ a ∈ s, a ∈ w.r) (hlen : w.m.length = w.M.length) : Keeps K w (w.adopt p ds s) := by
  have lv : ∀ a, ¬ Live w a → a ∉ w.r → ¬ Live (w.adopt p ds s) a := by
    intro a nl nr
    rintro ⟨i, c, e, ec, nd⟩
    have e : (w.m ++ [p])[i]? = some a := e
    have ec : (w.M ++ [Cell.lst ds])[i]? = some c := ec
    by_cases hi : i < w.m.length
    · rw [List.getElem?_append_left hi] at e
      rw [List.getElem?_append_left (by omega)] at ec
      exact nl ⟨i, c, e, ec, nd⟩
    · rw [List.getElem?_append_right (by omega)] at e
      have := List.mem_of_getElem? e
      rw [List.mem_singleton.mp this] at nr
      exact nr hp
  refine ⟨fun _ _ h => h, fun a xs h nl nr => ⟨h, lv a nl nr, fun z => nr (hs a z)⟩, fun _ _ _ h => h, fun i a h => ?_, fun _ _ h => h, fun a xs h nl nr => ⟨h, lv a nl nr, fun z => nr (hs a z)⟩⟩
  · show (w.m ++ [p])[i]? = some a
    rw [List.getElem?_append_left (List.getElem?_eq_some_iff.mp h).1]; exact h
theorem RH.adopt {p : Addr} {xs : List V} {ds : List D} {s : List Addr} (r : RH K w) (hp : p ∈ w.r) (hl : w.H p = some (.lst xs)) (hr : RepL K w ds xs) (hs : ∀ a ∈ s, a ∈ w.r) (ps : p ∉ s) : RH K (w.adopt p ds s) := by
  have hpm : p ∉ w.m := fun z => r.dr p z hp
  have k : Keeps K w (w.adopt p ds s) := keeps_adopt hp hs r.len
  refine ⟨by simp [Wd.adopt, r.len], ?_, fun a ha z => ?_, fun i a c e ec => ?_, fun a ha => r.rk a (hs a ha)⟩
  · show (w.m ++ [p]).Nodup
    rw [List.nodup_append]
    refine ⟨r.nd, by simp, fun a ha b hb => ?_⟩
    rw [List.mem_singleton.mp hb]
    exact fun z => hpm (by rw [← z]; exact ha)
  · rcases List.mem_append.mp ha with h | h
    · exact r.dr a h (hs a z)
    · rw [List.mem_singleton.mp h] at z; exact ps z
  · have e : (w.m ++ [p])[i]? = some a := e
    have ec : (w.M ++ [Cell.lst ds])[i]? = some c := ec
    by_cases hi : i < w.m.length
    · rw [List.getElem?_append_left hi] at e
      rw [List.getElem?_append_left (by rw [← r.len]; exact hi)] at ec
      exact (r.ok i a c e ec).keeps k rfl
    · rw [List.getElem?_append_right (by omega)] at e
      rw [List.getElem?_append_right (by rw [← r.len]; omega)] at ec
      have h0 : i - w.m.length = 0 := by
        have := (List.getElem?_eq_some_iff.mp e).1
        simp at this; omega
      rw [h0] at e
      rw [← r.len, h0] at ec
      simp at e ec
      subst e ec
      exact ⟨xs, hl, RepL.keeps k _ hr⟩
/-- the end of a comprehension -/
theorem lc_end {p : Addr} {xs : List V} {ds : List D} {cell : Bool} {Q : VK} {w0 : Wd} (rh0 : RH K w0) (rh1 : RH K w1) (l1 : Le w0 w1) (hp1 : w1.H p = none) (r : RH K w) (l : Le w1 w) (hp : p ∈ w.r) (hl : w.H p = some (.lst xs)) (hr : RepL K w ds xs)
    (hs : ∀ a ∈ w1.r, a ∈ w.r) (h : newL cell ds w.M (PV K w0 Q)) : Q (.ref p) w.H := by
  have ps : p ∉ w1.r := rh1.not_r_new hp1
  have hpm : p ∉ w.m := fun z => r.dr p z hp
  cases cell with
  | false =>
    have h : PV K w0 Q (.lst ds) w.M := h
    have l2 : Le w1 { w with r := w1.r } := ⟨l.pre, l.dead, l.keep, ⟨[], rfl, by simp⟩⟩
    refine h (.ref p) { w with r := w1.r } rfl (l1.trans rh0 rh1 l2) (r.drop hs) ?_
    simp only [Rep]
    exact ⟨p, xs, rfl, hl, fun z => r.r_dead hp z, ps, RepL.dropr hs _ hr⟩
  | true =>
    have h : PV K w0 Q (.ref w.M.length) (w.M ++ [.lst ds]) := h
    have l2 : Le w1 (w.adopt p ds w1.r) := by
      obtain ⟨t, et, ft⟩ := l.pre
      refine ⟨⟨t ++ [p], ?_, fun a ha => ?_⟩, fun i e => ?_, l.keep, ⟨[], rfl, by simp⟩⟩
      · show w.m ++ [p] = w1.m ++ (t ++ [p])
        rw [et, List.append_assoc]
      · rcases List.mem_append.mp ha with z | z
        · exact ft a z
        · rw [List.mem_singleton.mp z]; exact hp1
      · have := l.dead i e
        show (w.M ++ [Cell.lst ds])[i]? = _
        rw [List.getElem?_append_left (List.getElem?_eq_some_iff.mp this).1]; exact this
    refine h (.ref p) (w.adopt p ds w1.r) rfl (l1.trans rh0 rh1 l2) (r.adopt hp hl hr hs ps) ?_
    simp only [Rep]
    refine ⟨p, rfl, ?_⟩
    show (w.m ++ [p])[w.M.length]? = some p
    rw [← r.len]; simp
theorem Le.turn {p : Addr} {ys : List V} (hp : w.H p = none) (l : Le w w1) : Le w (w1.turn p ys) :=
  ⟨l.pre, l.dead, fun a u e n => by
    show upd w1.H p _ a = some u
    rw [upd_ne (ne_of_none e hp)]; exact l.keep a u e n, l.rr⟩
theorem me_lc (cell : Bool) {elt tg iter : Expr} {ifs : List Expr} {scope : Scope} {own : List (Str × Nat)} {ti : TI'} {gH : TG} {g : TG'} {tt : TT'} {te : TE'} (hc : X.calm = true) (hN : X.N.Nodup) (hi : MI X W tg iter ti) (ok : BlkOk X.N X.env.scope scope own)
    (hg : ∀ (s : Shared) (H : Hp) (C : Addr) (cl : List (Str × Addr)) (fp : List Addr), PG (X.blk s H scope (compEnvC scope cl C X.env) fp) tg gH) (cg : CompG X.K (own.map (·.2)) gH g)
    (ht : ∀ (s : Shared) (H : Hp) (C : Addr) (cl : List (Str × Addr)) (fp : List Addr), MTs (X.blk s H scope (compEnvC scope cl C X.env) fp) WF ifs tt)
    (he : ∀ (s : Shared) (H : Hp) (C : Addr) (cl : List (Str × Addr)) (fp : List Addr), ME (X.blk s H scope (compEnvC scope cl C X.env) fp) WF elt te) (hs : ∀ x, foldedSetIterable iter X.env x = pure x := by intro _; rfl) :
    ME X W (.ListComp elt [⟨tg, iter, ifs, 0⟩] scope pos) (tLc' cell ti g tt te (own.map (·.2))) :=
  ⟨PE.imp (pe_lc (tt := upT X.K WF tt) (te := up X.K WF te) hc hN hi.pi ok hg (fun s H C cl fp => (ht s H C cl fp).pts) (fun s H C cl fp => (he s H C cl fp).pe) hs) fun σ H Q ⟨w, δ, eH, rh, rs, h⟩ => by
    subst eH
    have mt : MonoT tt := (ht X.s_0 X.H_0 0 [] []).mono
    have me : MonoE te := (he X.s_0 X.H_0 0 [] []).mono
    refine ⟨w, δ, rfl, rh, rs, hi.mono _ _ _ _ _ _ (fun it M1 h1 J w1 e1 l1 rh1 ok1 st p hp => ?_) (fun _ _ x => x) h⟩
    subst e1
    refine ⟨fun i m H => ∃ (w2 : Wd) (r acc : List MD.D) (accv : List V), w2.H = H ∧ Le w1 w2 ∧ RH X.K w2 ∧ p ∈ w2.r ∧ w2.H p = some (.lst accv) ∧ RepL X.K w2 acc accv ∧ (∀ a ∈ w1.r, a ∈ w2.r) ∧ r = it.items.drop i ∧ i ≤ it.items.length ∧ m = r.length ∧
        lcL it g tt te (own.map (·.2)) δ (fun acc M2 => newL cell acc M2 (PV X.K w Q)) r acc w2.M,
      ⟨it.items.length, w1.hold p, it.items, [], [], rfl, Le.hold hp, rh1.hold hp, List.mem_cons_self, upd_same, RepL.nil, fun a ha => List.mem_cons_of_mem _ ha, by simp, Nat.zero_le _, rfl, h1⟩, ?_⟩
    rintro i m H2 ⟨w2, r, acc, accv, rfl, l2, rh2, hp2, hl2, hr2, hs2, er, hi2, rfl, h2⟩
    cases r with
    | nil =>
      have hl : it.items.length ≤ i := by
        have := congrArg List.length er
        simp at this; omega
      have : i = it.items.length := by omega
      subst this
      exact .inl ⟨(ok1 w2 l2 rh2 h2.1).1, lc_end rh rh1 l1 hp rh2 l2 hp2 hl2 hr2 hs2 h2.2⟩
    | cons d r =>
      have hd : it.items[i]? = some d := by
        have : (it.items.drop i)[0]? = some d := by rw [← er]; rfl
        simpa using this
      have hr : r = it.items.drop (i + 1) := by
        have : (it.items.drop i).drop 1 = r := by rw [← er]; rfl
        rw [← this, List.drop_drop]
      have hlt : i < it.items.length := (List.getElem?_eq_some_iff.mp hd).1
      obtain ⟨go, yl⟩ := (ok1 w2 l2 rh2 h2.1).2 i d hd
      refine .inr ⟨go, fun H' => ∃ (w5 : Wd) (acc : List MD.D) (accv : List V), w5.H = H' ∧ Le w1 w5 ∧ RH X.K w5 ∧ p ∈ w5.r ∧ w5.H p = some (.lst accv) ∧ RepL X.K w5 acc accv ∧ (∀ a ∈ w1.r, a ∈ w5.r) ∧
          lcL it g tt te (own.map (·.2)) δ (fun acc M2 => newL cell acc M2 (PV X.K w Q)) r acc w5.M,
        fun H' ⟨w5, acc5, accv5, e5, l5, rh5, hp5, hl5, hr5, hs5, q5⟩ => ⟨r.length, Nat.lt_succ_self _, w5, r, acc5, accv5, e5, l5, rh5, hp5, hl5, hr5, hs5, hr, hlt, rfl, q5⟩, fun x H' hy => ?_⟩
      obtain ⟨w3, e3, eM, l3, rh3, rx⟩ := yl x H' hy
      subst e3
      have lr3 : ∀ a ∈ w2.r, a ∈ w3.r := fun a ha => by
        obtain ⟨s, es, _⟩ := l3.rr
        rw [es]; exact List.mem_append_right _ ha
      have hp3 := lr3 p hp2
      have hl3 : w3.H p = some (.lst accv) := l3.keep p _ hl2 (rh2.r_dead hp2)
      have l13 := l2.trans rh1 rh2 l3
      have h2' := h2.2
      rw [← eM] at h2'
      have rsw : RepS X.K w3 (wipeD δ (own.map (·.2))) (wipe σ (own.map (·.2))) := (((rs.le rh l1).le rh1 l13)).wipe _
      have q := cg.run w3 (wipe σ (own.map (·.2))) (wipeD δ (own.map (·.2))) d x _ rh3 rsw rx h2'
      have key : ∀ σ2 H2, (wipe σ2 (own.map (·.2)) = wipe (wipe σ (own.map (·.2))) (own.map (·.2)) ∧ H2 = w3.H ∧ ∃ δ2, RepS X.K w3 δ2 σ2 ∧ tt δ2 w3.M (fun b M3 =>
          if b = true then te δ2 M3 (fun y M4 => acc.length < sizeLine ∧ lcL it g tt te (own.map (·.2)) δ (fun acc M2 => newL cell acc M2 (PV X.K w Q)) r (acc ++ [y]) M4) (fun _ _ => False) else lcL it g tt te (own.map (·.2)) δ (fun acc M2 => newL cell acc M2 (PV X.K w Q)) r acc M3) (fun _ _ => False)) →
          wipe σ2 (own.map (·.2)) = wipe σ (own.map (·.2)) ∧ upT X.K WF tt σ2 H2 fun b H3 => if b = true then up X.K WF te σ2 H3 fun y H4 => ∃ acc, H4 p = some (.lst acc) ∧ acc.length < sizeLine ∧
            (fun H' => ∃ (w5 : Wd) (acc : List MD.D) (accv : List V), w5.H = H' ∧ Le w1 w5 ∧ RH X.K w5 ∧ p ∈ w5.r ∧ w5.H p = some (.lst accv) ∧ RepL X.K w5 acc accv ∧ (∀ a ∈ w1.r, a ∈ w5.r) ∧
              lcL it g tt te (own.map (·.2)) δ (fun acc M2 => newL cell acc M2 (PV X.K w Q)) r acc w5.M) (upd H4 p (.lst (acc ++ [y]))) else
            (fun H' => ∃ (w5 : Wd) (acc : List MD.D) (accv : List V), w5.H = H' ∧ Le w1 w5 ∧ RH X.K w5 ∧ p ∈ w5.r ∧ w5.H p = some (.lst accv) ∧ RepL X.K w5 acc accv ∧ (∀ a ∈ w1.r, a ∈ w5.r) ∧
              lcL it g tt te (own.map (·.2)) δ (fun acc M2 => newL cell acc M2 (PV X.K w Q)) r acc w5.M) H3 := by
        rintro σ2 _ ⟨ew, rfl, δ2, rs2, q2⟩
        refine ⟨by rw [ew, wipe_wipe], upT_go mt rh3 rs2 q2 (fun _ _ z => z.elim) fun b w4 l4 rh4 rs4 q4 => ?_⟩
        have lr4 : ∀ a ∈ w3.r, a ∈ w4.r := fun a ha => by
          obtain ⟨s, es, _⟩ := l4.rr
          rw [es]; exact List.mem_append_right _ ha
        have hp4 := lr4 p hp3
        have hl4 : w4.H p = some (.lst accv) := l4.keep p _ hl3 (rh3.r_dead hp3)
        have l14 := l13.trans rh1 rh3 l4
        cases b with
        | false =>
          exact ⟨w4, acc, accv, rfl, l14, rh4, hp4, hl4, (RepL.le rh2 l3 _ hr2).le' rh3 l4, fun a ha => lr4 a (lr3 a (hs2 a ha)), q4⟩
        | true =>
          refine up_go me rh4 rs4 q4 (fun _ _ z => z.elim) fun dy vy w6 l6 rh6 rs6 ry ⟨q6, q7⟩ => ?_
          have lr6 : ∀ a ∈ w4.r, a ∈ w6.r := fun a ha => by
            obtain ⟨s, es, _⟩ := l6.rr
            rw [es]; exact List.mem_append_right _ ha
          have hp6 := lr6 p hp4
          have hl6 : w6.H p = some (.lst accv) := l6.keep p _ hl4 (rh4.r_dead hp4)
          have l16 := l14.trans rh1 rh4 l6
          have ra : RepL X.K w6 acc accv := ((RepL.le rh2 l3 _ hr2).le' rh3 l4).le' rh4 l6
          refine ⟨accv, hl6, by rw [ra.length]; exact q6, w6.turn p (accv ++ [vy]), acc ++ [dy], accv ++ [vy], rfl, l16.turn hp, rh6.turn hp6 hl6, hp6, upd_same, RepL.turn hp6 hl6 _ (ra.append (RepL.cons ry RepL.nil)), fun a ha => lr6 a (lr4 a (lr3 a (hs2 a ha))), q7⟩
      exact cg.hm _ _ _ _ _ key q, fun δ M Q Q' E E' q x hh => hi.mono _ _ _ _ _ _ (fun it M1 h1 => mono_lcL cg.mono (ht X.s_0 X.H_0 0 [] []).mono (he X.s_0 X.H_0 0 [] []).mono (fun a M h2 => h2.mono q) _ _ _ h1) x hh⟩
end MD
/-! MD: defs' promises, methods of built-ins. -/
namespace MD
open PySem PySem.Spec PyProof.Rows L2
variable {K : PySem.W.Frag} {w w1 w2 : Wd} {X : Cx} {W : WX} {e a b c : Expr} {pos : Pos}

/-! ### what a def leaves -/
mutual
def D.bel (n : Nat) : D → Bool
  | .ref i => decide (i < n)
  | .tup ds => D.belL n ds
  | .lst ds => D.belL n ds
  | _ => true
def D.belL (n : Nat) : List D → Bool
  | [] => true
  | d :: ds => D.bel n d && D.belL n ds
end
def Cell.below (n : Nat) : Cell → Bool
  | .lst ds => D.belL n ds
  | .dic kvs => D.belL n (kvs.map (·.2))
  | .dit kvs => D.belL n (kvs.map (·.2))
  | .ins _ fs => D.belL n (fs.map (·.2))
  | .dead => true
def WFM (M : MH) : Prop := ∀ c ∈ M, Cell.below M.length c = true
open Classical in
noncomputable def popM (n : Nat) (d : D) (M : MH) : MH := if d.bel n = true ∧ ∀ c ∈ M.take n, Cell.below n c = true then M.take n else M
theorem popM_same {n : Nat} {d : D} {M : MH} (h : M.length ≤ n) : popM n d M = M := by
  unfold popM
  split
  · exact List.take_of_length_le h
  · rfl
theorem popM_pop {n : Nat} {d : D} {M M' : MH} (hd : d.bel n = true) (hM : ∀ c ∈ M.take n, Cell.below n c = true) (e : M.take n = M') : popM n d M = M' := by
  unfold popM
  rw [if_pos ⟨hd, hM⟩, e]
mutual
theorem Rep.below (rh : RH K w) : ∀ (d : D) {v : V}, Rep K w d v → d.bel w.M.length = true
  | .ref i, _, h => by
    obtain ⟨a, _, h⟩ := h
    unfold D.bel
    rw [← rh.len]
    exact decide_eq_true (List.getElem?_eq_some_iff.mp h).1
  | .tup ds, _, h => by
    obtain ⟨a, zs, e, h1, hr⟩ := h
    unfold D.bel
    exact RepL.below rh ds hr
  | .lst ds, _, h => by
    obtain ⟨a, zs, e, h1, nl, nr, hr⟩ := h
    unfold D.bel
    exact RepL.below rh ds hr
  | .non, _, _ => by unfold D.bel; rfl
  | .bl _, _, _ => by unfold D.bel; rfl
  | .int _, _, _ => by unfold D.bel; rfl
  | .str _, _, _ => by unfold D.bel; rfl
  | .scr _, _, _ => by unfold D.bel; rfl
  | .con _, _, _ => by unfold D.bel; rfl
  | .exc _ _ _ _, _, _ => by unfold D.bel; rfl
  | .dct, _, _ => by unfold D.bel; rfl
theorem RepL.below (rh : RH K w) : ∀ (ds : List D) {vs : List V}, RepL K w ds vs → D.belL w.M.length ds = true
  | [], _, _ => by unfold D.belL; rfl
  | d :: ds, _, h => by
    obtain ⟨x, r', e, h1, h2⟩ := h
    unfold D.belL
    rw [Rep.below rh d h1, RepL.below rh ds h2]; rfl
end
theorem RH.wfm (rh : RH K w) : WFM w.M := fun c hc => by
  obtain ⟨i, hi, e⟩ := List.getElem_of_mem hc
  have hm : i < w.m.length := by rw [rh.len]; exact hi
  have ok := rh.ok i w.m[i] c (List.getElem?_eq_getElem hm) (by rw [List.getElem?_eq_getElem hi, e])
  cases c with
  | lst ds => obtain ⟨_, _, h⟩ := ok; exact RepL.below rh _ h
  | dic ds => obtain ⟨_, _, h⟩ := ok; exact RepL.below rh _ h.2
  | dit ds => obtain ⟨_, _, h⟩ := ok; exact RepL.below rh _ h.2
  | ins C fs => obtain ⟨_, _, _, _, _, h⟩ := ok; exact RepL.below rh _ h.2
  | dead => rfl
def Wd.pop (w : Wd) (n : Nat) : Wd := { w with m := w.m.take n, M := w.M.take n }
theorem live_pop {n : Nat} {a : Addr} (h : Live (w.pop n) a) : Live w a := by
  obtain ⟨i, c, e, ec, nd⟩ := h
  have e : (w.m.take n)[i]? = some a := e
  have ec : (w.M.take n)[i]? = some c := ec
  have hi : i < n := by
    by_cases hi : i < n
    · exact hi
    · rw [List.getElem?_take_eq_none (by omega)] at e; cases e
  rw [List.getElem?_take_of_lt hi] at e ec
  exact ⟨i, c, e, ec, nd⟩
mutual
theorem Rep.pop {n : Nat} : ∀ (d : D) {v : V}, d.bel n = true → Rep K w d v → Rep K (w.pop n) d v
  | .ref i, _, hb, h => by
    simp only [Rep] at h ⊢
    obtain ⟨a, e, h⟩ := h
    unfold D.bel at hb
    refine ⟨a, e, ?_⟩
    show (w.m.take n)[i]? = _
    rw [List.getElem?_take_of_lt (of_decide_eq_true hb)]; exact h
  | .tup ds, _, hb, h => by
    simp only [Rep] at h ⊢
    obtain ⟨a, zs, e, h1, hr⟩ := h
    unfold D.bel at hb
    exact ⟨a, zs, e, h1, RepL.pop ds hb hr⟩
  | .lst ds, _, hb, h => by
    simp only [Rep] at h ⊢
    obtain ⟨a, zs, e, h1, nl, nr, hr⟩ := h
    unfold D.bel at hb
    exact ⟨a, zs, e, h1, fun z => nl (live_pop z), nr, RepL.pop ds hb hr⟩
  | .non, _, _, h => by simpa [Rep] using h
  | .bl b, _, _, h => by simpa [Rep] using h
  | .int i, _, _, h => by simpa [Rep] using h
  | .str x, _, _, h => by simpa [Rep] using h
  | .con u, _, _, h => by simpa [Rep] using h
  | .exc _ _ _ _, _, _, h => by simp only [Rep] at h ⊢; exact h
  | .dct, _, _, h => by
    simp only [Rep] at h ⊢
    obtain ⟨a, zs, e, h1, nl, nr⟩ := h
    exact ⟨a, zs, e, h1, fun z => nl (live_pop z), nr⟩
  | .scr ns, _, _, h => by simp only [Rep] at h ⊢; exact h
theorem RepL.pop {n : Nat} : ∀ (ds : List D) {vs : List V}, D.belL n ds = true → RepL K w ds vs → RepL K (w.pop n) ds vs
  | [], _, _, h => h
  | d :: ds, _, hb, h => by
    simp only [RepL] at h ⊢
    obtain ⟨x, r', e, h1, h2⟩ := h
    unfold D.belL at hb
    rw [Bool.and_eq_true] at hb
    exact ⟨x, r', e, Rep.pop d hb.1 h1, RepL.pop ds hb.2 h2⟩
end
theorem RH.pop {n : Nat} (r : RH K w) (hM : ∀ c ∈ w.M.take n, Cell.below n c = true) : RH K (w.pop n) := by
  refine ⟨by simp [Wd.pop, r.len], r.nd.sublist (List.take_sublist n w.m), fun a ha => r.dr a (List.mem_of_mem_take ha), fun i a c e ec => ?_, r.rk⟩
  have e : (w.m.take n)[i]? = some a := e
  have ec : (w.M.take n)[i]? = some c := ec
  have hi : i < n := by
    by_cases hi : i < n
    · exact hi
    · rw [List.getElem?_take_eq_none (by omega)] at e; cases e
  have hb := hM c (List.mem_of_getElem? ec)
  rw [List.getElem?_take_of_lt hi] at e ec
  have ok := r.ok i a c e ec
  cases c with
  | lst ds => obtain ⟨xs, h1, h2⟩ := ok; exact ⟨xs, h1, RepL.pop _ hb h2⟩
  | dic ds => obtain ⟨xs, h1, h2⟩ := ok; exact ⟨xs, h1, h2.1, RepL.pop _ hb h2.2⟩
  | dit ds => obtain ⟨xs, h1, h2⟩ := ok; exact ⟨xs, h1, h2.1, RepL.pop _ hb h2.2⟩
  | ins C fs => obtain ⟨C, dx, xs, hn, h1, h2⟩ := ok; exact ⟨C, dx, xs, hn, h1, h2.1, RepL.pop _ hb h2.2⟩
  | dead => exact ok
theorem Le.pop {w0 : Wd} (r0 : RH K w0) (l : Le w0 w) : Le w0 (w.pop w0.M.length) := by
  obtain ⟨t, et, ft⟩ := l.pre
  refine ⟨⟨[], ?_, by simp⟩, fun i h => ?_, l.keep, l.rr⟩
  · show w.m.take w0.M.length = w0.m ++ []
    rw [et, ← r0.len, List.take_left', List.append_nil]; rfl
  · have := l.dead i h
    show (w.M.take w0.M.length)[i]? = _
    rw [List.getElem?_take_of_lt (List.getElem?_eq_some_iff.mp h).1]; exact this
theorem PV.pop {w0 : Wd} (r0 : RH K w0) {Q : VK} {d : D} {M : MH} (h : PV K w0 Q d (popM w0.M.length d M)) : PV K w0 Q d M := by
  intro v w1 e l r1 rv
  subst e
  unfold popM at h
  by_cases hc : d.bel w0.M.length = true ∧ ∀ c ∈ w1.M.take w0.M.length, Cell.below w0.M.length c = true
  · rw [if_pos hc] at h
    exact h v (w1.pop w0.M.length) rfl (l.pop r0) (r1.pop hc.2) (Rep.pop d hc.1 rv)
  · rw [if_neg hc] at h
    exact h v w1 rfl l r1 rv
open Classical in
noncomputable def popX (n : Nat) (x : Xc) (M : MH) : MH := if ∀ c ∈ M.take n, Cell.below n c = true then M.take n else M
theorem popX_same {n : Nat} {x : Xc} {M : MH} (h : M.length ≤ n) : popX n x M = M := by
  unfold popX
  split
  · exact List.take_of_length_le h
  · rfl
theorem RepX.pop {n : Nat} {x : Xc} {cls : Value} {dx : Option Addr} (h : RepX K w x cls dx) : RepX K (w.pop n) x cls dx := h
theorem PX.pop {w0 : Wd} (r0 : RH K w0) {Q : Value → Option Addr → Hp → Prop} {x : Xc} {M : MH} (h : PX K w0 Q x (popX w0.M.length x M)) : PX K w0 Q x M := by
  intro c v w1 e l r1 rv
  subst e
  unfold popX at h
  by_cases hc : ∀ c ∈ w1.M.take w0.M.length, Cell.below w0.M.length c = true
  · rw [if_pos hc] at h
    exact h c v (w1.pop w0.M.length) rfl (l.pop r0) (r1.pop hc) (RepX.pop rv)
  · rw [if_neg hc] at h
    exact h c v w1 rfl l r1 rv

/-! ### a def keeps its promise -/
noncomputable def retE (n : Nat) (Q : QE) (E : QX) : Ends' := { nx := fun _ M => Q .non (popM n .non M), rt := fun d M => Q d (popM n d M), ex := fun x _ M => E x (popX n x M) }
def startD (N : List Str) (ds : List D) : EnvD := ds.map some ++ List.replicate (N.length - ds.length) none
theorem RepL.start {ds : List D} {vs : List V} (h : RepL K w ds vs) (N : List Str) : RepS K w (startD N ds) (L2.start N vs) := by
  refine ⟨by simp [startD, L2.start, h.length], fun i d e => ?_⟩
  unfold startD at e
  by_cases hi : i < ds.length
  · rw [List.getElem?_append_left (by simpa using hi), List.getElem?_map] at e
    cases hd : ds[i]? with
    | none => rw [hd] at e; cases e
    | some d' =>
      rw [hd] at e
      have : d' = d := Option.some.inj (Option.some.inj e)
      subst this
      obtain ⟨v, ev, rv⟩ := h.get hd
      refine ⟨v, ?_, rv⟩
      unfold L2.start
      rw [List.getElem?_append_left (by rw [List.length_map, h.length]; exact hi), List.getElem?_map, ev]; rfl
  · rw [List.getElem?_append_right (by simpa using hi)] at e
    have := List.mem_of_getElem? e
    rw [List.mem_replicate] at this
    cases this.2
section
variable {P : Program} {wd : World} {mg : Str → Option Value} {base : Heap}
theorem okM {x qual : Str} {st : Stmt} {f : Addr} {fd : FuncData} {N ps : List Str} {k : Nat} {sp : SpD} (F : Fun K x qual st f fd) (S : FnScope N ps (defScope st)) (len : ∀ ds M Q E, sp ds M Q E → ds.length = ps.length)
    (hbody : ∀ (cdv : Value) (A : Around) (outer : List Env) (s : Shared) (H : Hp) (E : XK), Room k (A.deeper (envOfC qual (defScope st) s.heap.objs.size f cdv)) →
      ∃ ts, MSs (cxOf (L2.CX P wd) P wd K mg base N qual (defScope st) f cdv A outer s H E) (fun c d _ H => E c d H) (defBody st) ts ∧
        ∀ ds M Q' E', WFM M → D.belL M.length ds = true → sp ds M Q' E' → ts (retE M.length Q' E') (startD N ds) M) : FnOk P wd K mg base (L2.CX P wd) (k + 1) f fd ps (upP K sp) := by
  refine F.okX S (fun vs H Q E ⟨w, ds, _, _, hr, h⟩ => by rw [hr.length]; exact len _ _ _ _ h) fun cdv A outer s H vs Q E hr h => ?_
  obtain ⟨w, ds, rfl, rh, hd, h⟩ := h
  obtain ⟨ts, hs, q⟩ := hbody cdv A outer s w.H E hr
  refine ⟨_, hs.ps, w, startD N ds, rfl, rh, hd.start N, hs.mono _ _ _ _ ?_ (q ds w.M _ _ rh.wfm (RepL.below rh ds hd) h)⟩
  exact ⟨fun δ M h1 σ w1 e l r1 s1 => PV.pop rh h1 .non w1 e l r1 (by simp [Rep]), fun d M h1 => PV.pop rh h1, fun _ _ h => h.elim, fun _ _ h => h.elim, fun x δ M h1 cls dx σ w1 e l r1 s1 rx => PX.pop rh h1 cls dx w1 e l r1 rx⟩
end

/-! ### methods of built-ins -/
def tyD (T : String) (d : D) (M : MH) : Prop := match d with
  | .str _ => T = "str"
  | .lst _ => T = "list"
  | .ref i => (T = "list" ∧ ∃ ds, M[i]? = some (.lst ds)) ∨ (T = "dict" ∧ ((∃ kvs, M[i]? = some (.dic kvs)) ∨ ∃ kvs, M[i]? = some (.dit kvs)))
  | _ => False
theorem tyD_tyV {T : String} {d : D} {v : V} (rh : RH K w) (r : Rep K w d v) (h : tyD T d w.M) : tyV K T v w.H := by
  cases d with
  | str x => rw [rep_str r]; exact h
  | lst ds =>
    obtain ⟨a, xs, e, hx, _⟩ := r
    subst e
    exact .inl ⟨h, xs, SqL.of hx⟩
  | ref i =>
    obtain ⟨a, e, em⟩ := r
    subst e
    rcases h with ⟨h, ds, ec⟩ | ⟨h, ⟨ds, ec⟩ | ⟨ds, ec⟩⟩
    · obtain ⟨xs, hx, _⟩ := rh.ok i a _ em ec
      exact .inl ⟨h, xs, SqL.of hx⟩
    · obtain ⟨xs, hx, _⟩ := rh.ok i a _ em ec
      exact .inr (.inr (.inl ⟨h, .inl ⟨xs, hx⟩⟩))
    · obtain ⟨xs, hx, _⟩ := rh.ok i a _ em ec
      exact .inr (.inr (.inl ⟨h, .inr ⟨xs, hx⟩⟩))
  | _ => exact h.elim
abbrev RM' := D → List D → MH → QE → Prop
def LiftM (K : PySem.W.Frag) (r : V → List V → Hp → VK → Prop) (r' : RM') : Prop := ∀ (w : Wd) (x : V) (xs : List V) (d : D) (ds : List D) (Q : VK), RH K w → Rep K w d x → RepL K w ds xs → r' d ds w.M (PV K w Q) → r x xs w.H Q
def MonoM (r : RM') : Prop := ∀ x ds M (Q Q' : QE), (∀ d M, Q d M → Q' d M) → r x ds M Q → r x ds M Q'
def tBM' (T : String) (r : RM') (to : TE') (t : TA') : TE' := fun δ M Q E => to δ M (fun x M1 => tyD T x M1 ∧ t δ M1 (fun ds M2 => r x ds M2 Q) E) E
theorem me_bm {T id : String} {name : Str} {apos cpos : Pos} {o e : Expr} {es : List Expr} {r : V → List V → Hp → VK → Prop} {r' : RM'} {to : TE'} {t : TA'} (pa : PlainAttrs T) (slot : Slot T name id) (hty : typeOf (.builtin id) = pure (.type "method_descriptor")) (hm : MtR X id r) (L : LiftM X.K r r') (mr : MonoM r')
    (ho : ME X W o to) (ha : MA X W (e :: es) t)
    (hbase : attributeBase o name X.env (eval o X.env) = eval o X.env := by rfl)
    (hfew : ((backTo cpos (starEach (e :: es) X.env)).all (fun x => !x.1) && (backToKw cpos (keywordEach [] X.env)).all (fun x => x.1.isSome)
      && decide ((e :: es).length + ([] : List Keyword).length + (if ([] : List Keyword).isEmpty then 0 else 1) < 30)) = true := by rfl)
    (hline : (apos.endLine == cpos.line) = true := by rfl) (hs : starEach (e :: es) X.env = (false, eval e X.env) :: starEach es X.env := by rfl) (hplain : (backTo cpos (starEach es X.env)).any (·.1) = false := by rfl) :
    ME X W (.Call (.Attribute o name apos) (e :: es) [] cpos) (tBM' T r' to t) :=
  ⟨PE.imp (pe_bm pa slot hty hm ho.pe ha.pa hbase hfew hline hs hplain) fun σ H Q ⟨w, δ, eH, rh, rs, h⟩ => by
    subst eH
    refine up_go ho.mono rh rs h (fun _ _ x => x) fun d v w1 l1 rh1 rs1 rv ⟨h1, h2⟩ => ⟨tyD_tyV rh1 rv h1, ?_⟩
    refine upA_go ha.mono rh1 rs1 h2 (fun _ _ x => x.le rh rh1 l1) fun ds vs w2 l2 rh2 rs2 rvs h3 => ?_
    exact L w2 v vs d ds Q rh2 (rv.le' rh1 l2) rvs (mr _ _ _ _ _ (fun d M q => (q.le rh rh1 l1).le rh1 rh2 l2) h3),
   fun δ M Q Q' E E' q x hh => ho.mono _ _ _ _ _ _ (fun d M1 ⟨h1, h2⟩ => ⟨h1, ha.mono _ _ _ _ _ _ (fun ds M2 h3 => mr _ _ _ _ _ q h3) x h2⟩) x hh⟩
theorem me_bm0 {T id : String} {name : Str} {apos cpos : Pos} {o : Expr} {r : V → List V → Hp → VK → Prop} {r' : RM'} {to : TE'} (pa : PlainAttrs T) (slot : Slot T name id) (hty : typeOf (.builtin id) = pure (.type "method_descriptor")) (hm : MtR X id r) (L : LiftM X.K r r') (mr : MonoM r')
    (ho : ME X W o to)
    (hbase : attributeBase o name X.env (eval o X.env) = eval o X.env := by rfl) (hline : (apos.endLine == cpos.line) = true := by rfl) :
    ME X W (.Call (.Attribute o name apos) [] [] cpos) (tBM' T r' to tNil') :=
  ⟨PE.imp (pe_bm0 pa slot hty hm ho.pe hbase hline) fun σ H Q ⟨w, δ, eH, rh, rs, h⟩ => by
    subst eH
    refine up_go ho.mono rh rs h (fun _ _ x => x) fun d v w1 l1 rh1 rs1 rv ⟨h1, h2⟩ => ⟨tyD_tyV rh1 rv h1, ?_⟩
    exact L w1 v [] d [] Q rh1 rv RepL.nil (mr _ _ _ _ _ (fun d M q => q.le rh rh1 l1) h2),
   fun δ M Q Q' E E' q x hh => ho.mono _ _ _ _ _ _ (fun d M1 ⟨h1, h2⟩ => ⟨h1, mr _ _ _ _ _ q h2⟩) x hh⟩

/-! ### slices -/
abbrev TO' := EnvD → MH → (Option Int → MH → Prop) → QX → Prop
def MonoO (t : TO') : Prop := ∀ δ M (Q Q' : Option Int → MH → Prop) (E E' : QX), (∀ d M, Q d M → Q' d M) → (∀ x M, E x M → E' x M) → t δ M Q E → t δ M Q' E'
def upO (K : PySem.W.Frag) (W : WX) (t : TO') : TO := fun σ H Q => ∃ (w : Wd) (δ : EnvD), w.H = H ∧ RH K w ∧ RepS K w δ σ ∧ t δ w.M (fun o M1 => ∀ w1, w1.M = M1 → Le w w1 → RH K w1 → Q o w1.H) (PX K w fun c d H => W c d σ H)
structure MO (X : Cx) (W : WX) (e : Option Expr) (t : TO') : Prop where
  po : PO X e (upO X.K W t)
  mono : MonoO t
theorem PO.imp {e : Option Expr} {t t' : TO} (h : PO X e t) (i : ∀ σ H Q, t' σ H Q → t σ H Q) : PO X e t' := ⟨fun pins s σ H Q I q => h.run pins s σ H Q I (i _ _ _ q)⟩
def tNoPart' : TO' := fun _ M Q _ => Q none M
def tPart' (t : TE') : TO' := fun δ M Q E => t δ M (fun d M1 => ∃ i, d = .int i ∧ Q (some i) M1) E
theorem mo_none : MO X W none tNoPart' := ⟨PO.imp po_none fun σ H Q ⟨w, δ, eH, rh, rs, h⟩ => by subst eH; exact h w rfl (Le.refl w) rh, fun _ _ _ _ _ _ q _ h => q _ _ h⟩
theorem mo_some {t : TE'} (h : ME X W e t) : MO X W (some e) (tPart' t) :=
  ⟨PO.imp (po_some h.pe) fun σ H Q ⟨w, δ, eH, rh, rs, h1⟩ => by
    subst eH
    refine up_go h.mono rh rs h1 (fun _ _ x => x) fun d v w1 l1 rh1 rs1 rv ⟨i, e, h2⟩ => ?_
    subst e
    exact ⟨i, rep_int rv, h2 w1 rfl l1 rh1⟩, fun δ M Q Q' E E' q x hh => h.mono _ _ _ _ _ _ (fun d M1 ⟨i, e, h1⟩ => ⟨i, e, q _ _ h1⟩) x hh⟩
abbrev RS' := D → Option Int → Option Int → MH → QE → Prop
def LiftSl (K : PySem.W.Frag) (r : V → Option Int → Option Int → Hp → VK → Prop) (r' : RS') : Prop := ∀ (w : Wd) (x : V) (d : D) (lo hi : Option Int) (Q : VK), RH K w → Rep K w d x → r' d lo hi w.M (PV K w Q) → r x lo hi w.H Q
def MonoSl (r : RS') : Prop := ∀ d lo hi M (Q Q' : QE), (∀ d M, Q d M → Q' d M) → r d lo hi M Q → r d lo hi M Q'
def tSl' (r : RS') (te : TE') (tl th : TO') : TE' := fun δ M Q E => te δ M (fun d M1 => tl δ M1 (fun lo M2 => th δ M2 (fun hi M3 => r d lo hi M3 Q) E) E) E
theorem upO_go {t : TO'} (ma : MonoO t) {σ : L2.St} {δ : EnvD} {G : Option Int → Hp → Prop} {Q0 : Option Int → MH → Prop} {E0 : QX} {w : Wd} (r : RH K w) (s : RepS K w δ σ) (h : t δ w.M Q0 E0)
    (hE : ∀ x M, E0 x M → PX K w (fun c d H => W c d σ H) x M)
    (hG : ∀ b w1, Le w w1 → RH K w1 → RepS K w1 δ σ → Q0 b w1.M → G b w1.H) : upO K W t σ w.H G :=
  ⟨w, δ, rfl, r, s, ma _ _ _ _ _ _ (fun d M q w1 e l r1 => by subst e; exact hG d w1 l r1 (s.le r l) q) hE h⟩
theorem me_slice {lo hi : Option Expr} {p2 : Pos} {r : V → Option Int → Option Int → Hp → VK → Prop} {r' : RS'} {te : TE'} {tl th : TO'} (hr : SlR X r) (L : LiftSl X.K r r') (mr : MonoSl r') (he : ME X W e te) (hl : MO X W lo tl) (hu : MO X W hi th) :
    ME X W (.Subscript e (.Slice lo hi none p2) pos) (tSl' r' te tl th) :=
  ⟨PE.imp (pe_slice hr he.pe hl.po hu.po) fun σ H Q ⟨w, δ, eH, rh, rs, h⟩ => by
    subst eH
    refine up_go he.mono rh rs h (fun _ _ x => x) fun d v w1 l1 rh1 rs1 rv h1 => ?_
    refine upO_go hl.mono rh1 rs1 h1 (fun _ _ x => x.le rh rh1 l1) fun lo w2 l2 rh2 rs2 h2 => ?_
    have l02 := l1.trans rh rh1 l2
    refine upO_go hu.mono rh2 rs2 h2 (fun _ _ x => x.le rh rh2 l02) fun hi w3 l3 rh3 rs3 h3 => ?_
    exact L w3 v d lo hi Q rh3 ((rv.le' rh1 l2).le' rh2 l3) (mr _ _ _ _ _ _ (fun d M q => (q.le rh rh2 l02).le rh2 rh3 l3) h3),
   fun δ M Q Q' E E' q x hh => he.mono _ _ _ _ _ _ (fun d M1 h1 => hl.mono _ _ _ _ _ _ (fun o M2 h2 => hu.mono _ _ _ _ _ _ (fun o M3 h3 => mr _ _ _ _ _ _ q h3) x h2) x h1) x hh⟩
/-- a comparison of three -/
def tChain' (r r' : R2') (ta tb tc : TE') : TE' := fun δ M Q E => ta δ M (fun x M1 => tb δ M1 (fun y M2 => r x y M2 fun z M3 => ∃ k, z = .bl k ∧ if k = true then tc δ M3 (fun u M4 => r' y u M4 Q) E else Q (.bl false) M3) E) E
theorem mono_chain {r r' : R2'} {ta tb tc : TE'} (hr : Mono2 r) (hr' : Mono2 r') (ha : MonoE ta) (hb : MonoE tb) (hc : MonoE tc) : MonoE (tChain' r r' ta tb tc) := fun δ M Q Q' E E' q x h =>
  ha _ _ _ _ _ _ (fun d M1 h1 => hb _ _ _ _ _ _ (fun d2 M2 h2 => hr _ _ _ _ _ (fun z M3 ⟨k, e, h3⟩ => ⟨k, e, by
    cases k with
    | true => exact hc _ _ _ _ _ _ (fun u M4 h4 => hr' _ _ _ _ _ q h4) x h3
    | false => exact q _ _ h3⟩) h2) x h1) x h
theorem chain_lift {r1 r2 : R2} {r1' r2' : R2'} {ta tb tc : TE'} (L1 : Lift2 K r1 r1') (L2' : Lift2 K r2 r2') (m1 : Mono2 r1') (m2 : Mono2 r2') (ma : MonoE ta) (mb : MonoE tb) (mc : MonoE tc) (σ : L2.St) (H : Hp) (Q : VK)
    (h : up K W (tChain' r1' r2' ta tb tc) σ H Q) : tChain r1 r2 (up K W ta) (up K W tb) (up K W tc) σ H Q := by
  obtain ⟨w, δ, rfl, rh, rs, h⟩ := h
  refine up_go ma rh rs h (fun _ _ x => x) fun dx vx w1 l1 rh1 rs1 rx h1 => ?_
  refine up_go mb rh1 rs1 h1 (fun _ _ x => x.le rh rh1 l1) fun dy vy w2 l2 rh2 rs2 ry h2 => ?_
  have l02 := l1.trans rh rh1 l2
  refine L1 w2 vx vy dx dy _ rh2 (rx.le' rh1 l2) ry (m1 _ _ _ _ _ (fun z M3 ⟨k, e, h3⟩ v3 w3 e3 l3 rh3 rv3 => ?_) h2)
  subst e e3
  refine ⟨k, rep_bl rv3, ?_⟩
  have l03 := l02.trans rh rh2 l3
  cases k with
  | false => exact h3 _ w3 rfl l03 rh3 (by simp [Rep])
  | true =>
    refine up_go mc rh3 (rs2.le rh2 l3) h3 (fun _ _ x => x.le rh rh3 l03) fun dz vz w4 l4 rh4 rs4 rz h4 => ?_
    exact L2' w4 vy vz dy dz Q rh4 ((ry.le' rh2 l3).le' rh3 l4) rz (m2 _ _ _ _ _ (fun d M q => (q.le rh rh3 l03).le rh3 rh4 l4) h4)
theorem me_chain {op op' : CmpOp} {r1 r2 : R2} {r1' r2' : R2'} {ta tb tc : TE'} (ho : OpR X (compareOp op) r1) (ho' : OpR X (compareOp op') r2) (L1 : Lift2 X.K r1 r1') (L2' : Lift2 X.K r2 r2') (m1 : Mono2 r1') (m2 : Mono2 r2') (ha : ME X W a ta) (hb : ME X W b tb) (hc : ME X W c tc)
    (hm : lastMarks [op, op'] [b, c] = false := by with_unfolding_all rfl) : ME X W (.Compare a [op, op'] [b, c] pos) (tChain' r1' r2' ta tb tc) :=
  ⟨PE.imp (pe_chain ho ho' ha.pe hb.pe hc.pe hm) (chain_lift L1 L2' m1 m2 ha.mono hb.mono hc.mono), mono_chain m1 m2 ha.mono hb.mono hc.mono⟩
theorem mt_chain {op op' : CmpOp} {r1 r2 : R2} {r1' r2' : R2'} {ta tb tc : TE'} (ho : OpR X (compareOp op) r1) (ho' : OpR X (compareOp op') r2) (L1 : Lift2 X.K r1 r1') (L2' : Lift2 X.K r2 r2') (m1 : Mono2 r1') (m2 : Mono2 r2') (ha : ME X W a ta) (hb : ME X W b tb) (hc : ME X W c tc)
    (hm : lastMarks [op, op'] [b, c] = false := by with_unfolding_all rfl) : MT X W (.Compare a [op, op'] [b, c] pos) (tB' (tChain' r1' r2' ta tb tc)) :=
  ⟨PT.imp (pt_chain ho ho' ha.pe hb.pe hc.pe hm) fun σ H Q ⟨w, δ, e, rh, rs, h⟩ => by
    refine chain_lift L1 L2' m1 m2 ha.mono hb.mono hc.mono σ H (fun x H' => ∃ k, x = .bl k ∧ Q k H') ⟨w, δ, e, rh, rs, ?_⟩
    refine mono_chain m1 m2 ha.mono hb.mono hc.mono _ _ _ _ _ _ (fun d M ⟨c, e, h1⟩ v w1 e1 l r1 rv => ?_) (fun _ _ x => x) h
    subst e
    exact ⟨c, rep_bl rv, h1 w1 e1 l r1⟩, mono_B (mono_chain m1 m2 ha.mono hb.mono hc.mono)⟩
end MD
/-! MD: operators and built-ins over data. -/
namespace MD
open PySem PySem.Spec PyProof.Rows L2
variable {K : PySem.W.Frag} {w w1 w2 : Wd} {X : Cx} {W : WX} {e a b c : Expr} {pos : Pos}

/-! ### what is a list, a tuple -/
def lstOf (d : D) (M : MH) : Option (List D) := match d with
  | .lst ds => some ds
  | .ref i => match M[i]? with
    | some (.lst ds) => some ds
    | _ => none
  | _ => none
theorem lstOf_rep {d : D} {v : V} {ds : List D} (rh : RH K w) (r : Rep K w d v) (h : lstOf d w.M = some ds) : ∃ a xs, v = .ref a ∧ w.H a = some (.lst xs) ∧ RepL K w ds xs := by
  cases d with
  | lst es =>
    obtain ⟨a, xs, e, hx, _, _, hr⟩ := r
    cases h
    exact ⟨a, xs, e, hx, hr⟩
  | ref i =>
    obtain ⟨a, e, em⟩ := r
    unfold lstOf at h
    simp only at h
    split at h
    · rename_i es ec
      cases h
      obtain ⟨xs, hx, hr⟩ := rh.ok i a _ em ec
      exact ⟨a, xs, e, hx, hr⟩
    · cases h
  | _ => cases h
/-- a list, a tuple or the script, to be read -/
def seqOf (d : D) (M : MH) : Option (List D) := match d with
  | .tup ds => some ds
  | .scr ns => some (ns.map D.int)
  | d => lstOf d M
theorem seqOf_rep {d : D} {v : V} {ds : List D} (rh : RH K w) (r : Rep K w d v) (h : seqOf d w.M = some ds) : ∃ a xs, v = .ref a ∧ (SqL K w.H a xs ∨ SqT K w.H a xs) ∧ RepL K w ds xs := by
  cases d with
  | tup es =>
    obtain ⟨a, xs, e, hx, hr⟩ := r
    cases h
    exact ⟨a, xs, e, .inr hx, hr⟩
  | scr ns =>
    obtain ⟨a, e, hx⟩ := r
    cases h
    rcases hx with ⟨o, hx⟩ | hx
    · exact ⟨a, _, e, .inl (.inl (.inr ⟨o, hx⟩)), RepL.ints ns⟩
    · exact ⟨a, _, e, .inl (hx w.H), RepL.ints ns⟩
  | lst es => obtain ⟨a, xs, e, hx, hr⟩ := lstOf_rep rh r h; exact ⟨a, xs, e, .inl (SqL.of hx), hr⟩
  | ref i => obtain ⟨a, xs, e, hx, hr⟩ := lstOf_rep rh r h; exact ⟨a, xs, e, .inl (SqL.of hx), hr⟩
  | _ => cases h

/-! ### arithmetic -/
def MulOk (i j : Int) : Prop := CMul i j ∨ CMulX i j
theorem op_mulA {X : Cx} : OpR X (binaryOp .Mult) (rI MulOk fun i j => .int (i * j)) := opI fun _ _ _ _ _ _ _ hc q => mul_int q (hc.elim CMul.ok CMulX.ok)
def DivOk (j : Int) : Prop := j ≠ 0 ∧ j.natAbs < 2 ^ 9000
theorem op_fdivA {X : Cx} : OpR X (binaryOp .FloorDiv) (rI (fun _ j => DivOk j) fun i j => .int (i.fdiv j)) := opI fun i j _ _ _ _ _ hc q =>
  floordiv_int hc.1 q (.inl (PyProof.noPylong_of_log2 (PySem.Flt.log2_lt_of (by decide) hc.2)))
theorem rep_mk_int {i : Int} : Rep K w (.int i) (.int i) := by simp [Rep]
theorem rep_mk_bl {i : Bool} : Rep K w (.bl i) (.bl i) := by simp [Rep]
theorem rep_mk_str {i : Str} : Rep K w (.str i) (.str i) := by simp [Rep]
theorem rep_mk_non : Rep K w .non .non := by simp [Rep]
theorem PV.here {Q : VK} {d : D} {v : V} (rh : RH K w) (h : PV K w Q d w.M) (r : Rep K w d v) : Q v w.H := h v w rfl (Le.refl w) rh r

def oAdd (cell : Bool) : R2'
  | .int i, .int j, M, Q => Q (.int (i + j)) M
  | .str a, .str b, M, Q => a.length + b.length ≤ sizeLine ∧ Q (.str (a ++ b)) M
  | .tup a, .tup b, M, Q => a.length + b.length ≤ sizeLine ∧ Q (.tup (a ++ b)) M
  | .lst a, y, M, Q => ∃ b, lstOf y M = some b ∧ a.length + b.length ≤ sizeLine ∧ newL cell (a ++ b) M Q
  | .ref i, y, M, Q => ∃ a b, lstOf (.ref i) M = some a ∧ lstOf y M = some b ∧ a.length + b.length ≤ sizeLine ∧ newL cell (a ++ b) M Q
  | _, _, _, _ => False
abbrev rAddAll (K : PySem.W.Frag) : R2 := fun x y H Q => (rI0 fun i j => .int (i + j)) x y H Q ∨ (∃ i j, x = .str i ∧ y = .str j ∧ i.length + j.length ≤ sizeLine ∧ Q (.str (i ++ j)) H) ∨ rCatA K x y H Q ∨ rCat x y H Q
theorem op_addAll {X : Cx} : OpR X (binaryOp .Add) (rAddAll X.K) := OpR.or op_add (OpR.or op_add_str (OpR.or op_catA op_cat))
theorem lf_add {cell : Bool} : Lift2 K (rAddAll K) (oAdd cell) := by
  intro w x y dx dy Q rh rx ry h
  have cat : ∀ {a b : List D}, lstOf dx w.M = some a → lstOf dy w.M = some b → a.length + b.length ≤ sizeLine → newL cell (a ++ b) w.M (PV K w Q) → rAddAll K x y w.H Q := by
    intro a b ea eb hl h
    obtain ⟨p, xs, rfl, hx, hr⟩ := lstOf_rep rh rx ea
    obtain ⟨q, ys, rfl, hy, hs⟩ := lstOf_rep rh ry eb
    exact .inr (.inr (.inr ⟨p, q, xs, ys, rfl, rfl, hx, hy, by rw [hr.length, hs.length]; exact hl, newL.lift rh (hr.append hs) h⟩))
  cases dx with
  | int i =>
    cases dy with
    | int j => exact .inl ⟨i, j, rep_int rx, rep_int ry, PV.here rh h rep_mk_int⟩
    | _ => exact h.elim
  | str i =>
    cases dy with
    | str j => exact .inr (.inl ⟨i, j, rep_str rx, rep_str ry, h.1, PV.here rh h.2 rep_mk_str⟩)
    | _ => exact h.elim
  | tup ds =>
    cases dy with
    | tup es =>
      obtain ⟨a, xs, e, hx, hr⟩ := rx
      obtain ⟨b, ys, e2, hy, hs⟩ := ry
      subst e e2
      refine .inr (.inr (.inl ⟨a, b, xs, ys, rfl, rfl, hx, hy, by rw [hr.length, hs.length]; exact h.1, fun z => ?_, fun z z2 => ?_, fun _ _ => newT.lift rh (hr.append hs) h.2⟩))
      · subst z
        refine PV.here rh h.2 ⟨b, ys, rfl, hy, ?_⟩
        have : ds = [] := by
          have := hr.length
          exact List.length_eq_zero_iff.mp this.symm
        subst this
        exact hs
      · subst z2
        have : es = [] := by
          have := hs.length
          exact List.length_eq_zero_iff.mp this.symm
        subst this
        refine PV.here rh h.2 ⟨a, xs, rfl, hx, ?_⟩
        rw [List.append_nil]; exact hr
    | _ => exact h.elim
  | lst ds => obtain ⟨b, eb, hl, h⟩ := h; exact cat rfl eb hl h
  | ref i => obtain ⟨a, b, ea, eb, hl, h⟩ := h; exact cat ea eb hl h
  | _ => exact h.elim
theorem mn_add {cell : Bool} : Mono2 (oAdd cell) := by
  intro x y M Q Q' q h
  cases x with
  | int i => cases y with
    | int j => exact q _ _ h
    | _ => exact h.elim
  | str i => cases y with
    | str j => exact ⟨h.1, q _ _ h.2⟩
    | _ => exact h.elim
  | tup i => cases y with
    | tup j => exact ⟨h.1, q _ _ h.2⟩
    | _ => exact h.elim
  | lst ds => obtain ⟨b, eb, hl, h⟩ := h; exact ⟨b, eb, hl, h.mono q⟩
  | ref i => obtain ⟨a, b, ea, eb, hl, h⟩ := h; exact ⟨a, b, ea, eb, hl, h.mono q⟩
  | _ => exact h.elim
/-- operators on ints -/
def oI (C : Int → Int → Prop) (g : Int → Int → D) : R2'
  | .int i, .int j, M, Q => C i j ∧ Q (g i j) M
  | _, _, _, _ => False
def oI0 (g : Int → Int → D) : R2'
  | .int i, .int j, M, Q => Q (g i j) M
  | _, _, _, _ => False
theorem mn_I {C : Int → Int → Prop} {g : Int → Int → D} : Mono2 (oI C g) := by
  intro x y M Q Q' q h
  cases x with
  | int i => cases y with
    | int j => exact ⟨h.1, q _ _ h.2⟩
    | _ => exact h.elim
  | _ => exact h.elim
theorem mn_I0 {g : Int → Int → D} : Mono2 (oI0 g) := by
  intro x y M Q Q' q h
  cases x with
  | int i => cases y with
    | int j => exact q _ _ h
    | _ => exact h.elim
  | _ => exact h.elim
theorem lf_I {C : Int → Int → Prop} {g : Int → Int → Int} : Lift2 K (rI C fun i j => .int (g i j)) (oI C fun i j => .int (g i j)) := by
  intro w x y dx dy Q rh rx ry h
  cases dx with
  | int i => cases dy with
    | int j => exact ⟨i, j, rep_int rx, rep_int ry, h.1, PV.here rh h.2 rep_mk_int⟩
    | _ => exact h.elim
  | _ => exact h.elim
theorem lf_I0 {g : Int → Int → Int} : Lift2 K (rI0 fun i j => .int (g i j)) (oI0 fun i j => .int (g i j)) := by
  intro w x y dx dy Q rh rx ry h
  cases dx with
  | int i => cases dy with
    | int j => exact ⟨i, j, rep_int rx, rep_int ry, PV.here rh h rep_mk_int⟩
    | _ => exact h.elim
  | _ => exact h.elim
theorem lf_B0 {g : Int → Int → Bool} : Lift2 K (rI0 fun i j => .bl (g i j)) (oI0 fun i j => .bl (g i j)) := by
  intro w x y dx dy Q rh rx ry h
  cases dx with
  | int i => cases dy with
    | int j => exact ⟨i, j, rep_int rx, rep_int ry, PV.here rh h rep_mk_bl⟩
    | _ => exact h.elim
  | _ => exact h.elim
abbrev oSub := oI0 fun i j => .int (i - j)
abbrev oFdiv := oI (fun _ j => DivOk j) fun i j => .int (i.fdiv j)
abbrev oMod := oI (fun _ j => j ≠ 0) fun i j => .int (i.fmod j)
abbrev oPow := oI CPow fun i j => .int (i ^ j.toNat)
/-- text times int -/
def strRep (x : Str) (n : Int) : Str := ⟨(List.replicate n.toNat x.cps.toList).flatten.toArray⟩
theorem foldl_cps (x : Array Nat) : ∀ (n : Nat) (acc : Array Nat), (List.replicate n x).foldl (· ++ ·) acc = ⟨acc.toList ++ (List.replicate n x.toList).flatten⟩
  | 0, acc => by simp
  | n + 1, acc => by
    rw [List.replicate_succ, List.foldl_cons, foldl_cps x n, List.replicate_succ, List.flatten_cons]
    simp
def rStrRep : R2 := fun x y H Q => ∃ a n, x = .str a ∧ y = .int n ∧ -(2 ^ 62) < n ∧ n < 2 ^ 62 ∧ a.length * n.toNat ≤ sizeLine ∧ Q (.str (strRep a n)) H
theorem op_strRep {X : Cx} : OpR X (binaryOp .Mult) rStrRep := by
  intro pins s σ H x y v u Q I rx ry h
  obtain ⟨a, n, rfl, rfl, h1, h2, h3, q⟩ := h
  obtain ⟨t, rfl⟩ := rx
  obtain ⟨t', rfl⟩ := ry
  have hz : (sizeLine : Nat) = 16777216 := by decide
  refine PySem.P.mul_str ?_ (fun hn hc => ?_) (fun hn hc => ?_) ?_
  · rw [decide_eq_false (by omega), decide_eq_false (by omega)]; rfl
  · intro hgt
    have hn1 : 1 ≤ n := by omega
    have hk : ((2 : Int) ^ 63 - 1) / n * n > 2 ^ 63 - 1 - n := by
      have := Int.emod_add_mul_ediv ((2 : Int) ^ 63 - 1) n
      have hlt := Int.emod_lt_of_pos ((2 : Int) ^ 63 - 1) (show (0 : Int) < n by omega)
      rw [Int.mul_comm n] at this
      omega
    have hm : (a.length : Int) * n ≥ (((2 : Int) ^ 63 - 1) / n + 1) * n := Int.mul_le_mul_of_nonneg_right (by omega) (by omega)
    rw [Int.add_mul, Int.one_mul] at hm
    have hmul : ((a.length * n.toNat : Nat) : Int) = (a.length : Int) * n := by
      rw [Int.natCast_mul, Int.toNat_of_nonneg (by omega)]
    omega
  · unfold Builtin.Str.tooLong
    exact decide_eq_false (by omega)
  · by_cases hn : n < 1
    · rw [if_pos hn]
      have e : strRep a n = Str.empty := by
        unfold strRep
        rw [show n.toNat = 0 by omega]; rfl
      rw [e] at q
      exact ⟨by decide, .str Str.empty, H, I.tok _, ⟨_, rfl⟩, q⟩
    · rw [if_neg hn]
      by_cases hc : (n == 1 || a.length == 0) = true
      · rw [if_pos hc]
        refine ⟨.str a, H, I, ⟨t, rfl⟩, ?_⟩
        have e : strRep a n = a := by
          unfold strRep
          rcases Bool.or_eq_true .. |>.mp hc with h | h
          · rw [eq_of_beq h]; simp
          · have : a.cps = #[] := Array.size_eq_zero_iff.mp (eq_of_beq h)
            obtain ⟨cps⟩ := a
            simp only at this
            subst this
            simp
        rw [← e]; exact q
      · rw [if_neg hc]
        have e : (⟨(List.replicate n.toNat a.cps).foldl (· ++ ·) #[]⟩ : Str) = strRep a n := by
          rw [foldl_cps]; unfold strRep; simp
        rw [e]
        refine ⟨?_, .str (strRep a n), H, I.tok _, ⟨_, rfl⟩, q⟩
        show (strRep a n).cps.size ≤ _
        unfold strRep
        simp
        rw [Nat.mul_comm]; exact h3
def oMul (cell : Bool) : R2'
  | .int i, .int j, M, Q => MulOk i j ∧ Q (.int (i * j)) M
  | .str a, .int n, M, Q => (-(2 ^ 62) < n ∧ n < 2 ^ 62 ∧ a.length * n.toNat ≤ sizeLine) ∧ Q (.str (strRep a n)) M
  | .lst ds, .int k, M, Q => (-(2 ^ 63) ≤ k ∧ k < 2 ^ 63 ∧ ds.length * k.toNat ≤ sizeLine) ∧ newL cell (List.replicate k.toNat ds).flatten M Q
  | _, _, _, _ => False
abbrev rMulAll : R2 := fun x y H Q => rI MulOk (fun i j => .int (i * j)) x y H Q ∨ rStrRep x y H Q ∨ rRep x y H Q
theorem op_mulAll {X : Cx} : OpR X (binaryOp .Mult) rMulAll := OpR.or op_mulA (OpR.or op_strRep op_rep)
theorem RepL.replicate {ds : List D} {xs : List V} (h : RepL K w ds xs) : ∀ n, RepL K w (List.replicate n ds).flatten (List.replicate n xs).flatten
  | 0 => RepL.nil
  | n + 1 => by rw [List.replicate_succ, List.replicate_succ, List.flatten_cons, List.flatten_cons]; exact h.append (RepL.replicate h n)
theorem lf_mul {cell : Bool} : Lift2 K rMulAll (oMul cell) := by
  intro w x y dx dy Q rh rx ry h
  cases dx with
  | int i => cases dy with
    | int j => exact .inl ⟨i, j, rep_int rx, rep_int ry, h.1, PV.here rh h.2 rep_mk_int⟩
    | _ => exact h.elim
  | str i => cases dy with
    | int j => exact .inr (.inl ⟨i, j, rep_str rx, rep_int ry, h.1.1, h.1.2.1, h.1.2.2, PV.here rh h.2 rep_mk_str⟩)
    | _ => exact h.elim
  | lst ds => cases dy with
    | int j =>
      obtain ⟨a, xs, e, hx, _, _, hr⟩ := rx
      exact .inr (.inr ⟨a, j, xs, e, rep_int ry, hx, h.1.1, h.1.2.1, by rw [hr.length]; exact h.1.2.2, newL.lift rh (hr.replicate _) h.2⟩)
    | _ => exact h.elim
  | _ => exact h.elim
theorem mn_mul {cell : Bool} : Mono2 (oMul cell) := by
  intro x y M Q Q' q h
  cases x with
  | int i => cases y with
    | int j => exact ⟨h.1, q _ _ h.2⟩
    | _ => exact h.elim
  | str i => cases y with
    | int j => exact ⟨h.1, q _ _ h.2⟩
    | _ => exact h.elim
  | lst ds => cases y with
    | int j => exact ⟨h.1, h.2.mono q⟩
    | _ => exact h.elim
  | _ => exact h.elim
/-- minus -/
def oNeg : R1'
  | .int i, M, Q => Q (.int (-i)) M
  | _, _, _ => False
theorem lf_neg : Lift1 K (rU fun i => .int (-i)) oNeg := by
  intro w x dx Q rh rx h
  cases dx with
  | int i => exact ⟨i, rep_int rx, PV.here rh h rep_mk_int⟩
  | _ => exact h.elim
theorem mn_neg : Mono1 oNeg := by
  intro x M Q Q' q h
  cases x with
  | int i => exact q _ _ h
  | _ => exact h.elim

/-! ### comparisons -/
mutual
def D.py : D → PyData
  | .non => .none
  | .bl b => .bool b
  | .int i => .int i
  | .str x => .str x
  | .tup ds => .tuple (D.pyL ds)
  | .lst ds => .list (D.pyL ds)
  | .scr ns => .list (ns.map PyData.int)
  | .ref _ => .none
  | .con _ => .none
  | .exc _ _ _ _ => .none
  | .dct => .none
def D.pyL : List D → List PyData
  | [] => []
  | d :: ds => D.py d :: D.pyL ds
end
mutual
/-- no cell in it -/
def D.flat : D → Bool
  | .ref _ => false
  | .con _ => false
  | .exc _ _ _ _ => false
  | .dct => false
  | .scr _ => false
  | .tup ds => D.flatL ds
  | .lst ds => D.flatL ds
  | _ => true
def D.flatL : List D → Bool
  | [] => true
  | d :: ds => D.flat d && D.flatL ds
end
mutual
theorem Rep.dp : ∀ (d : D) {v : V}, d.flat = true → Rep K w d v → Dp K w.H v d.py
  | .non, _, _, h => by rw [rep_non h]; unfold D.py; exact .non
  | .bl b, _, _, h => by rw [rep_bl h]; unfold D.py; exact .bl b
  | .int i, _, _, h => by rw [rep_int h]; unfold D.py; exact .int i
  | .str i, _, _, h => by rw [rep_str h]; unfold D.py; exact .str i
  | .tup ds, _, hf, h => by
    obtain ⟨a, xs, e, hx, hr⟩ := h
    subst e
    unfold D.flat at hf
    unfold D.py
    exact .tup hx (RepL.dp ds hf hr)
  | .lst ds, _, hf, h => by
    obtain ⟨a, xs, e, hx, _, _, hr⟩ := h
    subst e
    unfold D.flat at hf
    unfold D.py
    exact .lst (SqL.of hx) (RepL.dp ds hf hr)
  | .ref _, _, hf, _ => by unfold D.flat at hf; cases hf
  | .con _, _, hf, _ => by unfold D.flat at hf; cases hf
  | .exc _ _ _ _, _, hf, _ => by unfold D.flat at hf; cases hf
  | .dct, _, hf, _ => by unfold D.flat at hf; cases hf
  | .scr _, _, hf, _ => by unfold D.flat at hf; cases hf
theorem RepL.dp : ∀ (ds : List D) {vs : List V}, D.flatL ds = true → RepL K w ds vs → DpAll K w.H vs (D.pyL ds)
  | [], _, _, h => by
    have h : _ = [] := h
    subst h
    unfold D.pyL
    exact .nil
  | d :: ds, _, hf, h => by
    obtain ⟨x, r', rfl, h1, h2⟩ := h
    unfold D.flatL at hf
    rw [Bool.and_eq_true] at hf
    unfold D.pyL
    exact .cons (Rep.dp d hf.1 h1) (RepL.dp ds hf.2 h2)
end
/-- == of data -/
def deq (x y : D) : Bool := PyData.eqv x.py y.py
def eqOk (x : D) : Prop := x.flat = true ∧ SeqAt.shaped x.py = true
def oEq (neg : Bool) : R2'
  | .int i, .int j, M, Q => Q (.bl (if neg then !decide (i = j) else decide (i = j))) M
  | .str i, .str j, M, Q => Q (.bl (if neg then !decide (i = j) else decide (i = j))) M
  | .bl i, .bl j, M, Q => Q (.bl (if neg then !decide (i = j) else decide (i = j))) M
  | .non, .non, M, Q => Q (.bl (!neg)) M
  | .non, .int _, M, Q => Q (.bl neg) M
  | .int _, .non, M, Q => Q (.bl neg) M
  | .non, .str _, M, Q => Q (.bl neg) M
  | .str _, .non, M, Q => Q (.bl neg) M
  | x, y, M, Q => eqOk x ∧ eqOk y ∧ Q (.bl (if neg then !deq x y else deq x y)) M
abbrev rEqAll (K : PySem.W.Frag) : R2 := fun x y H Q => rEq x y H Q ∨ rEqD K x y H Q
abbrev rNeAll (K : PySem.W.Frag) : R2 := fun x y H Q => rNe x y H Q ∨ rNeD K x y H Q
theorem op_eqAll {X : Cx} (hu : X.A.units + 64 < cLine) : OpR X (compareOp .Eq) (rEqAll X.K) := OpR.or op_eq (op_eqD hu)
theorem op_neAll {X : Cx} (hu : X.A.units + 64 < cLine) : OpR X (compareOp .NotEq) (rNeAll X.K) := OpR.or op_ne (op_neD hu)
theorem oEq_cases {neg : Bool} {x y : D} {M : MH} {Q : QE} (h : oEq neg x y M Q) :
    (∃ i j, x = .int i ∧ y = .int j ∧ Q (.bl (if neg then !decide (i = j) else decide (i = j))) M) ∨ (∃ i j, x = .str i ∧ y = .str j ∧ Q (.bl (if neg then !decide (i = j) else decide (i = j))) M) ∨
    (∃ i j, x = .bl i ∧ y = .bl j ∧ Q (.bl (if neg then !decide (i = j) else decide (i = j))) M) ∨ (x = .non ∧ y = .non ∧ Q (.bl (!neg)) M) ∨ (x = .non ∧ (∃ i, y = .int i) ∧ Q (.bl neg) M) ∨ ((∃ i, x = .int i) ∧ y = .non ∧ Q (.bl neg) M) ∨
    (x = .non ∧ (∃ i, y = .str i) ∧ Q (.bl neg) M) ∨ ((∃ i, x = .str i) ∧ y = .non ∧ Q (.bl neg) M) ∨ (eqOk x ∧ eqOk y ∧ Q (.bl (if neg then !deq x y else deq x y)) M) := by
  unfold oEq at h
  split at h <;> simp_all
theorem lf_eq : Lift2 K (rEqAll K) (oEq false) := by
  intro w x y dx dy Q rh rx ry h
  have sc : ∀ {b : Bool}, scal x y = true → decide (x = y) = b → Q (.bl b) w.H → rEqAll K x y w.H Q := fun hs hd q => .inl ⟨hs, by rw [hd]; exact q⟩
  rcases oEq_cases h with ⟨i, j, rfl, rfl, q⟩ | ⟨i, j, rfl, rfl, q⟩ | ⟨i, j, rfl, rfl, q⟩ | ⟨rfl, rfl, q⟩ | ⟨rfl, ⟨i, rfl⟩, q⟩ | ⟨⟨i, rfl⟩, rfl, q⟩ | ⟨rfl, ⟨i, rfl⟩, q⟩ | ⟨⟨i, rfl⟩, rfl, q⟩ | ⟨ox, oy, q⟩
  · have e1 := rep_int rx; have e2 := rep_int ry; subst e1 e2; exact sc rfl (by by_cases e : i = j <;> simp [e]) (PV.here rh q rep_mk_bl)
  · have e1 := rep_str rx; have e2 := rep_str ry; subst e1 e2; exact sc rfl (by by_cases e : i = j <;> simp [e]) (PV.here rh q rep_mk_bl)
  · have e1 := rep_bl rx; have e2 := rep_bl ry; subst e1 e2; exact sc rfl (by by_cases e : i = j <;> simp [e]) (PV.here rh q rep_mk_bl)
  · have e1 := rep_non rx; have e2 := rep_non ry; subst e1 e2; exact sc rfl (by simp) (PV.here rh q rep_mk_bl)
  · have e1 := rep_non rx; have e2 := rep_int ry; subst e1 e2; exact sc rfl (by simp) (PV.here rh q rep_mk_bl)
  · have e1 := rep_int rx; have e2 := rep_non ry; subst e1 e2; exact sc rfl (by simp) (PV.here rh q rep_mk_bl)
  · have e1 := rep_non rx; have e2 := rep_str ry; subst e1 e2; exact sc rfl (by simp) (PV.here rh q rep_mk_bl)
  · have e1 := rep_str rx; have e2 := rep_non ry; subst e1 e2; exact sc rfl (by simp) (PV.here rh q rep_mk_bl)
  · exact .inr ⟨_, _, Rep.dp dx ox.1 rx, Rep.dp dy oy.1 ry, ox.2, oy.2, PV.here rh q rep_mk_bl⟩
theorem lf_ne : Lift2 K (rNeAll K) (oEq true) := by
  intro w x y dx dy Q rh rx ry h
  have sc : ∀ {b : Bool}, scal x y = true → (!decide (x = y)) = b → Q (.bl b) w.H → rNeAll K x y w.H Q := fun hs hd q => .inl ⟨hs, by rw [hd]; exact q⟩
  rcases oEq_cases h with ⟨i, j, rfl, rfl, q⟩ | ⟨i, j, rfl, rfl, q⟩ | ⟨i, j, rfl, rfl, q⟩ | ⟨rfl, rfl, q⟩ | ⟨rfl, ⟨i, rfl⟩, q⟩ | ⟨⟨i, rfl⟩, rfl, q⟩ | ⟨rfl, ⟨i, rfl⟩, q⟩ | ⟨⟨i, rfl⟩, rfl, q⟩ | ⟨ox, oy, q⟩
  · have e1 := rep_int rx; have e2 := rep_int ry; subst e1 e2; exact sc rfl (by by_cases e : i = j <;> simp [e]) (PV.here rh q rep_mk_bl)
  · have e1 := rep_str rx; have e2 := rep_str ry; subst e1 e2; exact sc rfl (by by_cases e : i = j <;> simp [e]) (PV.here rh q rep_mk_bl)
  · have e1 := rep_bl rx; have e2 := rep_bl ry; subst e1 e2; exact sc rfl (by by_cases e : i = j <;> simp [e]) (PV.here rh q rep_mk_bl)
  · have e1 := rep_non rx; have e2 := rep_non ry; subst e1 e2; exact sc rfl (by simp) (PV.here rh q rep_mk_bl)
  · have e1 := rep_non rx; have e2 := rep_int ry; subst e1 e2; exact sc rfl (by simp) (PV.here rh q rep_mk_bl)
  · have e1 := rep_int rx; have e2 := rep_non ry; subst e1 e2; exact sc rfl (by simp) (PV.here rh q rep_mk_bl)
  · have e1 := rep_non rx; have e2 := rep_str ry; subst e1 e2; exact sc rfl (by simp) (PV.here rh q rep_mk_bl)
  · have e1 := rep_str rx; have e2 := rep_non ry; subst e1 e2; exact sc rfl (by simp) (PV.here rh q rep_mk_bl)
  · exact .inr ⟨_, _, Rep.dp dx ox.1 rx, Rep.dp dy oy.1 ry, ox.2, oy.2, PV.here rh q rep_mk_bl⟩
theorem mn_eq {neg : Bool} : Mono2 (oEq neg) := by
  intro x y M Q Q' q h
  unfold oEq at h ⊢
  split at h <;> first | exact q _ _ h | exact ⟨h.1, h.2.1, q _ _ h.2.2⟩
/-- is None -/
def nonD : D → Bool
  | .non => true
  | _ => false
def oIsN (neg : Bool) : R2'
  | x, .non, M, Q => Q (.bl (if neg then !nonD x else nonD x)) M
  | _, _, _, _ => False
theorem rep_non_iff {d : D} {v : V} (h : Rep K w d v) (hc : ∀ u, d ≠ .con u) : decide (v = .non) = nonD d := by
  cases d with
  | non => have e := rep_non h; subst e; rfl
  | int i => have e := rep_int h; subst e; rfl
  | bl i => have e := rep_bl h; subst e; rfl
  | str i => have e := rep_str h; subst e; rfl
  | tup ds => obtain ⟨a, xs, e, _⟩ := h; subst e; rfl
  | lst ds => obtain ⟨a, xs, e, _⟩ := h; subst e; rfl
  | scr ds => obtain ⟨a, e, _⟩ := h; subst e; rfl
  | ref ds => obtain ⟨a, e, _⟩ := h; subst e; rfl
  | con u => exact absurd rfl (hc u)
  | exc a cls d fs => obtain ⟨e, _⟩ := h; subst e; rfl
  | dct => obtain ⟨a, es, e, _⟩ := h; subst e; rfl
def oIsN' (neg : Bool) : R2' := fun x y M Q => (∀ u, x ≠ .con u) ∧ oIsN neg x y M Q
theorem lf_isN : Lift2 K rIsN (oIsN' false) := by
  intro w x y dx dy Q rh rx ry ⟨hc, h⟩
  cases dy with
  | non =>
    refine ⟨rep_non ry, ?_⟩
    rw [rep_non_iff rx hc]
    have h : PV K w Q (.bl (nonD dx)) w.M := h
    exact PV.here rh h rep_mk_bl
  | _ => exact h.elim
theorem lf_notN : Lift2 K rNotN (oIsN' true) := by
  intro w x y dx dy Q rh rx ry ⟨hc, h⟩
  cases dy with
  | non =>
    refine ⟨rep_non ry, ?_⟩
    rw [rep_non_iff rx hc]
    have h : PV K w Q (.bl (!nonD dx)) w.M := h
    exact PV.here rh h rep_mk_bl
  | _ => exact h.elim
theorem mn_isN {neg : Bool} : Mono2 (oIsN' neg) := by
  intro x y M Q Q' q ⟨hc, h⟩
  refine ⟨hc, ?_⟩
  cases y with
  | non => exact q _ _ h
  | _ => exact h.elim
/-- a sign in a text -/
def oInS (neg : Bool) : R2' := fun x y M Q => ∃ (c : Nat) (z : Str), x = .str ⟨#[c]⟩ ∧ y = .str z ∧ Q (.bl (if neg then !decide (c ∈ z.cps.toList) else decide (c ∈ z.cps.toList))) M
theorem lf_inS : Lift2 K rInS (oInS false) := by
  intro w x y dx dy Q rh rx ry ⟨c, z, e1, e2, h⟩
  subst e1 e2
  exact ⟨c, z, rep_str rx, rep_str ry, PV.here rh h rep_mk_bl⟩
theorem lf_notInS : Lift2 K rNotInS (oInS true) := by
  intro w x y dx dy Q rh rx ry ⟨c, z, e1, e2, h⟩
  subst e1 e2
  exact ⟨c, z, rep_str rx, rep_str ry, PV.here rh h rep_mk_bl⟩
theorem mn_inS {neg : Bool} : Mono2 (oInS neg) := fun x y M Q Q' q ⟨c, z, e1, e2, h⟩ => ⟨c, z, e1, e2, q _ _ h⟩

/-! ### subscripts -/
def oIx : R2' := fun x y M Q => ∃ i, y = .int i ∧ ((∃ ds d, seqOf x M = some ds ∧ atI ds i = some d ∧ Q d M) ∨ (∃ (z : Str) (c : Nat), x = .str z ∧ z.length ≤ sizeLine ∧ atI z.cps.toList i = some c ∧ Q (.str ⟨#[c]⟩) M))
theorem atI_rep {ds : List D} {xs : List V} {i : Int} {d : D} (h : RepL K w ds xs) (e : atI ds i = some d) : ∃ x, atI xs i = some x ∧ Rep K w d x := by
  unfold atI at e ⊢
  rw [h.length]
  cases hj : ixN ds.length i with
  | none => rw [hj] at e; cases e
  | some j =>
    rw [hj] at e
    exact h.get e
theorem lf_ix : Lift2 K (rIx K) oIx := by
  intro w x y dx dy Q rh rx ry ⟨i, ey, h⟩
  subst ey
  have ry := rep_int ry
  subst ry
  rcases h with ⟨ds, d, e1, e2, q⟩ | ⟨z, c, e1, hz, e2, q⟩
  · obtain ⟨a, xs, rfl, hx, hr⟩ := seqOf_rep rh rx e1
    obtain ⟨v, ev, rv⟩ := atI_rep hr e2
    rcases hx with hx | hx
    · exact .inl ⟨a, xs, i, v, rfl, rfl, hx, ev, PV.here rh q rv⟩
    · exact .inr (.inl ⟨a, xs, i, v, rfl, rfl, hx, ev, PV.here rh q rv⟩)
  · subst e1
    exact .inr (.inr ⟨z, i, c, rep_str rx, rfl, hz, e2, PV.here rh q rep_mk_str⟩)
theorem mn_ix : Mono2 oIx := fun x y M Q Q' q ⟨i, e, h⟩ => ⟨i, e, by
  rcases h with ⟨ds, d, e1, e2, h⟩ | ⟨z, c, e1, hz, e2, h⟩
  · exact .inl ⟨ds, d, e1, e2, q _ _ h⟩
  · exact .inr ⟨z, c, e1, hz, e2, q _ _ h⟩⟩
def oSetL : TSet' := fun o i v M Q => ∃ c ds k j, o = .ref c ∧ i = .int k ∧ M[c]? = some (.lst ds) ∧ ixN ds.length k = some j ∧ Q (M.set c (.lst (ds.set j v)))
theorem ls_list : LiftS K rSetL oSetL := by
  intro w o i v do_ di dv Q rh ro ri rv ⟨c, ds, k, j, e1, e2, ec, hj, q⟩
  subst e1 e2
  obtain ⟨a, e, em⟩ := ro
  subst e
  obtain ⟨xs, hx, hr⟩ := rh.ok c a _ em ec
  refine ⟨a, xs, k, j, rfl, rep_int ri, hx, by rw [hr.length]; exact hj, ?_⟩
  have nd : (Cell.lst ds) ≠ Cell.dead := fun z => by cases z
  have l : Le w (w.put c a (.lst (xs.set j v)) (.lst (ds.set j dv))) := Le.put rh em ec nd
  exact q (w.put c a (.lst (xs.set j v)) (.lst (ds.set j dv))) rfl l (rh.put em ec nd ⟨_, upd_same, RepL.le rh l _ (hr.set rv j)⟩)
theorem ms_list : ∀ o i v M (Q Q' : MH → Prop), (∀ M, Q M → Q' M) → oSetL o i v M Q → oSetL o i v M Q' := fun o i v M Q Q' q ⟨c, ds, k, j, e1, e2, ec, hj, h⟩ => ⟨c, ds, k, j, e1, e2, ec, hj, q _ h⟩
/-- text[lo:hi] -/
def oSlS : RS' := fun d lo hi M Q => ∃ z, d = .str z ∧ z.length ≤ sizeLine ∧ Q (.str (cutS z lo hi)) M
theorem lsl_str : LiftSl K rSlS oSlS := by
  intro w x d lo hi Q rh rx ⟨z, e, hz, q⟩
  subst e
  exact ⟨z, rep_str rx, hz, PV.here rh q rep_mk_str⟩
theorem msl_str : MonoSl oSlS := fun d lo hi M Q Q' q ⟨z, e, hz, h⟩ => ⟨z, e, hz, q _ _ h⟩

/-! ### truth -/
def truD (d : D) (M : MH) : Option Bool := match d with
  | .non => some false
  | .bl b => some b
  | .int i => some (i != 0)
  | .str y => some ((y.length : Int) != 0)
  | d => (seqOf d M).map fun ds => !ds.isEmpty
def tTru' (t : TE') : TT' := fun δ M Q E => t δ M (fun d M1 => (∀ y, d = .str y → y.length ≤ sizeLine) ∧ ∃ b, truD d M1 = some b ∧ Q b M1) E
theorem isEmpty_rep {ds : List D} {xs : List V} (h : RepL K w ds xs) : xs.isEmpty = ds.isEmpty := by
  have := h.length
  cases xs <;> cases ds <;> simp_all
theorem truD_rep {d : D} {v : V} {b : Bool} (rh : RH K w) (r : Rep K w d v) (hl : ∀ y, d = .str y → y.length ≤ sizeLine) (h : truD d w.M = some b) : TruV K v w.H b := by
  have sq : ∀ ds, seqOf d w.M = some ds → b = (!ds.isEmpty) → TruV K v w.H b := fun ds e eb => by
    obtain ⟨a, xs, rfl, hx, hr⟩ := seqOf_rep rh r e
    rcases hx with hx | hx
    · exact .inl ⟨xs, hx, by rw [isEmpty_rep hr]; exact eb⟩
    · exact .inr (.inl ⟨xs, hx, by rw [isEmpty_rep hr]; exact eb⟩)
  cases d with
  | non => rw [rep_non r]; exact (Option.some.inj h).symm
  | bl b => rw [rep_bl r]; exact (Option.some.inj h).symm
  | int b => rw [rep_int r]; exact (Option.some.inj h).symm
  | str y => rw [rep_str r]; exact ⟨hl y rfl, (Option.some.inj h).symm⟩
  | tup ds => exact sq ds rfl (Option.some.inj h).symm
  | lst ds => exact sq ds rfl (Option.some.inj h).symm
  | scr ds => exact sq _ rfl (Option.some.inj h).symm
  | ref i =>
    unfold truD at h
    simp only at h
    cases hs : seqOf (.ref i) w.M with
    | none => rw [hs] at h; cases h
    | some ds => rw [hs] at h; exact sq ds hs (Option.some.inj h).symm
  | con u => cases h
  | exc a c d fs => cases h
  | dct => cases h
theorem mt_tru {t : TE'} (h : ME X W e t) (he : ∀ whole, isTrue e X.env whole = (do let v ← whole; standAt e.pos; holding [v] (truthy v)) := by intro _; rfl) : MT X W e (tTru' t) :=
  ⟨PT.imp (pt_truth h.pe he) fun σ H Q ⟨w, δ, eH, rh, rs, h1⟩ => by
    subst eH
    refine up_go h.mono rh rs h1 (fun _ _ x => x) fun d v w1 l1 rh1 rs1 rv ⟨hl, b, eb, q⟩ => ?_
    exact ⟨b, truD_rep rh1 rv hl eb, q w1 rfl l1 rh1⟩, fun δ M Q Q' E E' q x hh => h.mono _ _ _ _ _ _ (fun d M1 ⟨hl, b, eb, h1⟩ => ⟨hl, b, eb, q _ _ h1⟩) x hh⟩

/-! ### built-ins -/
theorem rep1 {d : D} {xs : List V} (h : RepL K w [d] xs) : ∃ v, xs = [v] ∧ Rep K w d v := by
  obtain ⟨v, r, e, rv, er⟩ := h
  have er : r = [] := er
  subst er
  exact ⟨v, e, rv⟩
theorem rep2 {d d' : D} {xs : List V} (h : RepL K w [d, d'] xs) : ∃ v v', xs = [v, v'] ∧ Rep K w d v ∧ Rep K w d' v' := by
  obtain ⟨v, r, e, rv, h⟩ := h
  obtain ⟨v', e2, rv'⟩ := rep1 h
  subst e2
  exact ⟨v, v', e, rv, rv'⟩
def lenD (d : D) (M : MH) : Option Nat := match d with
  | .str y => some y.length
  | d => (seqOf d M).map List.length
def cLen : RA' := fun ds M Q => ∃ d n, ds = [d] ∧ lenD d M = some n ∧ (∀ y, d = .str y → y.length ≤ sizeLine) ∧ Q (.int (n : Int)) M
theorem la_len : LiftA K (fun xs H Q => ∃ x n, xs = [x] ∧ LenV K x H n ∧ Q (.int (n : Nat)) H) cLen := by
  intro w xs ds Q rh r ⟨d, n, e, en, hl, q⟩
  subst e
  obtain ⟨v, rfl, rv⟩ := rep1 r
  refine ⟨v, n, rfl, ?_, PV.here rh q rep_mk_int⟩
  have sq : ∀ es, seqOf d w.M = some es → n = es.length → LenV K v w.H n := fun es e eb => by
    obtain ⟨a, xs, rfl, hx, hr⟩ := seqOf_rep rh rv e
    rcases hx with hx | hx
    · exact .inl ⟨xs, hx, by rw [hr.length]; exact eb⟩
    · exact .inr ⟨xs, hx, by rw [hr.length]; exact eb⟩
  cases d with
  | str y => rw [rep_str rv]; exact ⟨hl y rfl, (Option.some.inj en).symm⟩
  | tup ds => exact sq ds rfl (Option.some.inj en).symm
  | lst ds => exact sq ds rfl (Option.some.inj en).symm
  | scr ds => exact sq _ rfl (Option.some.inj en).symm
  | ref i =>
    unfold lenD at en
    simp only at en
    cases hs : seqOf (.ref i) w.M with
    | none => rw [hs] at en; cases en
    | some ds => rw [hs] at en; exact sq ds hs (Option.some.inj en).symm
  | _ => cases en
theorem mr_len : MonoR cLen := fun ds M Q Q' q ⟨d, n, e, en, hl, h⟩ => ⟨d, n, e, en, hl, q _ _ h⟩
/-- a function of one int -/
def cI1 (g : Int → D) : RA' := fun ds M Q => ∃ i, ds = [.int i] ∧ Q (g i) M
theorem mr_I1 {g : Int → D} : MonoR (cI1 g) := fun ds M Q Q' q ⟨i, e, h⟩ => ⟨i, e, q _ _ h⟩
theorem la_abs : LiftA K (fun xs H Q => ∃ i, xs = [.int i] ∧ Q (.int (if i < 0 then -i else i)) H) (cI1 fun i => .int (if i < 0 then -i else i)) := by
  intro w xs ds Q rh r ⟨i, e, q⟩
  subst e
  obtain ⟨v, rfl, rv⟩ := rep1 r
  exact ⟨i, by rw [rep_int rv], PV.here rh q rep_mk_int⟩
def cInt : RA' := fun ds M Q => (∃ i, ds = [.int i] ∧ Q (.int i) M) ∨ (∃ k, ds = [.bl k] ∧ Q (.int (if k then 1 else 0)) M) ∨ (∃ a n, ds = [.str a] ∧ PySem.intText? a = some n ∧ a.length ≤ 640 ∧ Q (.int n) M)
theorem call_intAll {X : Cx} : CallR X (.type "int") (fun xs H Q => ((∃ i, xs = [.int i] ∧ Q (.int i) H) ∨ ∃ k, xs = [.bl k] ∧ Q (.int (if k then 1 else 0)) H) ∨ ∃ a n, xs = [.str a] ∧ PySem.intText? a = some n ∧ a.length ≤ 640 ∧ Q (.int n) H) := CallR.or call_int1 call_int_str
theorem la_int : LiftA K (fun xs H Q => ((∃ i, xs = [.int i] ∧ Q (.int i) H) ∨ ∃ k, xs = [.bl k] ∧ Q (.int (if k then 1 else 0)) H) ∨ ∃ a n, xs = [.str a] ∧ PySem.intText? a = some n ∧ a.length ≤ 640 ∧ Q (.int n) H) cInt := by
  intro w xs ds Q rh r h
  rcases h with ⟨i, e, q⟩ | ⟨i, e, q⟩ | ⟨a, n, e, h1, h2, q⟩ <;> subst e <;> obtain ⟨v, rfl, rv⟩ := rep1 r
  · exact .inl (.inl ⟨i, by rw [rep_int rv], PV.here rh q rep_mk_int⟩)
  · exact .inl (.inr ⟨i, by rw [rep_bl rv], PV.here rh q rep_mk_int⟩)
  · exact .inr ⟨a, n, by rw [rep_str rv], h1, h2, PV.here rh q rep_mk_int⟩
theorem mr_int : MonoR cInt := fun ds M Q Q' q h => by
  rcases h with ⟨i, e, h⟩ | ⟨i, e, h⟩ | ⟨a, n, e, h1, h2, h⟩
  · exact .inl ⟨i, e, q _ _ h⟩
  · exact .inr (.inl ⟨i, e, q _ _ h⟩)
  · exact .inr (.inr ⟨a, n, e, h1, h2, q _ _ h⟩)
def cStr : RA' := fun ds M Q => ∃ i, ds = [.int i] ∧ i.natAbs < 2 ^ 1920 ∧ Q (.str (toString i)) M
theorem la_str : LiftA K (fun xs H Q => ∃ i, xs = [.int i] ∧ i.natAbs.log2 < 1920 ∧ Q (.str (toString i)) H) cStr := by
  intro w xs ds Q rh r ⟨i, e, h1, q⟩
  subst e
  obtain ⟨v, rfl, rv⟩ := rep1 r
  exact ⟨i, by rw [rep_int rv], PySem.Flt.log2_lt_of (by decide) h1, PV.here rh q rep_mk_str⟩
theorem mr_str : MonoR cStr := fun ds M Q Q' q ⟨i, e, h1, h⟩ => ⟨i, e, h1, q _ _ h⟩
def cI2 (g : Int → Int → D) : RA' := fun ds M Q => ∃ i j, ds = [.int i, .int j] ∧ Q (g i j) M
theorem mr_I2 {g : Int → Int → D} : MonoR (cI2 g) := fun ds M Q Q' q ⟨i, j, e, h⟩ => ⟨i, j, e, q _ _ h⟩
theorem la_max2 : LiftA K (fun xs H Q => ∃ i j, xs = [.int i, .int j] ∧ Q (.int (if j > i then j else i)) H) (cI2 fun i j => .int (if j > i then j else i)) := by
  intro w xs ds Q rh r ⟨i, j, e, q⟩
  subst e
  obtain ⟨v, v', rfl, rv, rv'⟩ := rep2 r
  exact ⟨i, j, by rw [rep_int rv, rep_int rv'], PV.here rh q rep_mk_int⟩
theorem la_min2 : LiftA K (fun xs H Q => ∃ i j, xs = [.int i, .int j] ∧ Q (.int (if j < i then j else i)) H) (cI2 fun i j => .int (if j < i then j else i)) := by
  intro w xs ds Q rh r ⟨i, j, e, q⟩
  subst e
  obtain ⟨v, v', rfl, rv, rv'⟩ := rep2 r
  exact ⟨i, j, by rw [rep_int rv, rep_int rv'], PV.here rh q rep_mk_int⟩
/-- all, any of truth values -/
def blsD : List D → Option (List Bool)
  | [] => some []
  | .bl b :: r => (blsD r).map (b :: ·)
  | _ :: _ => none
theorem blsD_rep : ∀ {ds : List D} {xs : List V} {bs : List Bool}, RepL K w ds xs → blsD ds = some bs → xs = bs.map V.bl
  | [], xs, bs, h, e => by cases e; exact h
  | d :: r, xs, bs, h, e => by
    obtain ⟨x, xr, rfl, rx, h⟩ := h
    cases d with
    | bl b =>
      unfold blsD at e
      cases hr : blsD r with
      | none => rw [hr] at e; cases e
      | some bs' =>
        rw [hr] at e
        cases e
        rw [rep_bl rx, blsD_rep h hr]; rfl
    | _ => unfold blsD at e; cases e
def cBls (f : List Bool → Bool) : RA' := fun ds M Q => ∃ d es bs, ds = [d] ∧ lstOf d M = some es ∧ blsD es = some bs ∧ Q (.bl (f bs)) M
theorem mr_bls {f : List Bool → Bool} : MonoR (cBls f) := fun ds M Q Q' q ⟨d, es, bs, e, e1, e2, h⟩ => ⟨d, es, bs, e, e1, e2, q _ _ h⟩
theorem la_all : LiftA K (rAll K) (cBls fun bs => bs.all id) := by
  intro w xs ds Q rh r ⟨d, es, bs, e, e1, e2, q⟩
  subst e
  obtain ⟨v, rfl, rv⟩ := rep1 r
  obtain ⟨a, ys, rfl, hy, hr⟩ := lstOf_rep rh rv e1
  exact ⟨a, bs, rfl, by rw [← blsD_rep hr e2]; exact SqL.of hy, PV.here rh q rep_mk_bl⟩
theorem la_any : LiftA K (rAny K) (cBls fun bs => bs.any id) := by
  intro w xs ds Q rh r ⟨d, es, bs, e, e1, e2, q⟩
  subst e
  obtain ⟨v, rfl, rv⟩ := rep1 r
  obtain ⟨a, ys, rfl, hy, hr⟩ := lstOf_rep rh rv e1
  exact ⟨a, bs, rfl, by rw [← blsD_rep hr e2]; exact SqL.of hy, PV.here rh q rep_mk_bl⟩
/-- list(x), tuple(x) -/
def cList (cell : Bool) : RA' := fun ds M Q => ∃ d es, ds = [d] ∧ seqOf d M = some es ∧ newL cell es M Q
theorem mr_list {cell : Bool} : MonoR (cList cell) := fun ds M Q Q' q ⟨d, es, e, e1, h⟩ => ⟨d, es, e, e1, h.mono q⟩
theorem la_list {cell : Bool} : LiftA K (fun xs H Q => ∃ p ys, xs = [.ref p] ∧ (SqL K H p ys ∨ SqT K H p ys) ∧ ∀ l, H l = none → Q (.ref l) (upd H l (.lst ys))) (cList cell) := by
  intro w xs ds Q rh r ⟨d, es, e, e1, q⟩
  subst e
  obtain ⟨v, rfl, rv⟩ := rep1 r
  obtain ⟨a, ys, rfl, hy, hr⟩ := seqOf_rep rh rv e1
  exact ⟨a, ys, rfl, hy, newL.lift rh hr q⟩
def cTuple : RA' := fun ds M Q => ∃ d es, ds = [d] ∧ seqOf d M = some es ∧ Q (.tup es) M
theorem mr_tuple : MonoR cTuple := fun ds M Q Q' q ⟨d, es, e, e1, h⟩ => ⟨d, es, e, e1, q _ _ h⟩
theorem la_tuple : LiftA K (fun xs H Q => ∃ p ys, xs = [.ref p] ∧ ((SqL K H p ys ∧ ∀ l, H l = none → Q (.ref l) (upd H l (.tup ys))) ∨ (SqT K H p ys ∧ Q (.ref p) H))) cTuple := by
  intro w xs ds Q rh r ⟨d, es, e, e1, q⟩
  subst e
  obtain ⟨v, rfl, rv⟩ := rep1 r
  obtain ⟨a, ys, rfl, hy, hr⟩ := seqOf_rep rh rv e1
  rcases hy with hy | hy
  · exact ⟨a, ys, rfl, .inl ⟨hy, newT.lift rh hr q⟩⟩
  · exact ⟨a, ys, rfl, .inr ⟨hy, PV.here rh q ⟨a, ys, rfl, hy, hr⟩⟩⟩
/-- isinstance -/
def tyStr (d : D) (M : MH) : Option String := match d with
  | .non => some "NoneType"
  | .bl _ => some "bool"
  | .int _ => some "int"
  | .str _ => some "str"
  | .tup _ => some "tuple"
  | .lst _ => some "list"
  | .scr _ => some "list"
  | .ref i => match M[i]? with
    | some (.lst _) => some "list"
    | some (.dic _) => some "dict"
    | some (.dit _) => some "dict"
    | _ => none
  | .con _ => none
  | .exc _ _ _ _ => none
  | .dct => some "dict"
theorem sqT_ty {a : Addr} {xs : List V} {H : Hp} (h : SqT K H a xs) : TyX K H (.ref a) (.type "tuple") := by
  rcases h with (h | ⟨o, h⟩) | ⟨o, its, n, h, hc, _⟩
  · exact .base (.tup h)
  · exact .fTuple h
  · exact .kTuple h hc
theorem tyStr_rep {d : D} {v : V} {n : String} (rh : RH K w) (r : Rep K w d v) (h : tyStr d w.M = some n) : TyX K w.H v (.type n) := by
  cases d with
  | non => rw [rep_non r]; cases h; exact .base .non
  | bl b => rw [rep_bl r]; cases h; exact .base (.bl b)
  | int b => rw [rep_int r]; cases h; exact .base (.int b)
  | str b => rw [rep_str r]; cases h; exact .base (.str b)
  | tup ds => obtain ⟨a, xs, e, hx, _⟩ := r; subst e; cases h; exact sqT_ty hx
  | lst ds => obtain ⟨a, xs, e, hx, _⟩ := r; subst e; cases h; exact .base (.lst hx)
  | scr ns =>
    obtain ⟨a, e, hx⟩ := r
    subst e; cases h
    rcases hx with ⟨o, hx⟩ | hx
    · exact .base (.frz hx)
    · rcases hx (fun _ => none) with (z | ⟨o, z⟩) | ⟨o, its, n, hk, hc, _⟩
      · cases z
      · cases z
      · exact .kList hk hc
  | ref i =>
    obtain ⟨a, e, em⟩ := r
    subst e
    unfold tyStr at h
    simp only at h
    split at h
    · rename_i ds ec; cases h; obtain ⟨xs, hx, _⟩ := rh.ok i a _ em ec; exact .base (.lst hx)
    · rename_i ds ec; cases h; obtain ⟨xs, hx, _⟩ := rh.ok i a _ em ec; exact .base (.dK hx)
    · rename_i ds ec; cases h; obtain ⟨xs, hx, _⟩ := rh.ok i a _ em ec; exact .base (.dT hx)
    · cases h
  | con u => cases h
  | exc a c d fs => cases h
  | dct => obtain ⟨a, es, e, hx, _⟩ := r; subst e; cases h; exact .base (.dK hx)
/-- is n the type T or under it -/
def subTy (n T : String) : Bool := n == T || (n == "bool" && T == "int")
def knownTy (n : String) : Bool := ["NoneType", "bool", "int", "str", "tuple", "list", "dict"].contains n
theorem kit_tab {n T : String} (hn : knownTy n = true) (hT : ["bool", "int", "str", "tuple", "list", "dict"].contains T = true) : PySem.W.kitOne K (.type n) (.type T) = some (subTy n T) := by
  have a : n = "NoneType" ∨ n = "bool" ∨ n = "int" ∨ n = "str" ∨ n = "tuple" ∨ n = "list" ∨ n = "dict" := by simpa [knownTy] using hn
  have b : T = "bool" ∨ T = "int" ∨ T = "str" ∨ T = "tuple" ∨ T = "list" ∨ T = "dict" := by simpa using hT
  rcases a with rfl | rfl | rfl | rfl | rfl | rfl | rfl <;> rcases b with rfl | rfl | rfl | rfl | rfl | rfl <;> rfl
theorem tyStr_known {d : D} {M : MH} {n : String} (h : tyStr d M = some n) : knownTy n = true := by
  cases d with
  | ref i =>
    unfold tyStr at h
    simp only at h
    split at h
    · cases h; rfl
    · cases h; rfl
    · cases h; rfl
    · cases h
  | con u => cases h
  | exc a c d fs => cases h
  | _ => cases h; rfl
def cIsi : RA' := fun ds M Q => ∃ d T n, ds = [d, .con (.ty T)] ∧ ["bool", "int", "str", "tuple", "list", "dict"].contains T = true ∧ tyStr d M = some n ∧ Q (.bl (subTy n T)) M
theorem mr_isi : MonoR cIsi := fun ds M Q Q' q ⟨d, T, n, e, hT, en, h⟩ => ⟨d, T, n, e, hT, en, q _ _ h⟩
theorem la_isi : LiftA K (rIsi K) cIsi := by
  intro w xs ds Q rh r ⟨d, T, n, e, hT, en, q⟩
  subst e
  obtain ⟨v, v', rfl, rv, rv'⟩ := rep2 r
  have : v' = .ty T := by simpa [Rep] using rv'
  subst this
  exact ⟨v, .ty T, .type n, .type T, subTy n T, rfl, .ty T, tyStr_rep rh rv en, kit_tab (tyStr_known en) hT, PV.here rh q rep_mk_bl⟩
/-- a built-in type as a value -/
theorem me_ty {x : Str} {T : String} (hg : Gl X x) (hm : X.mg x = none) (hv : bootBuiltins x = some (.type T)) (hn : x ≠ "__name__" := by decide) (hd : (x == ("__debug__" : Str)) = false := by decide) : ME X W (.Name x pos) (tC' (.con (.ty T))) :=
  me_c (v := .ty T) (pe_bltn hg hm hv rfl hn hd) fun _ => by simp [Rep]
/-- isinstance(x, (T1, T2)) -/
def tysD : List D → Option (List String)
  | [] => some []
  | .con (.ty T) :: r => (tysD r).map (T :: ·)
  | _ :: _ => none
theorem tysD_rep : ∀ {ds : List D} {xs : List V} {ts : List String}, RepL K w ds xs → tysD ds = some ts → xs = ts.map V.ty
  | [], xs, ts, h, e => by cases e; exact h
  | d :: r, xs, ts, h, e => by
    obtain ⟨x, xr, rfl, rx, h⟩ := h
    cases d with
    | con u =>
      cases u with
      | ty T =>
        unfold tysD at e
        cases hr : tysD r with
        | none => rw [hr] at e; cases e
        | some ts' =>
          rw [hr] at e
          cases e
          rw [show x = .ty T by simpa [Rep] using rx, tysD_rep h hr]; rfl
      | _ => unfold tysD at e; cases e
    | _ => unfold tysD at e; cases e
def okTys (ts : List String) : Bool := ts.all fun T => ["bool", "int", "str", "tuple", "list", "dict"].contains T
theorem kitAny_tab {n : String} (hn : knownTy n = true) : ∀ {ts : List String}, okTys ts = true → PySem.W.kitAny K (.type n) (ts.map Value.type) = some (ts.any fun T => subTy n T)
  | [], _ => rfl
  | T :: r, h => by
    unfold okTys at h
    rw [List.all_cons, Bool.and_eq_true] at h
    have ih : PySem.W.kitAny K (.type n) (r.map Value.type) = some (r.any fun T => subTy n T) := kitAny_tab hn (ts := r) h.2
    show (match PySem.W.kitOne K (.type n) (.type T) with | some true => some true | some false => PySem.W.kitAny K (.type n) (r.map Value.type) | none => none) = _
    rw [kit_tab hn h.1, List.any_cons]
    cases subTy n T with
    | true => rfl
    | false => simp [ih]
theorem paired_ty : ∀ ts : List String, Paired ClsV (ts.map V.ty) (ts.map Value.type)
  | [] => .nil
  | T :: r => .cons (.ty T) (paired_ty r)
/-- the written tuple of types is just laid -/
def cIsiT : RA' := fun ds M Q => ∃ d es ts n, ds = [d, .tup es] ∧ tysD es = some ts ∧ okTys ts = true ∧ tyStr d M = some n ∧ Q (.bl (ts.any fun T => subTy n T)) M
theorem mr_isiT : MonoR cIsiT := fun ds M Q Q' q ⟨d, es, ts, n, e, e1, e2, en, h⟩ => ⟨d, es, ts, n, e, e1, e2, en, q _ _ h⟩
/-- the layer's rule asks for a tracked tuple -/
def rIsiT2 (K : PySem.W.Frag) : List V → Hp → VK → Prop := fun xs H Q => ∃ (x : V) (tp : Addr) (cs : List V) (t : Value) (us : List Value) (b : Bool), xs = [x, .ref tp] ∧ SqT K H tp cs ∧ Paired ClsV cs us ∧ TyX K H x t ∧ PySem.W.kitAny K t us = some b ∧ Q (.bl b) H
theorem call_isiT2 {X : Cx} : CallR X (.builtin "isinstance") (rIsiT2 X.K) := by
  intro pins s σ H xs us Q I r h
  obtain ⟨x, tp, cs, t, ws, b, rfl, hT, k, ty, e, q⟩ := h
  obtain ⟨u1, u2, rfl, r1, r2⟩ := vals2 r
  rcases hT with (hT | ⟨o, hT⟩) | ⟨o, its, n, hk, hc, hd, hz, hv⟩
  · exact call_isiT pins s σ H _ _ Q I r ⟨x, tp, cs, t, ws, b, rfl, hT, k, ty, e, q⟩
  · cases (show u2 = Value.ref tp from r2)
    obtain ⟨P, Z, p, hx⟩ := kit_of I r1 ty
    obtain ⟨_, _, its, rv, o2, h1, h2, n, h3⟩ := (show ObjOk X.prog X.w H s.heap tp (.frz o (.tup cs)) from I.hok tp _ hT)
    have e3 := ClsV.all k rv
    subst e3
    obtain ⟨oc, od, dt, sl⟩ := o2
    simp only at h2 h3
    subst h2 h3
    exact PySem.W.kia_tup Z I.kIn p h1 e hx fun tk => ⟨.bl b, H, I.tok tk, rfl, q⟩
  · cases (show u2 = Value.ref tp from r2)
    obtain ⟨P, Z, p, hx⟩ := kit_of I r1 ty
    have e3 := ClsV.all k hv
    subst e3
    obtain ⟨oc, od, dt, sl⟩ := o
    simp only at hc hd
    subst hc hd
    exact PySem.W.kia_tup Z I.kIn p (I.kIn tp _ hk) e hx fun tk => ⟨.bl b, H, I.tok tk, rfl, q⟩
theorem la_isiT : LiftA K (rIsiT2 K) cIsiT := by
  intro w xs ds Q rh r ⟨d, es, ts, n, e, e1, e2, en, q⟩
  subst e
  obtain ⟨v, v', rfl, rv, rv'⟩ := rep2 r
  obtain ⟨a, cs, e, hx, hr⟩ := rv'
  subst e
  have := tysD_rep hr e1
  subst this
  exact ⟨v, a, _, .type n, _, _, rfl, hx, paired_ty ts, tyStr_rep rh rv en, kitAny_tab (tyStr_known en) e2, PV.here rh q rep_mk_bl⟩
/-! ### methods -/
def mAppend : RM' := fun x ds M Q => ∃ c es d, x = .ref c ∧ ds = [d] ∧ M[c]? = some (.lst es) ∧ es.length < sizeLine ∧ Q .non (M.set c (.lst (es ++ [d])))
theorem lm_append : LiftM K rAppend mAppend := by
  intro w x xs d ds Q rh rx rs ⟨c, es, d1, e1, e2, ec, hl, q⟩
  subst e1 e2
  obtain ⟨a, e, em⟩ := rx
  subst e
  obtain ⟨v, rfl, rv⟩ := rep1 rs
  obtain ⟨ys, hy, hr⟩ := rh.ok c a _ em ec
  have nd : (Cell.lst es) ≠ Cell.dead := fun z => by cases z
  have l : Le w (w.put c a (.lst (ys ++ [v])) (.lst (es ++ [d1]))) := Le.put rh em ec nd
  exact ⟨a, ys, v, rfl, rfl, hy, by rw [hr.length]; exact hl, q .non (w.put c a (.lst (ys ++ [v])) (.lst (es ++ [d1]))) rfl l (rh.put em ec nd ⟨_, upd_same, RepL.le rh l _ (hr.append (RepL.cons rv RepL.nil))⟩) rep_mk_non⟩
theorem mm_append : MonoM mAppend := fun x ds M Q Q' q ⟨c, es, d, e1, e2, ec, hl, h⟩ => ⟨c, es, d, e1, e2, ec, hl, q _ _ h⟩
def mPopAt : RM' := fun x ds M Q => ∃ c es i k d, x = .ref c ∧ ds = [.int i] ∧ M[c]? = some (.lst es) ∧ ixN es.length i = some k ∧ -(2 ^ 63) ≤ i ∧ i < 2 ^ 63 ∧ es[k]? = some d ∧ Q d (M.set c (.lst (es.eraseIdx k)))
theorem lm_popAt : LiftM K rPopAt mPopAt := by
  intro w x xs d ds Q rh rx rs ⟨c, es, i, k, d1, e1, e2, ec, hk, h1, h2, hd, q⟩
  subst e1 e2
  obtain ⟨a, e, em⟩ := rx
  subst e
  obtain ⟨v, rfl, rv⟩ := rep1 rs
  obtain ⟨ys, hy, hr⟩ := rh.ok c a _ em ec
  obtain ⟨y, ey, ry⟩ := hr.get hd
  have nd : (Cell.lst es) ≠ Cell.dead := fun z => by cases z
  have l : Le w (w.put c a (.lst (ys.eraseIdx k)) (.lst (es.eraseIdx k))) := Le.put rh em ec nd
  exact ⟨a, ys, i, k, y, rfl, by rw [rep_int rv], hy, h1, h2, by rw [hr.length]; exact (ixN_seq hk).1, ey, q y (w.put c a (.lst (ys.eraseIdx k)) (.lst (es.eraseIdx k))) rfl l (rh.put em ec nd ⟨_, upd_same, RepL.le rh l _ (hr.eraseIdx k)⟩) (ry.le' rh l)⟩
theorem mm_popAt : MonoM mPopAt := fun x ds M Q Q' q ⟨c, es, i, k, d, e1, e2, ec, hk, h1, h2, hd, h⟩ => ⟨c, es, i, k, d, e1, e2, ec, hk, h1, h2, hd, q _ _ h⟩
def mStarts : RM' := fun x ds M Q => ∃ a b, x = .str a ∧ ds = [.str b] ∧ Q (.bl (Txt.startswith a b)) M
theorem lm_starts : LiftM K (fun x xs H Q => ∃ a b, x = .str a ∧ xs = [.str b] ∧ Q (.bl (Txt.startswith a b)) H) mStarts := by
  intro w x xs d ds Q rh rx rs ⟨a, b, e1, e2, q⟩
  subst e1 e2
  obtain ⟨v, rfl, rv⟩ := rep1 rs
  exact ⟨a, b, rep_str rx, by rw [rep_str rv], PV.here rh q rep_mk_bl⟩
theorem mm_starts : MonoM mStarts := fun x ds M Q Q' q ⟨a, b, e1, e2, h⟩ => ⟨a, b, e1, e2, q _ _ h⟩
def mSIndex : RM' := fun x ds M Q => ∃ (a b : Str) (i : Nat) (rest : List Nat), x = .str a ∧ ds = [.str b] ∧ Builtin.Str.occurrences a b 0 a.length 1 = i :: rest ∧ Q (.int (i : Int)) M
theorem lm_sindex : LiftM K (fun x xs H Q => ∃ a b i rest, x = .str a ∧ xs = [.str b] ∧ Builtin.Str.occurrences a b 0 a.length 1 = i :: rest ∧ Q (.int (i : Nat)) H) mSIndex := by
  intro w x xs d ds Q rh rx rs ⟨a, b, i, rest, e1, e2, ho, q⟩
  subst e1 e2
  obtain ⟨v, rfl, rv⟩ := rep1 rs
  exact ⟨a, b, i, rest, rep_str rx, by rw [rep_str rv], ho, PV.here rh q rep_mk_int⟩
theorem mm_sindex : MonoM mSIndex := fun x ds M Q Q' q ⟨a, b, i, rest, e1, e2, ho, h⟩ => ⟨a, b, i, rest, e1, e2, ho, q _ _ h⟩
/-! ### list(range(..)), tuple(range(..)) -/
def tRg1' (ta : TE') : EnvD → MH → (Int → Int → MH → Prop) → QX → Prop := fun δ M Q E => ta δ M (fun d M1 => ∃ n, d = .int n ∧ Q 0 n M1) E
def tRg2' (ta tb : TE') : EnvD → MH → (Int → Int → MH → Prop) → QX → Prop := fun δ M Q E => ta δ M (fun d M1 => tb δ M1 (fun d2 M2 => ∃ i j, d = .int i ∧ d2 = .int j ∧ Q i j M2) E) E
def tListRg' (cell : Bool) (t : EnvD → MH → (Int → Int → MH → Prop) → QX → Prop) : TE' := fun δ M Q E => t δ M (fun a b M1 => RgOk a b ∧ newL cell (rangeD a (b - a).toNat) M1 Q) E
def tTupRg' (t : EnvD → MH → (Int → Int → MH → Prop) → QX → Prop) : TE' := fun δ M Q E => t δ M (fun a b M1 => RgOk a b ∧ Q (.tup (rangeD a (b - a).toNat)) M1) E
theorem rep_range {a b : Int} : RepL K w (rangeD a (b - a).toNat) (rgV a b) := by
  unfold rangeD rgV
  generalize List.range (b - a).toNat = l
  induction l with
  | nil => exact RepL.nil
  | cons i r ih => exact RepL.cons rep_mk_int ih
theorem me_listRg1 (cell : Bool) {p p2 pos2 : Pos} {ta : TE'} (hc : X.calm = true) (hg : Gl X "list") (hm : X.mg "list" = none) (hg2 : Gl X "range") (hm2 : X.mg "range" = none) (ha : ME X W a ta)
    (na : starEach [a] X.env = (false, eval a X.env) :: starEach [] X.env := by rfl) (na2 : starEach [.Call (.Name "range" p2) [a] [] pos2] X.env = (false, eval (.Call (.Name "range" p2) [a] [] pos2) X.env) :: starEach [] X.env := by rfl) :
    ME X W (.Call (.Name "list" p) [.Call (.Name "range" p2) [a] [] pos2] [] pos) (tListRg' cell (tRg1' ta)) :=
  ⟨PE.imp (pe_listRg hc hg hm (prg_1 hg2 hm2 ha.pe na) na2) fun σ H Q ⟨w, δ, eH, rh, rs, h⟩ => by
    subst eH
    refine up_go ha.mono rh rs h (fun _ _ x => x) fun d v w1 l1 rh1 rs1 rv ⟨n, e, ok, q⟩ => ?_
    subst e
    exact ⟨n, rep_int rv, ok, newL.lift rh1 rep_range (newL.mono (fun d M q => q.le rh rh1 l1) q)⟩,
   fun δ M Q Q' E E' q x hh => ha.mono _ _ _ _ _ _ (fun d M1 ⟨n, e, ok, h⟩ => ⟨n, e, ok, h.mono q⟩) x hh⟩
theorem me_tupRg1 {p p2 pos2 : Pos} {ta : TE'} (hc : X.calm = true) (hg : Gl X "tuple") (hm : X.mg "tuple" = none) (hg2 : Gl X "range") (hm2 : X.mg "range" = none) (ha : ME X W a ta)
    (na : starEach [a] X.env = (false, eval a X.env) :: starEach [] X.env := by rfl) (na2 : starEach [.Call (.Name "range" p2) [a] [] pos2] X.env = (false, eval (.Call (.Name "range" p2) [a] [] pos2) X.env) :: starEach [] X.env := by rfl) :
    ME X W (.Call (.Name "tuple" p) [.Call (.Name "range" p2) [a] [] pos2] [] pos) (tTupRg' (tRg1' ta)) :=
  ⟨PE.imp (pe_tupRg hc hg hm (prg_1 hg2 hm2 ha.pe na) na2) fun σ H Q ⟨w, δ, eH, rh, rs, h⟩ => by
    subst eH
    refine up_go ha.mono rh rs h (fun _ _ x => x) fun d v w1 l1 rh1 rs1 rv ⟨n, e, ok, q⟩ => ?_
    subst e
    exact ⟨n, rep_int rv, ok, newT.lift rh1 rep_range (q.le rh rh1 l1)⟩,
   fun δ M Q Q' E E' q x hh => ha.mono _ _ _ _ _ _ (fun d M1 ⟨n, e, ok, h⟩ => ⟨n, e, ok, q _ _ h⟩) x hh⟩
end MD
/-! MD: slices of all kinds, constants of the module, the ends. -/
namespace MD
open PySem PySem.Spec PyProof.Rows L2
variable {K : PySem.W.Frag} {w w1 w2 : Wd} {X : Cx} {W : WX} {e a b c : Expr} {pos : Pos}
def cutD (xs : List D) (lo hi : Option Int) : List D := (xs.drop (HT.sIx xs.length 0 lo)).take (HT.sIx xs.length xs.length hi - HT.sIx xs.length 0 lo)
theorem RepL.cut {ds : List D} {xs : List V} (h : RepL K w ds xs) (lo hi : Option Int) : RepL K w (cutD ds lo hi) (cutV xs lo hi) := by
  unfold cutD cutV
  rw [h.length]
  exact (h.drop _).take _
abbrev rSlAll (K : PySem.W.Frag) : V → Option Int → Option Int → Hp → VK → Prop := fun x lo hi H Q => rSlS x lo hi H Q ∨ rSlA K x lo hi H Q ∨ rSlL K x lo hi H Q
theorem sl_all : SlR X (rSlAll X.K) := SlR.or sl_str (SlR.or sl_tupA sl_list)
def oSl (cell : Bool) : RS' := fun d lo hi M Q => match d with
  | .str z => z.length ≤ sizeLine ∧ Q (.str (cutS z lo hi)) M
  | .tup ds => Q (.tup (cutD ds lo hi)) M
  | d => ∃ ds, lstOf d M = some ds ∧ newL cell (cutD ds lo hi) M Q
theorem cut_all {xs : List V} {lo hi : Option Int} (h : HT.sIx xs.length 0 lo = 0 ∧ HT.sIx xs.length xs.length hi = xs.length) : cutV xs lo hi = xs := by
  unfold cutV
  rw [h.1, h.2]; simp
theorem lsl_all {cell : Bool} : LiftSl K (rSlAll K) (oSl cell) := by
  intro w x d lo hi Q rh rx h
  have lst : ∀ ds, lstOf d w.M = some ds → newL cell (cutD ds lo hi) w.M (PV K w Q) → rSlAll K x lo hi w.H Q := by
    intro ds e h
    obtain ⟨a, xs, rfl, hx, hr⟩ := lstOf_rep rh rx e
    exact .inr (.inr ⟨a, xs, rfl, SqL.of hx, newL.lift rh (hr.cut lo hi) h⟩)
  cases d with
  | str z => exact .inl ⟨z, rep_str rx, h.1, PV.here rh h.2 rep_mk_str⟩
  | tup ds =>
    obtain ⟨a, xs, e, hx, hr⟩ := rx
    have h : PV K w Q (.tup (cutD ds lo hi)) w.M := h
    refine .inr (.inl ⟨a, xs, e, hx, fun hc => ?_, fun _ => newT.lift rh (hr.cut lo hi) h⟩)
    have hr2 := hr.cut lo hi
    rw [cut_all hc] at hr2
    exact PV.here rh h ⟨a, xs, rfl, hx, hr2⟩
  | lst ds => obtain ⟨es, e, h⟩ := h; exact lst es e h
  | ref i => obtain ⟨es, e, h⟩ := h; exact lst es e h
  | _ => obtain ⟨es, e, h⟩ := h; cases e
theorem msl_all {cell : Bool} : MonoSl (oSl cell) := by
  intro d lo hi M Q Q' q h
  cases d with
  | str z => exact ⟨h.1, q _ _ h.2⟩
  | tup ds => exact q _ _ h
  | lst ds => obtain ⟨es, e, h⟩ := h; exact ⟨es, e, h.mono q⟩
  | ref ds => obtain ⟨es, e, h⟩ := h; exact ⟨es, e, h.mono q⟩
  | _ => obtain ⟨es, e, h⟩ := h; cases e

/-! ### constants of the module -/
def GlobD (K : PySem.W.Frag) (mg : Str → Option Value) (x : Str) (d : D) : Prop := ∃ (u : Value) (v : V), mg x = some u ∧ RelV v u ∧ ∀ w, Rep K w d v
theorem me_globD {x : Str} {d : D} (hg : Gl X x) (h : GlobD X.K X.mg x d) (hd : (x == ("__debug__" : Str)) = false := by decide) : ME X W (.Name x pos) (tC' d) := by
  obtain ⟨u, v, hm, r, hr⟩ := h
  exact me_glob hg hm r hr hd
def GlobK (K : PySem.W.Frag) (x : Str) (d : D) : Prop := ∃ (u : Value) (v : V), PySem.W.nsIn K mainGlobals x = some (some u) ∧ RelV v u ∧ ∀ w, Rep K w d v
theorem globD_of {h : Heap} {mg : Str → Option Value} {x : Str} {d : D} (X : K.In h) (G : h.Ns mainGlobals mg) (g : GlobK K x d) : GlobD K mg x d := by
  obtain ⟨u, v, hm, r, hr⟩ := g
  exact ⟨u, v, PySem.W.mg_of X G hm, r, hr⟩
theorem globK_str {x y : Str} {t : Tok} (h : PySem.W.nsIn K mainGlobals x = some (some (.str y t))) : GlobK K x (.str y) := ⟨_, .str y, h, ⟨t, rfl⟩, fun _ => rep_mk_str⟩
theorem globK_int {x : Str} {y : Int} {t : Tok} (h : PySem.W.nsIn K mainGlobals x = some (some (.int y t))) : GlobK K x (.int y) := ⟨_, .int y, h, ⟨t, rfl⟩, fun _ => rep_mk_int⟩
theorem globK_tup {x : Str} {ds : List D} {xs : List V} {its : Array Value} {a : Addr} {dd : Option Addr} {n : Nat} {sl : Array (Option Value)} (h : PySem.W.nsIn K mainGlobals x = some (some (.ref a)))
    (l : K.lookup a = some ⟨.type "tuple", dd, .seq its n, sl⟩) (hv : its.size ≤ sizeLine ∧ Vals xs its.toList ∧ ∀ w, RepL K w ds xs) : GlobK K x (.tup ds) :=
  ⟨_, .ref a, h, rfl, fun w => by
    simp only [Rep]
    exact ⟨a, xs, rfl, .inr ⟨_, its, n, l, rfl, rfl, hv.1, hv.2.1⟩, hv.2.2 w⟩⟩

/-! ### the ends -/
theorem upP_imp {sp sp' : SpD} (h : ∀ ds M Q E, sp' ds M Q E → sp ds M Q E) {vs : List V} {H : Hp} {Q : VK} {E : XK} (q : upP K sp' vs H Q E) : upP K sp vs H Q E := by
  obtain ⟨w, ds, e, rh, hr, q⟩ := q
  exact ⟨w, ds, e, rh, hr, h _ _ _ _ q⟩
theorem law_start {sp : SpD} {H : Hp} {a : Addr} {ns : List Int} (hO : Only H) (hS : SqL K H a (ns.map V.int)) (h : ∀ Q E, (∀ M, Q (.bl true) M) → sp [.scr ns] [] Q E) : upP K sp [.ref a] H (fun v _ => v = .bl true) fun _ _ _ => False := by
  refine ⟨⟨[], [], [], H⟩, [.scr ns], rfl, ⟨rfl, List.nodup_nil, (fun _ h => nomatch h), (fun i a c e => by simp at e), (fun _ h => nomatch h)⟩, ?_, h _ _ fun M v w1 _ _ _ r => rep_bl r⟩
  refine ⟨.ref a, [], rfl, ?_, rfl⟩
  simp only [Rep]
  refine ⟨a, rfl, ?_⟩
  rcases hS with (hS | ⟨o, hS⟩) | hS
  · rcases hO a with z | ⟨o, xs, z⟩
    · rw [z] at hS; cases hS
    · rw [z] at hS; cases hS
  · exact .inl ⟨o, hS⟩
  · exact .inr fun H => .inr hS
theorem cx_none {P : Program} {wd : World} {H : Hp} {s s' : Shared} {e : Value} (h : L2.CX P wd [] H s (fun _ _ _ => False) e s') : False := by
  obtain ⟨_, _, _, _, _, _, _, _, _, _, _, _, z⟩ := h
  exact z
theorem law_binds {x qual : Str} {st : Stmt} {f : Addr} {fd : FuncData} {y : Str} (F : Fun K x qual st f fd) (s : Shared) (u : Value)
    (h : ∀ (kV doc pm : Value) (an : Option Addr) (cdv ct : Value), bindArgs (PySem.W.fnOf x qual (defArgs st) (defBody st) (defScope st) .none kV doc pm an cdv ct) ⟨[u], []⟩ = pure [(y, u)]) : BindsTo s fd ⟨[u], []⟩ [(y, u)] := by
  obtain ⟨oc, od, kV, doc, pm, an, cdv, ct, osl, rfl, _, _⟩ := F.ex
  exact .of_eq (h kV doc pm an cdv ct)
end MD
/-! MD: rules for simp, loops by induction. -/
namespace MD
open PySem PySem.Spec PyProof.Rows L2
def asB (d : D) (P : Bool → Prop) : Prop := match d with
  | .bl c => P c
  | _ => False
@[simp] theorem asB_bl {c : Bool} {P : Bool → Prop} : asB (.bl c) P ↔ P c := Iff.rfl
theorem asB_iff {d : D} {P : Bool → Prop} : (∃ c, d = .bl c ∧ P c) ↔ asB d P := by
  constructor
  · rintro ⟨c, rfl, h⟩; exact h
  · intro h
    cases d with
    | bl c => exact ⟨c, rfl, h⟩
    | _ => exact h.elim
def onB (o : Option Bool) (P : Bool → Prop) : Prop := match o with
  | some c => P c
  | none => False
@[simp] theorem onB_some {c : Bool} {P : Bool → Prop} : onB (some c) P ↔ P c := Iff.rfl
theorem onB_iff {d : Option Bool} {P : Bool → Prop} : (∃ c, d = some c ∧ P c) ↔ onB d P := by
  constructor
  · rintro ⟨c, rfl, h⟩; exact h
  · intro h
    cases d with
    | some c => exact ⟨c, rfl, h⟩
    | none => exact h.elim
section
variable {δ : EnvD} {M : MH} {Q : QE} {E : QX} {i : Nat} {d : D} {ta tb te : TE'} {t u : TT'} {a b : TA'} {DD : Ends'} {s1 s2 : TS'} {QB : Bool → MH → Prop} {QA : List D → MH → Prop} {r : R2'} {r1 : R1'} {g : TG'}
@[simp] theorem u_var : tVar' i δ M Q E ↔ ∃ d, δ[i]? = some (some d) ∧ Q d M := Iff.rfl
@[simp] theorem u_c : tC' d δ M Q E ↔ Q d M := Iff.rfl
@[simp] theorem u_op : tOp' r ta tb δ M Q E ↔ ta δ M (fun x M1 => tb δ M1 (fun y M2 => r x y M2 Q) E) E := Iff.rfl
@[simp] theorem u_un : tUn' r1 ta δ M Q E ↔ ta δ M (fun x M1 => r1 x M1 Q) E := Iff.rfl
@[simp] theorem u_B : tB' te δ M QB E ↔ te δ M (fun d M1 => asB d fun c => QB c M1) E := by unfold tB'; simp only [asB_iff]
@[simp] theorem u_and : tAnd' t u δ M QB E ↔ t δ M (fun c M1 => if c = true then u δ M1 QB E else QB false M1) E := Iff.rfl
@[simp] theorem u_or : tOr' t u δ M QB E ↔ t δ M (fun c M1 => if c = true then QB true M1 else u δ M1 QB E) E := Iff.rfl
@[simp] theorem u_not : tNot' t δ M QB E ↔ t δ M (fun c M1 => QB (!c) M1) E := Iff.rfl
@[simp] theorem u_andV : tAndV' ta tb δ M Q E ↔ ta δ M (fun x M1 => asB x fun c => if c = true then tb δ M1 Q E else Q (.bl false) M1) E := by unfold tAndV'; simp only [asB_iff]
@[simp] theorem u_orV : tOrV' ta tb δ M Q E ↔ ta δ M (fun x M1 => asB x fun c => if c = true then Q (.bl true) M1 else tb δ M1 Q E) E := by unfold tOrV'; simp only [asB_iff]
@[simp] theorem u_notV : tNotV' ta δ M Q E ↔ ta δ M (fun x M1 => asB x fun c => Q (.bl (!c)) M1) E := by unfold tNotV'; simp only [asB_iff]
@[simp] theorem u_if : tIf' t ta tb δ M Q E ↔ t δ M (fun c M1 => if c = true then ta δ M1 Q E else tb δ M1 Q E) E := Iff.rfl
@[simp] theorem u_nil : tNil' δ M QA E ↔ QA [] M := Iff.rfl
@[simp] theorem u_cons : tCons' te a δ M QA E ↔ te δ M (fun d M1 => a δ M1 (fun ds M2 => QA (d :: ds) M2) E) E := Iff.rfl
@[simp] theorem u_tup : tTup' a δ M Q E ↔ a δ M (fun ds M1 => ds.length ≤ sizeLine ∧ Q (.tup ds) M1) E := Iff.rfl
@[simp] theorem u_lst {c : Bool} : tLst' c a δ M Q E ↔ a δ M (fun ds M1 => ds.length ≤ sizeLine ∧ newL c ds M1 Q) E := Iff.rfl
@[simp] theorem u_newF {ds : List D} : newL false ds M Q ↔ Q (.lst ds) M := Iff.rfl
@[simp] theorem u_newT {ds : List D} : newL true ds M Q ↔ Q (.ref M.length) (M ++ [.lst ds]) := Iff.rfl
@[simp] theorem u_frz : tFrz te δ M Q E ↔ te δ M (fun d M1 => ∃ i ds, d = .ref i ∧ M1[i]? = some (.lst ds) ∧ Q (.lst ds) (M1.set i .dead)) E := Iff.rfl
@[simp] theorem u_CB {r : RA'} : tCB' r a δ M Q E ↔ a δ M (fun ds M1 => r ds M1 Q) E := Iff.rfl
@[simp] theorem u_call {sp : SpD} : tCall' sp a δ M Q E ↔ a δ M (fun ds M1 => sp ds M1 Q E) E := Iff.rfl
@[simp] theorem u_gname {QG : EnvD → MH → Prop} : gName' i d δ M QG ↔ QG (δ.set i (some d)) M := Iff.rfl
theorem u_gnil {ds : List D} {QG : EnvD → MH → Prop} : gAll' [] ds δ M QG ↔ ds = [] ∧ QG δ M := Iff.rfl
theorem u_gcons {gs : List TG'} {ds : List D} {QG : EnvD → MH → Prop} : gAll' (g :: gs) ds δ M QG ↔ ∃ d r, ds = d :: r ∧ g d δ M fun δ1 M1 => gAll' gs r δ1 M1 QG := Iff.rfl
theorem u_gtup {n : Nat} {gs : List TG'} {QG : EnvD → MH → Prop} : gTup' n gs d δ M QG ↔ ∃ ds, (d = .tup ds ∨ d = .lst ds) ∧ ds.length = n ∧ gAll' gs ds δ M QG := Iff.rfl
@[simp] theorem u_gsub {ts : TSet'} {QG : EnvD → MH → Prop} : gSub' ta tb ts d δ M QG ↔ ta δ M (fun o M1 => tb δ M1 (fun i M2 => ts o i d M2 fun M3 => QG δ M3) fun _ _ => False) fun _ _ => False := Iff.rfl
@[simp] theorem u_next : tNext' DD δ M ↔ DD.nx δ M := Iff.rfl
@[simp] theorem u_seq : tSeq' s1 s2 DD δ M ↔ s1 { DD with nx := s2 DD } δ M := Iff.rfl
@[simp] theorem u_break : tBreak' DD δ M ↔ DD.bk δ M := Iff.rfl
@[simp] theorem u_cont : tCont' DD δ M ↔ DD.ct δ M := Iff.rfl
@[simp] theorem u_never : tNever' DD δ M ↔ False := Iff.rfl
@[simp] theorem u_drop : tDrop' te DD δ M ↔ te δ M (fun _ M1 => DD.nx δ M1) (fun x M1 => DD.ex x δ M1) := Iff.rfl
@[simp] theorem u_ret : tRet' te DD δ M ↔ te δ M DD.rt (fun x M1 => DD.ex x δ M1) := Iff.rfl
@[simp] theorem u_retN : tRetN' DD δ M ↔ DD.rt .non M := Iff.rfl
@[simp] theorem u_ifS : tIfS' t s1 s2 DD δ M ↔ t δ M (fun b M1 => if b = true then s1 DD δ M1 else s2 DD δ M1) (fun x M1 => DD.ex x δ M1) := Iff.rfl
@[simp] theorem u_asg : tAsg' te g DD δ M ↔ te δ M (fun d M1 => g d δ M1 DD.nx) (fun x M1 => DD.ex x δ M1) := Iff.rfl
@[simp] theorem u_par {j : Nat} : tPar' i j a DD δ M ↔ a δ M (fun ds M1 => ∃ d d', ds = [d, d'] ∧ DD.nx ((δ.set i (some d)).set j (some d')) M1) (fun x M1 => DD.ex x δ M1) := Iff.rfl
@[simp] theorem u_it {R : ItD → MH → Prop} : tIt' te δ M R E ↔ te δ M (fun d M1 => seqD d M1 R) E := Iff.rfl
@[simp] theorem u_seqT {ds : List D} {R : ItD → MH → Prop} : seqD (.tup ds) M R ↔ R ⟨ds, none⟩ M := Iff.rfl
@[simp] theorem u_seqL {ds : List D} {R : ItD → MH → Prop} : seqD (.lst ds) M R ↔ R ⟨ds, none⟩ M := Iff.rfl
@[simp] theorem u_seqScr {ns : List Int} {R : ItD → MH → Prop} : seqD (.scr ns) M R ↔ R ⟨ns.map D.int, none⟩ M := Iff.rfl
@[simp] theorem u_seqStr {x : Str} {R : ItD → MH → Prop} : seqD (.str x) M R ↔ R ⟨x.cps.toList.map fun c => D.str ⟨#[c]⟩, none⟩ M := Iff.rfl
@[simp] theorem u_seqRef {R : ItD → MH → Prop} : seqD (.ref i) M R ↔ ∃ ds, M[i]? = some (.lst ds) ∧ R ⟨ds, some i⟩ M := Iff.rfl
@[simp] theorem u_rng1 {R : ItD → MH → Prop} : tRng1' a δ M R E ↔ a δ M (fun ds M1 => ∃ j : Int, ds = [.int j] ∧ -(2 ^ 62) ≤ j ∧ j < 2 ^ 62 ∧ R ⟨rangeD 0 j.toNat, none⟩ M1) E := Iff.rfl
@[simp] theorem u_rng2 {R : ItD → MH → Prop} : tRng2' a δ M R E ↔ a δ M (fun ds M1 => ∃ i j : Int, ds = [.int i, .int j] ∧ (-(2 ^ 62) ≤ i ∧ i < 2 ^ 62 ∧ -(2 ^ 62) ≤ j ∧ j < 2 ^ 62) ∧ R ⟨rangeD i (j - i).toNat, none⟩ M1) E := Iff.rfl
@[simp] theorem u_for {ti : TI'} : tFor' ti g s1 DD δ M ↔ ti δ M (fun it M1 => forL it g s1 DD it.items δ M1) (fun x M1 => DD.ex x δ M1) := Iff.rfl
@[simp] theorem u_while : tWhile' t s1 DD δ M ↔ ∃ n, whileN t s1 DD n δ M := Iff.rfl
@[simp] theorem u_lc {c : Bool} {ti : TI'} {vs : List Nat} : tLc' c ti g t te vs δ M Q E ↔ ti δ M (fun it M1 => lcL it g t te vs δ (fun acc M2 => newL c acc M2 Q) it.items [] M1) E := Iff.rfl
@[simp] theorem u_yes : tYes' δ M QB E ↔ QB true M := Iff.rfl
@[simp] theorem u_BM {T : String} {rm : RM'} : tBM' T rm te a δ M Q E ↔ te δ M (fun x M1 => tyD T x M1 ∧ a δ M1 (fun ds M2 => rm x ds M2 Q) E) E := Iff.rfl
@[simp] theorem u_tyS {x : Str} : tyD "str" (.str x) M ↔ True := ⟨fun _ => trivial, fun _ => rfl⟩
@[simp] theorem u_tyL {ds : List D} : tyD "list" (.lst ds) M ↔ True := ⟨fun _ => trivial, fun _ => rfl⟩
@[simp] theorem u_tyR : tyD "list" (.ref i) M ↔ ∃ ds, M[i]? = some (.lst ds) := ⟨fun h => h.elim (fun h => h.2) (fun h => absurd h.1 (by decide)), fun h => .inl ⟨rfl, h⟩⟩
@[simp] theorem u_sl {rs : RS'} {tl th : TO'} : tSl' rs te tl th δ M Q E ↔ te δ M (fun d M1 => tl δ M1 (fun lo M2 => th δ M2 (fun hi M3 => rs d lo hi M3 Q) E) E) E := Iff.rfl
@[simp] theorem u_part {QO : Option Int → MH → Prop} : tPart' te δ M QO E ↔ te δ M (fun d M1 => ∃ i, d = .int i ∧ QO (some i) M1) E := Iff.rfl
@[simp] theorem u_nopart {QO : Option Int → MH → Prop} : tNoPart' δ M QO E ↔ QO none M := Iff.rfl
@[simp] theorem u_chain {r r' : R2'} {tc : TE'} : tChain' r r' ta tb tc δ M Q E ↔ ta δ M (fun x M1 => tb δ M1 (fun y M2 => r x y M2 fun z M3 => asB z fun k => if k = true then tc δ M3 (fun u M4 => r' y u M4 Q) E else Q (.bl false) M3) E) E := by unfold tChain'; simp only [asB_iff]
@[simp] theorem u_tru : tTru' te δ M QB E ↔ te δ M (fun d M1 => (∀ y, d = .str y → y.length ≤ sizeLine) ∧ onB (truD d M1) fun b => QB b M1) E := by unfold tTru'; simp only [onB_iff]
@[simp] theorem u_truB {c : Bool} : truD (.bl c) M = some c := rfl
@[simp] theorem u_truN : truD .non M = some false := rfl
@[simp] theorem u_truS {x : Str} : truD (.str x) M = some ((x.length : Int) != 0) := rfl
@[simp] theorem u_truI {x : Int} : truD (.int x) M = some (x != 0) := rfl
@[simp] theorem u_truT {ds : List D} : truD (.tup ds) M = some (!ds.isEmpty) := rfl
@[simp] theorem u_truL {ds : List D} : truD (.lst ds) M = some (!ds.isEmpty) := rfl
/-! operators -/
@[simp] theorem u_addI {c : Bool} {i j : Int} : oAdd c (.int i) (.int j) M Q ↔ Q (.int (i + j)) M := Iff.rfl
@[simp] theorem u_addS {c : Bool} {i j : Str} : oAdd c (.str i) (.str j) M Q ↔ i.length + j.length ≤ sizeLine ∧ Q (.str (i ++ j)) M := Iff.rfl
@[simp] theorem u_addT {c : Bool} {i j : List D} : oAdd c (.tup i) (.tup j) M Q ↔ i.length + j.length ≤ sizeLine ∧ Q (.tup (i ++ j)) M := Iff.rfl
@[simp] theorem u_I {C : Int → Int → Prop} {gg : Int → Int → D} {i j : Int} : oI C gg (.int i) (.int j) M Q ↔ C i j ∧ Q (gg i j) M := Iff.rfl
@[simp] theorem u_I0 {gg : Int → Int → D} {i j : Int} : oI0 gg (.int i) (.int j) M Q ↔ Q (gg i j) M := Iff.rfl
@[simp] theorem u_mulI {c : Bool} {i j : Int} : oMul c (.int i) (.int j) M Q ↔ MulOk i j ∧ Q (.int (i * j)) M := Iff.rfl
@[simp] theorem u_mulS {c : Bool} {i : Str} {j : Int} : oMul c (.str i) (.int j) M Q ↔ (-(2 ^ 62) < j ∧ j < 2 ^ 62 ∧ i.length * j.toNat ≤ sizeLine) ∧ Q (.str (strRep i j)) M := Iff.rfl
@[simp] theorem u_neg {i : Int} : oNeg (.int i) M Q ↔ Q (.int (-i)) M := Iff.rfl
@[simp] theorem u_eqI {i j : Int} : oEq false (.int i) (.int j) M Q ↔ Q (.bl (decide (i = j))) M := Iff.rfl
@[simp] theorem u_neI {i j : Int} : oEq true (.int i) (.int j) M Q ↔ Q (.bl (!decide (i = j))) M := Iff.rfl
@[simp] theorem u_eqS {i j : Str} : oEq false (.str i) (.str j) M Q ↔ Q (.bl (decide (i = j))) M := Iff.rfl
@[simp] theorem u_neS {i j : Str} : oEq true (.str i) (.str j) M Q ↔ Q (.bl (!decide (i = j))) M := Iff.rfl
@[simp] theorem u_eqB {i j : Bool} : oEq false (.bl i) (.bl j) M Q ↔ Q (.bl (decide (i = j))) M := Iff.rfl
@[simp] theorem u_eqT {i j : List D} {n : Bool} : oEq n (.tup i) (.tup j) M Q ↔ eqOk (.tup i) ∧ eqOk (.tup j) ∧ Q (.bl (if n then !deq (.tup i) (.tup j) else deq (.tup i) (.tup j))) M := Iff.rfl
@[simp] theorem u_eqL {i j : List D} {n : Bool} : oEq n (.lst i) (.lst j) M Q ↔ eqOk (.lst i) ∧ eqOk (.lst j) ∧ Q (.bl (if n then !deq (.lst i) (.lst j) else deq (.lst i) (.lst j))) M := Iff.rfl
@[simp] theorem u_isN {n : Bool} : oIsN' n d .non M Q ↔ (∀ u, d ≠ .con u) ∧ Q (.bl (if n then !nonD d else nonD d)) M := Iff.rfl
@[simp] theorem u_nonN : nonD .non = true := rfl
@[simp] theorem u_nonI {x : Int} : nonD (.int x) = false := rfl
@[simp] theorem u_nonB {x : Bool} : nonD (.bl x) = false := rfl
@[simp] theorem u_nonS {x : Str} : nonD (.str x) = false := rfl
@[simp] theorem u_nonT {ds : List D} : nonD (.tup ds) = false := rfl
@[simp] theorem u_nonL {ds : List D} : nonD (.lst ds) = false := rfl
@[simp] theorem u_ix {x y : D} : oIx x y M Q ↔ ∃ i, y = .int i ∧ ((∃ ds d, seqOf x M = some ds ∧ atI ds i = some d ∧ Q d M) ∨ (∃ (z : Str) (c : Nat), x = .str z ∧ z.length ≤ sizeLine ∧ atI z.cps.toList i = some c ∧ Q (.str ⟨#[c]⟩) M)) := Iff.rfl
@[simp] theorem u_sqT {ds : List D} : seqOf (.tup ds) M = some ds := rfl
@[simp] theorem u_sqL {ds : List D} : seqOf (.lst ds) M = some ds := rfl
@[simp] theorem u_sqI {x : Int} : seqOf (.int x) M = none := rfl
@[simp] theorem u_sqS {x : Str} : seqOf (.str x) M = none := rfl
@[simp] theorem u_sqR : seqOf (.ref i) M = lstOf (.ref i) M := rfl
@[simp] theorem u_lL {ds : List D} : lstOf (.lst ds) M = some ds := rfl
theorem lstOf_ref {i : Nat} {ds : List D} (h : M[i]? = some (.lst ds)) : lstOf (.ref i) M = some ds := by unfold lstOf; simp only [h]
theorem seqOf_ref {i : Nat} {ds : List D} (h : M[i]? = some (.lst ds)) : seqOf (.ref i) M = some ds := lstOf_ref h
@[simp] theorem u_setL {o i v : D} {QM : MH → Prop} : oSetL o i v M QM ↔ ∃ c ds k j, o = .ref c ∧ i = .int k ∧ M[c]? = some (.lst ds) ∧ ixN ds.length k = some j ∧ QM (M.set c (.lst (ds.set j v))) := Iff.rfl
@[simp] theorem u_len {ds : List D} : cLen ds M Q ↔ ∃ d n, ds = [d] ∧ lenD d M = some n ∧ (∀ y, d = .str y → y.length ≤ sizeLine) ∧ Q (.int (n : Int)) M := Iff.rfl
@[simp] theorem u_lenS {x : Str} : lenD (.str x) M = some x.length := rfl
@[simp] theorem u_lenT {ds : List D} : lenD (.tup ds) M = some ds.length := rfl
@[simp] theorem u_lenL {ds : List D} : lenD (.lst ds) M = some ds.length := rfl
@[simp] theorem u_lenR : lenD (.ref i) M = (lstOf (.ref i) M).map List.length := rfl
@[simp] theorem u_int1 {i : Int} : cInt [.int i] M Q ↔ Q (.int i) M := by
  constructor
  · rintro (⟨j, e, h⟩ | ⟨k, e, _⟩ | ⟨a, n, e, _⟩)
    · cases e; exact h
    · cases e
    · cases e
  · exact fun h => .inl ⟨i, rfl, h⟩
@[simp] theorem u_int2 {i : Bool} : cInt [.bl i] M Q ↔ Q (.int (if i then 1 else 0)) M := by
  constructor
  · rintro (⟨j, e, h⟩ | ⟨k, e, h⟩ | ⟨a, n, e, _⟩)
    · cases e
    · cases e; exact h
    · cases e
  · exact fun h => .inr (.inl ⟨i, rfl, h⟩)
@[simp] theorem u_I1 {gg : Int → D} {ds : List D} : cI1 gg ds M Q ↔ ∃ i, ds = [.int i] ∧ Q (gg i) M := Iff.rfl
@[simp] theorem u_I2 {gg : Int → Int → D} {ds : List D} : cI2 gg ds M Q ↔ ∃ i j, ds = [.int i, .int j] ∧ Q (gg i j) M := Iff.rfl
@[simp] theorem u_str {ds : List D} : cStr ds M Q ↔ ∃ i, ds = [.int i] ∧ i.natAbs < 2 ^ 1920 ∧ Q (.str (toString i)) M := Iff.rfl
@[simp] theorem u_bls {f : List Bool → Bool} {ds : List D} : cBls f ds M Q ↔ ∃ d es bs, ds = [d] ∧ lstOf d M = some es ∧ blsD es = some bs ∧ Q (.bl (f bs)) M := Iff.rfl
@[simp] theorem u_list {c : Bool} {ds : List D} : cList c ds M Q ↔ ∃ d es, ds = [d] ∧ seqOf d M = some es ∧ newL c es M Q := Iff.rfl
@[simp] theorem u_tuple {ds : List D} : cTuple ds M Q ↔ ∃ d es, ds = [d] ∧ seqOf d M = some es ∧ Q (.tup es) M := Iff.rfl
def onN (o : Option String) (P : String → Prop) : Prop := match o with
  | some c => P c
  | none => False
@[simp] theorem onN_some {c : String} {P : String → Prop} : onN (some c) P ↔ P c := Iff.rfl
theorem isi_iff {d : D} {T : String} (hT : ["bool", "int", "str", "tuple", "list", "dict"].contains T = true) : cIsi [d, .con (.ty T)] M Q ↔ onN (tyStr d M) fun n => Q (.bl (subTy n T)) M := by
  constructor
  · rintro ⟨d', T', n, e, _, en, h⟩
    cases e
    rw [en]; exact h
  · intro h
    cases hn : tyStr d M with
    | none => rw [hn] at h; exact h.elim
    | some n => rw [hn] at h; exact ⟨d, T, n, rfl, hT, hn, h⟩
@[simp] theorem isi_int {d : D} : cIsi [d, .con (.ty "int")] M Q ↔ onN (tyStr d M) fun n => Q (.bl (subTy n "int")) M := isi_iff rfl
@[simp] theorem isi_bool {d : D} : cIsi [d, .con (.ty "bool")] M Q ↔ onN (tyStr d M) fun n => Q (.bl (subTy n "bool")) M := isi_iff rfl
@[simp] theorem isi_str {d : D} : cIsi [d, .con (.ty "str")] M Q ↔ onN (tyStr d M) fun n => Q (.bl (subTy n "str")) M := isi_iff rfl
@[simp] theorem isi_tuple {d : D} : cIsi [d, .con (.ty "tuple")] M Q ↔ onN (tyStr d M) fun n => Q (.bl (subTy n "tuple")) M := isi_iff rfl
@[simp] theorem isi_list {d : D} : cIsi [d, .con (.ty "list")] M Q ↔ onN (tyStr d M) fun n => Q (.bl (subTy n "list")) M := isi_iff rfl
@[simp] theorem isi_dict {d : D} : cIsi [d, .con (.ty "dict")] M Q ↔ onN (tyStr d M) fun n => Q (.bl (subTy n "dict")) M := isi_iff rfl
@[simp] theorem u_append {x : D} {ds : List D} : mAppend x ds M Q ↔ ∃ c es d, x = .ref c ∧ ds = [d] ∧ M[c]? = some (.lst es) ∧ es.length < sizeLine ∧ Q .non (M.set c (.lst (es ++ [d]))) := Iff.rfl
@[simp] theorem u_popAt {x : D} {ds : List D} : mPopAt x ds M Q ↔ ∃ c es i k d, x = .ref c ∧ ds = [.int i] ∧ M[c]? = some (.lst es) ∧ ixN es.length i = some k ∧ -(2 ^ 63) ≤ i ∧ i < 2 ^ 63 ∧ es[k]? = some d ∧ Q d (M.set c (.lst (es.eraseIdx k))) := Iff.rfl
@[simp] theorem u_lrg {c : Bool} {tr : EnvD → MH → (Int → Int → MH → Prop) → QX → Prop} : tListRg' c tr δ M Q E ↔ tr δ M (fun a b M1 => RgOk a b ∧ newL c (rangeD a (b - a).toNat) M1 Q) E := Iff.rfl
@[simp] theorem u_trg {tr : EnvD → MH → (Int → Int → MH → Prop) → QX → Prop} : tTupRg' tr δ M Q E ↔ tr δ M (fun a b M1 => RgOk a b ∧ Q (.tup (rangeD a (b - a).toNat)) M1) E := Iff.rfl
@[simp] theorem u_rg1 {QR : Int → Int → MH → Prop} : tRg1' te δ M QR E ↔ te δ M (fun d M1 => ∃ n, d = .int n ∧ QR 0 n M1) E := Iff.rfl
@[simp] theorem u_rt {n : Nat} : (retE n Q E).rt d M ↔ Q d (popM n d M) := Iff.rfl
@[simp] theorem u_nx {n : Nat} : (retE n Q E).nx δ M ↔ Q .non (popM n .non M) := Iff.rfl
@[simp] theorem u_ex {n : Nat} {x : Xc} : (retE n Q E).ex x δ M ↔ E x (popX n x M) := Iff.rfl
end
/-! numbers -/
theorem e_fdiv {i j : Int} (h : 0 < j) : i.fdiv j = i / j := Int.fdiv_eq_ediv_of_nonneg i (by omega)
theorem e_fmod {i j : Int} (h : 0 < j) : i.fmod j = i % j := Int.fmod_eq_emod_of_nonneg i (by omega)
theorem mulOk_l {i j : Int} (h : -(2 ^ 64) < i ∧ i < 2 ^ 64) : MulOk i j := .inl (.inl h)
theorem mulOk_r {i j : Int} (h : -(2 ^ 64) < j ∧ j < 2 ^ 64) : MulOk i j := .inl (.inr h)
set_option exponentiation.threshold 10000 in
theorem pow_9000 : (2 : Nat) ^ 64 ≤ 2 ^ 9000 := Nat.pow_le_pow_right (by decide) (by decide)
theorem divOk_of {j : Int} (h : 0 < j) (h2 : j < 2 ^ 64) : DivOk j := ⟨by omega, Nat.lt_of_lt_of_le (by omega) pow_9000⟩
theorem atI_n {α : Type} {xs : List α} {i : Int} {x : α} (h0 : 0 ≤ i) (h : xs[i.toNat]? = some x) : atI xs i = some x := by
  unfold atI ixN
  have := (List.getElem?_eq_some_iff.mp h).1
  rw [if_pos h0, if_pos (by omega)]
  exact h
theorem ixN_n {n : Nat} {i : Int} (h0 : 0 ≤ i) (h : i < n) : ixN n i = some i.toNat := by
  unfold ixN
  rw [if_pos h0, if_pos h]
@[simp] theorem atI_0 {α : Type} {x : α} {r : List α} : atI (x :: r) 0 = some x := atI_n (by decide) rfl
@[simp] theorem atI_1 {α : Type} {x y : α} {r : List α} : atI (x :: y :: r) 1 = some y := atI_n (by decide) rfl
@[simp] theorem atI_2 {α : Type} {x y z : α} {r : List α} : atI (x :: y :: z :: r) 2 = some z := atI_n (by decide) rfl
@[simp] theorem atI_3 {α : Type} {x y z u : α} {r : List α} : atI (x :: y :: z :: u :: r) 3 = some u := atI_n (by decide) rfl
/-! one statement at a time -/
theorem seq_step {s1 s2 : TS'} {DD : Ends'} {δ : EnvD} {M : MH} (h : ∀ S : TS', S = s2 → s1 { DD with nx := S DD } δ M) : tSeq' s1 s2 DD δ M := h s2 rfl
/-! loops -/
theorem forL_ind {it : ItD} {g : TG'} {tb : TS'} {DD : Ends'} (P : List D → EnvD → MH → Prop) (h0 : ∀ δ M, P [] δ M → it.still M ∧ DD.nx δ M)
    (hs : ∀ d r δ M (F : EnvD → MH → Prop), P (d :: r) δ M → (∀ δ' M', P r δ' M' → F δ' M') → it.still M ∧ g d δ M (fun δ1 M1 => tb { DD with nx := F, ct := F, bk := DD.nx } δ1 M1)) :
    ∀ ds δ M, P ds δ M → forL it g tb DD ds δ M
  | [], δ, M, h => h0 δ M h
  | d :: r, δ, M, h => hs d r δ M _ h (fun δ' M' h' => forL_ind P h0 hs r δ' M' h')
theorem lcL_ind {it : ItD} {g : TG'} {tt : TT'} {te : TE'} {vs : List Nat} {δ : EnvD} {Q : List D → MH → Prop} (P : List D → List D → MH → Prop) (h0 : ∀ acc M, P [] acc M → it.still M ∧ Q acc M)
    (hs : ∀ d r acc M (F : List D → MH → Prop), P (d :: r) acc M → (∀ acc' M', P r acc' M' → F acc' M') → it.still M ∧ g d (wipeD δ vs) M fun δ2 M2 => tt δ2 M2 (fun b M3 =>
      if b = true then te δ2 M3 (fun y M4 => acc.length < sizeLine ∧ F (acc ++ [y]) M4) (fun _ _ => False) else F acc M3) (fun _ _ => False)) :
    ∀ ds acc M, P ds acc M → lcL it g tt te vs δ Q ds acc M
  | [], acc, M, h => h0 acc M h
  | d :: r, acc, M, h => hs d r acc M _ h (fun acc' M' h' => lcL_ind P h0 hs r acc' M' h')
/-- a comprehension of one name whose element is a function of the item -/
theorem lcL_map {it : ItD} {te : TE'} {i : Nat} {vs : List Nat} {δ : EnvD} {M : MH} {Q : List D → MH → Prop} (f : D → D) (hst : it.still M) :
    ∀ (ds acc : List D), (∀ d ∈ ds, ∀ Q' : QE, Q' (f d) M → te ((wipeD δ vs).set i (some d)) M Q' (fun _ _ => False)) → acc.length + ds.length ≤ sizeLine → Q (acc ++ ds.map f) M → lcL it (gName' i) tYes' te vs δ Q ds acc M
  | [], acc, _, _, q => ⟨hst, by simpa using q⟩
  | d :: r, acc, h, hl, q => ⟨hst, by
    show te ((wipeD δ vs).set i (some d)) M _ _
    refine h d List.mem_cons_self _ ⟨by simp at hl; omega, ?_⟩
    refine lcL_map f hst r (acc ++ [f d]) (fun e he => h e (List.mem_cons_of_mem _ he)) (by simp at hl ⊢; omega) ?_
    simpa using q⟩
theorem whileN_ind {c : TT'} {tb : TS'} {DD : Ends'} (P : EnvD → MH → Prop) (μ : EnvD → MH → Nat)
    (hs : ∀ δ M (F : EnvD → MH → Prop), P δ M → (∀ δ' M', P δ' M' → μ δ' M' < μ δ M → F δ' M') →
      c δ M (fun b M1 => if b = true then tb { DD with nx := F, ct := F, bk := DD.nx } δ M1 else DD.nx δ M1) (fun x M1 => DD.ex x δ M1)) :
    ∀ n δ M, P δ M → μ δ M < n → whileN c tb DD n δ M
  | 0, _, _, _, h => absurd h (Nat.not_lt_zero _)
  | n + 1, δ, M, p, h => hs δ M _ p (fun δ' M' p' l => whileN_ind P μ hs n δ' M' p' (by omega))
theorem while_ind {c : TT'} {tb : TS'} {DD : Ends'} (P : EnvD → MH → Prop) (μ : EnvD → MH → Nat)
    (hs : ∀ δ M (F : EnvD → MH → Prop), P δ M → (∀ δ' M', P δ' M' → μ δ' M' < μ δ M → F δ' M') →
      c δ M (fun b M1 => if b = true then tb { DD with nx := F, ct := F, bk := DD.nx } δ M1 else DD.nx δ M1) (fun x M1 => DD.ex x δ M1))
    {δ : EnvD} {M : MH} (p : P δ M) : ∃ n, whileN c tb DD n δ M := ⟨μ δ M + 1, whileN_ind P μ hs _ δ M p (Nat.lt_succ_self _)⟩
end MD
namespace Kit
open MD L2 PySem
/-! what a law draws -/
abbrev N__law_pool : List Str := ["script", "cell"]
abbrev N__law_take : List Str := ["pool", "many", "cell", "mixed", "digit"]
abbrev N__law_pick : List Str := ["pool", "rows"]
def r__law_pool : TS' := (tRet' (tLst' true (tCons' (tLc' false (tIt' (tVar' 0)) (gName' 1) tYes' (tIf' (tB' (tOp' (oI0 fun i j => .bl (decide (j ≤ i))) (tVar' 1) (tC' (.int 0)))) (tOp' (oMul false) (tC' (.int 2)) (tVar' 1)) (tOp' oSub (tOp' (oMul false) (tUn' oNeg (tC' (.int 2))) (tVar' 1)) (tC' (.int 1)))) [1]) (tCons' (tC' (.int 0)) (tCons' (tC' (.int 0)) (tCons' (tC' (.int 17)) tNil'))))))
/-- the list that a law draws from -/
def poolD (ns : List Int) (i b s : Int) : Cell := .lst [.lst (ns.map D.int), .int i, .int b, .int s]
def Pool (M : MH) (p : Nat) : Prop := ∃ (ns : List Int) (i b s : Int), M[p]? = some (poolD ns i b s) ∧ (∀ n ∈ ns, 0 ≤ n) ∧ 0 ≤ i ∧ 0 ≤ s ∧ s < 2147483647
def sp__law_pool : SpD := fun ds M Q _ => ∃ ns : List Int, ds = [.scr ns] ∧ ns.length ≤ 63 ∧ ∀ ms : List Int, (∀ n ∈ ms, 0 ≤ n) → Q (.ref M.length) (M ++ [poolD ms 0 0 17])
theorem mono__law_pool : MonoP sp__law_pool := fun ds M Q Q' E E' q x ⟨ns, e, hl, h⟩ => ⟨ns, e, hl, fun ms hm => q _ _ (h ms hm)⟩
theorem len__law_pool (ds M Q E) (h : sp__law_pool ds M Q E) : ds.length = 1 := by obtain ⟨ns, rfl, _⟩ := h; rfl
theorem math__law_pool (ds M Q E) (hM : WFM M) (hb : D.belL M.length ds = true) (h : sp__law_pool ds M Q E) : r__law_pool (retE M.length Q E) (startD N__law_pool ds) M := by
  obtain ⟨ns, rfl, hl, q⟩ := h
  have hz : (sizeLine : Nat) = 16777216 := by decide
  simp [r__law_pool, startD]
  refine lcL_map (fun d => match d with | .int n => .int (if 0 ≤ n then 2 * n else -2 * n - 1) | d => d) (by exact trivial) _ _ ?_ ?_ ?_
  · intro d hd Q' q'
    rw [List.mem_map] at hd
    obtain ⟨n, _, rfl⟩ := hd
    by_cases hn : 0 ≤ n
    · simp [wipeD, hn] at q' ⊢
      exact ⟨mulOk_l (by decide), q'⟩
    · simp [wipeD, hn] at q' ⊢
      exact ⟨mulOk_l (by decide), q'⟩
  · simp; omega
  · refine ⟨by show 4 ≤ sizeLine; decide, ?_⟩
    have e : (List.map (fun d => match d with | .int n => D.int (if 0 ≤ n then 2 * n else -2 * n - 1) | d => d) (List.map D.int ns)) = (ns.map fun n => if 0 ≤ n then 2 * n else -2 * n - 1).map D.int := by
      rw [List.map_map, List.map_map]; rfl
    rw [List.nil_append, e]
    have := q (ns.map fun n => if 0 ≤ n then 2 * n else -2 * n - 1) (by
      intro n hn
      rw [List.mem_map] at hn
      obtain ⟨k, _, rfl⟩ := hn
      split <;> omega)
    have e2 : popM M.length (.ref M.length) (M ++ [poolD (ns.map fun n => if 0 ≤ n then 2 * n else -2 * n - 1) 0 0 17]) = M ++ [poolD (ns.map fun n => if 0 ≤ n then 2 * n else -2 * n - 1) 0 0 17] := by
      unfold popM
      rw [if_neg]
      rintro ⟨h, _⟩
      unfold D.bel at h
      simp at h
    unfold poolD at e2 this
    rw [e2]
    exact this
/-- one more drawn -/
def Step (p : Nat) (M M' : MH) : Prop := (∃ c, M' = M.set p c) ∧ Pool M' p
theorem Step.length {p : Nat} {M M' : MH} (h : Step p M M') : M'.length = M.length := by obtain ⟨⟨c, rfl⟩, _⟩ := h; simp
theorem Step.other {p q : Nat} {M M' : MH} (h : Step p M M') (n : q ≠ p) : M'[q]? = M[q]? := by obtain ⟨⟨c, rfl⟩, _⟩ := h; rw [List.getElem?_set_ne (Ne.symm n)]
theorem Step.trans {p : Nat} {M M1 M2 : MH} (h : Step p M M1) (k : Step p M1 M2) : Step p M M2 := by
  obtain ⟨⟨c, rfl⟩, _⟩ := h
  obtain ⟨⟨c2, rfl⟩, h2⟩ := k
  exact ⟨⟨c2, by rw [List.set_set]⟩, h2⟩
def spr__law_take (n : Nat) : SpD := fun ds M Q _ => ∃ (p : Nat) (many : Int), ds = [.ref p, .int many] ∧ 0 < many ∧ many ≤ 1000000000000000000000000000000 ∧ Pool M p ∧ (n = 1 → ∃ ns i b s, M[p]? = some (poolD ns i b s) ∧ (∀ n ∈ ns, 0 ≤ n) ∧ 0 ≤ i ∧ 0 ≤ s ∧ s < 2147483647 ∧ 0 < b) ∧ n ≠ 0 ∧
  ∀ r M', 0 ≤ r → r < many → Step p M M' → Q (.int r) M'
def sp__law_take : SpD := fun ds M Q _ => ∃ (p : Nat) (many : Int), ds = [.ref p, .int many] ∧ 0 < many ∧ many ≤ 1000000000000000000000000000000 ∧ Pool M p ∧ ∀ r M', 0 ≤ r → r < many → Step p M M' → Q (.int r) M'
theorem mono__law_take : MonoP sp__law_take := fun ds M Q Q' E E' q x ⟨p, m, e, h1, h2, h3, h⟩ => ⟨p, m, e, h1, h2, h3, fun r M' a b c => q _ _ (h r M' a b c)⟩
theorem monor__law_take (n : Nat) : MonoP (spr__law_take n) := fun ds M Q Q' E E' q x ⟨p, m, e, h1, h2, h3, h4, h5, h⟩ => ⟨p, m, e, h1, h2, h3, h4, h5, fun r M' a b c => q _ _ (h r M' a b c)⟩
theorem lenr__law_take (n : Nat) (ds M Q E) (h : spr__law_take n ds M Q E) : ds.length = 2 := by obtain ⟨_, _, rfl, _⟩ := h; rfl
theorem zero__law_take (ds M Q E) (h : spr__law_take 0 ds M Q E) : False := by obtain ⟨_, _, _, _, _, _, _, h, _⟩ := h; exact h rfl
theorem sub__law_take {ds M Q E} (h : sp__law_take ds M Q E) : spr__law_take 2 ds M Q E := by
  obtain ⟨p, m, e, h1, h2, h3, h⟩ := h
  exact ⟨p, m, e, h1, h2, h3, fun z => by omega, by decide, h⟩
def rr__law_take (i : Nat) : TS' := (tSeq' (tIfS' (tB' (tOp' (oI0 fun i j => .bl (decide (j < i))) (tOp' oIx (tVar' 0) (tC' (.int 2))) (tC' (.int 0)))) (tSeq' (tAsg' (tOp' oMod (tCB' cInt (tCons' (tOp' oIx (tVar' 0) (tC' (.int 2))) tNil')) (tVar' 1)) (gName' 4))
    (tSeq' (tAsg' (tOp' oFdiv (tOp' oIx (tVar' 0) (tC' (.int 2))) (tVar' 1)) (gSub' (tVar' 0) (tC' (.int 2)) oSetL))
    (tRet' (tVar' 4)))) tNext')
    (tSeq' (tAsg' (tC' (.int 0)) (gName' 2))
    (tSeq' (tIfS' (tB' (tOp' (oI0 fun i j => .bl (decide (i < j))) (tOp' oIx (tVar' 0) (tC' (.int 1))) (tCB' cLen (tCons' (tOp' oIx (tVar' 0) (tC' (.int 0))) tNil')))) (tAsg' (tOp' oIx (tOp' oIx (tVar' 0) (tC' (.int 0))) (tOp' oIx (tVar' 0) (tC' (.int 1)))) (gName' 2)) tNext')
    (tSeq' (tAsg' (tOp' (oAdd false) (tOp' oIx (tVar' 0) (tC' (.int 1))) (tC' (.int 1))) (gSub' (tVar' 0) (tC' (.int 1)) oSetL))
    (tSeq' (tIfS' (tB' (tOp' (oI0 fun i j => .bl (decide (j ≤ i))) (tVar' 2) (tOp' oPow (tC' (.int 10)) (tC' (.int 18))))) (tSeq' (tAsg' (tOp' oFdiv (tVar' 2) (tC' (.int 2))) (gSub' (tVar' 0) (tC' (.int 2)) oSetL))
    (tRet' (tCall' (spr__law_take i) (tCons' (tVar' 0) (tCons' (tVar' 1) tNil'))))) tNext')
    (tSeq' (tAsg' (tOp' oMod (tCB' cInt (tCons' (tOp' (oAdd false) (tOp' (oAdd false) (tOp' (oMul false) (tOp' oIx (tVar' 0) (tC' (.int 3))) (tC' (.int 48271))) (tOp' (oMul false) (tVar' 2) (tC' (.int 69621)))) (tOp' (oMul false) (tOp' oIx (tVar' 0) (tC' (.int 1))) (tC' (.int 613)))) tNil')) (tC' (.int 2147483647))) (gSub' (tVar' 0) (tC' (.int 3)) oSetL))
    (tSeq' (tAsg' (tOp' oMod (tCB' cInt (tCons' (tOp' (oAdd false) (tOp' (oAdd false) (tOp' (oMul false) (tOp' oIx (tVar' 0) (tC' (.int 3))) (tOp' oIx (tVar' 0) (tC' (.int 3)))) (tOp' (oMul false) (tOp' oIx (tVar' 0) (tC' (.int 3))) (tC' (.int 7919)))) (tC' (.int 104729))) tNil')) (tC' (.int 1000000007))) (gName' 3))
    (tRet' (tOp' oMod (tCB' cInt (tCons' (tOp' oFdiv (tVar' 3) (tC' (.int 3))) tNil')) (tVar' 1))))))))))
theorem set_self {M : MH} {p : Nat} {c d : Cell} (h : M[p]? = some c) : (M.set p d)[p]? = some d := List.getElem?_set_self (List.getElem?_eq_some_iff.mp h).1
theorem mathr__law_take (n : Nat) (ds M Q E) (hM : WFM M) (hb : D.belL M.length ds = true) (h : spr__law_take (n + 1) ds M Q E) : rr__law_take n (retE M.length Q E) (startD N__law_take ds) M := by
  obtain ⟨p, many, rfl, h1, h2, ⟨ns, i, b, s, hp, hns, hi, hs0, hs1⟩, h4, _, q⟩ := h
  have hp' := hp
  unfold poolD at hp
  have lp : ∀ {M' : MH} {a0 a1 a2 a3 : D}, M'[p]? = some (.lst [a0, a1, a2, a3]) → lstOf (.ref p) M' = some [a0, a1, a2, a3] := fun h => lstOf_ref h
  have dv : ∀ x : Int, DivOk many := fun _ => ⟨by omega, Nat.lt_of_lt_of_le (show many.natAbs < 2 ^ 100 by omega) (Nat.pow_le_pow_right (by decide) (by decide))⟩
  unfold rr__law_take
  refine seq_step fun S hS => ?_
  simp [startD, lp hp]
  by_cases hb0 : 0 < b
  · simp [hb0, hp, lp hp, dv b, ixN, List.set]
    refine ⟨by omega, ?_⟩
    rw [e_fmod h1, e_fdiv h1, popM_same (by simp)]
    exact q _ _ (Int.emod_nonneg _ (by omega)) (Int.emod_lt_of_pos _ h1) ⟨⟨_, rfl⟩, ns, i, b / many, s, set_self hp, hns, hi, hs0, hs1⟩
  · simp [hb0]
    subst hS
    refine seq_step fun S hS => ?_
    simp
    subst hS
    refine seq_step fun S hS => ?_
    have key : ∃ cell : Int, 0 ≤ cell ∧ (S (retE M.length Q E) [some (.ref p), some (.int many), some (.int cell), none, none] M → (tIfS' (tB' (tOp' (oI0 fun i j => .bl (decide (i < j))) (tOp' oIx (tVar' 0) (tC' (.int 1))) (tCB' cLen (tCons' (tOp' oIx (tVar' 0) (tC' (.int 0))) tNil')))) (tAsg' (tOp' oIx (tOp' oIx (tVar' 0) (tC' (.int 0))) (tOp' oIx (tVar' 0) (tC' (.int 1)))) (gName' 2)) tNext') { retE M.length Q E with nx := S (retE M.length Q E) } [some (.ref p), some (.int many), some (.int 0), none, none] M) := by
      by_cases hl : i < (ns.length : Int)
      · have hg : (ns.map D.int)[i.toNat]? = some (.int ns[i.toNat]) := by
          rw [List.getElem?_map, List.getElem?_eq_getElem (show i.toNat < ns.length by omega)]; rfl
        exact ⟨ns[i.toNat], hns _ (List.getElem_mem _), fun h => by simp [lp hp, hl, atI_n hi hg]; exact h⟩
      · exact ⟨0, by omega, fun h => by simp [lp hp, hl]; exact h⟩
    obtain ⟨cell, hc, key⟩ := key
    refine key ?_
    subst hS
    refine seq_step fun S hS => ?_
    simp [lp hp, hp, ixN, List.set]
    subst hS
    generalize hM1 : List.set M p (Cell.lst [D.lst (List.map D.int ns), D.int (i + 1), D.int b, D.int s]) = M1
    have hp1 : M1[p]? = some (.lst [D.lst (List.map D.int ns), D.int (i + 1), D.int b, D.int s]) := by rw [← hM1]; exact set_self hp
    have hl1 : M1.length = M.length := by rw [← hM1]; simp
    have ms : ∀ c, List.set M1 p c = List.set M p c := fun c => by rw [← hM1, List.set_set]
    refine seq_step fun S hS => ?_
    have cp : CPow 10 18 := ⟨by decide, by decide, by decide⟩
    simp [cp]
    by_cases hbig : 1000000000000000000 ≤ cell
    · simp [hbig, hp1, ixN, List.set, ms, e_fdiv]
      refine ⟨divOk_of (by decide) (by decide), ?_⟩
      have hst : Step p M (List.set M p (Cell.lst [D.lst (List.map D.int ns), D.int (i + 1), D.int (cell / 2), D.int s])) := ⟨⟨_, rfl⟩, ns, i + 1, cell / 2, s, set_self hp, hns, by omega, hs0, hs1⟩
      refine ⟨p, many, rfl, h1, h2, hst.2, fun _ => ⟨ns, i + 1, cell / 2, s, set_self hp, hns, by omega, hs0, hs1, by omega⟩, fun z => ?_, fun r M' a b c => ?_⟩
      · subst z
        obtain ⟨ns', i', b', s', e, _, _, _, _, hb'⟩ := h4 rfl
        rw [hp'] at e
        simp [poolD] at e
        omega
      · show Q (.int r) (popM M.length (.int r) M')
        rw [popM_same (by rw [c.length]; simp)]
        exact q r M' a b (hst.trans c)
    · simp [hbig]
      subst hS
      refine seq_step fun S hS => ?_
      simp [lp hp1, hp1, ixN, List.set, ms, e_fmod]
      refine ⟨mulOk_r (by decide), mulOk_r (by decide), mulOk_r (by decide), ?_⟩
      subst hS
      generalize hs2 : (s * 48271 + cell * 69621 + (i + 1) * 613) % 2147483647 = s2
      have h20 : 0 ≤ s2 := by omega
      have h21 : s2 < 2147483647 := by omega
      generalize hM2 : List.set M p (Cell.lst [D.lst (List.map D.int ns), D.int (i + 1), D.int b, D.int s2]) = M2
      have hp2 : M2[p]? = some (.lst [D.lst (List.map D.int ns), D.int (i + 1), D.int b, D.int s2]) := by rw [← hM2]; exact set_self hp
      refine seq_step fun S hS => ?_
      simp [lp hp2, hp2, e_fmod]
      refine ⟨mulOk_r (by omega), mulOk_r (by decide), ?_⟩
      subst hS
      simp [e_fmod h1, e_fdiv]
      refine ⟨divOk_of (by decide) (by decide), by omega, ?_⟩
      rw [popM_same (by rw [← hM2]; simp)]
      exact q _ _ (Int.emod_nonneg _ (by omega)) (Int.emod_lt_of_pos _ h1) ⟨⟨_, hM2.symm⟩, ns, i + 1, b, s2, hp2, hns, by omega, h20, h21⟩
def sp__law_pick : SpD := fun ds M Q _ => ∃ (p : Nat) (x : D) (xs : List D), ds = [.ref p, x] ∧ Pool M p ∧ x ≠ .ref p ∧ seqOf x M = some xs ∧ (∀ M', Step p M M' → seqOf x M' = some xs) ∧ xs ≠ [] ∧ xs.length ≤ 1000000 ∧ ∀ d M', d ∈ xs → Step p M M' → Q d M'
theorem mono__law_pick : MonoP sp__law_pick := fun ds M Q Q' E E' q x ⟨p, y, xs, e, h1, h2, h3, h4, h5, h6, h⟩ => ⟨p, y, xs, e, h1, h2, h3, h4, h5, h6, fun d M' a b => q _ _ (h d M' a b)⟩
theorem len__law_pick (ds M Q E) (h : sp__law_pick ds M Q E) : ds.length = 2 := by obtain ⟨_, _, _, rfl, _⟩ := h; rfl
def r__law_pick : TS' := (tRet' (tOp' oIx (tVar' 1) (tCall' sp__law_take (tCons' (tVar' 0) (tCons' (tCB' cLen (tCons' (tVar' 1) tNil')) tNil')))))
theorem lenD_seq {d : D} {M : MH} {ds : List D} (h : seqOf d M = some ds) : lenD d M = some ds.length ∧ ∀ y, d ≠ .str y := by
  cases d with
  | str x => cases h
  | _ => refine ⟨?_, fun _ => by simp⟩; unfold lenD; simp only [h]; rfl
theorem math__law_pick (ds M Q E) (hM : WFM M) (hb : D.belL M.length ds = true) (h : sp__law_pick ds M Q E) : r__law_pick (retE M.length Q E) (startD N__law_pick ds) M := by
  obtain ⟨p, x, xs, rfl, h1, h2, h3, h4, h5, h6, q⟩ := h
  obtain ⟨l1, l2⟩ := lenD_seq h3
  have hl : 0 < xs.length := List.length_pos_iff.mpr h5
  simp [r__law_pick, startD, l1]
  refine ⟨fun y e => (l2 y e).elim, ?_⟩
  refine ⟨p, xs.length, rfl, by omega, by omega, h1, fun r M' a b c => ?_⟩
  have hr : xs[r.toNat]? = some xs[r.toNat] := List.getElem?_eq_getElem (by omega)
  refine ⟨r, rfl, .inl ⟨xs, h4 M' c, xs[r.toNat], atI_n a hr, ?_⟩⟩
  show Q _ (popM M.length _ M')
  rw [popM_same (by rw [c.length]; exact Nat.le_refl _)]
  exact q _ M' (List.getElem_mem _) c
end Kit
namespace Kit
open MD L2 PySem
/-! what a law holds against what is due -/
abbrev N__law_is_integer : List Str := ["actual"]
abbrev N__law_same : List Str := ["actual", "due", "k"]
theorem mem_rangeD {lo : Int} {n : Nat} {d : D} (h : d ∈ rangeD lo n) : ∃ i : Nat, i < n ∧ d = .int (lo + i) := by
  unfold rangeD at h
  rw [List.mem_map] at h
  obtain ⟨i, hi, rfl⟩ := h
  exact ⟨i, List.mem_range.mp hi, rfl⟩
mutual
def plainD (n : Nat) : D → Bool
  | .non => true
  | .bl _ => true
  | .int _ => true
  | .str _ => true
  | .tup ds => decide (0 < n) && decide (ds.length ≤ sizeLine) && plainL (n - 1) ds
  | .lst ds => decide (0 < n) && decide (ds.length ≤ sizeLine) && plainL (n - 1) ds
  | _ => false
def plainL (n : Nat) : List D → Bool
  | [] => true
  | d :: ds => plainD n d && plainL n ds
end
theorem plainL_mem {n : Nat} : ∀ {ds : List D} {d : D}, plainL n ds = true → d ∈ ds → plainD n d = true
  | [], _, _, h => nomatch h
  | e :: r, d, hp, h => by
    unfold plainL at hp
    rw [Bool.and_eq_true] at hp
    rcases List.mem_cons.mp h with rfl | h
    · exact hp.1
    · exact plainL_mem hp.2 h
def r__law_is_integer : TS' := (tRet' (tAndV' (tCB' cIsi (tCons' (tVar' 0) (tCons' (tC' (.con (.ty "int"))) tNil'))) (tNotV' (tCB' cIsi (tCons' (tVar' 0) (tCons' (tC' (.con (.ty "bool"))) tNil'))))))
def sp__law_is_integer : SpD := fun ds M Q _ => ∃ d n, ds = [d] ∧ tyStr d M = some n ∧ Q (.bl (n == "int")) M
theorem mono__law_is_integer : MonoP sp__law_is_integer := fun ds M Q Q' E E' q x ⟨d, n, e, h1, h⟩ => ⟨d, n, e, h1, q _ _ h⟩
theorem len__law_is_integer (ds M Q E) (h : sp__law_is_integer ds M Q E) : ds.length = 1 := by obtain ⟨_, _, rfl, _⟩ := h; rfl
theorem known_cases {n : String} (h : knownTy n = true) : n = "NoneType" ∨ n = "bool" ∨ n = "int" ∨ n = "str" ∨ n = "tuple" ∨ n = "list" ∨ n = "dict" := by simpa [knownTy] using h
theorem math__law_is_integer (ds M Q E) (hM : WFM M) (hb : D.belL M.length ds = true) (h : sp__law_is_integer ds M Q E) : r__law_is_integer (retE M.length Q E) (startD N__law_is_integer ds) M := by
  obtain ⟨d, n, rfl, h1, q⟩ := h
  simp [r__law_is_integer, startD, h1]
  rcases known_cases (tyStr_known h1) with rfl | rfl | rfl | rfl | rfl | rfl | rfl <;> simpa [subTy, popM_same] using q
def spr__law_same (n : Nat) : SpD := fun ds M Q _ => ∃ d, ds = [d, d] ∧ n ≠ 0 ∧ plainD (n - 1) d = true ∧ Q (.bl true) M
def sp__law_same : SpD := fun ds M Q _ => ∃ d, ds = [d, d] ∧ plainD 5 d = true ∧ Q (.bl true) M
theorem mono__law_same : MonoP sp__law_same := fun ds M Q Q' E E' q x ⟨d, e, h1, h⟩ => ⟨d, e, h1, q _ _ h⟩
theorem monor__law_same (n : Nat) : MonoP (spr__law_same n) := fun ds M Q Q' E E' q x ⟨d, e, h0, h1, h⟩ => ⟨d, e, h0, h1, q _ _ h⟩
theorem lenr__law_same (n : Nat) (ds M Q E) (h : spr__law_same n ds M Q E) : ds.length = 2 := by obtain ⟨_, rfl, _⟩ := h; rfl
theorem zero__law_same (ds M Q E) (h : spr__law_same 0 ds M Q E) : False := by obtain ⟨_, _, h, _⟩ := h; exact h rfl
theorem sub__law_same {ds M Q E} (h : sp__law_same ds M Q E) : spr__law_same 6 ds M Q E := by
  obtain ⟨d, e, h1, h⟩ := h
  exact ⟨d, e, by decide, h1, h⟩
def rr__law_same (i : Nat) : TS' := (tSeq' (tIfS' (tTru' (tCB' cIsi (tCons' (tVar' 1) (tCons' (tC' (.con (.ty "tuple"))) tNil')))) (tSeq' (tIfS' (tOr' (tNot' (tTru' (tCB' cIsi (tCons' (tVar' 0) (tCons' (tC' (.con (.ty "tuple"))) tNil'))))) (tB' (tOp' (oEq true) (tCB' cLen (tCons' (tVar' 0) tNil')) (tCB' cLen (tCons' (tVar' 1) tNil'))))) (tRet' (tC' (.bl false))) tNext')
    (tRet' (tCB' (cBls fun bs => bs.all id) (tCons' (tLc' false (tRng1' (tCons' (tCB' cLen (tCons' (tVar' 1) tNil')) tNil')) (gName' 2) tYes' (tCall' (spr__law_same i) (tCons' (tOp' oIx (tVar' 0) (tVar' 2)) (tCons' (tOp' oIx (tVar' 1) (tVar' 2)) tNil'))) [2]) tNil')))) tNext')
    (tSeq' (tIfS' (tTru' (tCB' cIsi (tCons' (tVar' 1) (tCons' (tC' (.con (.ty "list"))) tNil')))) (tSeq' (tIfS' (tOr' (tNot' (tTru' (tCB' cIsi (tCons' (tVar' 0) (tCons' (tC' (.con (.ty "list"))) tNil'))))) (tB' (tOp' (oEq true) (tCB' cLen (tCons' (tVar' 0) tNil')) (tCB' cLen (tCons' (tVar' 1) tNil'))))) (tRet' (tC' (.bl false))) tNext')
    (tRet' (tCB' (cBls fun bs => bs.all id) (tCons' (tLc' false (tRng1' (tCons' (tCB' cLen (tCons' (tVar' 1) tNil')) tNil')) (gName' 2) tYes' (tCall' (spr__law_same i) (tCons' (tOp' oIx (tVar' 0) (tVar' 2)) (tCons' (tOp' oIx (tVar' 1) (tVar' 2)) tNil'))) [2]) tNil')))) tNext')
    (tSeq' (tIfS' (tB' (tOp' (oIsN' false) (tVar' 1) (tC' .non))) (tRet' (tOp' (oIsN' false) (tVar' 0) (tC' .non))) tNext')
    (tSeq' (tIfS' (tTru' (tCB' cIsi (tCons' (tVar' 1) (tCons' (tC' (.con (.ty "bool"))) tNil')))) (tRet' (tAndV' (tCB' cIsi (tCons' (tVar' 0) (tCons' (tC' (.con (.ty "bool"))) tNil'))) (tOp' (oEq false) (tVar' 0) (tVar' 1)))) tNext')
    (tSeq' (tIfS' (tTru' (tCB' cIsi (tCons' (tVar' 1) (tCons' (tC' (.con (.ty "str"))) tNil')))) (tRet' (tAndV' (tCB' cIsi (tCons' (tVar' 0) (tCons' (tC' (.con (.ty "str"))) tNil'))) (tOp' (oEq false) (tVar' 0) (tVar' 1)))) tNext')
    (tRet' (tAndV' (tCall' sp__law_is_integer (tCons' (tVar' 0) tNil')) (tOp' (oEq false) (tVar' 0) (tVar' 1)))))))))
theorem bls_true : ∀ ds : List D, blsD (ds.map fun _ => D.bl true) = some (ds.map fun _ => true)
  | [] => rfl
  | d :: r => by
    rw [List.map_cons, List.map_cons]
    show (blsD (r.map fun _ => D.bl true)).map (true :: ·) = _
    rw [bls_true r]; rfl
theorem all_true : ∀ ds : List D, (ds.map fun _ => true).all id = true
  | [] => rfl
  | d :: r => by rw [List.map_cons, List.all_cons, all_true r]; rfl
@[simp] theorem ty_tup {ds : List D} {M : MH} : tyStr (.tup ds) M = some "tuple" := rfl
@[simp] theorem ty_lst {ds : List D} {M : MH} : tyStr (.lst ds) M = some "list" := rfl
@[simp] theorem ty_int {x : Int} {M : MH} : tyStr (.int x) M = some "int" := rfl
@[simp] theorem ty_str {x : Str} {M : MH} : tyStr (.str x) M = some "str" := rfl
@[simp] theorem ty_bl {x : Bool} {M : MH} : tyStr (.bl x) M = some "bool" := rfl
@[simp] theorem ty_non {M : MH} : tyStr .non M = some "NoneType" := rfl
theorem same_seq {n : Nat} {ds : List D} {x : D} {M : MH} (hx : x = .tup ds ∨ x = .lst ds) (hl : ds.length ≤ sizeLine) (hp : plainL n ds = true) {Q : QE} {E : QX} (q : Q (.bl true) M) {m : D} :
    (tCB' (cBls fun bs => bs.all id) (tCons' (tLc' false (tRng1' (tCons' (tCB' cLen (tCons' (tVar' 1) tNil')) tNil')) (gName' 2) tYes' (tCall' (spr__law_same (n + 1)) (tCons' (tOp' oIx (tVar' 0) (tVar' 2)) (tCons' (tOp' oIx (tVar' 1) (tVar' 2)) tNil'))) [2]) tNil')) [some x, some x, none] M Q E := by
  have hz : (sizeLine : Nat) = 16777216 := by decide
  have hs : seqOf x M = some ds := by rcases hx with rfl | rfl <;> rfl
  have hlen : lenD x M = some ds.length := by rcases hx with rfl | rfl <;> rfl
  have hstr : ∀ y, x = .str y → False := by rcases hx with rfl | rfl <;> simp
  simp [hlen]
  refine ⟨fun y e => (hstr y e).elim, by omega, ?_⟩
  refine lcL_map (fun _ => .bl true) (by exact trivial) _ _ (fun d hd Q' q' => ?_) (by simp [rangeD_length]; omega) ?_
  · obtain ⟨i, hi, rfl⟩ := mem_rangeD hd
    have hg : ds[i]? = some ds[i] := List.getElem?_eq_getElem hi
    simp [wipeD, hs]
    refine .inl ⟨ds[i], atI_n (by omega) (by simpa using hg), .inl ⟨ds[i], atI_n (by omega) (by simpa using hg), ?_⟩⟩
    exact ⟨_, rfl, by omega, plainL_mem hp (List.getElem_mem _), q'⟩
  · simp only [List.nil_append, bls_true]
    refine ⟨_, rfl, ?_⟩
    rw [all_true]; exact q
theorem mathr__law_same (n : Nat) (ds M Q E) (hM : WFM M) (hb : D.belL M.length ds = true) (h : spr__law_same (n + 1) ds M Q E) : rr__law_same n (retE M.length Q E) (startD N__law_same ds) M := by
  obtain ⟨d, rfl, _, hp, q⟩ := h
  have hp : plainD n d = true := hp
  have q' : ∀ b, Q b M → Q b (popM M.length b M) := fun b h => by rw [popM_same (Nat.le_refl _)]; exact h
  have q1 := q' _ q
  unfold rr__law_same
  cases d with
  | tup ds =>
    unfold plainD at hp
    simp only [Bool.and_eq_true, decide_eq_true_eq] at hp
    refine seq_step fun S hS => ?_
    simp only [u_ifS]
    simp [startD, subTy]
    obtain ⟨k, rfl⟩ : ∃ k, n = k + 1 := ⟨n - 1, by omega⟩
    have hs := same_seq (M := M) (Q := (retE M.length Q E).rt) (E := fun x M1 => (retE M.length Q E).ex x [some (D.tup ds), some (D.tup ds), none] M1) (.inl rfl) hp.1.2 hp.2 q1 (m := .non)
    simpa using hs
  | lst ds =>
    unfold plainD at hp
    simp only [Bool.and_eq_true, decide_eq_true_eq] at hp
    refine seq_step fun S hS => ?_
    simp [startD, subTy]
    subst hS
    refine seq_step fun S hS => ?_
    simp [subTy]
    obtain ⟨k, rfl⟩ : ∃ k, n = k + 1 := ⟨n - 1, by omega⟩
    have hs := same_seq (M := M) (Q := (retE M.length Q E).rt) (E := fun x M1 => (retE M.length Q E).ex x [some (D.lst ds), some (D.lst ds), none] M1) (.inr rfl) hp.1.2 hp.2 q1 (m := .non)
    simpa using hs
  | non => simp [startD, subTy, q1]
  | bl b => simp [startD, subTy, q1]
  | int b => simp [startD, subTy, q1, sp__law_is_integer]
  | str b => simp [startD, subTy, q1]
  | _ => unfold plainD at hp; cases hp
end Kit
namespace Kit
open MD L2 PySem
/-! more rules for simp -/
def hasC (c : Nat) (z : Str) : Bool := decide (c ∈ z.cps.toList)
@[simp] theorem u_inS {c : Nat} {z : Str} {M : MH} {Q : QE} : oInS false (.str ⟨#[c]⟩) (.str z) M Q ↔ Q (.bl (hasC c z)) M := by
  constructor
  · rintro ⟨c', z', e1, e2, h⟩
    cases e1; cases e2; exact h
  · exact fun h => ⟨c, z, rfl, rfl, h⟩
@[simp] theorem u_ninS {c : Nat} {z : Str} {M : MH} {Q : QE} : oInS true (.str ⟨#[c]⟩) (.str z) M Q ↔ Q (.bl (!hasC c z)) M := by
  constructor
  · rintro ⟨c', z', e1, e2, h⟩
    cases e1; cases e2; exact h
  · exact fun h => ⟨c, z, rfl, rfl, h⟩
@[simp] theorem u_starts {x y : Str} {M : MH} {Q : QE} : mStarts (.str x) [.str y] M Q ↔ Q (.bl (PySem.Txt.startswith x y)) M := by
  constructor
  · rintro ⟨c', z', e1, e2, h⟩
    cases e1; cases e2; exact h
  · exact fun h => ⟨x, y, rfl, rfl, h⟩
@[simp] theorem u_sindex {x y : Str} {M : MH} {Q : QE} : mSIndex (.str x) [.str y] M Q ↔ ∃ i rest, Builtin.Str.occurrences x y 0 x.length 1 = i :: rest ∧ Q (.int (i : Int)) M := by
  constructor
  · rintro ⟨c', z', i, rest, e1, e2, h⟩
    cases e1; cases e2; exact ⟨i, rest, h⟩
  · rintro ⟨i, rest, h⟩
    exact ⟨x, y, i, rest, rfl, rfl, h⟩
@[simp high] theorem u_gAll1 {g1 : TG'} {a : D} {δ : EnvD} {M : MH} {QG : EnvD → MH → Prop} : gAll' [g1] [a] δ M QG ↔ g1 a δ M fun δ1 M1 => gAll' [] [] δ1 M1 QG := by
  constructor
  · rintro ⟨d, r, e, h⟩
    cases e
    exact h
  · intro h
    exact ⟨_, _, rfl, h⟩
@[simp high] theorem u_gAll0 {δ : EnvD} {M : MH} {QG : EnvD → MH → Prop} : gAll' [] [] δ M QG ↔ QG δ M := ⟨fun h => h.2, fun h => ⟨rfl, h⟩⟩
@[simp high] theorem u_gAll2 {g1 g2 : TG'} {gs : List TG'} {a b : D} {ds : List D} {δ : EnvD} {M : MH} {QG : EnvD → MH → Prop} : gAll' (g1 :: g2 :: gs) (a :: b :: ds) δ M QG ↔ g1 a δ M fun δ1 M1 => gAll' (g2 :: gs) (b :: ds) δ1 M1 QG := by
  constructor
  · rintro ⟨d, r, e, h⟩
    cases e
    exact h
  · intro h
    exact ⟨_, _, rfl, h⟩
@[simp high] theorem u_gtupT {gs : List TG'} {ds : List D} {n : Nat} {δ : EnvD} {M : MH} {QG : EnvD → MH → Prop} : gTup' n gs (.tup ds) δ M QG ↔ ds.length = n ∧ gAll' gs ds δ M QG := by
  constructor
  · rintro ⟨d, (e | e), h⟩
    · cases e; exact h
    · cases e
  · intro h
    exact ⟨_, .inl rfl, h⟩
@[simp high] theorem u_gtupL {gs : List TG'} {ds : List D} {n : Nat} {δ : EnvD} {M : MH} {QG : EnvD → MH → Prop} : gTup' n gs (.lst ds) δ M QG ↔ ds.length = n ∧ gAll' gs ds δ M QG := by
  constructor
  · rintro ⟨d, (e | e), h⟩
    · cases e
    · cases e; exact h
  · intro h
    exact ⟨_, .inr rfl, h⟩
/-! texts of whole numbers -/
theorem str_ext {a b : Str} (h : a.cps.toList = b.cps.toList) : a = b := by
  cases a; cases b; congr 1; exact Array.toList_inj.mp h
theorem len_cps (x : Str) : x.length = x.cps.toList.length := Array.length_toList.symm
theorem cps_app (a b : Str) : (a ++ b).cps.toList = a.cps.toList ++ b.cps.toList := PyProof.Rows.cps_toList_append a b
def digs (m : Nat) : List Nat := (Nat.toDigits 10 m).map Char.toNat
theorem cps_num (m : Nat) : ((toString (m : Int) : String) : Str).cps.toList = digs m := PySem.W.KIN.signs_num m
theorem cps_neg (m : Nat) : ((toString (Int.negSucc m) : String) : Str).cps.toList = 45 :: digs (m + 1) := by
  rw [PyProof.Rows.signs_ofString]
  show (("-" ++ toString (m + 1) : String)).toList.map Char.toNat = _
  rw [String.toList_append, List.map_append]
  show 45 :: (Nat.repr (m + 1)).toList.map Char.toNat = _
  rw [Nat.toList_repr]
  rfl
theorem digs_all (m : Nat) : ∀ c ∈ digs m, 48 ≤ c ∧ c ≤ 57 := by
  intro c hc
  obtain ⟨ch, hch, e⟩ := List.mem_map.mp hc
  have r := PyProof.Rows.digit_range (Nat.isDigit_of_mem_toDigits (by decide) (by decide) hch)
  rw [← e]; exact r
theorem digs_ne (m : Nat) : digs m ≠ [] := by
  intro h
  exact Nat.toDigits_ne_nil (List.map_eq_nil_iff.mp h)
theorem digs_len {m : Nat} (h : m < 10 ^ 7) : (digs m).length ≤ 7 := by
  unfold digs
  rw [List.length_map]
  exact (Nat.length_toDigits_le_iff (by decide) (by decide)).mpr h
theorem digs_val (m : Nat) : PySem.NumText.digitsVal (digs m) = m := PySem.W.KIN.val_back m
theorem dig_nz : ∀ d : Nat, d < 10 → d ≠ 0 → (Nat.digitChar d).toNat ≠ 48 := by decide
theorem digs_head : ∀ m : Nat, m ≠ 0 → ∃ c r, digs m = c :: r ∧ c ≠ 48 := by
  intro m
  induction m using Nat.strongRecOn with
  | _ m ih =>
    intro hm
    by_cases h : m < 10
    · refine ⟨(Nat.digitChar m).toNat, [], ?_, dig_nz m h hm⟩
      unfold digs
      rw [Nat.toDigits_of_lt_base h]; rfl
    · have h10 : m % 10 < 10 := Nat.mod_lt m (by decide)
      have t : Nat.toDigits 10 (m / 10) ++ Nat.toDigits 10 (m % 10) = Nat.toDigits 10 (10 * (m / 10) + m % 10) := Nat.toDigits_append_toDigits (by decide) (by omega) h10
      rw [Nat.div_add_mod] at t
      obtain ⟨c, r, e, hc⟩ := ih (m / 10) (by omega) (by omega)
      refine ⟨c, r ++ (Nat.toDigits 10 (m % 10)).map Char.toNat, ?_, hc⟩
      unfold digs
      rw [← t, List.map_append]
      show digs (m / 10) ++ _ = _
      rw [e]; rfl
theorem digs_zero : digs 0 = [48] := rfl
/-- the signs of a whole number's text -/
theorem num_split (n : Int) : ∃ m : Nat, (n = m ∧ ((toString n : String) : Str).cps.toList = digs m) ∨ (m ≠ 0 ∧ n = -(m : Int) ∧ ((toString n : String) : Str).cps.toList = 45 :: digs m) := by
  cases n with
  | ofNat m => exact ⟨m, .inl ⟨rfl, cps_num m⟩⟩
  | negSucc m => exact ⟨m + 1, .inr ⟨by omega, Int.negSucc_eq m, cps_neg m⟩⟩
theorem num_len {n : Int} (h : -10000000 < n ∧ n < 10000000) : ((toString n : String) : Str).length ≤ 8 := by
  rw [len_cps]
  obtain ⟨m, ⟨e, h1⟩ | ⟨_, e, h1⟩⟩ := num_split n <;> rw [h1]
  · have := digs_len (m := m) (by omega); omega
  · have := digs_len (m := m) (by omega); simp; omega
theorem num_back {n : Int} (h : -10000000 < n ∧ n < 10000000) : PySem.intText? ((toString n : String) : Str) = some n := by
  have hl := num_len h
  obtain ⟨m, ⟨e, h1⟩ | ⟨_, e, h1⟩⟩ := num_split n
  · have := PySem.intText_digits (x := ((toString n : String) : Str)) (by rw [h1]; exact digs_all m) (by rw [h1]; exact digs_ne m) (by omega)
    rw [h1, digs_val] at this
    rw [this, e]
  · have := PySem.intText_neg (x := ((toString n : String) : Str)) h1 (digs_all m) (digs_ne m) (by omega)
    rw [digs_val] at this
    rw [this, e]
theorem num_head (n : Int) : ∃ c r, ((toString n : String) : Str).cps.toList = c :: r ∧ (c = 45 ∨ (48 ≤ c ∧ c ≤ 57)) := by
  obtain ⟨m, ⟨e, h1⟩ | ⟨_, e, h1⟩⟩ := num_split n <;> rw [h1]
  · cases hd : digs m with
    | nil => exact absurd hd (digs_ne m)
    | cons c r => exact ⟨c, r, rfl, .inr (digs_all m c (by rw [hd]; exact List.mem_cons_self))⟩
  · exact ⟨45, digs m, rfl, .inl rfl⟩
/-! signs of a text -/
theorem starts1 (x : Str) (c : Nat) : PySem.Txt.startswith x ⟨#[c]⟩ = (x.cps.toList.head? == some c) := by
  obtain ⟨⟨l⟩⟩ := x
  unfold PySem.Txt.startswith PySem.Builtin.Str.subAt
  cases l with
  | nil => rfl
  | cons d r => 
    show (decide (0 + 1 ≤ r.length + 1) && ((Array.mk (d :: r)).extract 0 1 == #[c])) = (some d == some c)
    have : (Array.mk (d :: r)).extract 0 1 = #[d] := by simp
    rw [this]
    simp
theorem cut_from (x : Str) (k : Nat) (h : k ≤ x.length) : cutS x (some (k : Int)) none = ⟨(x.cps.toList.drop k).toArray⟩ := by
  unfold cutS
  rw [HT.sIx_nat, HT.sIx_none]
  have : min k x.length = k := by omega
  rw [this, List.take_of_length_le]
  rw [List.length_drop, ← len_cps]; omega
theorem cut_to (x : Str) (k : Nat) (h : k ≤ x.length) : cutS x none (some (k : Int)) = ⟨(x.cps.toList.take k).toArray⟩ := by
  unfold cutS
  rw [HT.sIx_nat, HT.sIx_none]
  have : min k x.length = k := by omega
  rw [this]; rfl
theorem cps_mk (l : List Nat) : (⟨l.toArray⟩ : Str).cps.toList = l := rfl
theorem mk_cps (x : Str) : (⟨x.cps.toList.toArray⟩ : Str) = x := str_ext rfl
theorem flat_one (n c : Nat) : (List.replicate n [c]).flatten = List.replicate n c := by
  induction n with
  | zero => rfl
  | succ n ih => rw [List.replicate_succ, List.flatten_cons, ih]; rfl
theorem rep_one (n : Int) (c : Nat) : (strRep ⟨#[c]⟩ n).cps.toList = List.replicate n.toNat c := flat_one n.toNat c
end Kit
namespace Kit
open MD L2 PySem
@[simp] theorem u_still {ds : List D} {M : MH} : ItD.still ⟨ds, none⟩ M ↔ True := Iff.rfl
/-! loops by position -/
theorem forI_from {it : ItD} {g : TG'} {tb : TS'} {DD : Ends'} {ds0 : List D} (P : Nat → EnvD → MH → Prop) (h0 : ∀ δ M, P ds0.length δ M → it.still M ∧ DD.nx δ M)
    (hs : ∀ i d δ M (F : EnvD → MH → Prop), ds0[i]? = some d → P i δ M → (∀ δ' M', P (i + 1) δ' M' → F δ' M') → it.still M ∧ g d δ M (fun δ1 M1 => tb { DD with nx := F, ct := F, bk := DD.nx } δ1 M1))
    {δ : EnvD} {M : MH} (p : P 0 δ M) : forL it g tb DD ds0 δ M := by
  refine forL_ind (fun ds δ M => ∃ i, ds = ds0.drop i ∧ i ≤ ds0.length ∧ P i δ M) ?_ ?_ ds0 δ M ⟨0, rfl, Nat.zero_le _, p⟩
  · rintro δ M ⟨i, e, hi, hp⟩
    have : ds0.length ≤ i := List.drop_eq_nil_iff.mp e.symm
    obtain rfl : i = ds0.length := by omega
    exact h0 δ M hp
  · rintro d r δ M F ⟨i, e, hi, hp⟩ hF
    have hd : ds0[i]? = some d := by
      have := congrArg List.head? e
      simp [List.head?_drop] at this
      exact this.symm
    have hr : r = ds0.drop (i + 1) := by
      have := congrArg List.tail e
      simpa using this
    have hlt := (List.getElem?_eq_some_iff.mp hd).1
    exact hs i d δ M F hd hp (fun δ' M' hp' => hF δ' M' ⟨i + 1, hr, hlt, hp'⟩)
theorem range_at {lo : Int} {n i : Nat} (h : i < n) : (rangeD lo n)[i]? = some (.int (lo + (i : Int))) := by
  unfold rangeD
  rw [List.getElem?_map, List.getElem?_range h]; rfl
theorem forR_ind {it : ItD} {g : TG'} {tb : TS'} {DD : Ends'} {lo : Int} {n : Nat} (P : Nat → EnvD → MH → Prop) (h0 : ∀ δ M, P n δ M → it.still M ∧ DD.nx δ M)
    (hs : ∀ i δ M (F : EnvD → MH → Prop), i < n → P i δ M → (∀ δ' M', P (i + 1) δ' M' → F δ' M') → it.still M ∧ g (.int (lo + (i : Int))) δ M (fun δ1 M1 => tb { DD with nx := F, ct := F, bk := DD.nx } δ1 M1))
    {δ : EnvD} {M : MH} (p : P 0 δ M) : forL it g tb DD (rangeD lo n) δ M := by
  refine forI_from P (by rw [rangeD_length]; exact h0) ?_ p
  intro i d δ M F hd hp hF
  have hi : i < n := by have := (List.getElem?_eq_some_iff.mp hd).1; rwa [rangeD_length] at this
  rw [range_at hi] at hd
  cases hd
  exact hs i δ M F hi hp hF
theorem lcI_from {it : ItD} {g : TG'} {tt : TT'} {te : TE'} {vs : List Nat} {δ : EnvD} {Q : List D → MH → Prop} {ds0 : List D} (P : Nat → List D → MH → Prop) (h0 : ∀ acc M, P ds0.length acc M → it.still M ∧ Q acc M)
    (hs : ∀ i d acc M (F : List D → MH → Prop), ds0[i]? = some d → P i acc M → (∀ acc' M', P (i + 1) acc' M' → F acc' M') → it.still M ∧ g d (wipeD δ vs) M fun δ2 M2 => tt δ2 M2 (fun b M3 =>
      if b = true then te δ2 M3 (fun y M4 => acc.length < sizeLine ∧ F (acc ++ [y]) M4) (fun _ _ => False) else F acc M3) (fun _ _ => False))
    {M : MH} (p : P 0 [] M) : lcL it g tt te vs δ Q ds0 [] M := by
  refine lcL_ind (fun ds acc M => ∃ i, ds = ds0.drop i ∧ i ≤ ds0.length ∧ P i acc M) ?_ ?_ ds0 [] M ⟨0, rfl, Nat.zero_le _, p⟩
  · rintro acc M ⟨i, e, hi, hp⟩
    have : ds0.length ≤ i := List.drop_eq_nil_iff.mp e.symm
    obtain rfl : i = ds0.length := by omega
    exact h0 acc M hp
  · rintro d r acc M F ⟨i, e, hi, hp⟩ hF
    have hd : ds0[i]? = some d := by
      have := congrArg List.head? e
      simp [List.head?_drop] at this
      exact this.symm
    have hr : r = ds0.drop (i + 1) := by
      have := congrArg List.tail e
      simpa using this
    have hlt := (List.getElem?_eq_some_iff.mp hd).1
    exact hs i d acc M F hd hp (fun acc' M' hp' => hF acc' M' ⟨i + 1, hr, hlt, hp'⟩)
/-! what stays below -/
theorem belL_iff {n : Nat} : ∀ {ds : List D}, D.belL n ds = true ↔ ∀ d ∈ ds, d.bel n = true
  | [] => by simp [D.belL]
  | d :: r => by unfold D.belL; rw [Bool.and_eq_true, belL_iff (ds := r)]; simp
theorem belL_int {n : Nat} (f : α → Int) (xs : List α) : D.belL n (xs.map fun x => D.int (f x)) = true := by
  rw [belL_iff]
  intro d hd
  obtain ⟨x, _, rfl⟩ := List.mem_map.mp hd
  simp [D.bel]
theorem pool_below {n : Nat} {ns : List Int} {i b s : Int} : Cell.below n (poolD ns i b s) = true := by
  have := belL_int (n := n) (fun x : Int => x) ns
  simp [Cell.below, poolD, D.belL, D.bel]
  exact this
theorem Step.wf {p : Nat} {M M' : MH} (hM : WFM M) (h : Step p M M') : WFM M' := by
  have hl := h.length
  obtain ⟨⟨c, rfl⟩, ns, i, b, s, hp, _⟩ := h
  intro c' hc
  rw [hl]
  rcases List.mem_or_eq_of_mem_set hc with hc | rfl
  · exact hM c' hc
  · have hlt : p < M.length := by
      have := (List.getElem?_eq_some_iff.mp hp).1
      simpa using this
    rw [List.getElem?_set_self hlt] at hp
    cases hp
    exact pool_below
theorem Pool.lt {p : Nat} {M : MH} (h : Pool M p) : p < M.length := by
  obtain ⟨_, _, _, _, hp, _⟩ := h
  exact (List.getElem?_eq_some_iff.mp hp).1
theorem Pool.of_eq {p : Nat} {M M' : MH} (h : Pool M p) (e : M'[p]? = M[p]?) : Pool M' p := by
  obtain ⟨ns, i, b, s, hp, hr⟩ := h
  exact ⟨ns, i, b, s, by rw [e]; exact hp, hr⟩
/-- a step of the whole heap is one of its first part -/
theorem Step.cut {p n : Nat} {M M' : MH} (h : Step p M M') (hp : p < n) : Step p (M.take n) (M'.take n) := by
  obtain ⟨⟨c, rfl⟩, hP⟩ := h
  refine ⟨⟨c, by rw [List.take_set]⟩, hP.of_eq ?_⟩
  rw [List.getElem?_take_of_lt hp]
theorem erase_perm {α : Type} {ls : List α} {k : Nat} (h : k < ls.length) : (ls[k] :: ls.eraseIdx k).Perm ls := by
  have e : ls = ls.take k ++ ls[k] :: ls.drop (k + 1) := by
    rw [← List.drop_eq_getElem_cons h, List.take_append_drop]
  rw [List.eraseIdx_eq_take_drop_succ]
  conv => rhs; rw [e]
  exact List.perm_middle.symm
theorem erase_map {α β : Type} (f : α → β) (ls : List α) (k : Nat) : (ls.map f).eraseIdx k = (ls.eraseIdx k).map f := by
  rw [List.eraseIdx_eq_take_drop_succ, List.eraseIdx_eq_take_drop_succ, List.map_append, List.map_take, List.map_drop]
/-! an order of the first whole numbers -/
abbrev N__law_order : List Str := ["pool", "many", "left", "found", "k"]
def sp__law_order : SpD := fun ds M Q _ => ∃ (p n : Nat), ds = [.ref p, .int n] ∧ n ≤ 1000 ∧ Pool M p ∧ ∀ (ks : List Nat) M', ks.Perm (List.range n) → Step p M M' → Q (.tup (ks.map fun (k : Nat) => D.int k)) M'
theorem mono__law_order : MonoP sp__law_order := fun ds M Q Q' E E' q x ⟨p, n, e, h0, h1, h⟩ => ⟨p, n, e, h0, h1, fun ks M' a b => q _ _ (h ks M' a b)⟩
theorem len__law_order (ds M Q E) (h : sp__law_order ds M Q E) : ds.length = 2 := by obtain ⟨_, _, rfl, _⟩ := h; rfl
def r__law_order : TS' := (tSeq' (tAsg' (tListRg' true (tRg1' (tVar' 1))) (gName' 2))
    (tSeq' (tAsg' (tTup' tNil') (gName' 3))
    (tSeq' (tFor' (tRng1' (tCons' (tVar' 1) tNil')) (gName' 4) (tAsg' (tOp' (oAdd false) (tVar' 3) (tTup' (tCons' (tBM' "list" mPopAt (tVar' 2) (tCons' (tCall' sp__law_take (tCons' (tVar' 0) (tCons' (tCB' cLen (tCons' (tVar' 2) tNil')) tNil'))) tNil')) tNil'))) (gName' 3)))
    (tRet' (tVar' 3)))))
theorem math__law_order (ds M Q E) (hM : WFM M) (hb : D.belL M.length ds = true) (h : sp__law_order ds M Q E) : r__law_order (retE M.length Q E) (startD N__law_order ds) M := by
  obtain ⟨p, n, rfl, hn, hp, q⟩ := h
  have hz : (sizeLine : Nat) = 16777216 := by decide
  have hpl := hp.lt
  unfold r__law_order
  refine seq_step fun S hS => ?_
  simp [startD]
  refine ⟨by unfold RgOk; omega, ?_⟩
  subst hS
  refine seq_step fun S hS => ?_
  simp
  subst hS
  refine seq_step fun S hS => ?_
  simp
  refine ⟨by omega, ?_⟩
  refine forR_ind (fun i δ M' => ∃ (ks ls : List Nat) (a : Option D), ks.length = i ∧ (ks ++ ls).Perm (List.range n) ∧ δ = [some (.ref p), some (.int n), some (.ref M.length), some (.tup (ks.map fun (k : Nat) => D.int k)), a] ∧ M'.length = M.length + 1 ∧ M'[M.length]? = some (.lst (ls.map fun (k : Nat) => D.int k)) ∧ Step p M (M'.take M.length)) ?_ ?_ ?_
  · rintro δ M' ⟨ks, ls, a, hk, hperm, rfl, hl, hc, hst⟩
    have : ls = [] := by
      have := hperm.length_eq
      simp at this
      exact List.length_eq_zero_iff.mp (by omega)
    subst this
    subst hS
    rw [List.append_nil] at hperm
    simp
    rw [popM_pop (by unfold D.bel; exact belL_int _ _) (by have := hst.wf hM; unfold WFM at this; rwa [hst.length] at this) rfl]
    exact q ks _ hperm hst
  · rintro i δ M' F hi ⟨ks, ls, a, hk, hperm, rfl, hl, hc, hst⟩ hF
    have hll : ls.length = n - i := by
      have := hperm.length_eq
      simp at this
      omega
    have hP : Pool M' p := hst.2.of_eq (by rw [List.getElem?_take_of_lt hpl])
    simp [lstOf_ref hc, hc]
    refine ⟨p, _, rfl, by omega, by omega, hP, fun r M2 h0 h1 h2 => ?_⟩
    have hc2 : M2[M.length]? = some (.lst (ls.map fun (k : Nat) => D.int k)) := by rw [h2.other (by omega)]; exact hc
    have hr : r.toNat < ls.length := by omega
    simp [hc2, hll, ixN_n h0 (show r < ((n - i : Nat) : Int) by omega)]
    refine ⟨by omega, by omega, .int ((ls[r.toNat] : Nat) : Int), ⟨ls[r.toNat], List.getElem?_eq_getElem hr, rfl⟩, by decide, by omega, ?_⟩
    refine hF _ _ ⟨ks ++ [ls[r.toNat]], ls.eraseIdx r.toNat, some (.int i), by simp [hk], ?_, by simp, by simp [h2.length, hl], ?_, ?_⟩
    · refine List.Perm.trans ?_ hperm
      rw [List.append_assoc]
      refine List.Perm.append_left ks ?_
      show (ls[r.toNat] :: ls.eraseIdx r.toNat).Perm ls
      exact erase_perm hr
    · rw [List.getElem?_set_self (by rw [h2.length]; omega)]
      congr 2
      exact erase_map ..
    · rw [List.take_set_of_le (Nat.le_refl _)]
      exact hst.trans (h2.cut hpl)
  · refine ⟨[], List.range n, none, rfl, by simp, by simp, by simp, ?_, ?_⟩
    · rw [List.getElem?_append_right (Nat.le_refl _)]
      simp [rangeD]
    · rw [List.take_left' rfl]
      exact ⟨⟨M[p], by simp⟩, hp⟩
/-! a tone drawn -/
abbrev N__law_tone : List Str := ["pool", "fifths"]
def sp__law_tone : SpD := fun ds M Q _ => ∃ p, ds = [.ref p] ∧ Pool M p ∧ ∀ f o M', -50 ≤ f → f ≤ 50 → 0 ≤ o + 4 * f / 7 → o + 4 * f / 7 ≤ 6 → Step p M M' → Q (.tup [.int f, .int o]) M'
theorem mono__law_tone : MonoP sp__law_tone := fun ds M Q Q' E E' q x ⟨p, e, h1, h⟩ => ⟨p, e, h1, fun f o M' a b c d e => q _ _ (h f o M' a b c d e)⟩
theorem len__law_tone (ds M Q E) (h : sp__law_tone ds M Q E) : ds.length = 1 := by obtain ⟨_, rfl, _⟩ := h; rfl
def r__law_tone : TS' := (tSeq' (tAsg' (tOp' oSub (tCall' sp__law_take (tCons' (tVar' 0) (tCons' (tC' (.int 15)) tNil'))) (tC' (.int 7))) (gName' 1))
    (tSeq' (tIfS' (tB' (tOp' (oEq false) (tCall' sp__law_take (tCons' (tVar' 0) (tCons' (tC' (.int 12)) tNil'))) (tC' (.int 0)))) (tAsg' (tOp' oSub (tCall' sp__law_take (tCons' (tVar' 0) (tCons' (tC' (.int 101)) tNil'))) (tC' (.int 50))) (gName' 1)) tNext')
    (tRet' (tTup' (tCons' (tVar' 1) (tCons' (tOp' oSub (tCall' sp__law_take (tCons' (tVar' 0) (tCons' (tC' (.int 7)) tNil'))) (tCB' cInt (tCons' (tOp' oFdiv (tOp' (oMul false) (tC' (.int 4)) (tVar' 1)) (tC' (.int 7))) tNil'))) tNil'))))))

theorem math__law_tone (ds M Q E) (hM : WFM M) (hb : D.belL M.length ds = true) (h : sp__law_tone ds M Q E) : r__law_tone (retE M.length Q E) (startD N__law_tone ds) M := by
  obtain ⟨p, rfl, hp, q⟩ := h
  unfold r__law_tone
  refine seq_step fun S hS => ?_
  simp [startD]
  refine ⟨p, 15, rfl, by decide, by decide, hp, fun r1 M1 a1 b1 c1 => ?_⟩
  simp
  subst hS
  refine seq_step fun S hS => ?_
  simp
  refine ⟨p, 12, rfl, by decide, by decide, c1.2, fun r2 M2 a2 b2 c2 => ?_⟩
  simp
  have key : ∀ (f : Int) (M3 : MH), -50 ≤ f → f ≤ 50 → Step p M1 M3 → S (retE M.length Q E) [some (D.ref p), some (D.int f)] M3 := by
    intro f M3 hf1 hf2 c3
    subst hS
    simp
    refine ⟨p, 7, rfl, by decide, by decide, c3.2, fun r4 M4 a4 b4 c4 => ?_⟩
    simp
    refine ⟨mulOk_l (by decide), divOk_of (by decide) (by decide), by decide, ?_⟩
    have c5 := (c1.trans c3).trans c4
    rw [popM_same (by rw [c5.length]; simp), e_fdiv (by decide)]
    exact q _ _ _ hf1 hf2 (by omega) (by omega) c5
  by_cases h0 : r2 = 0
  · simp [h0]
    refine ⟨p, 101, rfl, by decide, by decide, c2.2, fun r3 M3 a3 b3 c3 => ?_⟩
    simp
    exact key _ _ (by omega) (by omega) (c2.trans c3)
  · simp [h0]
    exact key _ _ (by omega) (by omega) c2
/-! a tone drawn from afar -/
def Far (f : Int) : Prop := -1000 ≤ f ∧ f ≤ 1000
abbrev N__law_far_pair : List Str := ["pool", "kind", "edges"]
def sp__law_far_pair : SpD := fun ds M Q _ => ∃ p, ds = [.ref p] ∧ Pool M p ∧ ∀ f o M', Far f → Far o → Step p M M' → Q (.tup [.int f, .int o]) M'
theorem mono__law_far_pair : MonoP sp__law_far_pair := fun ds M Q Q' E E' q x ⟨p, e, h1, h⟩ => ⟨p, e, h1, fun f o M' a b c => q _ _ (h f o M' a b c)⟩
theorem len__law_far_pair (ds M Q E) (h : sp__law_far_pair ds M Q E) : ds.length = 1 := by obtain ⟨_, rfl, _⟩ := h; rfl
def r__law_far_pair : TS' := (tSeq' (tAsg' (tCall' sp__law_take (tCons' (tVar' 0) (tCons' (tC' (.int 4)) tNil'))) (gName' 1))
    (tSeq' (tIfS' (tB' (tOp' (oEq false) (tVar' 1) (tC' (.int 0)))) (tRet' (tTup' (tCons' (tOp' oSub (tCall' sp__law_take (tCons' (tVar' 0) (tCons' (tC' (.int 2001)) tNil'))) (tC' (.int 1000))) (tCons' (tOp' oSub (tCall' sp__law_take (tCons' (tVar' 0) (tCons' (tC' (.int 2001)) tNil'))) (tC' (.int 1000))) tNil')))) tNext')
    (tSeq' (tIfS' (tB' (tOp' (oEq false) (tVar' 1) (tC' (.int 1)))) (tSeq' (tAsg' (tLst' false (tCons' (tC' (.int 1000)) (tCons' (tUn' oNeg (tC' (.int 1000))) (tCons' (tC' (.int 999)) (tCons' (tUn' oNeg (tC' (.int 999))) (tCons' (tC' (.int 0)) (tCons' (tC' (.int 5)) (tCons' (tC' (.int 6)) (tCons' (tUn' oNeg (tC' (.int 1))) (tCons' (tUn' oNeg (tC' (.int 2))) (tCons' (tC' (.int 12)) (tCons' (tUn' oNeg (tC' (.int 7))) tNil')))))))))))) (gName' 2))
    (tRet' (tTup' (tCons' (tCall' sp__law_pick (tCons' (tVar' 0) (tCons' (tVar' 2) tNil'))) (tCons' (tCall' sp__law_pick (tCons' (tVar' 0) (tCons' (tVar' 2) tNil'))) tNil'))))) tNext')
    (tRet' (tCall' sp__law_tone (tCons' (tVar' 0) tNil'))))))

theorem math__law_far_pair (ds M Q E) (hM : WFM M) (hb : D.belL M.length ds = true) (h : sp__law_far_pair ds M Q E) : r__law_far_pair (retE M.length Q E) (startD N__law_far_pair ds) M := by
  obtain ⟨p, rfl, hp, q⟩ := h
  unfold r__law_far_pair
  refine seq_step fun S hS => ?_
  simp [startD]
  refine ⟨p, 4, rfl, by decide, by decide, hp, fun k M1 a1 b1 c1 => ?_⟩
  simp
  subst hS
  refine seq_step fun S hS => ?_
  simp
  by_cases h0 : k = 0
  · simp [h0]
    refine ⟨p, 2001, rfl, by decide, by decide, c1.2, fun r2 M2 a2 b2 c2 => ?_⟩
    simp
    refine ⟨p, 2001, rfl, by decide, by decide, c2.2, fun r3 M3 a3 b3 c3 => ?_⟩
    simp
    refine ⟨by decide, ?_⟩
    have c5 := (c1.trans c2).trans c3
    rw [popM_same (by rw [c5.length]; simp)]
    exact q _ _ _ ⟨by omega, by omega⟩ ⟨by omega, by omega⟩ c5
  · simp [h0]
    subst hS
    refine seq_step fun S hS => ?_
    simp
    by_cases h1 : k = 1
    · simp [h1]
      let es : List Int := [1000, -1000, 999, -999, 0, 5, 6, -1, -2, 12, -7]
      refine ⟨by decide, p, _, _, rfl, c1.2, nofun, rfl, fun _ _ => rfl, by simp, by decide, fun d2 M2 hd2 c2 => ⟨p, _, _, rfl, c2.2, nofun, rfl, fun _ _ => rfl, by simp, by decide, fun d3 M3 hd3 c3 => ?_⟩⟩
      simp
      refine ⟨by decide, ?_⟩
      have c5 := (c1.trans c2).trans c3
      rw [popM_same (by rw [c5.length]; simp)]
      have hin : ∀ d ∈ es.map D.int, ∃ z, d = D.int z ∧ Far z := by
        intro d hd
        obtain ⟨z, hz, e⟩ := List.mem_map.mp hd
        refine ⟨z, e.symm, ?_⟩
        have : ∀ z ∈ es, -1000 ≤ z ∧ z ≤ 1000 := by decide
        exact this z hz
      obtain ⟨z2, rfl, h2⟩ := hin d2 hd2
      obtain ⟨z3, rfl, h3⟩ := hin d3 hd3
      exact q _ _ _ h2 h3 c5
    · simp [h1]
      subst hS
      simp
      refine ⟨p, rfl, c1.2, fun f o M2 hf1 hf2 ho1 ho2 c2 => ?_⟩
      show Q _ (popM _ _ _)
      have c5 := c1.trans c2
      rw [popM_same (by rw [c5.length]; simp)]
      exact q _ _ _ ⟨by omega, by omega⟩ ⟨by omega, by omega⟩ c5
end Kit
namespace MD
open PySem PySem.Spec PyProof.Rows L2
variable {K : PySem.W.Frag}
/-! a member of a tuple or a list of plain items -/
def D.fl : D → Bool
  | .non => true
  | .bl _ => true
  | .int _ => true
  | .str _ => true
  | _ => false
def D.sv : D → V
  | .bl b => .bl b
  | .int i => .int i
  | .str x => .str x
  | _ => .non
theorem rep_sv {w : Wd} {d : D} {v : V} (f : d.fl = true) (h : Rep K w d v) : v = d.sv ∧ flatV d.sv = true := by
  cases d with
  | non => exact ⟨rep_non h, rfl⟩
  | bl b => exact ⟨rep_bl h, rfl⟩
  | int b => exact ⟨rep_int h, rfl⟩
  | str b => exact ⟨rep_str h, rfl⟩
  | _ => cases f
theorem repL_sv {w : Wd} : ∀ {ds : List D} {xs : List V}, ds.all D.fl = true → RepL K w ds xs → xs = ds.map D.sv ∧ xs.all flatV = true
  | [], xs, _, h => by have h : xs = [] := h; subst h; exact ⟨rfl, rfl⟩
  | d :: ds, xs, f, h => by
    obtain ⟨x, r, rfl, hx, hr⟩ := h
    rw [List.all_cons, Bool.and_eq_true] at f
    obtain ⟨rfl, h2⟩ := rep_sv f.1 hx
    obtain ⟨rfl, h4⟩ := repL_sv f.2 hr
    exact ⟨rfl, by rw [List.all_cons, h2, h4]; rfl⟩
def inD (x : D) (ds : List D) : Bool := inV x.sv (ds.map D.sv)
def oInT (neg : Bool) : R2' := fun x y M Q => x.fl = true ∧ ∃ ds, (y = .tup ds ∨ y = .lst ds) ∧ ds.all D.fl = true ∧ Q (.bl (if neg then !inD x ds else inD x ds)) M
theorem lf_inT {neg : Bool} : Lift2 K (rIn K neg) (oInT neg) := by
  intro w x y dx dy Q rh rx ry ⟨fx, ds, e, fs, h⟩
  obtain ⟨rfl, h2⟩ := rep_sv fx rx
  have q : ∀ xs, RepL K w ds xs → xs.all flatV = true ∧ PV K w Q (.bl (if neg then !inV dx.sv xs else inV dx.sv xs)) w.M := fun xs hr => by
    obtain ⟨rfl, h4⟩ := repL_sv fs hr
    exact ⟨h4, h⟩
  rcases e with rfl | rfl
  · obtain ⟨a, xs, rfl, hs, hr⟩ := ry
    obtain ⟨h4, h5⟩ := q xs hr
    exact ⟨a, xs, rfl, .inr hs, h2, h4, PV.here rh h5 rep_mk_bl⟩
  · obtain ⟨a, xs, rfl, hs, _, _, hr⟩ := ry
    obtain ⟨h4, h5⟩ := q xs hr
    exact ⟨a, xs, rfl, .inl (SqL.of hs), h2, h4, PV.here rh h5 rep_mk_bl⟩
theorem mn_inT {neg : Bool} : Mono2 (oInT neg) := fun x y M Q Q' q ⟨fx, ds, e, fs, h⟩ => ⟨fx, ds, e, fs, q _ _ h⟩
@[simp] theorem u_inTI {i : Int} {ds : List D} {M : MH} {Q : QE} : oInT false (.int i) (.tup ds) M Q ↔ ds.all D.fl = true ∧ Q (.bl (inD (.int i) ds)) M := by
  constructor
  · rintro ⟨_, ds', (e | e), h⟩
    · cases e; exact h
    · cases e
  · exact fun h => ⟨rfl, ds, .inl rfl, h⟩
theorem inD_ints (i : Int) : ∀ (j : Int) (ds : List D), inD (.int i) (.int j :: ds) = (j == i || inD (.int i) ds) := fun j ds => rfl
theorem inD_nil (x : D) : inD x [] = false := rfl
end MD
namespace Kit
open MD L2 PySem
/-! tones and whole numbers in names -/
def Pr (s : D) (f o : Int) : Prop := s = .tup [.int f, .int o] ∨ s = .lst [.int f, .int o]
abbrev N_steps : List Str := ["interval"]
def sp_steps : SpD := fun ds M Q _ => ∃ s f o, ds = [s] ∧ Pr s f o ∧ Q (.int (4 * f + 7 * o)) M
theorem mono_steps : MonoP sp_steps := fun ds M Q Q' E E' q x ⟨s, f, o, e, h1, h⟩ => ⟨s, f, o, e, h1, q _ _ h⟩
theorem len_steps (ds M Q E) (h : sp_steps ds M Q E) : ds.length = 1 := by obtain ⟨_, _, _, rfl, _⟩ := h; rfl
def r_steps : TS' := (tRet' (tOp' (oAdd false) (tOp' (oMul false) (tC' (.int 4)) (tOp' oIx (tVar' 0) (tC' (.int 0)))) (tOp' (oMul false) (tC' (.int 7)) (tOp' oIx (tVar' 0) (tC' (.int 1))))))
theorem math_steps (ds M Q E) (hM : WFM M) (hb : D.belL M.length ds = true) (h : sp_steps ds M Q E) : r_steps (retE M.length Q E) (startD N_steps ds) M := by
  obtain ⟨s, f, o, rfl, hs, q⟩ := h
  rcases hs with rfl | rfl <;> simp [r_steps, startD, mulOk_l, popM_same, q]
abbrev N_height : List Str := ["interval"]
def sp_height : SpD := fun ds M Q _ => ∃ s f o, ds = [s] ∧ Pr s f o ∧ Q (.int (7 * f + 12 * o)) M
theorem mono_height : MonoP sp_height := fun ds M Q Q' E E' q x ⟨s, f, o, e, h1, h⟩ => ⟨s, f, o, e, h1, q _ _ h⟩
theorem len_height (ds M Q E) (h : sp_height ds M Q E) : ds.length = 1 := by obtain ⟨_, _, _, rfl, _⟩ := h; rfl
def r_height : TS' := (tRet' (tOp' (oAdd false) (tOp' (oMul false) (tC' (.int 7)) (tOp' oIx (tVar' 0) (tC' (.int 0)))) (tOp' (oMul false) (tC' (.int 12)) (tOp' oIx (tVar' 0) (tC' (.int 1))))))
theorem math_height (ds M Q E) (hM : WFM M) (hb : D.belL M.length ds = true) (h : sp_height ds M Q E) : r_height (retE M.length Q E) (startD N_height ds) M := by
  obtain ⟨s, f, o, rfl, hs, q⟩ := h
  rcases hs with rfl | rfl <;> simp [r_height, startD, mulOk_l, popM_same, q]
abbrev N_whole : List Str := ["text", "figures", "sign"]
def sp_whole : SpD := fun ds M Q _ => ∃ n : Int, ds = [.str (toString n : String)] ∧ -1000000 ≤ n ∧ n ≤ 1000000 ∧ Q (.int n) M
theorem mono_whole : MonoP sp_whole := fun ds M Q Q' E E' q x ⟨n, e, h1, h2, h⟩ => ⟨n, e, h1, h2, q _ _ h⟩
theorem len_whole (ds M Q E) (h : sp_whole ds M Q E) : ds.length = 1 := by obtain ⟨_, rfl, _⟩ := h; rfl
def r_whole : TS' := (tSeq' (tAsg' (tIf' (tTru' (tBM' "str" mStarts (tVar' 0) (tCons' (tC' (.str "-")) tNil'))) (tSl' (oSl false) (tVar' 0) (tPart' (tC' (.int 1))) tNoPart') (tVar' 0)) (gName' 1))
    (tSeq' (tIfS' (tOr' (tNot' (tB' (tChain' (oI0 fun i j => .bl (decide (i < j))) (oI0 fun i j => .bl (decide (i ≤ j))) (tC' (.int 0)) (tCB' cLen (tCons' (tVar' 1) tNil')) (tC' (.int 30))))) (tNot' (tTru' (tCB' (cBls fun bs => bs.all id) (tCons' (tLc' false (tIt' (tVar' 1)) (gName' 2) tYes' (tOp' (oInS false) (tVar' 2) (tC' (.str "0123456789"))) [2]) tNil'))))) (tRet' (tC' .non)) tNext')
    (tSeq' (tIfS' (tAnd' (tB' (tOp' (oEq false) (tOp' oIx (tVar' 1) (tC' (.int 0))) (tC' (.str "0")))) (tOr' (tB' (tOp' (oI0 fun i j => .bl (decide (j < i))) (tCB' cLen (tCons' (tVar' 1) tNil')) (tC' (.int 1)))) (tB' (tOp' (oEq true) (tVar' 1) (tVar' 0))))) (tRet' (tC' .non)) tNext')
    (tRet' (tCB' cInt (tCons' (tVar' 0) tNil'))))))
theorem blsD_bl : ∀ bs : List Bool, blsD (bs.map D.bl) = some bs
  | [] => rfl
  | b :: r => by show (blsD (r.map D.bl)).map (b :: ·) = _; rw [blsD_bl r]; rfl
theorem digit_in : ∀ c : Nat, 48 ≤ c → c ≤ 57 → c ∈ ("0123456789" : Str).cps.toList := by
  intro c h1 h2
  have : ("0123456789" : Str).cps.toList = [48, 49, 50, 51, 52, 53, 54, 55, 56, 57] := rfl
  rw [this]
  simp
  omega
theorem whole_tail {m : Nat} {x fig : Str} {n : Int} (hf : fig.cps.toList = digs m) (hx : x.length ≤ 8) (hl : fig.length ≤ 8) (hm : m = 0 → fig = x) (hn : PySem.intText? x = some n) {Q : QE} {E : QX} {M : MH} (q : Q (.int n) M) :
    (tSeq' (tIfS' (tOr' (tNot' (tB' (tChain' (oI0 fun i j => .bl (decide (i < j))) (oI0 fun i j => .bl (decide (i ≤ j))) (tC' (.int 0)) (tCB' cLen (tCons' (tVar' 1) tNil')) (tC' (.int 30))))) (tNot' (tTru' (tCB' (cBls fun bs => bs.all id) (tCons' (tLc' false (tIt' (tVar' 1)) (gName' 2) tYes' (tOp' (oInS false) (tVar' 2) (tC' (.str "0123456789"))) [2]) tNil'))))) (tRet' (tC' .non)) tNext')
    (tSeq' (tIfS' (tAnd' (tB' (tOp' (oEq false) (tOp' oIx (tVar' 1) (tC' (.int 0))) (tC' (.str "0")))) (tOr' (tB' (tOp' (oI0 fun i j => .bl (decide (j < i))) (tCB' cLen (tCons' (tVar' 1) tNil')) (tC' (.int 1)))) (tB' (tOp' (oEq true) (tVar' 1) (tVar' 0))))) (tRet' (tC' .non)) tNext')
    (tRet' (tCB' cInt (tCons' (tVar' 0) tNil'))))) (retE M.length Q E) [some (.str x), some (.str fig), none] M := by
  have hz : (sizeLine : Nat) = 16777216 := by decide
  have hp : 0 < fig.length := by
    rw [len_cps, hf]
    exact List.length_pos_iff.mpr (digs_ne m)
  refine seq_step fun S hS => ?_
  simp
  refine ⟨by omega, ?_⟩
  simp [hp, show (fig.length : Int) ≤ 30 by omega]
  refine lcL_map (fun d => match d with | .str ⟨⟨[c]⟩⟩ => .bl (hasC c "0123456789") | d => d) (by exact trivial) _ _ ?_ ?_ ?_
  · intro d hd Q' q'
    rw [List.mem_map] at hd
    obtain ⟨c, _, rfl⟩ := hd
    simp [wipeD]
    exact q'
  · simp
    have : fig.cps.size = fig.length := rfl
    omega
  · have e : (List.map (fun d => match d with | .str ⟨⟨[c]⟩⟩ => .bl (hasC c "0123456789") | d => d) (List.map (fun c => D.str ⟨#[c]⟩) fig.cps.toList)) = (fig.cps.toList.map fun c => hasC c "0123456789").map D.bl := by
      rw [List.map_map, List.map_map]; rfl
    rw [List.nil_append, e]
    refine ⟨_, blsD_bl _, ?_⟩
    rw [if_neg (by
      intro hb
      obtain ⟨c, hc, e⟩ := List.mem_map.mp hb
      rw [hf] at hc
      obtain ⟨h1, h2⟩ := digs_all m c hc
      rw [show hasC c "0123456789" = true from decide_eq_true (digit_in c h1 h2)] at e
      cases e)]
    subst hS
    refine seq_step fun S hS => ?_
    cases hd : digs m with
    | nil => exact absurd hd (digs_ne m)
    | cons c r =>
      have h0 : atI fig.cps.toList 0 = some c := by rw [hf, hd]; exact atI_0
      simp [h0]
      have fin : S (retE M.length Q E) [some (.str x), some (.str fig), none] M := by
        subst hS
        simp [popM_same]
        exact .inr (.inr ⟨x, n, rfl, hn, by omega, by rw [u_rt, popM_same (Nat.le_refl _)]; exact q⟩)
      refine ⟨by omega, ?_⟩
      by_cases h0 : m = 0
      · subst h0
        have hl1 : fig.length = 1 := by rw [len_cps, hf]; rfl
        rw [hm rfl] at hl1 ⊢
        rw [hm rfl] at fin
        split
        · refine ⟨by omega, ?_⟩
          rw [if_neg (by rw [hl1]; decide), if_pos rfl]
          exact fin
        · exact fin
      · rw [if_neg]
        · exact fin
        · intro e
          obtain ⟨c', r', e1, e2⟩ := digs_head m h0
          rw [hd] at e1
          cases e1
          have : (#[c] : Array Nat) = #[48] := congrArg Str.cps e
          simp at this
          exact e2 this
theorem math_whole (ds M Q E) (hM : WFM M) (hb : D.belL M.length ds = true) (h : sp_whole ds M Q E) : r_whole (retE M.length Q E) (startD N_whole ds) M := by
  obtain ⟨n, rfl, h1, h2, q⟩ := h
  have hz : (sizeLine : Nat) = 16777216 := by decide
  have hl := num_len (n := n) (by omega)
  have hn := num_back (n := n) (by omega)
  have hs := num_split n
  generalize ((toString n : String) : Str) = x at hl hn hs ⊢
  unfold r_whole
  refine seq_step fun S hS => ?_
  simp [startD]
  have e45 : ("-" : Str) = ⟨#[45]⟩ := rfl
  rw [e45, starts1]
  obtain ⟨m, ⟨e, hx⟩ | ⟨hm, e, hx⟩⟩ := hs
  · have : (x.cps.toList.head? == some 45) = false := by
      rw [hx]
      cases hd : digs m with
      | nil => rfl
      | cons c r =>
        have := digs_all m c (by rw [hd]; exact List.mem_cons_self)
        simp
        omega
    rw [this]
    simp
    subst hS
    exact whole_tail hx hl hl (fun _ => rfl) hn q
  · have : (x.cps.toList.head? == some 45) = true := by rw [hx]; rfl
    rw [this]
    have hlx : x.length = (digs m).length + 1 := by rw [len_cps, hx]; rfl
    have hc := cut_from x 1 (by omega)
    rw [hx] at hc
    simp [oSl]
    refine ⟨by omega, ?_⟩
    rw [show (some (1 : Int)) = some (((1 : Nat) : Int)) from rfl, hc]
    subst hS
    refine whole_tail (m := m) rfl hl ?_ (fun z => absurd z hm) hn q
    show (digs m).length ≤ 8
    omega
abbrev N_within : List Str := ["interval", "text"]
def sp_within : SpD := fun ds M Q _ => ∃ f o x, ds = [.tup [.int f, .int o], x] ∧ Far f ∧ Far o ∧ Q (.tup [.int f, .int o]) M
theorem mono_within : MonoP sp_within := fun ds M Q Q' E E' q x ⟨f, o, y, e, h1, h2, h⟩ => ⟨f, o, y, e, h1, h2, q _ _ h⟩
theorem len_within (ds M Q E) (h : sp_within ds M Q E) : ds.length = 2 := by obtain ⟨_, _, _, rfl, _⟩ := h; rfl
def r_within : TS' := (tSeq' (tIfS' (tB' (tOp' (oI0 fun i j => .bl (decide (j < i))) (tCB' (cI2 fun i j => .int (if j > i then j else i)) (tCons' (tCB' (cI1 fun i => .int (if i < 0 then -i else i)) (tCons' (tOp' oIx (tVar' 0) (tC' (.int 0))) tNil')) (tCons' (tCB' (cI1 fun i => .int (if i < 0 then -i else i)) (tCons' (tOp' oIx (tVar' 0) (tC' (.int 1))) tNil')) tNil'))) (tC' (.int 1000)))) tNever' tNext')
    (tRet' (tVar' 0)))
theorem math_within (ds M Q E) (hM : WFM M) (hb : D.belL M.length ds = true) (h : sp_within ds M Q E) : r_within (retE M.length Q E) (startD N_within ds) M := by
  obtain ⟨f, o, x, rfl, h1, h2, q⟩ := h
  unfold Far at h1 h2
  unfold r_within
  refine seq_step fun S hS => ?_
  simp [startD]
  have : ¬ (1000 < (if (if f < 0 then -f else f) < (if o < 0 then -o else o) then (if o < 0 then -o else o) else (if f < 0 then -f else f))) := by
    split <;> split <;> omega
  refine ⟨_, _, ⟨rfl, rfl⟩, Int.not_lt.mp this, ?_⟩
  subst hS
  simp [popM_same, q]
theorem pl_lt {f : Int} : (((4 * f) % 7).toNat) < 7 := by omega
theorem fifth_of (f : Int) : ([0, 2, 4, -1, 1, 3, 5] : List Int)[((4 * f) % 7).toNat]? = some (f - 7 * ((f + 1) / 7)) := by
  have h : f % 7 = 0 ∨ f % 7 = 1 ∨ f % 7 = 2 ∨ f % 7 = 3 ∨ f % 7 = 4 ∨ f % 7 = 5 ∨ f % 7 = 6 := by omega
  rcases h with h | h | h | h | h | h | h <;> first | (have e : ((4 * f) % 7).toNat = 0 := by omega) ; (have e2 : f - 7 * ((f + 1) / 7) = 0 := by omega) ; (rw [e, e2]; rfl) | (have e : ((4 * f) % 7).toNat = 1 := by omega) ; (have e2 : f - 7 * ((f + 1) / 7) = 2 := by omega) ; (rw [e, e2]; rfl) | (have e : ((4 * f) % 7).toNat = 2 := by omega) ; (have e2 : f - 7 * ((f + 1) / 7) = 4 := by omega) ; (rw [e, e2]; rfl) | (have e : ((4 * f) % 7).toNat = 3 := by omega) ; (have e2 : f - 7 * ((f + 1) / 7) = -1 := by omega) ; (rw [e, e2]; rfl) | (have e : ((4 * f) % 7).toNat = 4 := by omega) ; (have e2 : f - 7 * ((f + 1) / 7) = 1 := by omega) ; (rw [e, e2]; rfl) | (have e : ((4 * f) % 7).toNat = 5 := by omega) ; (have e2 : f - 7 * ((f + 1) / 7) = 3 := by omega) ; (rw [e, e2]; rfl) | (have e : ((4 * f) % 7).toNat = 6 := by omega) ; (have e2 : f - 7 * ((f + 1) / 7) = 5 := by omega) ; (rw [e, e2]; rfl)
theorem str_len_app (a b : Str) : (a ++ b).length = a.length + b.length := by rw [len_cps, len_cps a, len_cps b, cps_app, List.length_append]
theorem at_nat {α : Type} {xs : List α} {k : Nat} {x : α} (h : xs[k]? = some x) : atI xs (k : Int) = some x := atI_n (by omega) (by simpa using h)
end Kit
namespace MD
open PySem PySem.Spec PyProof.Rows L2
variable {K : PySem.W.Frag} {w w1 w2 : Wd} {X : Cx} {W : WX} {e a b c : Expr} {pos : Pos}
theorem lc_up (cell : Bool) {tg iter : Expr} {own : List (Str × Nat)} {ti : TI'} {gH : TG} {g : TG'} {tt : TT'} {te : TE'} (hi : MI X W tg iter ti) (cg : CompG X.K (own.map (·.2)) gH g) (mt : MonoT tt) (me : MonoE te) :
    ∀ (σ : L2.St) (H : Hp) (Q : VK), up X.K W (tLc' cell ti g tt te (own.map (·.2))) σ H Q → tLc (upI X.K W ti) gH (upT X.K WF tt) (up X.K WF te) (own.map (·.2)) σ H Q :=
  fun σ H Q ⟨w, δ, eH, rh, rs, h⟩ => by
    subst eH
    refine ⟨w, δ, rfl, rh, rs, hi.mono _ _ _ _ _ _ (fun it M1 h1 J w1 e1 l1 rh1 ok1 st p hp => ?_) (fun _ _ x => x) h⟩
    subst e1
    refine ⟨fun i m H => ∃ (w2 : Wd) (r acc : List MD.D) (accv : List V), w2.H = H ∧ Le w1 w2 ∧ RH X.K w2 ∧ p ∈ w2.r ∧ w2.H p = some (.lst accv) ∧ RepL X.K w2 acc accv ∧ (∀ a ∈ w1.r, a ∈ w2.r) ∧ r = it.items.drop i ∧ i ≤ it.items.length ∧ m = r.length ∧
        lcL it g tt te (own.map (·.2)) δ (fun acc M2 => newL cell acc M2 (PV X.K w Q)) r acc w2.M,
      ⟨it.items.length, w1.hold p, it.items, [], [], rfl, Le.hold hp, rh1.hold hp, List.mem_cons_self, upd_same, RepL.nil, fun a ha => List.mem_cons_of_mem _ ha, by simp, Nat.zero_le _, rfl, h1⟩, ?_⟩
    rintro i m H2 ⟨w2, r, acc, accv, rfl, l2, rh2, hp2, hl2, hr2, hs2, er, hi2, rfl, h2⟩
    cases r with
    | nil =>
      have hl : it.items.length ≤ i := by
        have := congrArg List.length er
        simp at this; omega
      have : i = it.items.length := by omega
      subst this
      exact .inl ⟨(ok1 w2 l2 rh2 h2.1).1, lc_end rh rh1 l1 hp rh2 l2 hp2 hl2 hr2 hs2 h2.2⟩
    | cons d r =>
      have hd : it.items[i]? = some d := by
        have : (it.items.drop i)[0]? = some d := by rw [← er]; rfl
        simpa using this
      have hr : r = it.items.drop (i + 1) := by
        have : (it.items.drop i).drop 1 = r := by rw [← er]; rfl
        rw [← this, List.drop_drop]
      have hlt : i < it.items.length := (List.getElem?_eq_some_iff.mp hd).1
      obtain ⟨go, yl⟩ := (ok1 w2 l2 rh2 h2.1).2 i d hd
      refine .inr ⟨go, fun H' => ∃ (w5 : Wd) (acc : List MD.D) (accv : List V), w5.H = H' ∧ Le w1 w5 ∧ RH X.K w5 ∧ p ∈ w5.r ∧ w5.H p = some (.lst accv) ∧ RepL X.K w5 acc accv ∧ (∀ a ∈ w1.r, a ∈ w5.r) ∧
          lcL it g tt te (own.map (·.2)) δ (fun acc M2 => newL cell acc M2 (PV X.K w Q)) r acc w5.M,
        fun H' ⟨w5, acc5, accv5, e5, l5, rh5, hp5, hl5, hr5, hs5, q5⟩ => ⟨r.length, Nat.lt_succ_self _, w5, r, acc5, accv5, e5, l5, rh5, hp5, hl5, hr5, hs5, hr, hlt, rfl, q5⟩, fun x H' hy => ?_⟩
      obtain ⟨w3, e3, eM, l3, rh3, rx⟩ := yl x H' hy
      subst e3
      have lr3 : ∀ a ∈ w2.r, a ∈ w3.r := fun a ha => by
        obtain ⟨s, es, _⟩ := l3.rr
        rw [es]; exact List.mem_append_right _ ha
      have hp3 := lr3 p hp2
      have hl3 : w3.H p = some (.lst accv) := l3.keep p _ hl2 (rh2.r_dead hp2)
      have l13 := l2.trans rh1 rh2 l3
      have h2' := h2.2
      rw [← eM] at h2'
      have rsw : RepS X.K w3 (wipeD δ (own.map (·.2))) (wipe σ (own.map (·.2))) := (((rs.le rh l1).le rh1 l13)).wipe _
      have q := cg.run w3 (wipe σ (own.map (·.2))) (wipeD δ (own.map (·.2))) d x _ rh3 rsw rx h2'
      have key : ∀ σ2 H2, (wipe σ2 (own.map (·.2)) = wipe (wipe σ (own.map (·.2))) (own.map (·.2)) ∧ H2 = w3.H ∧ ∃ δ2, RepS X.K w3 δ2 σ2 ∧ tt δ2 w3.M (fun b M3 =>
          if b = true then te δ2 M3 (fun y M4 => acc.length < sizeLine ∧ lcL it g tt te (own.map (·.2)) δ (fun acc M2 => newL cell acc M2 (PV X.K w Q)) r (acc ++ [y]) M4) (fun _ _ => False) else lcL it g tt te (own.map (·.2)) δ (fun acc M2 => newL cell acc M2 (PV X.K w Q)) r acc M3) (fun _ _ => False)) →
          wipe σ2 (own.map (·.2)) = wipe σ (own.map (·.2)) ∧ upT X.K WF tt σ2 H2 fun b H3 => if b = true then up X.K WF te σ2 H3 fun y H4 => ∃ acc, H4 p = some (.lst acc) ∧ acc.length < sizeLine ∧
            (fun H' => ∃ (w5 : Wd) (acc : List MD.D) (accv : List V), w5.H = H' ∧ Le w1 w5 ∧ RH X.K w5 ∧ p ∈ w5.r ∧ w5.H p = some (.lst accv) ∧ RepL X.K w5 acc accv ∧ (∀ a ∈ w1.r, a ∈ w5.r) ∧
              lcL it g tt te (own.map (·.2)) δ (fun acc M2 => newL cell acc M2 (PV X.K w Q)) r acc w5.M) (upd H4 p (.lst (acc ++ [y]))) else
            (fun H' => ∃ (w5 : Wd) (acc : List MD.D) (accv : List V), w5.H = H' ∧ Le w1 w5 ∧ RH X.K w5 ∧ p ∈ w5.r ∧ w5.H p = some (.lst accv) ∧ RepL X.K w5 acc accv ∧ (∀ a ∈ w1.r, a ∈ w5.r) ∧
              lcL it g tt te (own.map (·.2)) δ (fun acc M2 => newL cell acc M2 (PV X.K w Q)) r acc w5.M) H3 := by
        rintro σ2 _ ⟨ew, rfl, δ2, rs2, q2⟩
        refine ⟨by rw [ew, wipe_wipe], upT_go mt rh3 rs2 q2 (fun _ _ z => z.elim) fun b w4 l4 rh4 rs4 q4 => ?_⟩
        have lr4 : ∀ a ∈ w3.r, a ∈ w4.r := fun a ha => by
          obtain ⟨s, es, _⟩ := l4.rr
          rw [es]; exact List.mem_append_right _ ha
        have hp4 := lr4 p hp3
        have hl4 : w4.H p = some (.lst accv) := l4.keep p _ hl3 (rh3.r_dead hp3)
        have l14 := l13.trans rh1 rh3 l4
        cases b with
        | false =>
          exact ⟨w4, acc, accv, rfl, l14, rh4, hp4, hl4, (RepL.le rh2 l3 _ hr2).le' rh3 l4, fun a ha => lr4 a (lr3 a (hs2 a ha)), q4⟩
        | true =>
          refine up_go me rh4 rs4 q4 (fun _ _ z => z.elim) fun dy vy w6 l6 rh6 rs6 ry ⟨q6, q7⟩ => ?_
          have lr6 : ∀ a ∈ w4.r, a ∈ w6.r := fun a ha => by
            obtain ⟨s, es, _⟩ := l6.rr
            rw [es]; exact List.mem_append_right _ ha
          have hp6 := lr6 p hp4
          have hl6 : w6.H p = some (.lst accv) := l6.keep p _ hl4 (rh4.r_dead hp4)
          have l16 := l14.trans rh1 rh4 l6
          have ra : RepL X.K w6 acc accv := ((RepL.le rh2 l3 _ hr2).le' rh3 l4).le' rh4 l6
          refine ⟨accv, hl6, by rw [ra.length]; exact q6, w6.turn p (accv ++ [vy]), acc ++ [dy], accv ++ [vy], rfl, l16.turn hp, rh6.turn hp6 hl6, hp6, upd_same, RepL.turn hp6 hl6 _ (ra.append (RepL.cons ry RepL.nil)), fun a ha => lr6 a (lr4 a (lr3 a (hs2 a ha))), q7⟩
      exact cg.hm _ _ _ _ _ key q
theorem mono_lc {cell : Bool} {tg iter : Expr} {own : List (Str × Nat)} {ti : TI'} {gH : TG} {g : TG'} {tt : TT'} {te : TE'} (hi : MI X W tg iter ti) (cg : CompG X.K (own.map (·.2)) gH g) (mt : MonoT tt) (me : MonoE te) : MonoE (tLc' cell ti g tt te (own.map (·.2))) :=
  fun δ M Q Q' E E' q x hh => hi.mono _ _ _ _ _ _ (fun it M1 h1 => mono_lcL cg.mono mt me (fun a M h2 => h2.mono q) _ _ _ h1) x hh
theorem ms_setLc (cell : Bool) {i : Nat} {y : Str} {py : Pos} {elt tg iter : Expr} {ifs : List Expr} {scope : Scope} {own : List (Str × Nat)} {spos : Pos} {ti : TI'} {gH : TG} {g : TG'} {tt : TT'} {te : TE'} (hc : X.calm = true) (hN : X.N.Nodup) (hy : X.N[i]? = some y) (hyl : X.env.scope.names.lookup y = some .local)
    (hsw : swapsWith (.ListComp elt [⟨tg, iter, ifs, 0⟩] scope pos) (some (.Name y py)) spos.line X.env = pure true) (hi : MI X W tg iter ti) (ok : BlkOk X.N X.env.scope scope own)
    (hg : ∀ (s : Shared) (H : Hp) (C : Addr) (cl : List (Str × Addr)) (fp : List Addr), PG (X.blk s H scope (compEnvC scope cl C X.env) fp) tg gH) (cg : CompG X.K (own.map (·.2)) gH g)
    (ht : ∀ (s : Shared) (H : Hp) (C : Addr) (cl : List (Str × Addr)) (fp : List Addr), MTs (X.blk s H scope (compEnvC scope cl C X.env) fp) WF ifs tt)
    (he : ∀ (s : Shared) (H : Hp) (C : Addr) (cl : List (Str × Addr)) (fp : List Addr), ME (X.blk s H scope (compEnvC scope cl C X.env) fp) WF elt te) (hs : ∀ x, foldedSetIterable iter X.env x = pure x := by intro _; rfl) :
    MS X W (.Assign [.Name y py] (.ListComp elt [⟨tg, iter, ifs, 0⟩] scope pos) spos) (tAsg' (tLc' cell ti g tt te (own.map (·.2))) (gName' i)) :=
  have mt : MonoT tt := (ht X.s_0 X.H_0 0 [] []).mono
  have me : MonoE te := (he X.s_0 X.H_0 0 [] []).mono
  have ml : MonoE (tLc' cell ti g tt te (own.map (·.2))) := mono_lc hi cg mt me
  ⟨PS.imp (ps_setLc (tt := upT X.K WF tt) (te := up X.K WF te) hc hN hy hyl hsw hi.pi ok hg (fun s H C cl fp => (ht s H C cl fp).pts) (fun s H C cl fp => (he s H C cl fp).pe) hs) fun D σ H ⟨w, δ, eH, rh, rs, h⟩ => by
    subst eH
    refine lc_up cell hi cg mt me σ w.H _ ?_
    refine up_go ml rh rs h (ex_of rs rh (Ends'.le.refl _)) fun d v w1 l1 rh1 rs1 rv h1 => ?_
    exact h1 _ w1 rfl l1 rh1 (rs1.set i rv), mono_asg ml fun d δ M Q Q' q h => q _ _ h⟩
end MD
namespace MD
open PySem PySem.Spec PyProof.Rows L2
variable {K : PySem.W.Frag} {w w1 w2 : Wd} {X : Cx} {W : WX} {e a b c : Expr} {pos : Pos}
/-! sorted(xs), xs a list of pairs of whole numbers -/
def lexLe (p q : Int × Int) : Prop := p.1 < q.1 ∨ (p.1 = q.1 ∧ p.2 ≤ q.2)
def rSortQ (K : PySem.W.Frag) : List V → Hp → VK → Prop := fun vs H Q => ∃ (a : Addr) (zs : List (V × (Int × Int))), vs = [V.ref a] ∧ SqL K H a (zs.map (·.1)) ∧ (∀ z ∈ zs, ∃ t, z.1 = V.ref t ∧ SqT K H t [.int z.2.1, .int z.2.2]) ∧
  ∀ (zs' : List (V × (Int × Int))) p, zs'.Perm zs → (zs'.map (·.2)).Pairwise lexLe → H p = none → Q (.ref p) (upd H p (.lst (zs'.map (·.1))))
open Classical in
noncomputable def keyOf (h : Heap) (v : Value) : Int × Int := if x : ∃ p : Int × Int, Srt.IsPair h v p.1 p.2 then Classical.choose x else (0, 0)
theorem isPair_inj {h : Heap} {v : Value} {p q : Int × Int} (a : Srt.IsPair h v p.1 p.2) (b : Srt.IsPair h v q.1 q.2) : p = q := by
  obtain ⟨p1, p2⟩ := p
  obtain ⟨q1, q2⟩ := q
  obtain ⟨x, o, t, u, n, rfl, ho, hc, hd⟩ := a
  obtain ⟨x', o', t', u', n', e, ho', hc', hd'⟩ := b
  cases e
  rw [ho] at ho'; cases ho'
  rw [hd] at hd'
  cases hd'
  rfl
theorem keyOf_eq {h : Heap} {v : Value} {p : Int × Int} (a : Srt.IsPair h v p.1 p.2) : keyOf h v = p := by
  unfold keyOf
  have x : ∃ p : Int × Int, Srt.IsPair h v p.1 p.2 := ⟨p, a⟩
  rw [dif_pos x]
  exact isPair_inj (Classical.choose_spec x) a
theorem cr_sortQ : CallR X (.builtin "sorted") (rSortQ X.K) := by
  intro pins s σ H vs us Q I r h
  obtain ⟨a, zs, rfl, hs, hx, q⟩ := h
  obtain ⟨its, rv, hl, hz⟩ := I.list hs
  obtain ⟨u, rfl, ru⟩ := vals1 r
  obtain rfl : u = Value.ref a := ru
  obtain ⟨e1, e2⟩ := refs_back rv fun x m => by
    obtain ⟨z, hz, rfl⟩ := List.mem_map.mp m
    obtain ⟨t, e, _⟩ := hx z hz
    exact ⟨t, e⟩
  have pr : ∀ z ∈ zs, ∀ v, backV v = z.1 → (∃ a, v = Value.ref a) → Srt.IsPair s.heap v z.2.1 z.2.2 := by
    rintro z hz v e ⟨t, rfl⟩
    obtain ⟨t', e', ht⟩ := hx z hz
    rw [e'] at e
    cases e
    obtain ⟨its2, r2, ⟨o, ho, hc, n, hd⟩, _⟩ := I.tuple ht
    obtain ⟨u1, u2, rfl, ri, rj⟩ := vals2 r2
    obtain ⟨t1, rfl⟩ := ri
    obtain ⟨t2, rfl⟩ := rj
    exact ⟨t, o, t1, t2, n, rfl, ho, hc, hd⟩
  have hzs : zs = its.map fun v => (backV v, keyOf s.heap v) := by
    have : ∀ (zs : List (V × (Int × Int))) (its : List Value), zs.map (·.1) = its.map backV → (∀ u ∈ its, ∃ a, u = Value.ref a) → (∀ z ∈ zs, ∀ v, backV v = z.1 → (∃ a, v = Value.ref a) → Srt.IsPair s.heap v z.2.1 z.2.2) → zs = its.map fun v => (backV v, keyOf s.heap v) := by
      intro zs
      induction zs with
      | nil =>
        intro its e _ _
        cases its with
        | nil => rfl
        | cons v r => cases e
      | cons z r ih =>
        intro its e h2 h3
        cases its with
        | nil => cases e
        | cons v its =>
          rw [List.map_cons, List.map_cons] at e
          injection e with e1 e2
          rw [List.map_cons, ← ih its e2 (fun u hu => h2 u (List.mem_cons_of_mem _ hu)) (fun z hz => h3 z (List.mem_cons_of_mem _ hz))]
          have := keyOf_eq (h3 z List.mem_cons_self v e1.symm (h2 v List.mem_cons_self))
          rw [this, ← e1]
    exact this zs its e1 e2 pr
  refine SrtO.sorted_pairsO (k := fun u => keyOf s.heap u) hl.isList (by rw [← rv.length]; exact hz) (fun v hv => ?_) fun h' d out h1 h2 kp hd hn => ?_
  · have hm : (backV v, keyOf s.heap v) ∈ zs := by rw [hzs]; exact List.mem_map.mpr ⟨v, hv, rfl⟩
    exact pr _ hm v rfl (e2 v hv)
  · have h3 : ∀ u ∈ out, ∃ a, u = Value.ref a := fun u hu => e2 u (h2.perm.mem_iff.mp hu)
    obtain ⟨n, hn⟩ := hn
    have hp : (out.map fun v => (backV v, keyOf s.heap v)).Perm zs := by rw [hzs]; exact h2.perm.map _
    refine ⟨.ref d, upd H d (.lst (out.map backV)), I.laid (t' := s.toks) kp hd ⟨?_, out, n, vals_back h3, hn⟩, rfl, ?_⟩
    · have := hp.length_eq
      rw [List.length_map] at this ⊢
      rw [this]
      rw [List.length_map] at hz
      exact hz
    · have := q (out.map fun v => (backV v, keyOf s.heap v)) d hp ?_ (I.hok.fresh hd)
      · rw [List.map_map] at this
        exact this
      · rw [List.map_map]
        unfold SrtO.Srtd at h1
        rw [List.pairwise_map]
        exact h1.imp fun {x y} hxy => by
          have := SrtO.lexB_no.mp hxy
          unfold lexLe
          show (keyOf s.heap x).1 < (keyOf s.heap y).1 ∨ ((keyOf s.heap x).1 = (keyOf s.heap y).1 ∧ (keyOf s.heap x).2 ≤ (keyOf s.heap y).2)
          omega
def prD (p : Int × Int) : D := .tup [.int p.1, .int p.2]
def cSortP (cell : Bool) : RA' := fun ds M Q => ∃ d es ps, ds = [d] ∧ lstOf d M = some es ∧ es = ps.map prD ∧ ∀ ps' : List (Int × Int), ps'.Perm ps → ps'.Pairwise lexLe → newL cell (ps'.map prD) M Q
theorem repL_pairs : ∀ {ps : List (Int × Int)} {xs : List V}, RepL K w (ps.map prD) xs → ∃ zs : List (V × (Int × Int)), zs.map (·.1) = xs ∧ zs.map (·.2) = ps ∧ (∀ z ∈ zs, Rep K w (prD z.2) z.1)
  | [], xs, h => by have h : xs = [] := h; subst h; exact ⟨[], rfl, rfl, nofun⟩
  | p :: ps, xs, h => by
    obtain ⟨x, r, rfl, hx, hr⟩ := h
    obtain ⟨zs, e1, e2, h3⟩ := repL_pairs hr
    refine ⟨(x, p) :: zs, by rw [List.map_cons, e1], by rw [List.map_cons, e2], fun z hz => ?_⟩
    rcases List.mem_cons.mp hz with rfl | hz
    · exact hx
    · exact h3 z hz
theorem repL_of_pairs : ∀ {zs : List (V × (Int × Int))}, (∀ z ∈ zs, Rep K w (prD z.2) z.1) → RepL K w ((zs.map (·.2)).map prD) (zs.map (·.1))
  | [], _ => rfl
  | z :: zs, h => ⟨_, _, rfl, h z List.mem_cons_self, repL_of_pairs fun y hy => h y (List.mem_cons_of_mem _ hy)⟩
theorem la_sortP {cell : Bool} : LiftA K (rSortQ K) (cSortP cell) := by
  intro w xs ds Q rh r ⟨d, es, ps, e, e1, e2, q⟩
  subst e e2
  obtain ⟨v, rfl, rv⟩ := rep1 r
  obtain ⟨a, ys, rfl, hy, hr⟩ := lstOf_rep rh rv e1
  obtain ⟨zs, f1, f2, h3⟩ := repL_pairs hr
  subst f1 f2
  refine ⟨a, zs, rfl, SqL.of hy, fun z hz => ?_, fun zs' p hp hs hn => ?_⟩
  · obtain ⟨t, us, e, ht, hu⟩ := h3 z hz
    refine ⟨t, e, ?_⟩
    obtain ⟨x1, r1, rfl, hx1, hr1⟩ := hu
    obtain ⟨x2, r2, rfl, hx2, hr2⟩ := hr1
    have hr2 : r2 = [] := hr2
    rw [rep_int hx1, rep_int hx2, hr2] at ht
    exact ht
  · have q' := q (zs'.map (·.2)) (hp.map _) hs
    exact newL.lift rh (repL_of_pairs fun z hz => h3 z (hp.mem_iff.mp hz)) q' p hn
theorem mr_sortP {cell : Bool} : MonoR (cSortP cell) := fun ds M Q Q' q ⟨d, es, ps, e, e1, e2, h⟩ => ⟨d, es, ps, e, e1, e2, fun ps' a b => (h ps' a b).mono q⟩
@[simp] theorem u_sortP {cell : Bool} {ds : List D} {M : MH} {Q : QE} : cSortP cell ds M Q ↔ ∃ d es ps, ds = [d] ∧ lstOf d M = some es ∧ es = ps.map prD ∧ ∀ ps' : List (Int × Int), ps'.Perm ps → ps'.Pairwise lexLe → newL cell (ps'.map prD) M Q := Iff.rfl
theorem lex_uniq : ∀ {l m : List (Int × Int)}, l.Perm m → l.Pairwise lexLe → m.Pairwise lexLe → l = m
  | [], m, h, _, _ => (List.nil_perm.mp h).symm
  | x :: l, [], h, _, _ => nomatch h.length_eq
  | x :: l, y :: m, h, hl, hm => by
    have e : x = y := by
      have h1 : x = y ∨ x ∈ m := List.mem_cons.mp (h.mem_iff.mp List.mem_cons_self)
      have h2 : y = x ∨ y ∈ l := List.mem_cons.mp (h.mem_iff.mpr List.mem_cons_self)
      rcases h1 with h1 | h1
      · exact h1
      rcases h2 with h2 | h2
      · exact h2.symm
      have a := (List.pairwise_cons.mp hm).1 x h1
      have b := (List.pairwise_cons.mp hl).1 y h2
      unfold lexLe at a b
      refine Prod.ext ?_ ?_ <;> omega
    subst e
    rw [lex_uniq h.cons_inv (List.pairwise_cons.mp hl).2 (List.pairwise_cons.mp hm).2]
end MD
namespace MD
open PySem PySem.Spec PyProof.Rows L2
variable {K : PySem.W.Frag} {w w1 w2 : Wd} {X : Cx} {W : WX} {e a b c : Expr} {pos : Pos}
/-! repr of nested data, where no other repr is under way -/
def rRepr (K : PySem.W.Frag) : List V → Hp → VK → Prop := fun vs H Q => ∃ a d, vs = [V.ref a] ∧ Dp K H (V.ref a) d ∧ d.showable = true ∧ d.hasDict = false ∧ d.depth ≤ 64 ∧ d.shown.length ≤ sizeLine ∧ Q (.str d.shown) H
theorem cr_repr (hg : X.A.guards = some []) (hu : X.A.units + 66 < cLine) : CallR X (.builtin "repr") (rRepr X.K) := by
  intro pins s σ H vs us Q I r h
  obtain ⟨a, d, rfl, hd, hs, hn, h64, hz, q⟩ := h
  obtain ⟨u, rfl, ru⟩ := vals1 r
  obtain rfl : u = Value.ref a := ru
  obtain ⟨as, rd⟩ := Dp.reads I d (.ref a) (.ref a) hd rfl
  refine repr_of_reads' rd hs (fun z => by rw [hn] at z; cases z) hg (by omega) (fun _ _ z => z) (fun h' u tk hk => ?_) hz
  exact ⟨.str d.shown, H, I.kept hk, ⟨_, rfl⟩, q⟩
def cRepr : RA' := fun ds M Q => ∃ d, ds = [d] ∧ d.flat = true ∧ (∃ es, d = .tup es ∨ d = .lst es) ∧ d.py.showable = true ∧ d.py.hasDict = false ∧ d.py.depth ≤ 64 ∧ d.py.shown.length ≤ sizeLine ∧ Q (.str d.py.shown) M
theorem la_repr : LiftA K (rRepr K) cRepr := by
  intro w xs ds Q rh r ⟨d, e, hf, ht, h1, h2, h3, h4, q⟩
  subst e
  obtain ⟨v, rfl, rv⟩ := rep1 r
  have hp := Rep.dp d hf rv
  obtain ⟨es, rfl | rfl⟩ := ht
  · obtain ⟨a, ys, rfl, _⟩ := rv
    exact ⟨a, _, rfl, hp, h1, h2, h3, h4, PV.here rh q rep_mk_str⟩
  · obtain ⟨a, ys, rfl, _⟩ := rv
    exact ⟨a, _, rfl, hp, h1, h2, h3, h4, PV.here rh q rep_mk_str⟩
theorem mr_repr : MonoR cRepr := fun ds M Q Q' q ⟨d, e, hf, ht, h1, h2, h3, h4, h⟩ => ⟨d, e, hf, ht, h1, h2, h3, h4, q _ _ h⟩
end MD
namespace MD
open PySem PySem.Spec PyProof.Rows L2
/-! a def's promise where no repr is under way; for the def `law` alone -/
structure FnG (P : Program) (wd : World) (K : PySem.W.Frag) (mg : Str → Option Value) (base : Heap) (k : Nat) (f : Addr) (fd : FuncData) (ps : List Str) (sp : Sp) : Prop where
  run : ∀ (A : Around) (outer : List Env) (s : Shared) (H : Hp) (args : Args) (us : List Value) (vs : List V) (Q : VK) (E : XK),
    A.guards = some [] → Room k A → Env0 P wd K mg base A outer s H → BindsTo s fd args (ps.zip us) → Vals vs us → sp vs H Q E →
      codeAny (model P wd) A (.call (.ref f) args) (CR (L2.CX P wd) outer P wd H s Q E) s
section
variable {P : Program} {wd : World} {K : PySem.W.Frag} {mg : Str → Option Value} {base : Heap}
theorem fnG_of {k : Nat} {f : Addr} {x qual : Str} {st : Stmt} {fd : FuncData} {N ps : List Str} {sp : Sp} (F : Fun K x qual st f fd) (S : FnScope N ps (defScope st)) (len : ∀ vs H Q E, sp vs H Q E → vs.length = ps.length)
    (hbody : ∀ (cdv : Value) (A : Around) (outer : List Env) (s : Shared) (H : Hp) (vs : List V) (Q : VK) (E : XK), A.guards = some [] →
      Room k (A.deeper (envOfC qual (defScope st) s.heap.objs.size f cdv)) → sp vs H Q E →
      ∃ t, PSs (cxOf (L2.CX P wd) P wd K mg base N qual (defScope st) f cdv A outer s H E) (defBody st) t ∧ t { nx := fun _ H' => Q .non H', rt := Q } (start N vs) H) :
    FnG P wd K mg base (k + 1) f fd ps sp := by
  obtain ⟨oc, od, kV, doc, pm, an, cdv, ct, osl, rfl, lk, hcd⟩ := F.ex
  refine ⟨fun A outer s H args us vs Q E gd room en bind rel promise => ?_⟩
  have ln := len _ _ _ _ promise
  have inK : K.In s.heap := en.mod.kin.keeps fun b o e => (en.bs b o e).1
  have noLim : s.heap.NoLimit := en.mod.nolimit.keeps fun b o e => (en.bs b o e).1
  have kinds : ∀ y ∈ ps.zip us, (defScope st).names.lookup y.1 = some .local ∨
      ((defScope st).names.lookup y.1 = some .cell ∧ ((cellsFrom (s.heap.objs.size + 1) (defScope st).names []).lookup y.1).isSome = true) := by
    rintro ⟨n, v⟩ hy
    rcases S.par n (List.of_mem_zip hy).1 with z | z
    · exact Or.inl z
    · exact Or.inr ⟨z, PySem.W.cellsFrom_some _ _ _ (Or.inl z)⟩
  refine codeAny_call_function room.depth (inK _ _ lk) rfl S.co S.gen rfl (PySem.W.codeRec_of inK hcd) (bind _ _ _ _ ?_)
  refine wpAny_newFunctionEnv_cells S.kind kinds fun env ee s1 made => ?_
  subst ee
  refine ⟨noLim.keeps made.toInCall.keep, codeAny_func ?_⟩
  obtain ⟨t, body, q0⟩ := hbody cdv A outer s H vs Q E gd (room.deeper _) promise
  have J : Inv (cxOf (L2.CX P wd) P wd K mg base N qual (defScope st) f cdv A outer s H E) [] (start N vs) H s1 := inv_start S room.hd en ln rel made
  refine wpAny_mono (body.run [] s1 (start N vs) H _ J q0) (fun fl s' out => ?_) fun _ _ out => out
  cases fl with
  | ret u =>
    obtain ⟨v, σ', H', J', rv, q⟩ := out
    exact ⟨v, H', J'.os, J'.bare, J'.base, J'.hok, rv, q⟩
  | next =>
    obtain ⟨σ', H', J', q⟩ := out
    exact ⟨V.non, H', J'.os, J'.bare, J'.base, J'.hok, rfl, q⟩
  | brk => exact (out.elim fun _ z => z.elim fun _ z => z.elim fun _ z => False.elim z)
  | cont => exact (out.elim fun _ z => z.elim fun _ z => z.elim fun _ z => False.elim z)
theorem okMG {x qual : Str} {st : Stmt} {f : Addr} {fd : FuncData} {N ps : List Str} {k : Nat} {sp : SpD} (F : Fun K x qual st f fd) (S : FnScope N ps (defScope st)) (len : ∀ ds M Q E, sp ds M Q E → ds.length = ps.length)
    (hbody : ∀ (cdv : Value) (A : Around) (outer : List Env) (s : Shared) (H : Hp) (E : XK), A.guards = some [] → Room k (A.deeper (envOfC qual (defScope st) s.heap.objs.size f cdv)) →
      ∃ ts, MSs (cxOf (L2.CX P wd) P wd K mg base N qual (defScope st) f cdv A outer s H E) (fun c d _ H => E c d H) (defBody st) ts ∧
        ∀ ds M Q' E', WFM M → D.belL M.length ds = true → sp ds M Q' E' → ts (retE M.length Q' E') (startD N ds) M) : FnG P wd K mg base (k + 1) f fd ps (upP K sp) := by
  refine fnG_of F S (fun vs H Q E ⟨w, ds, _, _, hr, h⟩ => by rw [hr.length]; exact len _ _ _ _ h) fun cdv A outer s H vs Q E gd hr h => ?_
  obtain ⟨w, ds, rfl, rh, hd, h⟩ := h
  obtain ⟨ts, hs, q⟩ := hbody cdv A outer s w.H E gd hr
  refine ⟨_, hs.ps, w, startD N ds, rfl, rh, hd.start N, hs.mono _ _ _ _ ?_ (q ds w.M _ _ rh.wfm (RepL.below rh ds hd) h)⟩
  exact ⟨fun δ M h1 σ w1 e l r1 s1 => PV.pop rh h1 .non w1 e l r1 (by simp [Rep]), fun d M h1 => PV.pop rh h1, fun _ _ h => h.elim, fun _ _ h => h.elim, fun x δ M h1 cls dx σ w1 e l r1 s1 rx => PX.pop rh h1 cls dx w1 e l r1 rx⟩
end
end MD
namespace MD
open PySem PySem.Spec PyProof.Rows L2
/-! the end for a def `law` that calls repr -/
section
variable {P : Program} {wd : World} {K : PySem.W.Frag} {mg mb : Str → Option Value} {k : Nat} {fa a : Addr} {fd : FuncData} {x : Str} {sp : Sp} {s₁ : Shared} {vs : List Value} {ns : List Int}
/-- the object of the script -/
abbrev scrO (vs : List Value) : Obj := { cls := .type "list", data := .seq vs.toArray }
theorem runG (inK : K.In s₁.heap) (glob : s₁.heap.Ns mainGlobals mg) (blt : s₁.heap.Ns builtinsNs mb) (bltB : ∀ y : Str, y ≠ "__name__" → mb y = bootBuiltins y) (noLim : s₁.heap.NoLimit) (gens : s₁.gens = #[])
    (atA : s₁.heap.get? a = some (scrO vs)) (room : Room k callerA)
    (F : ∀ base : Heap, K.In base → base.Ns mainGlobals mg → FnG P wd K mg base k fa fd [x] sp) (bind : ∀ (s : Shared) (u : Value), BindsTo s fd ⟨[u], []⟩ [(x, u)])
    (start : ∀ H : Hp, Only H → SqL K H a (ns.map V.int) → sp [.ref a] H (fun v _ => v = .bl true) fun _ _ _ => False)
    {H : Hp} (only : Only H) (sq : SqL K H a (ns.map V.int)) (ok : HOk P wd H s₁.heap) (just : ∀ b, H b ≠ none → b = a) (notK : H a ≠ none → K.lookup a = none) :
    codeAny (model P wd) callerA (.call (.ref fa) ⟨[.ref a], []⟩)
      (fun r s' => r = .ok (.ret (.bool true)) ∧ OldK s₁.heap s'.heap ∧ s'.os = s₁.os ∧ AllBare s'.gens) s₁ := by
  have keepB : ∀ {b : Addr} {o : Obj}, s₁.heap.get? b = some o → H b = none → (hidT s₁.heap H).get? b = some o := fun e n => hidT_get e n
  have plain : ∀ {b : Addr} {o : Obj}, s₁.heap.get? b = some o → o ≠ scrO vs → H b = none := by
    intro b o e d
    cases hb : H b with
    | none => rfl
    | some u =>
      have z : b = a := just b (by rw [hb]; exact nofun)
      rw [z, atA] at e
      exact absurd (Option.some.inj e).symm d
  have ns2 : ∀ {b : Addr} {m : Str → Option Value}, s₁.heap.Ns b m → (hidT s₁.heap H).Ns b m := by
    rintro b m ⟨o, es, ep, e, d, r⟩
    refine ⟨o, es, ep, keepB e (plain e fun z => ?_), d, r⟩
    rw [z] at d
    cases d
  have inK2 : K.In (hidT s₁.heap H) := by
    intro b o e
    refine keepB (inK b o e) ?_
    cases hb : H b with
    | none => rfl
    | some u =>
      have z : b = a := just b (by rw [hb]; exact nofun)
      rw [z] at e hb
      rw [notK (by rw [hb]; exact nofun)] at e
      cases e
  obtain ⟨mc, l1, l2⟩ := noLim
  have md : Mod K mg (hidT s₁.heap H) := ⟨inK2, ns2 glob, ⟨mb, ns2 blt, bltB⟩, mc, ns2 l1, l2⟩
  have en : Env0 P wd K mg (hidT s₁.heap H) callerA [] s₁ H :=
    ⟨rfl, md, fun b o e => of_hidT e, Nat.le_of_eq (hidT_size _ _), trivial, fun b hb => absurd (show b ∈ ([] : List Addr) from hb) (by simp), ok, .of_eq gens⟩
  have go := (F _ inK2 (ns2 glob)).run callerA [] s₁ H ⟨[.ref a], []⟩ [.ref a] [.ref a] _ _ rfl room en (bind s₁ (.ref a)) (.cons rfl .nil) (start H only sq)
  refine codeAny_mono go fun r s' out => ?_
  cases r with
  | error e => exact (cx_none (show L2.CX P wd [] H s₁ (fun _ _ _ => False) e s' from out)).elim
  | ok fl =>
    cases fl with
    | ret u =>
      obtain ⟨v, H', os, bare, un, ok', rel, q⟩ := out
      have q : v = .bl true := q
      subst q
      have eu : u = Value.bool true := rel
      subst eu
      refine ⟨rfl, OldK.of_keep fun b o e => ?_, os, bare⟩
      cases hb : H b with
      | none => exact un.keep b o e hb (fun z => absurd (show b ∈ ([] : List Addr) from z) (by simp)) (by simp)
      | some u =>
        rcases only b with z | ⟨ob, xs, z⟩
        · rw [hb] at z; cases z
        · obtain ⟨e1, _⟩ := ok b _ z
          obtain ⟨e2, _⟩ := ok' b _ (un.frzs b ob _ z)
          rw [e1] at e
          cases e
          exact e2
    | next => exact False.elim out
    | brk => exact False.elim out
    | cont => exact False.elim out
theorem callG (inK : K.In s₁.heap) (glob : s₁.heap.Ns mainGlobals mg) (blt : s₁.heap.Ns builtinsNs mb) (bltB : ∀ y : Str, y ≠ "__name__" → mb y = bootBuiltins y) (noLim : s₁.heap.NoLimit) (gens : s₁.gens = #[])
    (atA : s₁.heap.get? a = some (scrO vs)) (whole : IntsAre vs ns) (short : ns.length ≤ sizeLine) (room : Room k callerA)
    (F : ∀ base : Heap, K.In base → base.Ns mainGlobals mg → FnG P wd K mg base k fa fd [x] sp) (bind : ∀ (s : Shared) (u : Value), BindsTo s fd ⟨[u], []⟩ [(x, u)])
    (start : ∀ H : Hp, Only H → SqL K H a (ns.map V.int) → sp [.ref a] H (fun v _ => v = .bl true) fun _ _ _ => False) :
    codeAny (model P wd) callerA (.call (.ref fa) ⟨[.ref a], []⟩)
      (fun r s' => r = .ok (.ret (.bool true)) ∧ OldK s₁.heap s'.heap ∧ s'.os = s₁.os ∧ AllBare s'.gens) s₁ := by
  have rel := vals_ints whole
  have len := whole.length
  cases own : K.lookup a with
  | some o =>
    have e := inK a o own
    rw [atA] at e
    cases e
    exact runG (ns := ns) (H := fun _ => none) inK glob blt bltB noLim gens atA room F bind start (fun _ => Or.inl rfl)
      (Or.inr ⟨_, vs.toArray, _, own, rfl, rfl, rfl, by rw [List.size_toArray, len]; exact short, by simpa using rel⟩) (fun b u z => nomatch (show (none : Option HO) = some u from z)) (fun b z => absurd rfl z) (fun z => absurd rfl z)
  | none =>
    have at1 : ∀ b, (if b = a then some (HO.frz (scrO vs) (.lst (ns.map V.int))) else none) = (if b = a then some (HO.frz (scrO vs) (.lst (ns.map V.int))) else none) := fun _ => rfl
    refine runG (ns := ns) (H := fun b => if b = a then some (.frz (scrO vs) (.lst (ns.map V.int))) else none) inK glob blt bltB noLim gens atA room F bind start (fun b => ?_)
      (Or.inl (Or.inr ⟨scrO vs, if_pos rfl⟩)) (fun b u z => ?_) (fun b z => ?_) (fun _ => own)
    · by_cases hb : b = a
      · exact Or.inr ⟨_, _, if_pos hb⟩
      · exact Or.inl (if_neg hb)
    · by_cases hb : b = a
      · have z2 := (if_pos hb).symm.trans z
        cases z2
        rw [hb]
        exact ⟨atA, by rw [List.length_map]; exact short, vs, _, rel, atA⟩
      · have z2 := (if_neg hb).symm.trans z
        cases z2
    · by_cases hb : b = a
      · exact hb
      · exact absurd (if_neg hb) z
end
theorem walkG {l : PySem.W.OpenLaw} {n k : Nat} {q : Program} {loose : List Str} {XP : (Str → Option Value) → Heap → Prop} {YP : World → Heap → Prop} {d : DefRec} {K : Params → PySem.W.Frag} {sp : World → Sp} {x : Str}
    (most : l.most = some n) (small : n ≤ sizeLine) (noDef : d.params.defaults = []) (room : Room k callerA)
    (inK : ∀ (w : World) (h : Heap), YP w h → (K w.params).In h)
    (F : ∀ (w : World) (mg : Str → Option Value) (fa : Addr) (h : Heap), (K w.params).In h → h.Ns mainGlobals mg → mg d.name = some (.ref fa) →
      ∃ fd : FuncData, (∀ (s : Shared) (u : Value), BindsTo s fd ⟨[u], []⟩ [(x, u)]) ∧
        ∀ base : Heap, (K w.params).In base → base.Ns mainGlobals mg → FnG l.prog w (K w.params) mg base k fa fd [x] (sp w))
    (start : ∀ (w : World) (H : Hp) (a : Addr) (ns : List Int), ns.length ≤ n → (∀ z ∈ ns, Builtin.Int.intBits z ≤ 1048576) → Only H → SqL (K w.params) H a (ns.map V.int) →
      sp w [.ref a] H (fun v _ => v = .bl true) fun _ _ _ => False) :
    PySem.W.WalkO q loose XP YP l.row.toRowW d [] (fun f vs => PySem.call f vs) := by
  refine Att.attach_callB most noDef fun w s₀ s₁ mg mb fa o pm cd doc a vs ns G Y ho hd hcd hmg hobj hints hlen hbits hg => ?_
  have kx := inK w _ Y
  obtain ⟨fd, bind, hF⟩ := F w mg fa _ kx G.T.g hmg
  exact callG kx G.T.g G.T.b G.T.builtins G.T.nolimit hg hobj hints (Nat.le_trans hlen small) room hF bind (fun H hO hS => start w H a ns hlen hbits hO hS)
end MD
namespace MD
open PySem PySem.Spec PyProof.Rows L2
variable {K : PySem.W.Frag}
theorem room66 {k : Nat} {A : Around} (r : Room k A) : A.units + 66 < cLine := by have := r.un; omega
theorem la_gcd : LiftA K rGcd (cI2 fun i j => .int ((Nat.gcd i.natAbs j.natAbs : Nat) : Int)) := by
  intro w xs ds Q rh r ⟨i, j, e, q⟩
  subst e
  obtain ⟨x, r1, rfl, rx, h⟩ := r
  obtain ⟨y, r2, rfl, ry, h2⟩ := h
  have h2 : r2 = [] := h2
  subst h2
  exact ⟨i, j, by rw [rep_int rx, rep_int ry], PV.here rh q rep_mk_int⟩
end MD
namespace Kit
open MD L2 PySem
/-! fractions in lowest terms, as the program and as a law makes them -/
/-- fewer than k bits -/
def Bg (k : Nat) (x : Int) : Prop := x.natAbs < 2 ^ k
/-- a fraction in lowest terms -/
def fr (n d : Int) : Int × Int := if d < 0 then (-n / (Int.gcd n d : Int), -d / (Int.gcd n d : Int)) else (n / (Int.gcd n d : Int), d / (Int.gcd n d : Int))
/-- of two fractions -/
def Two (N : Nat) (f : Int → Int → Int → Int → D) : SpD := fun ds M Q _ => ∃ s t a b c d, ds = [s, t] ∧ Pr s a b ∧ Pr t c d ∧ 0 < b ∧ 0 < d ∧ (∃ j k, j + k + 1 ≤ N ∧ Bg j a ∧ Bg j b ∧ Bg k c ∧ Bg k d) ∧ Q (f a b c d) M
theorem mono_Two {N f} : MonoP (Two N f) := fun ds M Q Q' E E' q x ⟨s, t, a, b, c, d, e, h1, h2, h3, h4, h5, h⟩ => ⟨s, t, a, b, c, d, e, h1, h2, h3, h4, h5, q _ _ h⟩
theorem len_Two {N f} (ds M Q E) (h : Two N f ds M Q E) : ds.length = 2 := by obtain ⟨_, _, _, _, _, _, rfl, _⟩ := h; rfl
def sumD (a b c d : Int) : D := MD.prD (fr (a * d + c * b) (b * d))
def difD (a b c d : Int) : D := MD.prD (fr (a * d - c * b) (b * d))
def mulD (a b c d : Int) : D := MD.prD (fr (a * c) (b * d))
def lesD (a b c d : Int) : D := .bl (decide (a * d < c * b))
abbrev N_fraction : List Str := ["n", "d", "common"]
def sp_fraction : SpD := fun ds M Q _ => ∃ n d : Int, ds = [.int n, .int d] ∧ d ≠ 0 ∧ Bg 8000 n ∧ Bg 8000 d ∧ Q (MD.prD (fr n d)) M
theorem mono_fraction : MonoP sp_fraction := fun ds M Q Q' E E' q x ⟨n, d, e, h1, h2, h3, h⟩ => ⟨n, d, e, h1, h2, h3, q _ _ h⟩
theorem len_fraction (ds M Q E) (h : sp_fraction ds M Q E) : ds.length = 2 := by obtain ⟨_, _, rfl, _⟩ := h; rfl
def r_fraction : TS' := (tSeq' (tAsg' (tCB' (cI2 fun i j => .int ((Nat.gcd i.natAbs j.natAbs : Nat) : Int)) (tCons' (tVar' 0) (tCons' (tVar' 1) tNil'))) (gName' 2))
    (tSeq' (tIfS' (tB' (tOp' (oI0 fun i j => .bl (decide (i < j))) (tVar' 1) (tC' (.int 0)))) (tAsg' (tUn' oNeg (tVar' 2)) (gName' 2)) tNext')
    (tRet' (tTup' (tCons' (tOp' oFdiv (tVar' 0) (tVar' 2)) (tCons' (tOp' oFdiv (tVar' 1) (tVar' 2)) tNil'))))))
abbrev N_sum_of : List Str := ["one", "other"]
def sp_sum_of : SpD := Two 8000 sumD
theorem mono_sum_of : MonoP sp_sum_of := mono_Two
theorem len_sum_of (ds M Q E) (h : sp_sum_of ds M Q E) : ds.length = 2 := len_Two ds M Q E h
def r_sum_of : TS' := (tRet' (tCall' sp_fraction (tCons' (tOp' (oAdd false) (tOp' (oMul false) (tOp' oIx (tVar' 0) (tC' (.int 0))) (tOp' oIx (tVar' 1) (tC' (.int 1)))) (tOp' (oMul false) (tOp' oIx (tVar' 1) (tC' (.int 0))) (tOp' oIx (tVar' 0) (tC' (.int 1))))) (tCons' (tOp' (oMul false) (tOp' oIx (tVar' 0) (tC' (.int 1))) (tOp' oIx (tVar' 1) (tC' (.int 1)))) tNil'))))
abbrev N_difference : List Str := ["one", "other"]
def sp_difference : SpD := Two 8000 difD
theorem mono_difference : MonoP sp_difference := mono_Two
theorem len_difference (ds M Q E) (h : sp_difference ds M Q E) : ds.length = 2 := len_Two ds M Q E h
def r_difference : TS' := (tRet' (tCall' sp_fraction (tCons' (tOp' oSub (tOp' (oMul false) (tOp' oIx (tVar' 0) (tC' (.int 0))) (tOp' oIx (tVar' 1) (tC' (.int 1)))) (tOp' (oMul false) (tOp' oIx (tVar' 1) (tC' (.int 0))) (tOp' oIx (tVar' 0) (tC' (.int 1))))) (tCons' (tOp' (oMul false) (tOp' oIx (tVar' 0) (tC' (.int 1))) (tOp' oIx (tVar' 1) (tC' (.int 1)))) tNil'))))
abbrev N_product : List Str := ["one", "other"]
def sp_product : SpD := Two 8000 mulD
theorem mono_product : MonoP sp_product := mono_Two
theorem len_product (ds M Q E) (h : sp_product ds M Q E) : ds.length = 2 := len_Two ds M Q E h
def r_product : TS' := (tRet' (tCall' sp_fraction (tCons' (tOp' (oMul false) (tOp' oIx (tVar' 0) (tC' (.int 0))) (tOp' oIx (tVar' 1) (tC' (.int 0)))) (tCons' (tOp' (oMul false) (tOp' oIx (tVar' 0) (tC' (.int 1))) (tOp' oIx (tVar' 1) (tC' (.int 1)))) tNil'))))
abbrev N_is_less : List Str := ["one", "other"]
def sp_is_less : SpD := Two 8000 lesD
theorem mono_is_less : MonoP sp_is_less := mono_Two
theorem len_is_less (ds M Q E) (h : sp_is_less ds M Q E) : ds.length = 2 := len_Two ds M Q E h
def r_is_less : TS' := (tRet' (tOp' (oI0 fun i j => .bl (decide (i < j))) (tOp' (oMul false) (tOp' oIx (tVar' 0) (tC' (.int 0))) (tOp' oIx (tVar' 1) (tC' (.int 1)))) (tOp' (oMul false) (tOp' oIx (tVar' 1) (tC' (.int 0))) (tOp' oIx (tVar' 0) (tC' (.int 1))))))
abbrev N__law_below : List Str := ["pool", "many", "found", "turn"]
def sp__law_below : SpD := fun ds M Q _ => ∃ (p : Nat) (many : Int), ds = [.ref p, .int many] ∧ 0 < many ∧ Pool M p ∧ ∀ r M', 0 ≤ r → r < many → Step p M M' → Q (.int r) M'
theorem mono__law_below : MonoP sp__law_below := fun ds M Q Q' E E' q x ⟨p, m, e, h1, h3, h⟩ => ⟨p, m, e, h1, h3, fun r M' a b c => q _ _ (h r M' a b c)⟩
theorem len__law_below (ds M Q E) (h : sp__law_below ds M Q E) : ds.length = 2 := by obtain ⟨_, _, rfl, _⟩ := h; rfl
def r__law_below : TS' := (tSeq' (tAsg' (tC' (.int 0)) (gName' 2))
    (tSeq' (tFor' (tRng1' (tCons' (tC' (.int 5)) tNil')) (gName' 3) (tAsg' (tOp' (oAdd false) (tOp' (oMul false) (tVar' 2) (tOp' oPow (tC' (.int 10)) (tC' (.int 6)))) (tCall' sp__law_take (tCons' (tVar' 0) (tCons' (tOp' oPow (tC' (.int 10)) (tC' (.int 6))) tNil')))) (gName' 2)))
    (tRet' (tOp' oMod (tCB' cInt (tCons' (tVar' 2) tNil')) (tVar' 1)))))
abbrev N__law_lowest : List Str := ["n", "d", "turn", "one", "other"]
def sp__law_lowest : SpD := fun ds M Q _ => ∃ n d : Int, ds = [.int n, .int d] ∧ 0 < d ∧ Bg 8000 n ∧ Bg 8000 d ∧ (Bg 990 n ∨ Bg 990 d) ∧ Q (MD.prD (fr n d)) M
theorem mono__law_lowest : MonoP sp__law_lowest := fun ds M Q Q' E E' q x ⟨n, d, e, h1, h2, h3, h4, h⟩ => ⟨n, d, e, h1, h2, h3, h4, q _ _ h⟩
theorem len__law_lowest (ds M Q E) (h : sp__law_lowest ds M Q E) : ds.length = 2 := by obtain ⟨_, _, rfl, _⟩ := h; rfl
def r__law_lowest : TS' := (tSeq' (tPar' 3 4 (tCons' (tCB' (cI1 fun i => .int (if i < 0 then -i else i)) (tCons' (tVar' 0) tNil')) (tCons' (tVar' 1) tNil')))
    (tSeq' (tFor' (tRng1' (tCons' (tC' (.int 2000)) tNil')) (gName' 2) (tSeq' (tIfS' (tB' (tOp' (oEq false) (tVar' 4) (tC' (.int 0)))) tBreak' tNext')
    (tPar' 3 4 (tCons' (tVar' 4) (tCons' (tOp' oSub (tVar' 3) (tOp' (oMul false) (tVar' 4) (tCB' cInt (tCons' (tOp' oFdiv (tVar' 3) (tVar' 4)) tNil')))) tNil')))))
    (tRet' (tTup' (tCons' (tOp' oFdiv (tVar' 0) (tVar' 3)) (tCons' (tOp' oFdiv (tVar' 1) (tVar' 3)) tNil'))))))
abbrev N__law_sum : List Str := ["one", "other"]
def sp__law_sum : SpD := Two 990 sumD
theorem mono__law_sum : MonoP sp__law_sum := mono_Two
theorem len__law_sum (ds M Q E) (h : sp__law_sum ds M Q E) : ds.length = 2 := len_Two ds M Q E h
def r__law_sum : TS' := (tRet' (tCall' sp__law_lowest (tCons' (tOp' (oAdd false) (tOp' (oMul false) (tOp' oIx (tVar' 0) (tC' (.int 0))) (tOp' oIx (tVar' 1) (tC' (.int 1)))) (tOp' (oMul false) (tOp' oIx (tVar' 1) (tC' (.int 0))) (tOp' oIx (tVar' 0) (tC' (.int 1))))) (tCons' (tOp' (oMul false) (tOp' oIx (tVar' 0) (tC' (.int 1))) (tOp' oIx (tVar' 1) (tC' (.int 1)))) tNil'))))
abbrev N__law_times : List Str := ["one", "other"]
def sp__law_times : SpD := Two 990 mulD
theorem mono__law_times : MonoP sp__law_times := mono_Two
theorem len__law_times (ds M Q E) (h : sp__law_times ds M Q E) : ds.length = 2 := len_Two ds M Q E h
def r__law_times : TS' := (tRet' (tCall' sp__law_lowest (tCons' (tOp' (oMul false) (tOp' oIx (tVar' 0) (tC' (.int 0))) (tOp' oIx (tVar' 1) (tC' (.int 0)))) (tCons' (tOp' (oMul false) (tOp' oIx (tVar' 0) (tC' (.int 1))) (tOp' oIx (tVar' 1) (tC' (.int 1)))) tNil'))))
abbrev N__law_common : List Str := ["one", "other", "turn"]
def sp__law_common : SpD := fun ds M Q _ => ∃ a b : Nat, ds = [.int a, .int b] ∧ Bg 8000 a ∧ Bg 8000 b ∧ (Bg 990 a ∨ Bg 990 b) ∧ Q (.int (Nat.gcd a b : Nat)) M
theorem mono__law_common : MonoP sp__law_common := fun ds M Q Q' E E' q x ⟨a, b, e, h1, h2, h3, h⟩ => ⟨a, b, e, h1, h2, h3, q _ _ h⟩
theorem len__law_common (ds M Q E) (h : sp__law_common ds M Q E) : ds.length = 2 := by obtain ⟨_, _, rfl, _⟩ := h; rfl
def r_common (N : Int) : TS' := (tSeq' (tFor' (tRng1' (tCons' (tC' (.int N)) tNil')) (gName' 2) (tSeq' (tIfS' (tB' (tOp' (oEq false) (tVar' 1) (tC' (.int 0)))) tBreak' tNext')
    (tPar' 0 1 (tCons' (tVar' 1) (tCons' (tOp' oSub (tVar' 0) (tOp' (oMul false) (tVar' 1) (tCB' cInt (tCons' (tOp' oFdiv (tVar' 0) (tVar' 1)) tNil')))) tNil')))))
    (tRet' (tVar' 0)))
theorem Bg.mono {j k : Nat} {x : Int} (h : Bg j x) (l : j ≤ k) : Bg k x := Nat.lt_of_lt_of_le h (Nat.pow_le_pow_right (by decide) l)
theorem Bg.mul {j k : Nat} {x y : Int} (h : Bg j x) (h2 : Bg k y) : Bg (j + k) (x * y) := by
  unfold Bg at *
  rw [Int.natAbs_mul, Nat.pow_add]
  exact Nat.mul_lt_mul'' h h2
theorem Bg.add {k : Nat} {x y : Int} (h : Bg k x) (h2 : Bg k y) : Bg (k + 1) (x + y) := by
  unfold Bg at *
  rw [Nat.pow_succ]
  have := Int.natAbs_add_le x y
  omega
theorem Bg.neg {k : Nat} {x : Int} (h : Bg k x) : Bg k (-x) := by unfold Bg at *; rwa [Int.natAbs_neg]
theorem Bg.sub {k : Nat} {x y : Int} (h : Bg k x) (h2 : Bg k y) : Bg (k + 1) (x - y) := by rw [Int.sub_eq_add_neg]; exact h.add h2.neg
theorem Bg.of {x : Int} (h : -(2 ^ 64) < x ∧ x < 2 ^ 64) : Bg 64 x := by unfold Bg; omega
theorem Bg.div {k : Nat} {x : Int} (h : Bg k x) (g : Nat) : Bg k (x / (g : Int)) := by
  unfold Bg at *
  have := Int.natAbs_ediv_le_natAbs x (g : Int)
  omega
theorem mulBg {j k : Nat} {x y : Int} (h : Bg j x) (h2 : Bg k y) (l : j + k ≤ 134217728) : MD.MulOk x y := .inr (mulx_ok h h2 l)
theorem divBg {k : Nat} {x : Int} (h : Bg k x) (h0 : x ≠ 0) (l : k ≤ 9000) : DivOk x := ⟨h0, h.mono l⟩
theorem fr_pos {n d : Int} (h : 0 < d) : fr n d = (n / (Int.gcd n d : Int), d / (Int.gcd n d : Int)) := by unfold fr; rw [if_neg (by omega)]
theorem fr_neg (n d : Int) (h : d ≠ 0) : fr (-n) (-d) = fr n d := by
  unfold fr
  rw [Int.neg_gcd, Int.gcd_neg]
  by_cases hd : d < 0
  · rw [if_neg (by omega), if_pos hd]
  · rw [if_pos (by omega), if_neg hd, Int.neg_neg, Int.neg_neg]
theorem fr_scale {n d k : Int} (hk : 0 < k) (h : d ≠ 0) : fr (n * k) (d * k) = fr n d := by
  have hg : (Int.gcd (n * k) (d * k) : Int) = Int.gcd n d * k := by
    rw [Int.gcd_mul_right]
    have : (k.natAbs : Int) = k := by omega
    rw [Int.natCast_mul, this]
  have e : ∀ x : Int, x * k / ((Int.gcd n d : Int) * k) = x / (Int.gcd n d : Int) := fun x => Int.mul_ediv_mul_of_pos_left _ _ hk
  unfold fr
  rw [hg]
  by_cases hd : d < 0
  · have hdk : d * k < 0 := Int.mul_neg_of_neg_of_pos hd hk
    rw [if_pos hdk, if_pos hd, ← Int.neg_mul, ← Int.neg_mul, e, e]
  · have hdk : ¬ d * k < 0 := by
      have : 0 < d * k := Int.mul_pos (by omega) hk
      omega
    rw [if_neg hdk, if_neg hd, e, e]
theorem fr_cross {n d n' d' : Int} (h : 0 < d) (h' : 0 < d') (e : n * d' = n' * d) : fr n d = fr n' d' := by
  rw [← fr_scale (n := n) (d := d) h' (by omega), ← fr_scale (n := n') (d := d') h (by omega), e, Int.mul_comm d d']
theorem gcd_pos {n d : Int} (h : d ≠ 0) : 0 < Int.gcd n d := Int.gcd_pos_iff.mpr (.inr h)
theorem gcd_dvd_l (n d : Int) : (Int.gcd n d : Int) ∣ n := Int.gcd_dvd_left ..
theorem gcd_dvd_r (n d : Int) : (Int.gcd n d : Int) ∣ d := Int.gcd_dvd_right ..
theorem fr_den {n d : Int} (h : d ≠ 0) : 0 < (fr n d).2 := by
  have hg := gcd_pos (n := n) h
  unfold fr
  split
  · show 0 < -d / (Int.gcd n d : Int)
    have : (Int.gcd n d : Int) ∣ -d := (Int.dvd_neg).mpr (gcd_dvd_r n d)
    exact Int.ediv_pos_of_pos_of_dvd (by omega) (by omega) this
  · show 0 < d / (Int.gcd n d : Int)
    exact Int.ediv_pos_of_pos_of_dvd (by omega) (by omega) (gcd_dvd_r n d)
theorem fr_bg {k : Nat} {n d : Int} (h1 : Bg k n) (h2 : Bg k d) : Bg k (fr n d).1 ∧ Bg k (fr n d).2 := by
  unfold fr
  split
  · exact ⟨h1.neg.div _, h2.neg.div _⟩
  · exact ⟨h1.div _, h2.div _⟩
/-- a lowest fraction and the one it came from -/
theorem fr_mul {n d : Int} (h : 0 < d) : (fr n d).1 * d = n * (fr n d).2 := by
  rw [fr_pos h]
  have hn := Int.ediv_mul_cancel (gcd_dvd_l n d)
  have hd := Int.ediv_mul_cancel (gcd_dvd_r n d)
  show n / (Int.gcd n d : Int) * d = n * (d / (Int.gcd n d : Int))
  generalize (Int.gcd n d : Int) = g at *
  conv => lhs; rw [← hd]
  conv => rhs; rw [← hn]
  rw [Int.mul_comm (d / g) g, Int.mul_assoc]
theorem fdiv_negg {n : Int} {g : Nat} (hg : 0 < g) (h : (g : Int) ∣ n) : n.fdiv (-(g : Int)) = -n / (g : Int) := by
  obtain ⟨q, rfl⟩ := h
  rw [show (g : Int) * q = (-(g : Int)) * (-q) by rw [Int.neg_mul_neg], Int.mul_fdiv_cancel_left _ (by omega), Int.neg_mul_neg, ← Int.mul_neg, Int.mul_ediv_cancel_left _ (by omega)]
theorem gcd_bg {k : Nat} {n d : Int} (h : d ≠ 0) (hb : Bg k d) : Bg k (Int.gcd n d : Int) := by
  unfold Bg at *
  have : Int.gcd n d ≤ d.natAbs := Nat.le_of_dvd (by omega) (Nat.gcd_dvd_right _ _)
  rw [Int.natAbs_natCast]
  omega
theorem math_fraction (ds M Q E) (hM : WFM M) (hb : D.belL M.length ds = true) (h : sp_fraction ds M Q E) : r_fraction (retE M.length Q E) (startD N_fraction ds) M := by
  obtain ⟨n, d, rfl, h0, h1, h2, q⟩ := h
  have hg := gcd_pos (n := n) h0
  have hgb := gcd_bg (n := n) h0 h2
  unfold r_fraction
  refine seq_step fun S hS => ?_
  simp only [startD, u_asg, u_CB, u_cons, u_nil, u_var, u_I2, u_gname]
  refine ⟨_, rfl, _, rfl, n, d, rfl, ?_⟩
  rw [show ((Nat.gcd n.natAbs d.natAbs : Nat) : Int) = (Int.gcd n d : Int) from rfl]
  subst hS
  refine seq_step fun S hS => ?_
  unfold fr at q
  by_cases hd : d < 0
  · rw [if_pos hd] at q
    simp [hd]
    subst hS
    simp
    refine ⟨divBg hgb.neg (by omega) (by decide), by decide, ?_⟩
    rw [popM_same (Nat.le_refl _), fdiv_negg hg (gcd_dvd_l n d), fdiv_negg hg (gcd_dvd_r n d)]
    exact q
  · rw [if_neg hd] at q
    simp [hd]
    subst hS
    simp
    refine ⟨divBg hgb (by omega) (by decide), by decide, ?_⟩
    rw [popM_same (Nat.le_refl _), e_fdiv (by omega), e_fdiv (by omega)]
    exact q
structure EI (G i a b : Nat) : Prop where
  g : Nat.gcd a b = G
  la : a < 2 ^ 8000
  lb : b < 2 ^ 8000
  le : 0 < i → b ≤ a
  sm : i = 0 → a < 2 ^ 990 ∨ b < 2 ^ 990
  s1 : i = 1 → b < 2 ^ 990
  pr : 2 ≤ i → a * b * 2 ^ (i - 2) < 2 ^ 1980
theorem EI.step {G i a b : Nat} (h : EI G i a b) (hb : b ≠ 0) : EI G (i + 1) b (a % b) := by
  have hm : a % b < b := Nat.mod_lt _ (by omega)
  refine ⟨?_, h.lb, Nat.lt_trans hm h.lb, fun _ => Nat.le_of_lt hm, fun z => absurd z (by omega), fun z => ?_, fun z => ?_⟩
  · rw [← h.g, Nat.gcd_comm a b, Nat.gcd_rec b a, Nat.gcd_comm]
  · rcases h.sm (by omega) with q | q
    · exact Nat.lt_of_le_of_lt (Nat.mod_le _ _) q
    · exact Nat.lt_trans hm q
  · rw [show i + 1 - 2 = i - 1 by omega]
    by_cases hi : i = 1
    · have hb1 := h.s1 hi
      subst hi
      have h1 : b * (a % b) < 2 ^ 990 * 2 ^ 990 := Nat.mul_lt_mul'' hb1 (Nat.lt_trans hm hb1)
      rw [← Nat.pow_add] at h1
      rw [Nat.sub_self, Nat.pow_zero, Nat.mul_one]
      exact h1
    · have hle := h.le (by omega)
      have h1 : 2 * (a % b) ≤ a := by
        have := Nat.div_add_mod a b
        have h2 : 1 ≤ a / b := (Nat.le_div_iff_mul_le (by omega)).mpr (by omega)
        have h3 : b ≤ b * (a / b) := Nat.le_mul_of_pos_right b h2
        omega
      have h2 : b * (a % b) * 2 ^ (i - 1) ≤ a * b * 2 ^ (i - 2) := by
        rw [show i - 1 = (i - 2) + 1 by omega, Nat.pow_succ, ← Nat.mul_assoc, Nat.mul_right_comm]
        refine Nat.mul_le_mul_right _ ?_
        calc b * (a % b) * 2 = b * (2 * (a % b)) := by rw [Nat.mul_assoc, Nat.mul_comm (a % b) 2]
          _ ≤ b * a := Nat.mul_le_mul_left b h1
          _ = a * b := Nat.mul_comm b a
      exact Nat.lt_of_le_of_lt h2 (h.pr (by omega))
theorem EI.last {G i a b : Nat} (h : EI G i a b) (hi : 1982 ≤ i) : b = 0 := by
  have h1 := h.pr (by omega)
  have h2 := h.le (by omega)
  rcases Nat.eq_zero_or_pos b with z | z
  · exact z
  · have h3 : 1 ≤ a * b := Nat.mul_pos (by omega) z
    have h4 : 2 ^ (i - 2) ≤ a * b * 2 ^ (i - 2) := Nat.le_mul_of_pos_left _ h3
    have h5 : 2 ^ 1980 ≤ 2 ^ (i - 2) := Nat.pow_le_pow_right (by decide) (by omega)
    exact absurd (Nat.lt_of_le_of_lt h4 h1) (Nat.not_lt.mpr h5)
theorem EI.zero {G i a : Nat} (h : EI G i a 0) : a = G := by have := h.g; rwa [Nat.gcd_zero_right] at this
theorem bgN {k a : Nat} (h : a < 2 ^ k) : Bg k (a : Int) := by unfold Bg; rwa [Int.natAbs_natCast]
theorem mod_form (a b : Nat) : (a : Int) - (b : Int) * (a / b : Int) = ((a % b : Nat) : Int) := by
  have := Int.mul_ediv_add_emod (a : Int) (b : Int)
  rw [Int.natCast_emod]
  omega
theorem math__law_lowest (ds M Q E) (hM : WFM M) (hb : D.belL M.length ds = true) (h : sp__law_lowest ds M Q E) : r__law_lowest (retE M.length Q E) (startD N__law_lowest ds) M := by
  obtain ⟨n, d, rfl, h0, h1, h2, h3, q⟩ := h
  have hg := gcd_pos (n := n) (show d ≠ 0 by omega)
  have hgb := gcd_bg (n := n) (show d ≠ 0 by omega) h2
  rw [fr_pos h0] at q
  unfold r__law_lowest
  refine seq_step fun S hS => ?_
  simp [startD]
  refine ⟨_, _, ⟨rfl, rfl⟩, ?_⟩
  subst hS
  refine seq_step fun S hS => ?_
  have fin : ∀ (t : Option D) (b : D), S (retE M.length Q E) [some (.int n), some (.int d), t, some (.int (Int.gcd n d : Int)), some b] M := by
    intro t b
    subst hS
    simp
    refine ⟨divBg hgb (by omega) (by decide), by decide, ?_⟩
    rw [popM_same (Nat.le_refl _), e_fdiv (by omega), e_fdiv (by omega)]
    exact q
  clear hS
  simp
  have ha : (if n < 0 then -n else n) = (n.natAbs : Int) := by split <;> omega
  have hd : d = (d.natAbs : Int) := by omega
  rw [ha]
  refine forR_ind (fun i δ M' => M' = M ∧ ∃ (a b : Nat) (t : Option D), EI (Int.gcd n d) i a b ∧ δ = [some (.int n), some (.int d), t, some (.int (a : Int)), some (.int (b : Int))]) ?_ ?_ ⟨rfl, n.natAbs, d.natAbs, none, ⟨rfl, h1, h2, fun z => absurd z (by decide), fun _ => h3, fun z => absurd z (by decide), fun z => absurd z (by decide)⟩, by rw [← hd]⟩
  · rintro δ M' ⟨rfl, a, b, t, he, rfl⟩
    refine ⟨trivial, ?_⟩
    have hb0 := he.last (by decide)
    subst hb0
    rw [he.zero]
    exact fin _ _
  · rintro i δ M' F hi ⟨rfl, a, b, t, he, rfl⟩ hF
    refine ⟨trivial, ?_⟩
    refine seq_step fun S2 hS2 => ?_
    simp
    by_cases hb0 : b = 0
    · subst hb0
      rw [if_pos rfl, he.zero]
      exact fin _ _
    · rw [if_neg (by omega)]
      subst hS2
      simp
      refine ⟨divBg (bgN he.lb) (by omega) (by decide), ?_, ?_⟩
      · rw [e_fdiv (by omega)]
        exact mulBg (bgN he.lb) ((bgN he.la).div b) (by decide)
      refine ⟨_, _, ⟨rfl, rfl⟩, ?_⟩
      rw [e_fdiv (by omega), mod_form]
      exact hF _ _ ⟨rfl, b, a % b, _, he.step hb0, rfl⟩
theorem math_common (N : Int) (hN : 1982 ≤ N) (hN2 : N ≤ 1000000) (ds M Q E) (hM : WFM M) (hb : D.belL M.length ds = true) (h : sp__law_common ds M Q E) : r_common N (retE M.length Q E) (startD N__law_common ds) M := by
  obtain ⟨a0, b0, rfl, h1, h2, h3, q⟩ := h
  unfold r_common
  refine seq_step fun S hS => ?_
  have fin : ∀ (t : Option D) (b : D), S (retE M.length Q E) [some (.int (Nat.gcd a0 b0 : Nat)), some b, t] M := by
    intro t b
    subst hS
    simp
    rw [popM_same (Nat.le_refl _)]
    exact q
  clear hS
  simp [startD]
  unfold Bg at h1 h2 h3
  rw [Int.natAbs_natCast] at h1 h2
  rw [Int.natAbs_natCast, Int.natAbs_natCast] at h3
  refine ⟨by omega, by omega, ?_⟩
  refine forR_ind (fun i δ M' => M' = M ∧ ∃ (a b : Nat) (t : Option D), EI (Nat.gcd a0 b0) i a b ∧ δ = [some (.int (a : Int)), some (.int (b : Int)), t]) ?_ ?_ ⟨rfl, a0, b0, none, ⟨rfl, h1, h2, fun z => absurd z (by decide), fun _ => h3, fun z => absurd z (by decide), fun z => absurd z (by decide)⟩, rfl⟩
  · rintro δ M' ⟨rfl, a, b, t, he, rfl⟩
    refine ⟨trivial, ?_⟩
    have hb0 := he.last (by omega)
    subst hb0
    rw [he.zero]
    exact fin _ _
  · rintro i δ M' F hi ⟨rfl, a, b, t, he, rfl⟩ hF
    refine ⟨trivial, ?_⟩
    refine seq_step fun S2 hS2 => ?_
    simp
    by_cases hb0 : b = 0
    · subst hb0
      rw [if_pos rfl, he.zero]
      exact fin _ _
    · rw [if_neg (by omega)]
      subst hS2
      simp
      refine ⟨divBg (bgN he.lb) (by omega) (by decide), ?_, ?_⟩
      · rw [e_fdiv (by omega)]
        exact mulBg (bgN he.lb) ((bgN he.la).div b) (by decide)
      refine ⟨_, _, ⟨rfl, rfl⟩, ?_⟩
      rw [e_fdiv (by omega), mod_form]
      exact hF _ _ ⟨rfl, b, a % b, _, he.step hb0, rfl⟩
theorem pr_sq {s : D} {f o : Int} {M : MH} (h : Pr s f o) : seqOf s M = some [.int f, .int o] := by rcases h with rfl | rfl <;> rfl
theorem pr_ns {s : D} {f o : Int} (h : Pr s f o) : ∀ z : Str, s ≠ .str z := by rcases h with rfl | rfl <;> exact nofun
theorem ne_mul {b d : Int} (h : 0 < b) (h2 : 0 < d) : b * d ≠ 0 := by have := Int.mul_pos h h2; omega
theorem math_sum_of (ds M Q E) (hM : WFM M) (hb : D.belL M.length ds = true) (h : sp_sum_of ds M Q E) : r_sum_of (retE M.length Q E) (startD N_sum_of ds) M := by
  obtain ⟨s, t, a, b, c, d, rfl, hs, ht, hb0, hd0, ⟨j, k, hjk, ga, gb, gc, gd⟩, q⟩ := h
  simp [r_sum_of, startD, pr_sq hs, pr_sq ht, pr_ns hs, pr_ns ht]
  refine ⟨mulBg ga gd (by omega), mulBg gc gb (by omega), mulBg gb gd (by omega), ?_⟩
  refine ⟨_, _, rfl, ne_mul hb0 hd0, ((ga.mul gd).add ((gc.mul gb).mono (by omega))).mono (by omega), (gb.mul gd).mono (by omega), ?_⟩
  show Q _ (popM _ _ _)
  rw [popM_same (Nat.le_refl _)]; exact q
theorem math_difference (ds M Q E) (hM : WFM M) (hb : D.belL M.length ds = true) (h : sp_difference ds M Q E) : r_difference (retE M.length Q E) (startD N_difference ds) M := by
  obtain ⟨s, t, a, b, c, d, rfl, hs, ht, hb0, hd0, ⟨j, k, hjk, ga, gb, gc, gd⟩, q⟩ := h
  simp [r_difference, startD, pr_sq hs, pr_sq ht, pr_ns hs, pr_ns ht]
  refine ⟨mulBg ga gd (by omega), mulBg gc gb (by omega), mulBg gb gd (by omega), ?_⟩
  refine ⟨_, _, rfl, ne_mul hb0 hd0, ((ga.mul gd).sub ((gc.mul gb).mono (by omega))).mono (by omega), (gb.mul gd).mono (by omega), ?_⟩
  show Q _ (popM _ _ _)
  rw [popM_same (Nat.le_refl _)]; exact q
theorem math_product (ds M Q E) (hM : WFM M) (hb : D.belL M.length ds = true) (h : sp_product ds M Q E) : r_product (retE M.length Q E) (startD N_product ds) M := by
  obtain ⟨s, t, a, b, c, d, rfl, hs, ht, hb0, hd0, ⟨j, k, hjk, ga, gb, gc, gd⟩, q⟩ := h
  simp [r_product, startD, pr_sq hs, pr_sq ht, pr_ns hs, pr_ns ht]
  refine ⟨mulBg ga gc (by omega), mulBg gb gd (by omega), ?_⟩
  refine ⟨_, _, rfl, ne_mul hb0 hd0, (ga.mul gc).mono (by omega), (gb.mul gd).mono (by omega), ?_⟩
  show Q _ (popM _ _ _)
  rw [popM_same (Nat.le_refl _)]; exact q
theorem math_is_less (ds M Q E) (hM : WFM M) (hb : D.belL M.length ds = true) (h : sp_is_less ds M Q E) : r_is_less (retE M.length Q E) (startD N_is_less ds) M := by
  obtain ⟨s, t, a, b, c, d, rfl, hs, ht, hb0, hd0, ⟨j, k, hjk, ga, gb, gc, gd⟩, q⟩ := h
  simp [r_is_less, startD, pr_sq hs, pr_sq ht, pr_ns hs, pr_ns ht]
  refine ⟨mulBg ga gd (by omega), mulBg gc gb (by omega), ?_⟩
  rw [popM_same (Nat.le_refl _)]; exact q
theorem math__law_below (ds M Q E) (hM : WFM M) (hb : D.belL M.length ds = true) (h : sp__law_below ds M Q E) : r__law_below (retE M.length Q E) (startD N__law_below ds) M := by
  obtain ⟨p, many, rfl, h1, hp, q⟩ := h
  have cp : CPow 10 6 := ⟨by decide, by decide, by decide⟩
  have st0 : Step p M M := ⟨⟨M[p]'hp.lt, by simp⟩, hp⟩
  unfold r__law_below
  refine seq_step fun S hS => ?_
  simp [startD]
  subst hS
  refine seq_step fun S hS => ?_
  simp
  refine forR_ind (fun i δ M' => Step p M M' ∧ ∃ (x : Int) (t : Option D), δ = [some (.ref p), some (.int many), some (.int x), t]) ?_ ?_ ⟨st0, 0, none, rfl⟩
  · rintro δ M' ⟨hs, x, t, rfl⟩
    refine ⟨trivial, ?_⟩
    show S _ _ _
    subst hS
    simp
    refine ⟨by omega, ?_⟩
    rw [popM_same (by rw [hs.length]; simp), e_fmod h1]
    exact q _ _ (Int.emod_nonneg _ (by omega)) (Int.emod_lt_of_pos _ h1) hs
  · rintro i δ M' F hi ⟨hs, x, t, rfl⟩ hF
    refine ⟨trivial, ?_⟩
    simp [cp]
    refine ⟨mulOk_r (by decide), p, _, rfl, by decide, by decide, hs.2, fun r M2 a2 b2 c2 => ?_⟩
    simp
    exact hF _ _ ⟨hs.trans c2, _, _, rfl⟩
theorem math__law_sum (ds M Q E) (hM : WFM M) (hb : D.belL M.length ds = true) (h : sp__law_sum ds M Q E) : r__law_sum (retE M.length Q E) (startD N__law_sum ds) M := by
  obtain ⟨s, t, a, b, c, d, rfl, hs, ht, hb0, hd0, ⟨j, k, hjk, ga, gb, gc, gd⟩, q⟩ := h
  simp [r__law_sum, startD, pr_sq hs, pr_sq ht, pr_ns hs, pr_ns ht]
  refine ⟨mulBg ga gd (by omega), mulBg gc gb (by omega), mulBg gb gd (by omega), ?_⟩
  refine ⟨_, _, rfl, Int.mul_pos hb0 hd0, ((ga.mul gd).add ((gc.mul gb).mono (by omega))).mono (by omega), (gb.mul gd).mono (by omega), .inr ((gb.mul gd).mono (by omega)), ?_⟩
  show Q _ (popM _ _ _)
  rw [popM_same (Nat.le_refl _)]; exact q
theorem math__law_times (ds M Q E) (hM : WFM M) (hb : D.belL M.length ds = true) (h : sp__law_times ds M Q E) : r__law_times (retE M.length Q E) (startD N__law_times ds) M := by
  obtain ⟨s, t, a, b, c, d, rfl, hs, ht, hb0, hd0, ⟨j, k, hjk, ga, gb, gc, gd⟩, q⟩ := h
  simp [r__law_times, startD, pr_sq hs, pr_sq ht, pr_ns hs, pr_ns ht]
  refine ⟨mulBg ga gc (by omega), mulBg gb gd (by omega), ?_⟩
  refine ⟨_, _, rfl, Int.mul_pos hb0 hd0, (ga.mul gc).mono (by omega), (gb.mul gd).mono (by omega), .inr ((gb.mul gd).mono (by omega)), ?_⟩
  show Q _ (popM _ _ _)
  rw [popM_same (Nat.le_refl _)]; exact q
theorem bg64 {x : Int} {k : Nat} (h : -(2 ^ 64) < x ∧ x < 2 ^ 64) (l : 64 ≤ k) : Bg k x := (Bg.of h).mono l
theorem fr_fr {n d : Int} (h : 0 < d) : fr (fr n d).1 (fr n d).2 = fr n d := fr_cross (fr_den (by omega)) h (fr_mul h)
theorem gcd_bg2 {k : Nat} {x y : Int} (h1 : Bg k x) (h2 : Bg k y) : Bg k (Int.gcd x y : Int) := by
  by_cases h : y = 0
  · subst h
    rw [Int.gcd_zero_right]
    unfold Bg at *
    rwa [Int.natAbs_natCast]
  · exact gcd_bg h h2
theorem textFrom_le {L : Nat} : ∀ (ts : List Str) (k : Nat) (acc : Str), (∀ t ∈ ts, t.length ≤ L) → (textFrom k acc ts).length ≤ acc.length + ts.length * (L + 2)
  | [], k, acc, _ => by show acc.length ≤ _; simp
  | t :: r, k, acc, h => by
    have h1 := h t List.mem_cons_self
    have h2 := textFrom_le r (k + 1) (acc ++ ((if k > 0 then ", " else "" : String) : Str) ++ t) (fun x hx => h x (List.mem_cons_of_mem _ hx))
    have e : textFrom k acc (t :: r) = textFrom (k + 1) (acc ++ ((if k > 0 then ", " else "" : String) : Str) ++ t) r := rfl
    rw [e]
    refine Nat.le_trans h2 ?_
    rw [str_len_app, str_len_app, List.length_cons, Nat.add_mul]
    have h3 : (((if k > 0 then ", " else "" : String) : Str)).length ≤ 2 := by split <;> decide
    omega
theorem list_le {L : Nat} (ts : List Str) (h : ∀ t ∈ ts, t.length ≤ L) : (listText ts).length ≤ 2 + ts.length * (L + 2) := by
  unfold listText
  rw [str_len_app]
  have := textFrom_le ts 0 "[" h
  have e1 : ("[" : Str).length = 1 := rfl
  have e2 : ("]" : Str).length = 1 := rfl
  omega
theorem join_le {L : Nat} : ∀ ts : List Str, (∀ t ∈ ts, t.length ≤ L) → (Str.join ", " ts).length ≤ ts.length * (L + 2)
  | [], _ => by show (0 : Nat) ≤ _; omega
  | [x], h => by
    have := h x List.mem_cons_self
    show x.length ≤ 1 * (L + 2)
    omega
  | x :: y :: r, h => by
    rw [PyProof.Rows.join_cons_cons, str_len_app, str_len_app]
    have h1 := h x List.mem_cons_self
    have h2 := join_le (y :: r) (fun z hz => h z (List.mem_cons_of_mem _ hz))
    have e : (", " : Str).length = 2 := rfl
    rw [List.length_cons, Nat.add_mul]
    omega
theorem tuple_le {L : Nat} (ts : List Str) (h : ∀ t ∈ ts, t.length ≤ L) : (tupleText ts).length ≤ 3 + ts.length * (L + 2) := by
  unfold tupleText
  rw [str_len_app, str_len_app]
  have := join_le ts h
  have e1 : ("(" : Str).length = 1 := rfl
  have e2 : ((if ts.length == 1 then ",)" else ")" : String) : Str).length ≤ 2 := by split <;> decide
  omega
end Kit
namespace Kit
open MD L2 PySem
/-! columns of bars -/
abbrev Tone := Int × Int
abbrev Ent := Option (Tone × Bool)
structure Col where
  dur : Int × Int
  acc : Int
  es : List Ent
def entD : Ent → D
  | none => .non
  | some (t, b) => .tup [MD.prD t, .bl b]
def colD (c : Col) : D := .tup [MD.prD c.dur, .int c.acc, .tup (c.es.map entD)]
/-- the same items, one by one -/
def RelL {α β : Type} (R : α → β → Prop) : List α → List β → Prop
  | [], [] => True
  | x :: xs, y :: ys => R x y ∧ RelL R xs ys
  | _, _ => False
theorem RelL.length {α β : Type} {R : α → β → Prop} : ∀ {xs : List α} {ys : List β}, RelL R xs ys → xs.length = ys.length
  | [], [], _ => rfl
  | x :: xs, y :: ys, h => by rw [List.length_cons, List.length_cons, RelL.length h.2]
theorem RelL.at {α β : Type} {R : α → β → Prop} : ∀ {xs : List α} {ys : List β} {i : Nat} {x : α}, RelL R xs ys → xs[i]? = some x → ∃ y, ys[i]? = some y ∧ R x y
  | x :: xs, y :: ys, 0, _, h, e => by cases e; exact ⟨y, rfl, h.1⟩
  | x :: xs, y :: ys, i + 1, _, h, e => RelL.at (xs := xs) (ys := ys) h.2 (by simpa using e)
theorem RelL.map {α β : Type} {R : α → β → Prop} (f : β → α) (h : ∀ y, R (f y) y) : ∀ ys : List β, RelL R (ys.map f) ys
  | [] => trivial
  | y :: ys => ⟨h y, RelL.map f h ys⟩
/-- an entry, its pairs as tuples or lists -/
def EntL (d : D) : Ent → Prop
  | none => d = .non
  | some (t, b) => ∃ x, Pr x t.1 t.2 ∧ (d = .tup [x, .bl b] ∨ d = .lst [x, .bl b])
def ColL (d : D) (c : Col) : Prop := ∃ x y es, Pr x c.dur.1 c.dur.2 ∧ RelL EntL es c.es ∧ (y = .tup es ∨ y = .lst es) ∧ (d = .tup [x, .int c.acc, y] ∨ d = .lst [x, .int c.acc, y])
theorem entL_entD (e : Ent) : EntL (entD e) e := by
  cases e with
  | none => rfl
  | some p => exact ⟨_, .inl rfl, .inl rfl⟩
theorem colL_colD (c : Col) : ColL (colD c) c := ⟨_, _, _, .inl rfl, RelL.map entD entL_entD c.es, .inl rfl, .inl rfl⟩
/-! settled -/
abbrev N_settled_entry : List Str := ["entry"]
abbrev N_settled : List Str := ["column", "entry"]
def sp_settled_entry : SpD := fun ds M Q _ => ∃ d e, ds = [d] ∧ EntL d e ∧ Q (entD e) M
theorem mono_settled_entry : MonoP sp_settled_entry := fun ds M Q Q' E E' q x ⟨d, e, h1, h2, h⟩ => ⟨d, e, h1, h2, q _ _ h⟩
theorem len_settled_entry (ds M Q E) (h : sp_settled_entry ds M Q E) : ds.length = 1 := by obtain ⟨_, _, rfl, _⟩ := h; rfl
def sp_settled : SpD := fun ds M Q _ => ∃ d c, ds = [d] ∧ ColL d c ∧ c.es.length ≤ sizeLine ∧ Q (colD c) M
theorem mono_settled : MonoP sp_settled := fun ds M Q Q' E E' q x ⟨d, e, h1, h2, h3, h⟩ => ⟨d, e, h1, h2, h3, q _ _ h⟩
theorem len_settled (ds M Q E) (h : sp_settled ds M Q E) : ds.length = 1 := by obtain ⟨_, _, rfl, _⟩ := h; rfl
def r_settled_entry : TS' := (tRet' (tIf' (tB' (tOp' (oIsN' false) (tVar' 0) (tC' .non))) (tC' .non) (tTup' (tCons' (tCB' cTuple (tCons' (tOp' oIx (tVar' 0) (tC' (.int 0))) tNil')) (tCons' (tOp' oIx (tVar' 0) (tC' (.int 1))) tNil')))))
def r_settled : TS' := (tRet' (tTup' (tCons' (tCB' cTuple (tCons' (tOp' oIx (tVar' 0) (tC' (.int 0))) tNil')) (tCons' (tOp' oIx (tVar' 0) (tC' (.int 1))) (tCons' (tCB' cTuple (tCons' (tLc' false (tIt' (tOp' oIx (tVar' 0) (tC' (.int 2)))) (gName' 1) tYes' (tCall' sp_settled_entry (tCons' (tVar' 1) tNil')) [1]) tNil')) tNil')))))
theorem math_settled_entry (ds M Q E) (hM : WFM M) (hb : D.belL M.length ds = true) (h : sp_settled_entry ds M Q E) : r_settled_entry (retE M.length Q E) (startD N_settled_entry ds) M := by
  obtain ⟨d, e, rfl, he, q⟩ := h
  cases e with
  | none =>
    have he : d = .non := he
    subst he
    simp [r_settled_entry, startD, popM_same]
    exact q
  | some p =>
    obtain ⟨⟨f, o⟩, b⟩ := p
    obtain ⟨x, hx, hd⟩ := he
    have hsx := pr_sq (M := M) hx
    rcases hd with rfl | rfl <;> simp [r_settled_entry, startD, hsx, popM_same] <;> exact ⟨by decide, q⟩
/-- a comprehension of one name over items that stand in a relation to others -/
theorem lcL_rel {α : Type} {R : D → α → Prop} {it : ItD} {te : TE'} {i : Nat} {vs : List Nat} {δ : EnvD} {M : MH} {Q : List D → MH → Prop} (g : α → D) (hst : it.still M) :
    ∀ (ds : List D) (ys : List α) (acc : List D), RelL R ds ys → (∀ d y, y ∈ ys → R d y → ∀ Q' : QE, Q' (g y) M → te ((wipeD δ vs).set i (some d)) M Q' (fun _ _ => False)) → acc.length + ds.length ≤ sizeLine →
      Q (acc ++ ys.map g) M → lcL it (gName' i) tYes' te vs δ Q ds acc M
  | [], [], acc, _, _, _, q => ⟨hst, by simpa using q⟩
  | d :: r, y :: ys, acc, hr, h, hl, q => ⟨hst, by
    show te ((wipeD δ vs).set i (some d)) M _ _
    refine h d y List.mem_cons_self hr.1 _ ⟨by simp at hl; omega, ?_⟩
    refine lcL_rel g hst r ys (acc ++ [g y]) hr.2 (fun d y hy => h d y (List.mem_cons_of_mem _ hy)) (by simp at hl ⊢; omega) ?_
    simpa using q⟩
theorem math_settled (ds M Q E) (hM : WFM M) (hb : D.belL M.length ds = true) (h : sp_settled ds M Q E) : r_settled (retE M.length Q E) (startD N_settled ds) M := by
  obtain ⟨d, c, rfl, ⟨x, y, es, hx, hes, hy, hd⟩, hl, q⟩ := h
  have hsq : seqOf d M = some [x, .int c.acc, y] := by rcases hd with rfl | rfl <;> rfl
  have hns : ∀ z : Str, d ≠ .str z := by rcases hd with rfl | rfl <;> exact nofun
  have hsx := pr_sq (M := M) hx
  have hel := hes.length
  have hit : ∀ R : ItD → MH → Prop, R ⟨es, none⟩ M → seqD y M R := by rcases hy with rfl | rfl <;> exact fun R h => h
  simp [r_settled, startD, hsq, hns, hsx]
  refine hit _ ?_
  refine lcL_rel (R := EntL) entD (by exact trivial) _ c.es _ hes ?_ (by simp; omega) ?_
  · intro d e _ hde Q' q'
    simp [wipeD]
    exact ⟨d, e, rfl, hde, q'⟩
  · refine ⟨by decide, ?_⟩
    rw [popM_same (Nat.le_refl _)]
    exact q
end Kit
namespace Kit
open MD L2 PySem
/-! bars that a law draws -/
def okDur (p : Int × Int) : Prop := 0 < p.1 ∧ 0 < p.2 ∧ Bg 64 p.1 ∧ Bg 64 p.2 ∧ fr p.1 p.2 = p
theorem fr_okDur {n d : Int} (h1 : 0 < n) (h2 : 0 < d) (b1 : Bg 64 n) (b2 : Bg 64 d) : okDur (fr n d) := by
  obtain ⟨c1, c2⟩ := fr_bg b1 b2
  refine ⟨?_, fr_den (by omega), c1, c2, fr_fr h2⟩
  rw [fr_pos h2]
  have := gcd_pos (n := n) (d := d) (by omega)
  exact Int.ediv_pos_of_pos_of_dvd (by omega) (by omega) (gcd_dvd_l _ _)
/-- small numbers -/
def sml (p : Int × Int) : Prop := p.1 ≤ 1000 ∧ p.2 ≤ 1000
theorem fr_le {n d : Int} (h1 : 0 ≤ n) (h2 : 0 < d) : (fr n d).1 ≤ n ∧ (fr n d).2 ≤ d := by
  rw [fr_pos h2]
  exact ⟨Int.ediv_le_self _ h1, Int.ediv_le_self _ (by omega)⟩
theorem sml_fr {n d : Int} (h1 : 0 < n) (h2 : 0 < d) (b1 : n ≤ 1000) (b2 : d ≤ 1000) : sml (fr n d) := by
  obtain ⟨c1, c2⟩ := fr_le (n := n) (d := d) (by omega) h2
  exact ⟨by omega, by omega⟩
def okEnt (T : Tone → Prop) (e : Ent) : Prop := ∀ t b, e = some (t, b) → T t
def okCol (T : Tone → Prop) (v : Nat) (c : Col) : Prop := okDur c.dur ∧ 0 ≤ c.acc ∧ c.acc ≤ 9 ∧ c.es.length = v ∧ ∀ e ∈ c.es, okEnt T e
abbrev N__law_duration : List Str := ["pool"]
def sp__law_duration : SpD := fun ds M Q _ => ∃ p, ds = [.ref p] ∧ Pool M p ∧ ∀ dur M', okDur dur → sml dur → Step p M M' → Q (MD.prD dur) M'
theorem mono__law_duration : MonoP sp__law_duration := fun ds M Q Q' E E' q x ⟨p, e, h1, h⟩ => ⟨p, e, h1, fun a M' b c d => q _ _ (h a M' b c d)⟩
theorem len__law_duration (ds M Q E) (h : sp__law_duration ds M Q E) : ds.length = 1 := by obtain ⟨_, rfl, _⟩ := h; rfl
def r__law_duration : TS' := (tSeq' (tIfS' (tB' (tOp' (oEq false) (tCall' sp__law_take (tCons' (tVar' 0) (tCons' (tC' (.int 12)) tNil'))) (tC' (.int 0)))) (tRet' (tCall' sp__law_lowest (tCons' (tOp' (oAdd false) (tC' (.int 1)) (tCall' sp__law_take (tCons' (tVar' 0) (tCons' (tC' (.int 1000)) tNil')))) (tCons' (tOp' (oAdd false) (tC' (.int 1)) (tCall' sp__law_take (tCons' (tVar' 0) (tCons' (tC' (.int 1000)) tNil')))) tNil')))) tNext')
    (tRet' (tCall' sp__law_lowest (tCons' (tOp' (oAdd false) (tC' (.int 1)) (tCall' sp__law_take (tCons' (tVar' 0) (tCons' (tC' (.int 6)) tNil')))) (tCons' (tCall' sp__law_pick (tCons' (tVar' 0) (tCons' (tLst' false (tCons' (tC' (.int 1)) (tCons' (tC' (.int 2)) (tCons' (tC' (.int 3)) (tCons' (tC' (.int 4)) (tCons' (tC' (.int 5)) (tCons' (tC' (.int 8)) (tCons' (tC' (.int 12)) (tCons' (tC' (.int 16)) tNil'))))))))) tNil'))) tNil')))))
theorem math__law_duration (ds M Q E) (hM : WFM M) (hb : D.belL M.length ds = true) (h : sp__law_duration ds M Q E) : r__law_duration (retE M.length Q E) (startD N__law_duration ds) M := by
  obtain ⟨p, rfl, hp, q⟩ := h
  have fin : ∀ (n d : Int) M', 0 < n → n ≤ 1000 → 0 < d → d ≤ 1000 → Step p M M' → sp__law_lowest [.int n, .int d] M' (retE M.length Q E).rt fun x M1 => E x (popX M.length x M1) := by
    intro n d M' h1 h2 h3 h4 c
    have bn : Bg 64 n := bg64 (by omega) (by decide)
    have bd : Bg 64 d := bg64 (by omega) (by decide)
    refine ⟨n, d, rfl, h3, bn.mono (by decide), bd.mono (by decide), .inl (bn.mono (by decide)), ?_⟩
    simp
    rw [popM_same (by rw [c.length]; simp)]
    exact q _ _ (fr_okDur h1 h3 bn bd) (sml_fr h1 h3 h2 h4) c
  unfold r__law_duration
  refine seq_step fun S hS => ?_
  simp [startD]
  refine ⟨p, 12, rfl, by decide, by decide, hp, fun k M1 a1 b1 c1 => ?_⟩
  simp
  by_cases k0 : k = 0
  · rw [if_pos k0]
    refine ⟨p, 1000, rfl, by decide, by decide, c1.2, fun r M2 a2 b2 c2 => ?_⟩
    simp
    refine ⟨p, 1000, rfl, by decide, by decide, c2.2, fun r3 M3 a3 b3 c3 => ?_⟩
    simp
    exact fin _ _ _ (by omega) (by omega) (by omega) (by omega) ((c1.trans c2).trans c3)
  · rw [if_neg k0]
    subst hS
    simp
    refine ⟨p, 6, rfl, by decide, by decide, c1.2, fun r M2 a2 b2 c2 => ?_⟩
    simp
    refine ⟨by decide, p, _, _, rfl, c2.2, nofun, rfl, fun _ _ => rfl, by simp, by decide, fun d M3 hd c3 => ?_⟩
    have : ∃ z : Int, d = .int z ∧ 0 < z ∧ z ≤ 16 := by
      simp at hd
      rcases hd with rfl | rfl | rfl | rfl | rfl | rfl | rfl | rfl <;> exact ⟨_, rfl, by omega, by omega⟩
    obtain ⟨z, rfl, z1, z2⟩ := this
    exact fin _ _ _ (by omega) (by omega) (by omega) (by omega) ((c1.trans c2).trans c3)
/-! a column -/
abbrev N__law_column : List Str := ["pool", "voices", "before", "some", "entries", "voice", "kind", "entry", "held", "tone"]
def sp__law_column : SpD := fun ds M Q _ => ∃ (T : Tone → Prop) (p v : Nat) (before sm : D) (xs : List Tone), ds = [.ref p, .int v, before, sm] ∧ Pool M p ∧ v ≤ 1000 ∧ (before = .non ∨ ∃ c, before = colD c ∧ okCol T v c) ∧
  sm = .lst (xs.map MD.prD) ∧ xs ≠ [] ∧ xs.length ≤ 1000000 ∧ (∀ t ∈ xs, T t) ∧ ∀ c M', okCol T v c → sml c.dur → Step p M M' → Q (colD c) M'
theorem mono__law_column : MonoP sp__law_column := fun ds M Q Q' E E' q x ⟨T, p, v, b, s, xs, e, h1, h2, h3, h4, h5, h6, h7, h⟩ => ⟨T, p, v, b, s, xs, e, h1, h2, h3, h4, h5, h6, h7, fun c M' a b d => q _ _ (h c M' a b d)⟩
theorem len__law_column (ds M Q E) (h : sp__law_column ds M Q E) : ds.length = 4 := by obtain ⟨_, _, _, _, _, _, rfl, _⟩ := h; rfl
def r__law_column : TS' := (tSeq' (tAsg' (tTup' tNil') (gName' 4))
    (tSeq' (tFor' (tRng1' (tCons' (tVar' 1) tNil')) (gName' 5) (tSeq' (tAsg' (tCall' sp__law_take (tCons' (tVar' 0) (tCons' (tC' (.int 6)) tNil'))) (gName' 6))
    (tSeq' (tAsg' (tTup' (tCons' (tCall' sp__law_pick (tCons' (tVar' 0) (tCons' (tVar' 3) tNil'))) (tCons' (tC' (.bl true)) tNil'))) (gName' 7))
    (tSeq' (tIfS' (tB' (tOp' (oEq false) (tVar' 6) (tC' (.int 0)))) (tAsg' (tC' .non) (gName' 7)) (tIfS' (tB' (tOp' (oI0 fun i j => .bl (decide (i < j))) (tVar' 6) (tC' (.int 3)))) (tSeq' (tAsg' (tIf' (tB' (tOp' (oIsN' false) (tVar' 2) (tC' .non))) (tC' .non) (tOp' oIx (tOp' oIx (tVar' 2) (tC' (.int 2))) (tVar' 5))) (gName' 8))
    (tSeq' (tAsg' (tIf' (tAnd' (tB' (tOp' (oIsN' true) (tVar' 8) (tC' .non))) (tB' (tOp' (oI0 fun i j => .bl (decide (j < i))) (tCall' sp__law_take (tCons' (tVar' 0) (tCons' (tC' (.int 4)) tNil'))) (tC' (.int 0))))) (tOp' oIx (tVar' 8) (tC' (.int 0))) (tOp' oIx (tVar' 7) (tC' (.int 0)))) (gName' 9))
    (tAsg' (tTup' (tCons' (tVar' 9) (tCons' (tC' (.bl false)) tNil'))) (gName' 7)))) tNext'))
    (tAsg' (tOp' (oAdd false) (tVar' 4) (tTup' (tCons' (tVar' 7) tNil'))) (gName' 4))))))
    (tRet' (tTup' (tCons' (tCall' sp__law_duration (tCons' (tVar' 0) tNil')) (tCons' (tIf' (tB' (tOp' (oEq false) (tCall' sp__law_take (tCons' (tVar' 0) (tCons' (tC' (.int 2)) tNil'))) (tC' (.int 0)))) (tCall' sp__law_take (tCons' (tVar' 0) (tCons' (tC' (.int 10)) tNil'))) (tC' (.int 0))) (tCons' (tVar' 4) tNil')))))))

theorem math__law_column (ds M Q E) (hM : WFM M) (hb : D.belL M.length ds = true) (h : sp__law_column ds M Q E) : r__law_column (retE M.length Q E) (startD N__law_column ds) M := by
  obtain ⟨T, p, v, before, sm, xs, rfl, hp, hv, hbe, rfl, hne, hlen, hT, q⟩ := h
  have hz : (sizeLine : Nat) = 16777216 := by decide
  have st0 : Step p M M := ⟨⟨M[p]'hp.lt, by simp⟩, hp⟩
  unfold r__law_column
  refine seq_step fun S hS => ?_
  simp [startD]
  subst hS
  refine seq_step fun S hS => ?_
  simp
  refine ⟨by omega, ?_⟩
  refine forR_ind (fun i δ M' => Step p M M' ∧ ∃ (es : List Ent) (a b c d e : Option D), es.length = i ∧ (∀ e ∈ es, okEnt T e) ∧ δ = [some (.ref p), some (.int v), some before, some (.lst (xs.map MD.prD)), some (.tup (es.map entD)), a, b, c, d, e]) ?_ ?_ ⟨st0, [], none, none, none, none, none, rfl, nofun, rfl⟩
  · rintro δ M' ⟨hs, es, a, b, c, d, e, hl, hes, rfl⟩
    refine ⟨trivial, ?_⟩
    show S _ _ _
    subst hS
    simp
    refine ⟨p, rfl, hs.2, fun dur M1 hdur hsm k1 => ?_⟩
    have k01 := hs.trans k1
    have fin : ∀ (acc : Int) M2, 0 ≤ acc → acc ≤ 9 → Step p M M2 → Q (.tup [MD.prD dur, .int acc, .tup (es.map entD)]) (popM M.length (.tup [MD.prD dur, .int acc, .tup (es.map entD)]) M2) := by
      intro acc M2 h1 h2 k2
      rw [popM_same (by rw [k2.length]; simp)]
      exact q ⟨dur, acc, es⟩ M2 ⟨hdur, h1, h2, hl, hes⟩ hsm k2
    simp
    refine ⟨p, 2, rfl, by decide, by decide, k01.2, fun r2 M2 a2 b2 k2 => ?_⟩
    simp
    split
    · refine ⟨p, 10, rfl, by decide, by decide, k2.2, fun r3 M3 a3 b3 k3 => ?_⟩
      exact ⟨by decide, fin _ _ (by omega) (by omega) ((k01.trans k2).trans k3)⟩
    · exact ⟨by decide, fin _ _ (by omega) (by omega) (k01.trans k2)⟩
  · rintro i δ M' F hi ⟨hs, es, a, b, c, d, e, hl, hes, rfl⟩ hF
    refine ⟨trivial, ?_⟩
    refine seq_step fun S2 hS2 => ?_
    simp
    refine ⟨p, 6, rfl, by decide, by decide, hs.2, fun kind M1 a1 b1 k1 => ?_⟩
    have s1 := hs.trans k1
    simp
    subst hS2
    refine seq_step fun S2 hS2 => ?_
    simp
    refine ⟨p, _, _, rfl, s1.2, nofun, rfl, fun _ _ => rfl, by simpa using hne, by simpa using hlen, fun d2 M2 hd2 k2 => ?_⟩
    obtain ⟨t2, ht2, rfl⟩ := List.mem_map.mp hd2
    have s2 := s1.trans k2
    refine ⟨by decide, ?_⟩
    subst hS2
    refine seq_step fun S2 hS2 => ?_
    have done : ∀ (en : Ent) (x y : Option D) M3, okEnt T en → Step p M M3 → S2 { (retE M.length Q E) with nx := F, ct := F, bk := S (retE M.length Q E) } [some (.ref p), some (.int v), some before, some (.lst (xs.map MD.prD)), some (.tup (es.map entD)), some (.int i), some (.int kind), some (entD en), x, y] M3 := by
      intro en x y M3 hen s3
      subst hS2
      simp
      refine ⟨by decide, by omega, ?_⟩
      rw [show es.map entD ++ [entD en] = (es ++ [en]).map entD by rw [List.map_append]; rfl]
      refine hF _ _ ⟨s3, es ++ [en], some (.int i), some (.int kind), some (entD en), x, y, by simp [hl], ?_, rfl⟩
      intro e he
      rcases List.mem_append.mp he with he | he
      · exact hes e he
      · rw [List.mem_singleton.mp he]; exact hen
    simp
    by_cases k0 : kind = 0
    · rw [if_pos k0]
      exact done none _ _ _ nofun s2
    rw [if_neg k0]
    by_cases k3 : kind < 3
    · rw [if_pos k3]
      have last : ∀ (x : Option D) (t : Tone) M3, T t → Step p M M3 → S2 { (retE M.length Q E) with nx := F, ct := F, bk := S (retE M.length Q E) } [some (.ref p), some (.int v), some before, some (.lst (xs.map MD.prD)), some (.tup (es.map entD)), some (.int i), some (.int kind), some (.tup [MD.prD t, .bl false]), x, some (MD.prD t)] M3 :=
        fun x t M3 ht s3 => done (some (t, false)) x _ M3 (fun u b e => by cases e; exact ht) s3
      rcases hbe with rfl | ⟨c, rfl, hc⟩
      · simp
        exact ⟨by decide, last _ _ _ (hT _ ht2) s2⟩
      · have hci : i < c.es.length := by rw [hc.2.2.2.1]; exact hi
        have hat : atI (c.es.map entD) (i : Int) = some (entD c.es[i]) := by
          refine at_nat ?_
          rw [List.getElem?_map, List.getElem?_eq_getElem hci]; rfl
        have hen := hc.2.2.2.2 _ (List.getElem_mem hci)
        simp [colD, hat]
        generalize c.es[i] = e0 at hen
        cases e0 with
        | none =>
          simp [entD]
          exact ⟨by decide, last _ _ _ (hT _ ht2) s2⟩
        | some tb =>
          obtain ⟨t, bb⟩ := tb
          have ht : T t := hen t bb rfl
          simp [entD]
          refine ⟨p, 4, rfl, by decide, by decide, s2.2, fun r4 M4 a4 b4 k4 => ?_⟩
          simp
          have s4 := s2.trans k4
          split
          · exact ⟨by decide, last _ _ _ ht s4⟩
          · exact ⟨by decide, last _ _ _ (hT _ ht2) s4⟩
    · rw [if_neg k3]
      exact done (some (t2, true)) _ _ _ (fun u b e => by cases e; exact hT _ ht2) s2
/-! a bar -/
theorem last_map {α : Type} (f : α → D) {xs : List α} (h : xs ≠ []) : atI (xs.map f) (-1) = some (f (xs.getLast h)) := by
  have hl : 0 < xs.length := List.length_pos_iff.mpr h
  unfold atI ixN
  rw [if_neg (by decide), if_pos (by rw [List.length_map]; omega), List.length_map]
  show (xs.map f)[((-1 : Int) + xs.length).toNat]? = _
  rw [List.getElem?_map, show ((-1 : Int) + xs.length).toNat = xs.length - 1 by omega, List.getLast_eq_getElem h, List.getElem?_eq_getElem (by omega)]
  rfl
def Near (t : Tone) : Prop := -50 ≤ t.1 ∧ t.1 ≤ 50 ∧ 0 ≤ t.2 + 4 * t.1 / 7 ∧ t.2 + 4 * t.1 / 7 ≤ 6
abbrev N__law_bar : List Str := ["pool", "voices", "most", "some", "found", "k"]
def sp__law_bar : SpD := fun ds M Q _ => ∃ (p v : Nat) (most : Int), ds = [.ref p, .int v, .int most] ∧ Pool M p ∧ v ≤ 1000 ∧ 0 < most ∧ most ≤ 1000 ∧
  ∀ cs M', cs ≠ [] → cs.length ≤ most.toNat → (∀ c ∈ cs, okCol Near v c ∧ sml c.dur) → Step p M M' → Q (.tup (cs.map colD)) M'
theorem mono__law_bar : MonoP sp__law_bar := fun ds M Q Q' E E' q x ⟨p, v, m, e, h1, h2, h3, h4, h⟩ => ⟨p, v, m, e, h1, h2, h3, h4, fun cs M' a b c d => q _ _ (h cs M' a b c d)⟩
theorem len__law_bar (ds M Q E) (h : sp__law_bar ds M Q E) : ds.length = 3 := by obtain ⟨_, _, _, rfl, _⟩ := h; rfl
def r__law_bar : TS' := (tSeq' (tAsg' (tLc' false (tRng1' (tCons' (tOp' (oAdd false) (tC' (.int 1)) (tCall' sp__law_take (tCons' (tVar' 0) (tCons' (tC' (.int 6)) tNil')))) tNil')) (gName' 5) tYes' (tCall' sp__law_tone (tCons' (tVar' 0) tNil')) [5]) (gName' 3))
    (tSeq' (tAsg' (tTup' tNil') (gName' 4))
    (tSeq' (tFor' (tRng1' (tCons' (tOp' (oAdd false) (tC' (.int 1)) (tCall' sp__law_take (tCons' (tVar' 0) (tCons' (tVar' 2) tNil')))) tNil')) (gName' 5) (tAsg' (tOp' (oAdd false) (tVar' 4) (tTup' (tCons' (tCall' sp__law_column (tCons' (tVar' 0) (tCons' (tVar' 1) (tCons' (tIf' (tTru' (tVar' 4)) (tOp' oIx (tVar' 4) (tUn' oNeg (tC' (.int 1)))) (tC' .non)) (tCons' (tVar' 3) tNil'))))) tNil'))) (gName' 4)))
    (tRet' (tVar' 4)))))
/-- columns one behind another -/
theorem cols_loop {T : Tone → Prop} {p v : Nat} {M0 : MH} {N : Nat} {xs : List Tone} {DD : Ends'} {g : EnvD → MH → Prop} (hv : v ≤ 1000) (hN : N ≤ 1000) (hne : xs ≠ []) (hlen : xs.length ≤ 1000000) (hT : ∀ t ∈ xs, T t) : True := trivial
theorem math__law_bar (ds M Q E) (hM : WFM M) (hb : D.belL M.length ds = true) (h : sp__law_bar ds M Q E) : r__law_bar (retE M.length Q E) (startD N__law_bar ds) M := by
  obtain ⟨p, v, most, rfl, hp, hv, hm, hm2, q⟩ := h
  have hz : (sizeLine : Nat) = 16777216 := by decide
  unfold r__law_bar
  refine seq_step fun S hS => ?_
  simp [startD]
  refine ⟨p, 6, rfl, by decide, by decide, hp, fun r1 M1 a1 b1 k1 => ?_⟩
  simp
  refine ⟨by omega, by omega, ?_⟩
  generalize hN : (1 + r1).toNat = N
  refine lcI_from (fun i acc M' => Step p M M' ∧ ∃ xs : List Tone, acc = xs.map MD.prD ∧ xs.length = i ∧ ∀ t ∈ xs, Near t) ?_ ?_ ⟨k1, [], rfl, rfl, nofun⟩
  · rintro acc M2 ⟨s2, xs, rfl, hl, hxs⟩
    rw [rangeD_length] at hl
    refine ⟨trivial, ?_⟩
    show S _ _ _
    have hne : xs ≠ [] := by intro z; rw [z] at hl; simp at hl; omega
    subst hS
    refine seq_step fun S hS => ?_
    simp
    subst hS
    refine seq_step fun S hS => ?_
    simp
    refine ⟨p, most, rfl, hm, by omega, s2.2, fun r3 M3 a3 b3 k3 => ?_⟩
    simp
    refine ⟨by omega, by omega, ?_⟩
    have s3 := s2.trans k3
    generalize hN2 : (1 + r3).toNat = N2
    refine forR_ind (fun i δ M' => Step p M M' ∧ ∃ (cs : List Col) (t : Option D), cs.length = i ∧ (∀ c ∈ cs, okCol Near v c ∧ sml c.dur) ∧ δ = [some (.ref p), some (.int v), some (.int most), some (.lst (xs.map MD.prD)), some (.tup (cs.map colD)), t]) ?_ ?_ ⟨s3, [], none, rfl, nofun, rfl⟩
    · rintro δ M4 ⟨s4, cs, t, hcl, hcs, rfl⟩
      refine ⟨trivial, ?_⟩
      show S _ _ _
      subst hS
      simp
      rw [popM_same (by rw [s4.length]; simp)]
      exact q cs M4 (by intro z; rw [z] at hcl; simp at hcl; omega) (by omega) hcs s4
    · rintro i δ M4 F hi ⟨s4, cs, t, hcl, hcs, rfl⟩ hF
      refine ⟨trivial, ?_⟩
      have go : ∀ before, (before = .non ∨ ∃ c, before = colD c ∧ okCol Near v c) → ∀ E', sp__law_column [.ref p, .int v, before, .lst (xs.map MD.prD)] M4 (fun d M1 => 1 ≤ sizeLine ∧ cs.length + 1 ≤ sizeLine ∧ F [some (.ref p), some (.int v), some (.int most), some (.lst (xs.map MD.prD)), some (.tup (cs.map colD ++ [d])), some (.int i)] M1) E' := by
        intro before hbe E'
        refine ⟨Near, p, v, before, _, xs, rfl, s4.2, hv, hbe, rfl, hne, by omega, hxs, fun c M5 hc hc2 k5 => ?_⟩
        refine ⟨by decide, by omega, ?_⟩
        rw [show cs.map colD ++ [colD c] = (cs ++ [c]).map colD by rw [List.map_append]; rfl]
        refine hF _ _ ⟨s4.trans k5, cs ++ [c], some (.int i), by simp [hcl], ?_, rfl⟩
        intro x hx
        rcases List.mem_append.mp hx with hx | hx
        · exact hcs x hx
        · rw [List.mem_singleton.mp hx]; exact ⟨hc, hc2⟩
      simp
      by_cases he : cs = []
      · rw [if_pos he]
        exact go _ (.inl rfl) _
      · rw [if_neg he]
        simp [last_map colD he]
        exact go _ (.inr ⟨_, rfl, (hcs _ (List.getLast_mem he)).1⟩) _
  · rintro i d acc M2 F hd ⟨s2, xs, rfl, hl, hxs⟩ hF
    have hi : i < N := by have := (List.getElem?_eq_some_iff.mp hd).1; rwa [rangeD_length] at this
    refine ⟨trivial, ?_⟩
    simp [wipeD]
    refine ⟨p, rfl, s2.2, fun f o M3 h1 h2 h3 h4 k3 => ?_⟩
    simp
    refine ⟨by omega, hF _ _ ⟨s2.trans k3, xs ++ [(f, o)], by rw [List.map_append]; rfl, by simp [hl], ?_⟩⟩
    intro t ht
    rcases List.mem_append.mp ht with ht | ht
    · exact hxs t ht
    · rw [List.mem_singleton.mp ht]; exact ⟨h1, h2, h3, h4⟩
/-! raised -/
abbrev N__law_raised : List Str := ["cell", "sign", "tone", "entries", "entry"]
def moveE (sign : Int) (t : Tone) : Ent → Ent := Option.map fun u => ((t.1 + sign * u.1.1, t.2 + sign * u.1.2), u.2)
def moveC (sign : Int) (t : Tone) (c : Col) : Col := ⟨c.dur, c.acc, c.es.map (moveE sign t)⟩
def sp__law_raised : SpD := fun ds M Q _ => ∃ c sign s t, ds = [colD c, .int sign, s] ∧ (-(2 ^ 64) < sign ∧ sign < 2 ^ 64) ∧ Pr s t.1 t.2 ∧ c.es.length < sizeLine ∧ Q (colD (moveC sign t c)) M
theorem mono__law_raised : MonoP sp__law_raised := fun ds M Q Q' E E' q x ⟨c, g, s, t, e, h1, h2, h3, h⟩ => ⟨c, g, s, t, e, h1, h2, h3, q _ _ h⟩
theorem len__law_raised (ds M Q E) (h : sp__law_raised ds M Q E) : ds.length = 3 := by obtain ⟨_, _, _, _, rfl, _⟩ := h; rfl
def r__law_raised : TS' := (tSeq' (tAsg' (tTup' tNil') (gName' 3))
    (tSeq' (tFor' (tIt' (tOp' oIx (tVar' 0) (tC' (.int 2)))) (gName' 4) (tSeq' (tIfS' (tB' (tOp' (oIsN' true) (tVar' 4) (tC' .non))) (tAsg' (tTup' (tCons' (tTup' (tCons' (tOp' (oAdd false) (tOp' oIx (tVar' 2) (tC' (.int 0))) (tOp' (oMul false) (tVar' 1) (tOp' oIx (tOp' oIx (tVar' 4) (tC' (.int 0))) (tC' (.int 0))))) (tCons' (tOp' (oAdd false) (tOp' oIx (tVar' 2) (tC' (.int 1))) (tOp' (oMul false) (tVar' 1) (tOp' oIx (tOp' oIx (tVar' 4) (tC' (.int 0))) (tC' (.int 1))))) tNil'))) (tCons' (tOp' oIx (tVar' 4) (tC' (.int 1))) tNil'))) (gName' 4)) tNext')
    (tAsg' (tOp' (oAdd false) (tVar' 3) (tTup' (tCons' (tVar' 4) tNil'))) (gName' 3))))
    (tRet' (tTup' (tCons' (tOp' oIx (tVar' 0) (tC' (.int 0))) (tCons' (tOp' oIx (tVar' 0) (tC' (.int 1))) (tCons' (tVar' 3) tNil')))))))
theorem math__law_raised (ds M Q E) (hM : WFM M) (hb : D.belL M.length ds = true) (h : sp__law_raised ds M Q E) : r__law_raised (retE M.length Q E) (startD N__law_raised ds) M := by
  obtain ⟨c, sign, s, t, rfl, hsg, hs, hl, q⟩ := h
  have hss := fun M => pr_sq (M := M) hs
  have hsn := pr_ns hs
  unfold r__law_raised
  refine seq_step fun S hS => ?_
  simp [startD]
  subst hS
  refine seq_step fun S hS => ?_
  simp [colD]
  change Q (.tup [MD.prD c.dur, .int c.acc, .tup ((c.es.map (moveE sign t)).map entD)]) M at q
  generalize MD.prD c.dur = dd at *
  obtain ⟨L, hL⟩ : ∃ L, L = (c.es.map (moveE sign t)).map entD := ⟨_, rfl⟩
  rw [← hL] at q
  have hLl : L.length = c.es.length := by rw [hL]; simp
  refine forI_from (fun i δ M' => M' = M ∧ ∃ e, δ = [some (.tup [dd, .int c.acc, .tup (c.es.map entD)]), some (.int sign), some s, some (.tup (L.take i)), e]) ?_ ?_ ⟨rfl, none, rfl⟩
  · rintro δ M' ⟨rfl, e, rfl⟩
    refine ⟨trivial, ?_⟩
    show S _ _ _
    subst hS
    rw [List.length_map, ← hLl, List.take_length]
    simp
    refine ⟨by decide, ?_⟩
    rw [popM_same (Nat.le_refl _)]
    exact q
  · rintro i d δ M' F hd ⟨rfl, e, rfl⟩ hF
    refine ⟨trivial, ?_⟩
    rw [List.getElem?_map] at hd
    obtain ⟨en, hen, rfl⟩ := Option.map_eq_some_iff.mp hd
    have hil := (List.getElem?_eq_some_iff.mp hen).1
    have tk : L.take (i + 1) = L.take i ++ [entD (moveE sign t en)] := by
      rw [List.take_add_one, hL, List.getElem?_map, List.getElem?_map, hen]; rfl
    refine seq_step fun S2 hS2 => ?_
    have fin : S2 { nx := F, rt := (retE M'.length Q E).rt, bk := S (retE M'.length Q E), ct := F, ex := (retE M'.length Q E).ex } [some (.tup [dd, .int c.acc, .tup (c.es.map entD)]), some (.int sign), some s, some (.tup (L.take i)), some (entD (moveE sign t en))] M' := by
      subst hS2
      simp
      refine ⟨by decide, by omega, ?_⟩
      rw [← tk]
      exact hF _ _ ⟨rfl, _, rfl⟩
    cases en with
    | none =>
      simp [entD]
      exact fin
    | some u =>
      obtain ⟨⟨f, o⟩, b⟩ := u
      have hpr : ∀ M, seqOf (MD.prD (f, o)) M = some [.int f, .int o] := fun _ => rfl
      have hpn : ∀ z : Str, MD.prD (f, o) ≠ .str z := nofun
      simp [entD, hss, hsn, hpr, hpn]
      exact ⟨mulOk_l hsg, mulOk_l hsg, by decide, fin⟩
end Kit
namespace Kit
open MD L2 PySem
theorem set_last (M : MH) (c d : Cell) : (M ++ [c]).set M.length d = M ++ [d] := by
  rw [List.set_append_right _ _ (Nat.le_refl _)]
  simp
theorem get_last (M : MH) (c : Cell) : (M ++ [c])[M.length]? = some c := by simp
theorem popM_last {M : MH} (hM : WFM M) {c : Cell} {d : D} (hd : d.bel M.length = true) : popM M.length d (M ++ [c]) = M :=
  popM_pop hd (by rw [List.take_left' rfl]; exact hM) (List.take_left' rfl)
/-- isinstance(x, (tuple, list)) -/
@[simp] theorem isi_tl {d : D} {M : MH} {Q : QE} : cIsiT [d, .tup [.con (.ty "tuple"), .con (.ty "list")]] M Q ↔ onN (tyStr d M) fun n => Q (.bl (subTy n "tuple" || subTy n "list")) M := by
  constructor
  · rintro ⟨d', es, ts, n, e, h1, h2, h3, h⟩
    cases e
    have : ts = ["tuple", "list"] := (Option.some.inj h1).symm
    subst this
    rw [h3]
    simpa using h
  · intro h
    cases hn : tyStr d M with
    | none => rw [hn] at h; exact h.elim
    | some n => rw [hn] at h; exact ⟨d, _, ["tuple", "list"], n, rfl, rfl, rfl, hn, by simpa using h⟩
end Kit
namespace MD
open PySem PySem.Spec PyProof.Rows L2
variable {K : PySem.W.Frag} {w w1 w2 : Wd} {X : Cx} {W : WX} {e a b c : Expr} {pos : Pos}
/-! a call of a def whose promise asks that no repr is under way -/
theorem runFnG {k : Nat} {f : Addr} {fd : FuncData} {ps : List Str} {sp : Sp} {E : L2.St → XK} {pins : List (Addr × Obj)} {σ : L2.St} {H : Hp} {s : Shared} {Q : VK} {us : List Value} {vs : List V}
    (F : FnG X.prog X.w X.K X.mg X.base k f fd ps sp) (len : ∀ vs H Q E, sp vs H Q E → vs.length = ps.length) (gd : X.A.guards = some []) (room : Room k X.A) (bind : Binds X.K fd ps []) (pass : PassesAt (L2.CX X.prog X.w) X σ (E σ))
    (I : Inv X pins σ H s) (rel : Vals vs us) (h : sp vs H Q (E σ)) : wpAny (model X.prog X.w) X.A (call (.ref f) us) (EP X pins σ Q) X.xe s := by
  have same : us.length = ps.length := by rw [← rel.length]; exact len _ _ _ _ h
  have bound := bind s us I.kIn (by rw [List.append_nil]; exact same)
  rw [List.append_nil] at bound
  have go := F.run X.A X.stack s H ⟨us, []⟩ us vs Q (E σ) gd room I.env0 bound rel h
  refine wpAny_call (codeAny_mono go fun r s' out => ?_)
  cases r with
  | error x => exact pass pins H s x s' I out
  | ok fl =>
    cases fl with
    | ret u => exact I.after out
    | next => exact False.elim out
    | brk => exact False.elim out
    | cont => exact False.elim out
theorem me_callG {x : Str} {p : Pos} {es : List Expr} {k : Nat} {f : Addr} {fd : FuncData} {ps : List Str} {sp : SpD} {t : TA'} (F : FnG X.prog X.w X.K X.mg X.base k f fd ps (upP X.K sp)) (len : ∀ ds M Q E, sp ds M Q E → ds.length = ps.length) (gd : X.A.guards = some []) (ms : MonoP sp) (hr : Room k X.A) (tk : Takes X W)
    (hg : Gl X x) (hm : X.mg x = some (.ref f)) (hk : PySem.W.keepIn X.K (.ref f) = true) (hb : Binds X.K fd ps []) (ha : MA X W (e :: es) t)
    (hdb : (x == ("__debug__" : Str)) = false := by decide) (he : starEach (e :: es) X.env = (false, eval e X.env) :: starEach es X.env := by rfl) (hpl : (backTo pos (starEach es X.env)).any (·.1) = false := by rfl) :
    ME X W (.Call (.Name x p) (e :: es) [] pos) (tCall' sp t) := by
  have slen : ∀ vs H Q E, upP X.K sp vs H Q E → vs.length = ps.length := fun vs H Q E ⟨w, ds, _, _, hr, h⟩ => by rw [hr.length]; exact len _ _ _ _ h
  have core : PE X (.Call (.Name x p) (e :: es) [] pos) (tCallSD (upP X.K sp) [] (fun σ c d H => W c d σ H) (upA X.K W t)) := by
    refine ⟨fun pins s σ H Q I h => ?_⟩
    refine wpAny_Call_Name_kw (ld_glob I hg hm ?_ hdb)
    refine PySem.W.callWith_K (h₀ := X.base) I.ok.mod.kin hk (thn (ha.pa.run pos pins s σ H _ I h) fun us s1 ⟨vs, H1, I1, rel, q⟩ => ⟨I1.kIn, ?_⟩) he hpl
    have q2 : upP X.K sp vs H1 Q (fun c d H => W c d σ H) := by
      have q3 : upP X.K sp (vs ++ []) H1 Q (fun c d H => W c d σ H) := q
      rwa [List.append_nil] at q3
    exact runFnG (E := fun σ c d H => W c d σ H) F slen gd hr hb (fun pins H s e s' I c => tk e s' (XE.of_call I (fun _ _ _ h => h) c)) I1 rel q2
  exact ⟨PE.imp core fun σ H Q ⟨w, δ, e, rh, rs, h1⟩ => by
    subst e
    refine upA_go ha.mono rh rs h1 (fun _ _ x => x) fun d v w1 l1 rh1 rs1 rv h2 => ?_
    exact ⟨w1, d, rfl, rh1, by rw [List.append_nil]; exact rv, ms _ _ _ _ _ _ (fun d M q => q.le rh rh1 l1) (fun x M q => q.le rh rh1 l1) h2⟩,
   fun δ M Q Q' E E' q x hh => ha.mono _ _ _ _ _ _ (fun d M1 h1 => ms _ _ _ _ _ _ q x h1) x hh⟩
end MD
namespace MD
open PySem PySem.Spec PyProof.Rows L2
variable {K : PySem.W.Frag} {w w1 w2 : Wd} {X : Cx} {W : WX} {e a b c : Expr} {pos : Pos}
/-! enumerate(a list that nobody writes) -/
def enumD (ds : List D) : List D := ds.mapIdx fun i d => .tup [.int (i : Int), d]
theorem enumD_at {ds : List D} {i : Nat} {x : D} (h : (enumD ds)[i]? = some x) : ∃ d, ds[i]? = some d ∧ x = .tup [.int (i : Int), d] := by
  unfold enumD at h
  rw [List.getElem?_mapIdx] at h
  obtain ⟨d, hd, rfl⟩ := Option.map_eq_some_iff.mp h
  exact ⟨d, hd, rfl⟩
theorem enumD_length (ds : List D) : (enumD ds).length = ds.length := by simp [enumD]
theorem itOk_enum {p : Addr} {ds : List D} {w0 : Wd} (hl : ∀ w2, Le w0 w2 → RH K w2 → ∃ xs, SqL K w2.H p xs ∧ RepL K w2 ds xs) :
    ItOk K ⟨enumD ds, none⟩ (Ite K p) w0 := by
  intro w2 l r st
  obtain ⟨xs, hs, hr⟩ := hl w2 l r
  refine ⟨⟨xs, hs, by rw [enumD_length, hr.length]; exact Nat.le_refl _⟩, fun i x hx => ?_⟩
  obtain ⟨d, hd, rfl⟩ := enumD_at hx
  obtain ⟨y, hy, ry⟩ : ∃ y, xs[i]? = some y ∧ Rep K w2 d y := by
    have := hr.length
    have hi := (List.getElem?_eq_some_iff.mp hd).1
    have := atI_rep (i := (i : Int)) hr (atI_n (by omega) (by simpa using hd))
    obtain ⟨y, e, ry⟩ := this
    refine ⟨y, ?_, ry⟩
    unfold atI ixN at e
    rw [if_pos (by omega), if_pos (by omega)] at e
    simpa using e
  refine ⟨⟨xs, y, hs, hy⟩, ?_⟩
  rintro x H' ⟨T, x', rfl, hT, rfl, hx'⟩
  have : x' = y := by
    have := hx' xs hs
    rw [hy] at this
    exact (Option.some.inj this).symm
  subst this
  exact ⟨w2.new T (.tup [.int (i : Nat), x']), rfl, rfl, Le.new hT, r.new hT, rep_new_tup r hT (RepL.cons (by simp [Rep]) (RepL.cons ry RepL.nil))⟩
def tEnum' (t : TA') : TI' := fun δ M R E => t δ M (fun dl M1 => ∃ ds, dl = [.lst ds] ∧ R ⟨enumD ds, none⟩ M1) E
theorem mi_enum {p tpos : Pos} {elts : List Expr} {kk : Nat} {t : TA'} (hg : Gl X "enumerate") (hm : X.mg "enumerate" = none) (ha : MA X W [e] t) (hs : starEach [e] X.env = [(false, eval e X.env)] := by rfl) :
    MI X W (.Tuple elts kk tpos) (.Call (.Name "enumerate" p) [e] [] pos) (tEnum' t) :=
  ⟨PI.imp (pi_enum hg hm ha.pa hs) fun σ H R ⟨w, δ, eH, rh, rs, q⟩ => by
    subst eH
    refine upA_go ha.mono rh rs q (fun _ _ x => x) fun dl vl w1 l1 rh1 rs1 rv ⟨ds, e1, h1⟩ => ?_
    subst e1
    obtain ⟨v1, r1, e2, rv1, e3⟩ := rv
    have e3 : r1 = [] := e3
    subst e2 e3
    obtain ⟨a, xs, e4, hl, nl, nr, hr⟩ := rv1
    subst e4
    exact ⟨a, xs, rfl, SqL.of hl, h1 _ w1 rfl l1 rh1 (itOk_enum fun w2 l r => ⟨xs, SqL.of (l.keep a _ hl nl), RepL.le rh1 l _ hr⟩) trivial⟩,
   fun δ M Q Q' E E' q x hh => ha.mono _ _ _ _ _ _ (fun d M1 ⟨ds, e1, h1⟩ => ⟨ds, e1, q _ _ h1⟩) x hh⟩
@[simp] theorem u_enum {t : TA'} {δ : EnvD} {M : MH} {R : ItD → MH → Prop} {E : QX} : tEnum' t δ M R E ↔ t δ M (fun dl M1 => ∃ ds, dl = [.lst ds] ∧ R ⟨enumD ds, none⟩ M1) E := Iff.rfl
end MD
namespace MD
open PySem PySem.Spec PyProof.Rows L2
variable {K : PySem.W.Frag} {w w1 w2 : Wd} {X : Cx} {W : WX} {e a b c : Expr} {pos : Pos}
/-! xs[::-1] of a list -/
def tRev' (cell : Bool) (te : TE') : TE' := fun δ M Q E => te δ M (fun d M1 => ∃ es, lstOf d M1 = some es ∧ newL cell es.reverse M1 Q) E
theorem RepL.reverse {ds : List D} {xs : List V} (h : RepL K w ds xs) : RepL K w ds.reverse xs.reverse := by
  induction ds generalizing xs with
  | nil => have h : xs = [] := h; subst h; exact RepL.nil
  | cons d ds ih =>
    obtain ⟨x, r, rfl, hx, hr⟩ := h
    rw [List.reverse_cons, List.reverse_cons]
    exact (ih hr).append (RepL.cons hx RepL.nil)
theorem me_rev {cell : Bool} {te : TE'} {k : Nat} {p1 p2 p3 : Pos} (he : ME X W e te) : ME X W (.Subscript e (.Slice none none (some (.UnaryOp .USub (.Constant (.int 1) k p1) p2)) p3) pos) (tRev' cell te) :=
  ⟨PE.imp (pe_revL he.pe) fun σ H Q ⟨w, δ, eH, rh, rs, h⟩ => by
    subst eH
    refine up_go he.mono rh rs h (fun _ _ x => x) fun d v w1 l1 rh1 rs1 rv ⟨es, e1, h1⟩ => ?_
    obtain ⟨a, xs, rfl, hx, hr⟩ := lstOf_rep rh1 rv e1
    exact ⟨a, xs, rfl, SqL.of hx, newL.lift rh1 hr.reverse (h1.mono fun d M q => q.le rh rh1 l1)⟩,
   fun δ M Q Q' E E' q x h => he.mono _ _ _ _ _ _ (fun d M1 ⟨es, e1, h1⟩ => ⟨es, e1, h1.mono q⟩) x h⟩
@[simp] theorem u_rev {cell : Bool} {te : TE'} {δ : EnvD} {M : MH} {Q : QE} {E : QX} : tRev' cell te δ M Q E ↔ te δ M (fun d M1 => ∃ es, lstOf d M1 = some es ∧ newL cell es.reverse M1 Q) E := Iff.rfl
/-! range with three numbers -/
def rangeC (lo c : Int) (n : Nat) : List D := (List.range n).map fun (i : Nat) => D.int (lo + (i : Int) * c)
theorem rangeC_length {lo c : Int} {n : Nat} : (rangeC lo c n).length = n := by simp [rangeC]
theorem itOk_rangeC {lo c : Int} {n : Nat} {w0 : Wd} : ItOk K ⟨rangeC lo c n, none⟩ (Itc lo c n) w0 := by
  intro w2 l r st
  refine ⟨by show n ≤ (rangeC lo c n).length; rw [rangeC_length]; exact Nat.le_refl _, fun i d hd => ?_⟩
  have hd' : (rangeC lo c n)[i]? = some d := hd
  have hi : i < n := by
    have := (List.getElem?_eq_some_iff.mp hd').1
    rwa [rangeC_length] at this
  unfold rangeC at hd'
  rw [List.getElem?_map, List.getElem?_range hi] at hd'
  cases hd'
  refine ⟨hi, fun y H' ⟨e, ey⟩ => ⟨w2, e.symm, rfl, Le.refl _, r, ?_⟩⟩
  subst ey; simp [Rep]
def tRng3' (ta : TA') : TI' := fun δ M R E => ta δ M (fun ds M1 => ∃ (i j c : Int) (n : Nat), ds = [.int i, .int j, .int c] ∧ RgC i j c n ∧ R ⟨rangeC i c n, none⟩ M1) E
theorem mi_range3 {tg : Expr} {ta : TA'} {p pos : Pos} (hg : Gl X "range") (hm : X.mg "range" = none) (ha : MA X W [a, b, c] ta)
    (hs : starEach [a, b, c] X.env = (false, eval a X.env) :: starEach [b, c] X.env := by rfl) (hpl : (backTo pos (starEach [b, c] X.env)).any (·.1) = false := by rfl) : MI X W tg (.Call (.Name "range" p) [a, b, c] [] pos) (tRng3' ta) :=
  ⟨PI.imp (pi_range3 hg hm ha.pa hs hpl) fun σ H R ⟨w, δ, eH, rh, rs, q⟩ => by
    subst eH
    refine upA_go ha.mono rh rs q (fun _ _ x => x) fun d v w1 l1 rh1 rs1 rv ⟨i, j, k, n, e, h1, h3⟩ => ?_
    subst e
    obtain ⟨v1, r1, e, rv1, v2, r2, e2, rv2, v3, r3, e3, rv3, e4⟩ := rv
    have e4 : r3 = [] := e4
    subst e e2 e3 e4
    exact ⟨i, j, k, n, by rw [rep_int rv1, rep_int rv2, rep_int rv3], h1, h3 _ w1 rfl l1 rh1 itOk_rangeC trivial⟩,
   fun δ M Q Q' E E' q x hh => ha.mono _ _ _ _ _ _ (fun d M1 ⟨i, j, k, n, e, h1, h3⟩ => ⟨i, j, k, n, e, h1, q _ _ h3⟩) x hh⟩
@[simp] theorem u_rng3 {ta : TA'} {δ : EnvD} {M : MH} {R : ItD → MH → Prop} {E : QX} : tRng3' ta δ M R E ↔ ta δ M (fun ds M1 => ∃ (i j c : Int) (n : Nat), ds = [.int i, .int j, .int c] ∧ RgC i j c n ∧ R ⟨rangeC i c n, none⟩ M1) E := Iff.rfl
end MD
/-! try with several clauses: a name, a name noted, two names. -/
namespace MD
open PySem PySem.Spec PyProof.Rows L2
abbrev TSx := Addr → Value → Option Addr → TS
inductive Hx where
  | one (c : Value) (ts : TSx)
  | two (c1 c2 : Value) (ts : TSx)
  | as_ (c : Value) (i : Nat) (ts : TSx)
def asE (i : Nat) (D : Ends) : Ends := { nx := fun σ' H' => D.nx (σ'.set i none) H', rt := D.rt, bk := fun σ' H' => D.bk (σ'.set i none) H', ct := fun σ' H' => D.ct (σ'.set i none) H' }
def wMix (K : PySem.W.Frag) (Wout : WX) (D : Ends) : List Hx → WX
  | [] => Wout
  | .one c ts :: r => fun cls d σ H => ∃ b, PySem.W.exmOne K cls c = some b ∧ (b = true → ∀ a, H a = none → ts a cls d D σ H) ∧ (b = false → wMix K Wout D r cls d σ H)
  | .two c1 c2 ts :: r => fun cls d σ H => ∃ b, PySem.W.exmAny K cls [c1, c2] = some b ∧ (b = true → ∀ a, H a = none → ts a cls d D σ H) ∧ (b = false → wMix K Wout D r cls d σ H)
  | .as_ c i ts :: r => fun cls d σ H => ∃ b, PySem.W.exmOne K cls c = some b ∧ (b = true → ∀ a, H a = none → ts a cls d (asE i D) (σ.set i (some (.ref a))) H) ∧ (b = false → wMix K Wout D r cls d σ H)
inductive HdsMix (X : Cx) : List ExceptHandler → List Hx → Prop
  | nil : HdsMix X [] []
  | one {x : Str} {c : Value} {ts : TSx} {b₀ : Stmt} {suite : List Stmt} {np pos' : Pos} {hds : List ExceptHandler} {l : List Hx} (hc : Names X x c)
      (hsu : ∀ (a : Addr) (oe : Obj) (cls : Value) (d : Option Addr) (pn : List (Addr × Obj)), Zc cls d oe → (∃ vs, oe.data = .fields vs) → PSs (X.suite a ((a, oe) :: pn)) (b₀ :: suite) (ts a cls d)) (r : HdsMix X hds l) :
      HdsMix X (.ExceptHandler (some (.Name x np)) none (b₀ :: suite) pos' :: hds) (.one c ts :: l)
  | two {x1 x2 : Str} {c1 c2 : Value} {ts : TSx} {b₀ : Stmt} {suite : List Stmt} {p1 p2 np pos' : Pos} {kk : Nat} {hds : List ExceptHandler} {l : List Hx} (hc1 : Names X x1 c1) (hc2 : Names X x2 c2)
      (hsu : ∀ (a : Addr) (oe : Obj) (cls : Value) (d : Option Addr) (pn : List (Addr × Obj)), Zc cls d oe → (∃ vs, oe.data = .fields vs) → PSs (X.suite a ((a, oe) :: pn)) (b₀ :: suite) (ts a cls d)) (r : HdsMix X hds l) :
      HdsMix X (.ExceptHandler (some (.Tuple [.Name x1 p1, .Name x2 p2] kk np)) none (b₀ :: suite) pos' :: hds) (.two c1 c2 ts :: l)
  | as_ {x n : Str} {i : Nat} {c : Value} {ts : TSx} {b₀ : Stmt} {suite : List Stmt} {np pos' : Pos} {hds : List ExceptHandler} {l : List Hx} (hN : X.N.Nodup) (hi : X.N[i]? = some n) (hln : X.env.kindOf n = some .local) (hc : Names X x c)
      (hsu : ∀ (a : Addr) (oe : Obj) (cls : Value) (d : Option Addr) (pn : List (Addr × Obj)), Zc cls d oe → (∃ vs, oe.data = .fields vs) → PSs (X.suite a ((a, oe) :: pn)) (b₀ :: suite) (ts a cls d)) (r : HdsMix X hds l) :
      HdsMix X (.ExceptHandler (some (.Name x np)) (some n) (b₀ :: suite) pos' :: hds) (.as_ c i ts :: l)
theorem flying_keeps {base h h' : Heap} {l : List Env} {e : Addr} {Z : Obj → Prop} (k : ∀ b o, h.get? b = some o → h'.get? b = some o) (x : HandSPX.FlyingZ base l e Z h) : HandSPX.FlyingZ base l e Z h' := by
  obtain ⟨x1, x2, x3, oe, vs, T, oT, ts, y1, y2, y3, y4, y5, y6, y7, y8, y9⟩ := x
  exact ⟨fun b o q => k _ _ (x1 b o q), x2, x3.of_keeps fun b o q _ => ⟨o, k _ _ q, rfl⟩, oe, vs, T, oT, ts, k _ _ y1, y2, y3, y4, y5, y6, k _ _ y7, y8, y9⟩
section
variable {X : Cx} {body : List Stmt} {h₀ : ExceptHandler} {hds : List ExceptHandler} {l : List Hx} {pos : Pos} {tb : WX → TS} {Wout : WX}
theorem ps_try_mix (hs : X.stack = X.env :: X.outer) (hf : X.env.frame = some X.env.locals) (tk : Takes X Wout)
    (hb : ∀ (W : WX) (pn : List (Addr × Obj)) (xe : Value → Shared → Prop), Takes (X.tr pn xe) W → PassesOwn (model X.prog X.w) X.A X.env xe → PSs (X.tr pn xe) body (tb W))
    (hh : HdsMix X (h₀ :: hds) l) : PS X (.Try body (h₀ :: hds) [] [] pos) (fun D σ H => tb (wMix X.K Wout D l) D σ H) := by
  refine ⟨fun pins s σ H D I h => ?_⟩
  have ok := I.ok
  have hfr : X.A.frames = some (X.env :: X.outer) := by rw [ok.frames, hs]
  refine wpAny_Try_except ?_
  refine wpAny_mono ((hb (wMix X.K Wout D l) (X.pn ++ pins) (fun e s₁ => wpAny (model X.prog X.w) X.A (noteFrame e X.env) (fun _ s₂ => wpAny (model X.prog X.w) X.A (setFlight e none) (fun _ s₃ =>
    wpAny (model X.prog X.w) X.A (handleBy e X.env (h₀ :: hds)) (SP X pins D) X.xe s₃) X.xe s₂) X.xe s₁) (fun u s' xx => ?_) PassesOwn.looking).run [] s σ H D (I.toTry _) h) (fun f s1 hsp => ?_) (fun e s1 he => he)
  · -- the catch
    obtain ⟨a, B, sI, pins', σ', H', cls, d, rfl, J', nb, up, sky, na, os, ag, w⟩ := xx
    have J : Inv X pins σ' H' sI := J'.ofTry ok
    have sky' : Sky B (X.env :: X.outer) a (Zc cls d) X.env.locals s'.heap := by rw [← hs]; exact sky
    show wpAny (model X.prog X.w) X.A (noteFrame (.ref a) X.env) _ _ _
    refine Sky.land Zc.steady hfr hf sky' fun h3 fl3 up3 => ?_
    have notFr : ∀ {h : Heap} {o : Obj} {vs : Array Value}, h.FunFrames B (X.env :: X.outer) → h.get? a = some o → o.data = .fields vs → a ∉ frs (X.env :: X.outer) := fun {h o vs} ff e dd hm => by
      obtain ⟨_, o', e', hnf⟩ := ff.mem hm
      rw [e] at e'; cases e'
      exact hnf _ dd
    have nfr : a ∉ frs (X.env :: X.outer) := by
      obtain ⟨oe3, vs3, he3, hz3, hd3⟩ := fl3.there
      exact notFr fl3.2.2.1 he3 hd3
    have nL : a ≠ X.env.locals := fun z => nfr (List.mem_filterMap.mpr ⟨X.env, List.mem_cons_self, by rw [hf, z]⟩)
    have nF : a ∉ X.fs := fun hm => by
      obtain ⟨e, he, q⟩ := List.mem_filterMap.mp hm
      exact nfr (List.mem_filterMap.mpr ⟨e, List.mem_cons_of_mem _ he, q⟩)
    have go : ∀ {hds' : List ExceptHandler} {l' : List Hx}, HdsMix X hds' l' → ∀ h3, HandSPX.FlyingZ B (X.env :: X.outer) a (Zc cls d) h3 → sI.heap.UpToSlots h3 → wMix X.K Wout D l' cls d σ' H' →
        wpAny (model X.prog X.w) X.A (handleBy (.ref a) X.env hds') (SP X pins D) X.xe { s' with heap := h3 } := by
      intro hds' l' hk
      induction hk with
      | nil =>
        intro h3 fl3 up3 w
        refine wpAny_handleBy_nil ?_
        obtain ⟨k1, k2, k3, oe, vs, T, oT, ts', he, hz, hd, h1, hr⟩ := id fl3
        unfold PySem.passOn
        refine wpAny_bind (wpAny_field he hd h1 ?_)
        rw [if_neg (show ¬ ((Value.ref T == Value.none) = true) from by simp)]
        have fin : wpAny (model X.prog X.w) X.A (setFlight (.ref a) X.env.frame) (fun _ s4 => wpAny (model X.prog X.w) X.A (throw (.ref a) : Sem Flow) (SP X pins D) X.xe s4) X.xe { s' with heap := h3 } := by
          rw [hf]
          refine HandSPX.setFlight_upZ fl3 fun h4 hh4 up4 => wpAny_throw (tk _ _ ?_)
          exact ⟨a, B, sI, pins, σ', H', cls, d, rfl, J, nb, up3.trans up4, .inr (.inr (by rw [hs]; exact hh4)), na, os, ag, w⟩
        first
          | exact wpAny_bind (wpAny_pure (wpAny_bind fin))
          | exact wpAny_bind fin
      | @one x c ts b₀ suite np pos' hds2 l2 hc hsu r ih =>
        intro h3 fl3 up3 w
        obtain ⟨b, hb1, hyes, hno⟩ := w
        have J3 : Inv X pins σ' H' { s' with heap := h3 } := J.landed nb fl3.1 up3 os ag
        obtain ⟨oe3, vs3, he3, hz3, hd3⟩ := fl3.there
        have S3 := J3.suite he3 hd3 na nL nF
        refine wpAny_handleBy_cons (codeAny_handlers_test ?_) (by intro q; cases q)
        have LT : PySem.W.Looks (model X.prog X.w) h3 (typeOf (.ref a)) cls := fun A Q E s k q => wpAny_typeOf_ref (k _ _ he3) (by rw [hz3.1]; exact q)
        have LM := PySem.W.exm_one (M := model X.prog X.w) (J3.kIn) LT hb1
        have test : ∀ {Q : Value → Shared → Prop} {E : Value → Shared → Prop}, Q c { s' with heap := h3 } → wpAny (model X.prog X.w) (X.A.mark (some (.ref a))) (eval (.Name x np) X.env) Q E { s' with heap := h3 } := fun {Q E} q => by
          obtain ⟨hg, hdbg, hm | ⟨hm, hv, hnn⟩⟩ := hc
          · exact ld_glob (X := X.suite a ((a, oe3) :: (X.pn ++ pins))) S3 hg hm q hdbg
          · exact ld_blt (X := X.suite a ((a, oe3) :: (X.pn ++ pins))) S3 hg hm hv q hnn hdbg
        refine test (LM.here ?_)
        cases b with
        | true =>
          refine codeAny_handlers_suite ?_
          refine HandSPX.lands_againZ fl3 fun h4 fl4 up4 => ?_
          have J4 : Inv X pins σ' H' { s' with heap := h4 } := J.landed nb fl4.1 (up3.trans up4) os ag
          obtain ⟨oe4, vs4, he4, hz4, hd4⟩ := fl4.there
          have S4 := J4.suite he4 hd4 na nL nF
          refine wpAny_mono ((hsu a oe4 cls d (X.pn ++ pins) hz4 ⟨_, hd4⟩).run [] _ _ H' _ S4 (hyes rfl a na)) (fun f s6 hsp => ?_) (fun _ _ z => False.elim z)
          cases f with
          | next =>
            obtain ⟨σ6, H6, S6, q6⟩ := hsp
            exact ⟨_, _, S6.unsuite ok, q6⟩
          | brk =>
            obtain ⟨σ6, H6, S6, q6⟩ := hsp
            exact ⟨_, _, S6.unsuite ok, q6⟩
          | cont =>
            obtain ⟨σ6, H6, S6, q6⟩ := hsp
            exact ⟨_, _, S6.unsuite ok, q6⟩
          | ret u =>
            obtain ⟨v6, σ6, H6, S6, r6, q6⟩ := hsp
            exact ⟨_, _, _, S6.unsuite ok, r6, q6⟩
        | false =>
          show wpAny _ X.A (handleBy (.ref a) X.env hds2) _ _ _
          exact ih h3 fl3 up3 (hno rfl)
      | @two x1 x2 c1 c2 ts b₀ suite p1 p2 np pos' kk hds2 l2 hc1 hc2 hsu r ih =>
        intro h3 fl3 up3 w
        obtain ⟨b, hb1, hyes, hno⟩ := w
        have J3 : Inv X pins σ' H' { s' with heap := h3 } := J.landed nb fl3.1 up3 os ag
        obtain ⟨oe3, vs3, he3, hz3, hd3⟩ := fl3.there
        have S3 := J3.suite he3 hd3 na nL nF
        refine wpAny_handleBy_cons (codeAny_handlers_test ?_) (by intro q; cases q)
        have LT : PySem.W.Looks (model X.prog X.w) h3 (typeOf (.ref a)) cls := fun A Q E s k q => wpAny_typeOf_ref (k _ _ he3) (by rw [hz3.1]; exact q)
        have test : ∀ {x : Str} {c : Value} {np : Pos} {Q : Value → Shared → Prop} {E : Value → Shared → Prop}, Names X x c → Q c { s' with heap := h3 } → wpAny (model X.prog X.w) (X.A.mark (some (.ref a))) (eval (.Name x np) X.env) Q E { s' with heap := h3 } := fun {x c np Q E} hc q => by
          obtain ⟨hg, hdbg, hm | ⟨hm, hv, hnn⟩⟩ := hc
          · exact ld_glob (X := X.suite a ((a, oe3) :: (X.pn ++ pins))) S3 hg hm q hdbg
          · exact ld_blt (X := X.suite a ((a, oe3) :: (X.pn ++ pins))) S3 hg hm hv q hnn hdbg
        refine wpAny_Tuple ?_
        refine wpAny_items_cons (test hc1 ?_)
        refine wpAny_items_cons (test hc2 ?_)
        refine wpAny_items_nil ⟨by size_fits, ?_⟩
        have kp : ∀ q o, h3.get? q = some o → (h3.push { cls := .type "tuple", data := .seq [c1, c2].toArray }).get? q = some o := fun _ _ z => Heap.get?_push_of_some _ z
        refine (PySem.W.exm_tup2 (J3.kIn.keeps kp) (LT.keeps kp) (Heap.get?_push_size h3 rfl) hb1).here ?_
        have fl3' := flying_keeps kp fl3
        have up3' := up3.trans (Heap.UpToSlots.of_keeps kp)
        generalize h3.push { cls := .type "tuple", data := .seq [c1, c2].toArray } = h5 at *
        cases b with
        | true =>
          refine codeAny_handlers_suite ?_
          refine HandSPX.lands_againZ (s := { s' with heap := h5 }) fl3' fun h4 fl4 up4 => ?_
          have J4 : Inv X pins σ' H' { s' with heap := h4 } := J.landed nb fl4.1 (up3'.trans up4) os ag
          obtain ⟨oe4, vs4, he4, hz4, hd4⟩ := fl4.there
          have S4 := J4.suite he4 hd4 na nL nF
          refine wpAny_mono ((hsu a oe4 cls d (X.pn ++ pins) hz4 ⟨_, hd4⟩).run [] _ _ H' _ S4 (hyes rfl a na)) (fun f s6 hsp => ?_) (fun _ _ z => False.elim z)
          cases f with
          | next =>
            obtain ⟨σ6, H6, S6, q6⟩ := hsp
            exact ⟨_, _, S6.unsuite ok, q6⟩
          | brk =>
            obtain ⟨σ6, H6, S6, q6⟩ := hsp
            exact ⟨_, _, S6.unsuite ok, q6⟩
          | cont =>
            obtain ⟨σ6, H6, S6, q6⟩ := hsp
            exact ⟨_, _, S6.unsuite ok, q6⟩
          | ret u =>
            obtain ⟨v6, σ6, H6, S6, r6, q6⟩ := hsp
            exact ⟨_, _, _, S6.unsuite ok, r6, q6⟩
        | false =>
          show wpAny _ X.A (handleBy (.ref a) X.env hds2) _ _ _
          exact ih h5 fl3' up3' (hno rfl)
      | @as_ x n i c ts b₀ suite np pos' hds2 l2 hN hi hln hc hsu r ih =>
        intro h3 fl3 up3 w
        obtain ⟨b, hb1, hyes, hno⟩ := w
        have hloc : Loc X.env.scope n := .inl hln
        have J3 : Inv X pins σ' H' { s' with heap := h3 } := J.landed nb fl3.1 up3 os ag
        obtain ⟨oe3, vs3, he3, hz3, hd3⟩ := fl3.there
        have S3 := J3.suite he3 hd3 na nL nF
        refine wpAny_handleBy_cons (codeAny_handlers_test ?_) (by intro q; cases q)
        have LT : PySem.W.Looks (model X.prog X.w) h3 (typeOf (.ref a)) cls := fun A Q E s k q => wpAny_typeOf_ref (k _ _ he3) (by rw [hz3.1]; exact q)
        have LM := PySem.W.exm_one (M := model X.prog X.w) (J3.kIn) LT hb1
        have test : ∀ {Q : Value → Shared → Prop} {E : Value → Shared → Prop}, Q c { s' with heap := h3 } → wpAny (model X.prog X.w) (X.A.mark (some (.ref a))) (eval (.Name x np) X.env) Q E { s' with heap := h3 } := fun {Q E} q => by
          obtain ⟨hg, hdbg, hm | ⟨hm, hv, hnn⟩⟩ := hc
          · exact ld_glob (X := X.suite a ((a, oe3) :: (X.pn ++ pins))) S3 hg hm q hdbg
          · exact ld_blt (X := X.suite a ((a, oe3) :: (X.pn ++ pins))) S3 hg hm hv q hnn hdbg
        refine test (LM.here ?_)
        cases b with
        | true =>
          refine codeAny_handlers_suite_as ?_
          refine HandSPX.lands_againZ fl3 fun h4 fl4 up4 => ?_
          have J4 : Inv X pins σ' H' { s' with heap := h4 } := J.landed nb fl4.1 (up3.trans up4) os ag
          obtain ⟨oe4, vs4, he4, hz4, hd4⟩ := fl4.there
          have S4 := J4.suite he4 hd4 na nL nF
          refine store_ok (X := X.suite a ((a, oe4) :: (X.pn ++ pins))) (v := .ref a) S4 hN hi hloc rfl (fun s5 S5 => ?_) (.inr hln)
          refine wpAny_mono ((hsu a oe4 cls d (X.pn ++ pins) hz4 ⟨_, hd4⟩).run [] s5 _ H' _ S5 (hyes rfl a na)) (fun f s6 hsp => ?_) (fun _ _ z => False.elim z)
          have end_ : ∀ {σ6 : L2.St} {H6 : Hp} {Q : Shared → Prop}, Inv (X.suite a ((a, oe4) :: (X.pn ++ pins))) [] σ6 H6 s6 → (∀ s7, Inv X pins (σ6.set i none) H6 s7 → Q s7) →
              wpAny (model X.prog X.w) X.A (do bindName X.env n .none; unbindBehindTheSuite X.env n pos') (fun _ s7 => Q s7) X.xe s6 := fun {σ6 H6 Q} S6 hq => gone_ok (S6.unsuite ok) hN hi hln hq
          cases f with
          | next =>
            obtain ⟨σ6, H6, S6, q6⟩ := hsp
            exact end_ S6 fun s7 J7 => ⟨_, _, J7, q6⟩
          | brk =>
            obtain ⟨σ6, H6, S6, q6⟩ := hsp
            exact end_ S6 fun s7 J7 => ⟨_, _, J7, q6⟩
          | cont =>
            obtain ⟨σ6, H6, S6, q6⟩ := hsp
            exact end_ S6 fun s7 J7 => ⟨_, _, J7, q6⟩
          | ret u =>
            obtain ⟨v6, σ6, H6, S6, r6, q6⟩ := hsp
            exact end_ S6 fun s7 J7 => ⟨_, _, _, J7, r6, q6⟩
        | false =>
          show wpAny _ X.A (handleBy (.ref a) X.env hds2) _ _ _
          exact ih h3 fl3 up3 (hno rfl)
    exact go hh h3 fl3 (up.trans up3) w
  · cases f with
    | next =>
      obtain ⟨σ', H', J', q⟩ := hsp
      exact wpAny_execs_nil ⟨σ', H', J'.ofTry ok, q⟩
    | brk =>
      obtain ⟨σ', H', J', q⟩ := hsp
      exact ⟨σ', H', J'.ofTry ok, q⟩
    | cont =>
      obtain ⟨σ', H', J', q⟩ := hsp
      exact ⟨σ', H', J'.ofTry ok, q⟩
    | ret u =>
      obtain ⟨v, σ', H', J', r, q⟩ := hsp
      exact ⟨v, σ', H', J'.ofTry ok, r, q⟩
end
end MD
namespace MD
open PySem PySem.Spec PySem.Calls PyProof.Rows L2
/-! isinstance of a caught error, with or without fields -/
section
open PySem.W
variable {prog : Program} {w : World} {A : Around} {E : Value → Shared → Prop} {s : Shared} {K : Frag} {x D : Addr} {ox : Obj} {od : Option Obj}
theorem find_cls {name : Str} {a g : Value} (hc : (clsIn K D).isSome = true) (ha : findIn K (.ref D) name = some (some a)) (hg : specialIn K a "__get__" = some (some g)) (ht : takesIn K a = some true) : findObj K D od name = some (.bind g a) := by
  obtain ⟨cd, hc⟩ := Option.isSome_iff_exists.mp hc
  unfold findObj
  rw [hc, Option.bind_some, ha, Option.bind_some]
  simp [hg, ht]
theorem cls_of {Q : Option Value → Shared → Prop} (C : L2.ExcC K D)
    (X : K.In s.heap) (I : InstAt s.heap x ox D od) (h : Q (some (.ref D)) { s with toks := s.toks + 1 }) : wpAny (model prog w) A (getAttr? (.ref x) "__class__") Q E s := by
  have hf : findObj K D od "__class__" = some (.bind (.builtin "getset_descriptor.__get__") (.builtin "object.__class__")) := find_cls (by obtain ⟨cd, hc, _⟩ := any_some C.hd; rw [hc]; rfl) C.ha C.hn C.ht
  obtain ⟨hp, g, d, t, os⟩ := s
  have L0 := I.type (M := model prog w)
  have L1 := looks_findIn (M := model prog w) X C.hg
  have L2 := looks_findIn (M := model prog w) X C.hk
  have L3 := looks_find (M := model prog w) X I hf
  have sub : Looks (model prog w) hp (isInstance (.ref x) (.type "BaseException")) true := L0.andThen (looks_subIn X C.hs)
  have hx0 : (false && onTheHeap (Value.builtin "BaseException.__getattribute__")) = false := rfl
  have hx2 : (Value.builtin "BaseException.__getattribute__" == Value.builtin "object.__getattribute__") = false := by decide +kernel
  have hx1 : (onTheHeap (Value.ref D) && Value.builtin "BaseException.__getattribute__" == Value.builtin "object.__getattribute__") = false := by rw [hx2]; rfl
  unfold getAttr? getAttrBy? getAttrBy
  refine wpAny_bind (wpAny_mkText (wpAny_bind (wpAny_attempt (wpAny_holding (wpAny_bind (L0.at (wpAny_bind (L1.at ?_))))))))
  show wpAny _ _ (if (onTheHeap (Value.ref D) && Value.builtin "BaseException.__getattribute__" == Value.builtin "object.__getattribute__") = true then _ else _) _ _ _
  rw [hx1, if_neg Bool.false_ne_true]
  unfold getAttrByItsOwn hookBefore
  refine wpAny_bind ?_
  rw [if_pos (show onTheHeap (Value.ref D) = true from rfl)]
  refine L2.at ?_
  refine wpAny_bind (wpAny_attempt (wpAny_holding ?_))
  unfold callGetattribute
  rw [hx0, if_neg Bool.false_ne_true]
  unfold boundAndCalled
  rw [PySem.F.excAttr_ValueError.ga.bind (.ref x)]
  refine wpAny_bind (wpAny_pure ?_)
  show wpAny _ _ (PySem.call (.builtin "BaseException.__getattribute__") [.ref x, .str "__class__" t]) _ _ _
  refine wpAny_call (codeAny_call_builtin PySem.F.excAttr_ValueError.ga.plain PySem.F.entry_bexc_ga ?_)
  refine @check_slot (model prog w) _ _ ⟨hp, g, d, t + 1, os⟩ "BaseException.__getattribute__" "BaseException" "__getattribute__" (.ref x) [.str "__class__" t] [] _ (by decide +kernel) (by decide +kernel) sub (PySem.F.args_bexc_ga (.ref x) (.str "__class__" t)) ?_
  unfold Builtin.«object.__getattribute__»
  refine wpAny_bind (wpAny_of_eq (a := ((Value.ref x : Value), [Value.str "__class__" t])) (by first | rfl | (simp only [slotArgs]; rfl)) ?_)
  refine wpAny_bind (wpAny_pure (wpAny_bind (L0.at (wpAny_bind (L3.at ?_)))))
  show wpAny _ _ (holding [Value.builtin "object.__class__"] (PySem.call (.builtin "getset_descriptor.__get__") [.builtin "object.__class__", .ref x, .ref D]) >>= ret) _ _ _
  refine wpAny_bind (wpAny_holding (wpAny_call (class_get (s := ⟨hp, g, d, t + 1, os⟩) (ox := ox) (od := od) X I C.hm ?_)))
  refine wpAny_pure ?_
  show wpAny _ _ (handedOut (.ref D)) _ _ _
  rw [handedOut_of (v := .ref D) rfl]
  first
    | exact wpAny_pure (wpAny_pure h)
    | exact wpAny_pure h
    | exact wpAny_pure (wpAny_bind (wpAny_pure (wpAny_pure h)))
theorem kitx_of (C : L2.ExcC K D) : KitX K (.ref x) (.ref D) (fun h => InstAt h x ox D od) where
  ty := fun _ _ _ I => I.type
  it := fun _ _ X _ => by
    obtain ⟨cdD, hcD, _⟩ := any_some C.hd
    unfold clsIn at hcD
    split at hcD
    · rename_i c' d' cd' sl' ho
      intro A' Q' E' s' k q
      unfold isType loadHead
      exact wpAny_bind (wpAny_loadPart (k _ _ (X _ _ ho)) (wpAny_pure q))
    · cases hcD
  ne := fun h tp dd its n sl X htp => by
    obtain ⟨cdD, hcD, _⟩ := any_some C.hd
    refine Bool.eq_false_iff.mpr fun q => ?_
    have e : D = tp := Value.ref.inj (beq_iff_eq.mp q)
    subst e
    unfold clsIn at hcD
    split at hcD
    · rename_i c' d' cd' sl' ho
      have z := (X _ _ ho).symm.trans htp
      cases z
    · cases hcD
  ca := fun X I k => cls_of C X I k
end
/-- isinstance(e, c), e the exception that the suite holds -/
def rIsX (K : PySem.W.Frag) (D a : Addr) (d : Option Addr) : List V → Hp → VK → Prop := fun xs H Q => ∃ (c : V) (cv : Value) (b : Bool), xs = [.ref a, c] ∧ (∀ u, RelV c u → u = cv) ∧ (d = none ∨ ∃ dd fs, d = some dd ∧ H dd = some (.xd fs)) ∧ PySem.W.kitOne K (.ref D) cv = some b ∧ Q (.bl b) H
theorem call_isX {X : Cx} {a D : Addr} {oe : Obj} {d : Option Addr} {pn : List (Addr × Obj)} (C : ExcC X.K D) (hz : Zc (.ref D) d oe) (hf : ∃ vs, oe.data = .fields vs) : CallR (X.suite a ((a, oe) :: pn)) (.builtin "isinstance") (rIsX X.K D a d) := by
  intro pins s σ H xs us Q I r h
  obtain ⟨c, cv, b, rfl, hcv, hd, e, q⟩ := h
  cases r with
  | cons rx rr =>
    cases rr with
    | cons rt rr =>
      cases rr
      cases rx
      have ec := hcv _ rt
      subst ec
      obtain ⟨hget, _⟩ := I.pin (a, oe) (List.mem_append.mpr (.inl List.mem_cons_self))
      obtain ⟨vs, hv⟩ := hf
      have J : ∃ od, PySem.W.InstAt s.heap a oe D od := by
        rcases hd with rfl | ⟨dd, fs, rfl, hx⟩
        · exact ⟨none, hget, hz.1, by unfold PySem.W.notCls; rw [hv] <;> rfl, by rw [hz.2]; trivial⟩
        · have hx : ObjOk X.prog X.w H s.heap dd (.xd fs) := I.hok dd _ hx
          obtain ⟨mA, hns, hr⟩ := hx
          obtain ⟨od, ho, hl⟩ := lookIn_ns hns
          exact ⟨some od, hget, hz.1, by unfold PySem.W.notCls; rw [hv] <;> rfl, by rw [hz.2]; exact ho⟩
      obtain ⟨od, J⟩ := J
      exact PySem.W.kia_one (kitx_of C) I.kIn J e (fun z => nomatch z) fun tk => ⟨.bl b, H, I.kept (t' := tk) fun _ _ z => z, rfl, q⟩
variable {K : PySem.W.Frag} {w w1 w2 : Wd} {X : Cx} {W : WX} {e a b c : Expr} {pos : Pos}
/-! raise -/
abbrev TM' := EnvD → MH → QX → Prop
def MonoK (t : TM') : Prop := ∀ δ M (E E' : QX), (∀ x M, E x M → E' x M) → t δ M E → t δ M E'
structure MMk (X : Cx) (e : Expr) (t : TM') : Prop where
  pmk : PMk X e (fun σ H Q => ∃ (w : Wd) (δ : EnvD), w.H = H ∧ RH X.K w ∧ RepS X.K w δ σ ∧ t δ w.M (PX X.K w Q))
  mono : MonoK t
/-- an own class without __init__ -/
structure OwnX (K : PySem.W.Frag) (mg : Str → Option Value) (n : Str) (C : Addr) : Prop where
  g : mg n = some (.ref C)
  n : PySem.W.nsIn K mainGlobals n = some (some (.ref C))
  ex : PySem.W.excIn K C [.type "ValueError", .type "Exception", .type "BaseException", .type "object"] "ValueError.__new__" = true
  kp : PySem.W.keepIn K (.ref C) = true
  b : PySem.W.subIn K (.ref C) (.type "BaseException") = some true
  t : PySem.W.typeIn K (.ref C) = some (.type "type")
def tMk0' (n : Str) (ta : TA') : TM' := fun δ M E => ta δ M (fun ds M1 => ds.length ≤ sizeLine ∧ E ⟨n, []⟩ M1) (fun _ _ => False)
theorem mmk_own {n : Str} {C : Addr} {p : Pos} {es : List Expr} {ta : TA'} (T : OwnX X.K X.mg n C) (hg : Gl X n) (ha : MA X WF (e :: es) ta) (hdb : (n == ("__debug__" : Str)) = false := by decide)
    (he : starEach (e :: es) X.env = (false, eval e X.env) :: starEach es X.env := by rfl) (hpl : (backTo pos (starEach es X.env)).any (·.1) = false := by rfl) : MMk X (.Call (.Name n p) (e :: es) [] pos) (tMk0' n ta) :=
  ⟨fun pins s σ H Q I ⟨w, δ, eH, rh, rs, h⟩ => by
    subst eH
    refine pmk_ownA PySem.F.excBase_ValueError T.ex T.g T.kp (raises_own T.b T.t) hg ha.pa hdb he hpl pins s σ w.H Q I ?_
    refine upA_go ha.mono rh rs h (fun _ _ z => z.elim) fun ds vs w1 l1 rh1 rs1 rv ⟨hz, q⟩ => ⟨by rw [rv.length]; exact hz, ?_⟩
    exact q (.ref C) none w1 rfl l1 rh1 ⟨.inl T.n, .inl ⟨rfl, rfl⟩⟩,
   fun δ M E E' q h => ha.mono _ _ _ _ _ _ (fun ds M1 ⟨hz, h1⟩ => ⟨hz, q _ _ h1⟩) (fun _ _ z => z) h⟩
def tRaise' (t : TM') : TS' := fun D δ M => t δ M (fun x M1 => D.ex x δ M1)
theorem ms_raise {t : TM'} (hc : X.calm = true) (tk : Takes X W) (he : MMk X e t) : MS X W (.Raise (some e) none pos) (tRaise' t) :=
  ⟨PS.imp (ps_raise hc tk he.pmk) fun D σ H ⟨w, δ, eH, rh, rs, h⟩ => by
    subst eH
    exact ⟨w, δ, rfl, rh, rs, he.mono _ _ _ _ (ex_of rs rh (Ends'.le.refl _)) h⟩,
   fun δ M D D' l h => he.mono _ _ _ _ (fun x M1 h1 => l.ex _ _ _ h1) h⟩
/-! try -/
abbrev Mt := List (Str × Str × Bool)
def mtb (mt : Mt) (n h : Str) : Option Bool := (mt.find? fun p => p.1 == n && p.2.1 == h).map (·.2.2)
theorem mtb_mem {mt : Mt} {n h : Str} {b : Bool} (e : mtb mt n h = some b) : (n, h, b) ∈ mt := by
  unfold mtb at e
  obtain ⟨⟨n', h', b'⟩, h1, rfl⟩ := Option.map_eq_some_iff.mp e
  have h2 := List.find?_some h1
  simp only [Bool.and_eq_true, beq_iff_eq] at h2
  obtain ⟨rfl, rfl⟩ := h2
  exact List.mem_of_find?_eq_some h1
def MtOk (K : PySem.W.Frag) (mt : Mt) : Prop := ∀ n h b, (n, h, b) ∈ mt → ∃ c1 c2, ClsOf K n c1 ∧ ClsOf K h c2 ∧ PySem.W.exmOne K c1 c2 = some b
theorem MtOk.at {mt : Mt} (k : MtOk K mt) {n h : Str} {b : Bool} {c1 c2 : Value} (e : mtb mt n h = some b) (h1 : ClsOf K n c1) (h2 : ClsOf K h c2) : PySem.W.exmOne K c1 c2 = some b := by
  obtain ⟨d1, d2, e1, e2, e3⟩ := k n h b (mtb_mem e)
  rw [h1.one e1, h2.one e2]; exact e3
abbrev COf := Str → Value → Prop
inductive Hd' where
  | one (h : Str) (ts : TS')
  | two (h1 h2 : Str) (ts : TS')
  | as_ (h : Str) (i : Nat) (ts : Xc → Addr → Value → Option Addr → TS')
def asE' (i : Nat) (D : Ends') : Ends' := { nx := fun δ M => D.nx (δ.set i none) M, rt := D.rt, bk := fun δ M => D.bk (δ.set i none) M, ct := fun δ M => D.ct (δ.set i none) M }
def noE (D : Ends') : Ends' := { D with ex := fun _ _ _ => False }
def pick' (CO : COf) (mt : Mt) (D : Ends') : List Hd' → Xc → EnvD → MH → Prop
  | [], x, δ, M => D.ex x δ M
  | .one h ts :: r, x, δ, M => ∃ b, mtb mt x.cls h = some b ∧ (b = true → ts (noE D) δ M) ∧ (b = false → pick' CO mt D r x δ M)
  | .two h1 h2 ts :: r, x, δ, M => ∃ b1 b2, mtb mt x.cls h1 = some b1 ∧ mtb mt x.cls h2 = some b2 ∧ ((b1 || b2) = true → ts (noE D) δ M) ∧ ((b1 || b2) = false → pick' CO mt D r x δ M)
  | .as_ h i ts :: r, x, δ, M => ∃ b, mtb mt x.cls h = some b ∧ (b = true → ∀ a cls d, CO x.cls cls → ts x a cls d (asE' i D) (δ.set i (some (.exc a cls d x.fs))) M) ∧ (b = false → pick' CO mt D r x δ M)
def tTry' (CO : COf) (mt : Mt) (tb : TS') (hs : List Hd') : TS' := fun D δ M => tb { D with ex := fun x δ M => pick' CO mt D hs x δ M } δ M
inductive HdsM (X : Cx) : List ExceptHandler → List Hd' → Prop
  | nil : HdsM X [] []
  | one {x : Str} {c : Value} {ts : TS'} {b₀ : Stmt} {suite : List Stmt} {np pos' : Pos} {hds : List ExceptHandler} {l : List Hd'} (hc : Names X x c) (hn : ClsOf X.K x c)
      (hsu : ∀ (a : Addr) (oe : Obj) (cls : Value) (d : Option Addr) (pn : List (Addr × Obj)), Zc cls d oe → (∃ vs, oe.data = .fields vs) → MSs (X.suite a ((a, oe) :: pn)) WF (b₀ :: suite) ts) (r : HdsM X hds l) :
      HdsM X (.ExceptHandler (some (.Name x np)) none (b₀ :: suite) pos' :: hds) (.one x ts :: l)
  | two {x1 x2 : Str} {c1 c2 : Value} {ts : TS'} {b₀ : Stmt} {suite : List Stmt} {p1 p2 np pos' : Pos} {kk : Nat} {hds : List ExceptHandler} {l : List Hd'} (hc1 : Names X x1 c1) (hn1 : ClsOf X.K x1 c1) (hc2 : Names X x2 c2) (hn2 : ClsOf X.K x2 c2)
      (hsu : ∀ (a : Addr) (oe : Obj) (cls : Value) (d : Option Addr) (pn : List (Addr × Obj)), Zc cls d oe → (∃ vs, oe.data = .fields vs) → MSs (X.suite a ((a, oe) :: pn)) WF (b₀ :: suite) ts) (r : HdsM X hds l) :
      HdsM X (.ExceptHandler (some (.Tuple [.Name x1 p1, .Name x2 p2] kk np)) none (b₀ :: suite) pos' :: hds) (.two x1 x2 ts :: l)
  | as_ {x n : Str} {i : Nat} {c : Value} {ts : Xc → Addr → Value → Option Addr → TS'} {b₀ : Stmt} {suite : List Stmt} {np pos' : Pos} {hds : List ExceptHandler} {l : List Hd'} (hN : X.N.Nodup) (hi : X.N[i]? = some n) (hln : X.env.kindOf n = some .local) (hc : Names X x c) (hn : ClsOf X.K x c)
      (hsu : ∀ (xc : Xc) (a : Addr) (oe : Obj) (cls : Value) (d : Option Addr) (pn : List (Addr × Obj)), ClsOf X.K xc.cls cls → Zc cls d oe → (∃ vs, oe.data = .fields vs) → MSs (X.suite a ((a, oe) :: pn)) WF (b₀ :: suite) (ts xc a cls d)) (r : HdsM X hds l) :
      HdsM X (.ExceptHandler (some (.Name x np)) (some n) (b₀ :: suite) pos' :: hds) (.as_ x i ts :: l)
def anO (cls : Value) (d : Option Addr) : Obj := { cls := cls, dict := d, data := .fields #[] }
theorem noE_le {D D' : Ends'} (l : D.le D') : (noE D).le (noE D') := ⟨l.nx, l.rt, l.bk, l.ct, fun _ _ _ z => z⟩
theorem asE_le {D D' : Ends'} {i : Nat} (l : D.le D') : (asE' i D).le (asE' i D') := ⟨fun _ _ h => l.nx _ _ h, l.rt, fun _ _ h => l.bk _ _ h, fun _ _ h => l.ct _ _ h, fun _ _ _ z => z⟩
theorem mono_pick {mt : Mt} {hds : List ExceptHandler} {l : List Hd'} (h : HdsM X hds l) {D D' : Ends'} (le : D.le D') : ∀ x δ M, pick' (ClsOf X.K) mt D l x δ M → pick' (ClsOf X.K) mt D' l x δ M := by
  induction h with
  | nil => intro x δ M h; exact le.ex _ _ _ h
  | one hc hn hsu r ih =>
    intro x δ M ⟨b, e, h1, h2⟩
    exact ⟨b, e, fun z => (hsu 0 (anO .none none) .none none [] ⟨rfl, rfl⟩ ⟨_, rfl⟩).mono _ _ _ _ (noE_le le) (h1 z), fun z => ih _ _ _ (h2 z)⟩
  | two hc1 hn1 hc2 hn2 hsu r ih =>
    intro x δ M ⟨b1, b2, e1, e2, h1, h2⟩
    exact ⟨b1, b2, e1, e2, fun z => (hsu 0 (anO .none none) .none none [] ⟨rfl, rfl⟩ ⟨_, rfl⟩).mono _ _ _ _ (noE_le le) (h1 z), fun z => ih _ _ _ (h2 z)⟩
  | as_ hN hi hln hc hn hsu r ih =>
    intro x δ M ⟨b, e, h1, h2⟩
    exact ⟨b, e, fun z a cls d hco => (hsu x a (anO cls d) cls d [] hco ⟨rfl, rfl⟩ ⟨_, rfl⟩).mono _ _ _ _ (asE_le le) (h1 z a cls d hco), fun z => ih _ _ _ (h2 z)⟩
theorem exmAny2 {cls c1 c2 : Value} {b1 b2 : Bool} (h1 : PySem.W.exmOne K cls c1 = some b1) (h2 : PySem.W.exmOne K cls c2 = some b2) : PySem.W.exmAny K cls [c1, c2] = some (b1 || b2) := by
  unfold PySem.W.exmAny
  rw [h1]
  unfold PySem.W.exmAny
  rw [h2]
  unfold PySem.W.exmAny
  simp
theorem pick_ok {mt : Mt} (mk : MtOk X.K mt) {hds : List ExceptHandler} {l : List Hd'} (h : HdsM X hds l) : ∃ l', HdsMix X hds l' ∧ ∀ (D : Ends) (w w1 : Wd) (x : Xc) (δ : EnvD) (cls : Value) (dx : Option Addr) (σ : L2.St), RH X.K w → Le w w1 → RH X.K w1 → RepS X.K w1 δ σ → RepX X.K w1 x cls dx →
    pick' (ClsOf X.K) mt (endsD X.K w W D) l x δ w1.M → wMix X.K W D l' cls dx σ w1.H := by
  induction h with
  | nil => exact ⟨[], .nil, fun D w w1 x δ cls dx σ rh l rh1 rs1 rx h => h cls dx σ w1 rfl l rh1 rs1 rx⟩
  | @one xn c ts b₀ suite np pos' hds2 l2 hc hn hsu r ih =>
    obtain ⟨l', hm, hw⟩ := ih
    refine ⟨.one c (fun _ _ _ => upS X.K WF ts) :: l', .one hc (fun a oe cls d pn hz hf => (hsu a oe cls d pn hz hf).ps) hm, fun D w w1 x δ cls dx σ rh l rh1 rs1 rx ⟨b, e, h1, h2⟩ => ?_⟩
    refine ⟨b, mk.at e rx.1 hn, fun z a _ => ?_, fun z => hw D w w1 x δ cls dx σ rh l rh1 rs1 rx (h2 z)⟩
    refine ⟨w1, δ, rfl, rh1, rs1, (hsu 0 (anO .none none) .none none [] ⟨rfl, rfl⟩ ⟨_, rfl⟩).mono _ _ _ _ ?_ (h1 z)⟩
    exact ⟨fun _ _ h => h.le rh rh1 l, fun _ _ h => h.le rh rh1 l, fun _ _ h => h.le rh rh1 l, fun _ _ h => h.le rh rh1 l, fun _ _ _ z => z.elim⟩
  | @two x1 x2 c1 c2 ts b₀ suite p1 p2 np pos' kk hds2 l2 hc1 hn1 hc2 hn2 hsu r ih =>
    obtain ⟨l', hm, hw⟩ := ih
    refine ⟨.two c1 c2 (fun _ _ _ => upS X.K WF ts) :: l', .two hc1 hc2 (fun a oe cls d pn hz hf => (hsu a oe cls d pn hz hf).ps) hm, fun D w w1 x δ cls dx σ rh l rh1 rs1 rx ⟨b1, b2, e1, e2, h1, h2⟩ => ?_⟩
    refine ⟨b1 || b2, exmAny2 (mk.at e1 rx.1 hn1) (mk.at e2 rx.1 hn2), fun z a _ => ?_, fun z => hw D w w1 x δ cls dx σ rh l rh1 rs1 rx (h2 z)⟩
    refine ⟨w1, δ, rfl, rh1, rs1, (hsu 0 (anO .none none) .none none [] ⟨rfl, rfl⟩ ⟨_, rfl⟩).mono _ _ _ _ ?_ (h1 z)⟩
    exact ⟨fun _ _ h => h.le rh rh1 l, fun _ _ h => h.le rh rh1 l, fun _ _ h => h.le rh rh1 l, fun _ _ h => h.le rh rh1 l, fun _ _ _ z => z.elim⟩
  | @as_ xn n i c ts b₀ suite np pos' hds2 l2 hN hi hln hc hn hsu r ih =>
    obtain ⟨l', hm, hw⟩ := ih
    refine ⟨.as_ c i (fun a cls d D σ H => ∃ (xc : Xc) (w : Wd) (δ : EnvD), w.H = H ∧ RH X.K w ∧ RepS X.K w δ σ ∧ ClsOf X.K xc.cls cls ∧ ts xc a cls d (endsD X.K w WF D) δ w.M) :: l',
      .as_ hN hi hln hc (fun a oe cls d pn hz hf => ⟨fun pins s σ H D I ⟨xc, w, δ, e1, e2, e3, e4, e5⟩ => (hsu xc a oe cls d pn e4 hz hf).ps.run pins s σ H D I ⟨w, δ, e1, e2, e3, e5⟩⟩) hm, fun D w w1 x δ cls dx σ rh l rh1 rs1 rx ⟨b, e, h1, h2⟩ => ?_⟩
    refine ⟨b, mk.at e rx.1 hn, fun z a _ => ?_, fun z => hw D w w1 x δ cls dx σ rh l rh1 rs1 rx (h2 z)⟩
    have hr : Rep X.K w1 (.exc a cls dx x.fs) (.ref a) := by
      simp only [Rep]
      refine ⟨trivial, ?_⟩
      rcases rx.2 with h | ⟨dd, e1, e2⟩
      · exact .inl h
      · exact .inr ⟨dd, e1, e2⟩
    refine ⟨x, w1, δ.set i (some (.exc a cls dx x.fs)), rfl, rh1, rs1.set i hr, rx.1, (hsu x a (anO cls dx) cls dx [] rx.1 ⟨rfl, rfl⟩ ⟨_, rfl⟩).mono _ _ _ _ ?_ (h1 z a cls dx rx.1)⟩
    exact ⟨fun δ' M' h σ' w2 e2 l2 r2 s2 => h (σ'.set i none) w2 e2 (l.trans rh rh1 l2) r2 (s2.wipe1 i none), fun _ _ h => h.le rh rh1 l, fun δ' M' h σ' w2 e2 l2 r2 s2 => h (σ'.set i none) w2 e2 (l.trans rh rh1 l2) r2 (s2.wipe1 i none), fun δ' M' h σ' w2 e2 l2 r2 s2 => h (σ'.set i none) w2 e2 (l.trans rh rh1 l2) r2 (s2.wipe1 i none), fun _ _ _ z => z.elim⟩
theorem ms_try {body : List Stmt} {h₀ : ExceptHandler} {hds : List ExceptHandler} {mt : Mt} {tb : TS'} {l : List Hd'} (mk : MtOk X.K mt) (hs : X.stack = X.env :: X.outer) (hf : X.env.frame = some X.env.locals) (tk : Takes X W) (hp : PassesOwn (model X.prog X.w) X.A X.env X.xe)
    (hb : ∀ (W' : WX) (pn : List (Addr × Obj)) (xe : Value → Shared → Prop), Takes (X.tr pn xe) W' → PassesOwn (model X.prog X.w) X.A X.env xe → MSs (X.tr pn xe) W' body tb)
    (hh : HdsM X (h₀ :: hds) l) : MS X W (.Try body (h₀ :: hds) [] [] pos) (tTry' (ClsOf X.K) mt tb l) := by
  obtain ⟨l', hm, hw⟩ := pick_ok (W := W) mk hh
  have mb : MonoS tb := (hb W X.pn X.xe tk hp).mono
  refine ⟨PS.imp (ps_try_mix (tb := fun W' => upS X.K W' tb) hs hf tk (fun W' pn xe tk' pp => (hb W' pn xe tk' pp).ps) hm) fun D σ H ⟨w, δ, eH, rh, rs, h⟩ => ?_, fun δ M D D' le h => ?_⟩
  · subst eH
    refine ⟨w, δ, rfl, rh, rs, mb _ _ _ _ ?_ h⟩
    exact ⟨fun _ _ h => h, fun _ _ h => h, fun _ _ h => h, fun _ _ h => h, fun x δ1 M1 h1 cls dx σ1 w1 e1 l1 r1 s1 rx => by subst e1; exact hw D w w1 x δ1 cls dx σ1 rh l1 r1 s1 rx h1⟩
  · exact mb δ M { D with ex := fun x δ M => pick' (ClsOf X.K) mt D l x δ M } { D' with ex := fun x δ M => pick' (ClsOf X.K) mt D' l x δ M } ⟨le.nx, le.rt, le.bk, le.ct, fun x δ1 M1 h1 => mono_pick hh le x δ1 M1 h1⟩ h
/-! what a suite asks of the exception that it holds -/
def Lit.d : Lit → D
  | .non => .non
  | .bl b => .bl b
  | .int i => .int i
  | .str x => .str x
theorem lit_rep (l : Lit) : Rep K w l.d l.v := by cases l <;> simp [Lit.d, Lit.v, Rep]
def XtOk (K : PySem.W.Frag) (xt : List (Str × Str)) : Prop := ∀ n f, (n, f) ∈ xt → ∃ C, ClsOf K n (.ref C) ∧ XfC K C ∧ PySem.W.findIn K (.ref C) f = some none
theorem fs_lookup {f : Str} : ∀ {fs : List (Str × Lit)} {l : Lit}, fs.lookup f = some l → (fs.map fun p => (p.1, p.2.v)).lookup f = some l.v
  | [], _, h => by cases h
  | (g, m) :: r, l, h => by
    rw [List.lookup_cons] at h
    rw [List.map_cons, List.lookup_cons]
    cases e : f == g with
    | true => rw [e] at h; simp at h ⊢; rw [h]
    | false => rw [e] at h; simp at h ⊢; simpa using fs_lookup h
def tXf' (xt : List (Str × Str)) (xc : Xc) (a : Addr) (cls : Value) (d : Option Addr) (f : Str) (te : TE') : TE' := fun δ M Q E => te δ M (fun y M1 => y = .exc a cls d xc.fs ∧ (xc.cls, f) ∈ xt ∧ ∃ l, xc.fs.lookup f = some l ∧ Q l.d M1) E
theorem me_xf {xt : List (Str × Str)} {xc : Xc} {a : Addr} {oe : Obj} {cls : Value} {d : Option Addr} {pn : List (Addr × Obj)} {te : TE'} {n : Str} (k : XtOk X.K xt) (hco : ClsOf X.K xc.cls cls) (hz : Zc cls d oe) (hf : ∃ vs, oe.data = .fields vs) (hin : (xc.cls, n) ∈ xt → True)
    (he : ME (X.suite a ((a, oe) :: pn)) W e te) (hb : attributeBase e n X.env (eval e X.env) = eval e X.env := by rfl) : ME (X.suite a ((a, oe) :: pn)) W (.Attribute e n pos) (tXf' xt xc a cls d n te) := by
  refine ⟨⟨fun pins s σ H Q I ⟨w, δ, eH, rh, rs, h⟩ => ?_⟩, fun δ M Q Q' E E' q x h => he.mono _ _ _ _ _ _ (fun y M1 ⟨h1, h2, l, h3, h4⟩ => ⟨h1, h2, l, h3, q _ _ h4⟩) x h⟩
  subst eH
  by_cases hx : (xc.cls, n) ∈ xt
  · obtain ⟨C, hC, T, hno⟩ := k _ _ hx
    have ec := hco.one hC
    subst ec
    refine (pe_xf T hno hz hf he.pe hb).run pins s σ w.H Q I ?_
    refine up_go he.mono rh rs h (fun _ _ x => x) fun y v w1 l1 rh1 rs1 rv ⟨ey, _, l, hl, q⟩ => ?_
    subst ey
    simp only [Rep] at rv
    obtain ⟨rfl, rv⟩ := rv
    refine ⟨rfl, rfl, ?_⟩
    rcases rv with ⟨_, e2⟩ | ⟨dd, e1, e2⟩
    · rw [e2] at hl; cases hl
    · exact ⟨dd, _, l.v, e1, e2, fs_lookup hl, q l.v w1 rfl l1 rh1 (lit_rep l)⟩
  · refine attr_of hb (thn (he.pe.run pins s σ w.H (fun _ _ => False) I ?_) fun u s1 ⟨_, _, _, _, z⟩ => z.elim)
    exact up_go he.mono rh rs h (fun _ _ x => x) fun y v w1 l1 rh1 rs1 rv ⟨ey, hy, _⟩ => hx hy
def IsOk (K : PySem.W.Frag) (it : Mt) : Prop := ∀ n h b, (n, h, b) ∈ it → ∃ C c2, ClsOf K n (.ref C) ∧ ClsOf K h c2 ∧ ExcC K C ∧ PySem.W.kitOne K (.ref C) c2 = some b
def tIsE' (it : Mt) (xc : Xc) (a : Addr) (cls : Value) (d : Option Addr) (h : Str) (te : TE') : TE' := fun δ M Q E => te δ M (fun y M1 => y = .exc a cls d xc.fs ∧ ∃ b, mtb it xc.cls h = some b ∧ Q (.bl b) M1) E
theorem me_isE {it : Mt} {xc : Xc} {a : Addr} {oe : Obj} {cls : Value} {d : Option Addr} {pn : List (Addr × Obj)} {te : TE'} {h : Str} {v : V} {c2 : Value} {p ph : Pos} (k : IsOk X.K it) (hco : ClsOf X.K xc.cls cls) (hz : Zc cls d oe) (hf : ∃ vs, oe.data = .fields vs)
    (hg : Gl X "isinstance") (hm : X.mg "isinstance" = none) (he : ME (X.suite a ((a, oe) :: pn)) W e te) (hh : PE (X.suite a ((a, oe) :: pn)) (.Name h ph) (tC v)) (hv : ∀ u, RelV v u → u = c2) (hc2 : ClsOf X.K h c2)
    (hs : starEach [e, .Name h ph] X.env = (false, eval e X.env) :: starEach [.Name h ph] X.env := by rfl) (hs2 : starEach [.Name h ph] X.env = (false, eval (.Name h ph) X.env) :: starEach [] X.env := by rfl) (hpl : (backTo pos (starEach [.Name h ph] X.env)).any (·.1) = false := by rfl) :
    ME (X.suite a ((a, oe) :: pn)) W (.Call (.Name "isinstance" p) [e, .Name h ph] [] pos) (tIsE' it xc a cls d h te) := by
  refine ⟨⟨fun pins s σ H Q I ⟨w, δ, eH, rh, rs, hyp⟩ => ?_⟩, fun δ M Q Q' E E' q x h => he.mono _ _ _ _ _ _ (fun y M1 ⟨h1, b, h3, h4⟩ => ⟨h1, b, h3, q _ _ h4⟩) x h⟩
  subst eH
  cases hb : mtb it xc.cls h with
  | some b =>
    obtain ⟨C, c2', hC, hc2', T, e3⟩ := k _ _ _ (mtb_mem hb)
    have ec := hco.one hC
    subst ec
    have ec2 := hc2.one hc2'
    subst ec2
    have hp := pa_cons he.pe (pa_cons hh pa_nil hs2) hs
    refine (pe_callB (pos := pos) (p := p) (call_isX T hz hf) hg hm (by decide +kernel) hp (by decide) (by decide) hs hpl).run pins s σ w.H Q I ?_
    refine up_go he.mono rh rs hyp (fun _ _ x => x) fun y v' w1 l1 rh1 rs1 rv ⟨ey, b', hb', q⟩ => ?_
    subst ey
    rw [hb] at hb'
    cases hb'
    simp only [Rep] at rv
    obtain ⟨rfl, rv⟩ := rv
    refine ⟨v, c2, b, rfl, hv, ?_, e3, q (.bl b) w1 rfl l1 rh1 rep_mk_bl⟩
    rcases rv with ⟨e1, _⟩ | ⟨dd, e1, e2⟩
    · exact .inl e1
    · exact .inr ⟨dd, _, e1, e2⟩
  | none =>
    have hp := pa_cons he.pe (pa_cons hh pa_nil hs2) hs
    refine (pe_callB (X := X.suite a ((a, oe) :: pn)) (id := "isinstance") (pos := pos) (p := p) (r := fun _ _ _ => False) (fun _ _ _ _ _ _ _ _ _ h => h.elim) hg hm (by decide +kernel) hp (by decide) (by decide) hs hpl).run pins s σ w.H Q I ?_
    refine up_go he.mono rh rs hyp (fun _ _ x => x) fun y v' w1 l1 rh1 rs1 rv ⟨ey, b', hb', q⟩ => ?_
    rw [hb] at hb'; cases hb'
/-! the tables' facts -/
theorem exm_of_sub {C : Addr} {cls : Value} {b : Bool} (h1 : PySem.W.subIn K (.ref C) (.type "BaseException") = some true) (h2 : PySem.W.hasDictIn K C = true) (h3 : PySem.W.typeIn K (.ref C) = some (.type "type")) (h4 : PySem.W.subIn K cls (.ref C) = some b) : PySem.W.exmOne K cls (.ref C) = some b :=
  PySem.W.exm_ref h1 h2 h3 h4
theorem kit_self {t : Value} : PySem.W.kitOne K t t = some true := by
  unfold PySem.W.kitOne
  rw [if_pos (beq_self_eq_true t)]
theorem kit_ref {H : Addr} {t : Value} {b : Bool} (hne : (t == Value.ref H) = false) (hd : PySem.W.hasDictIn K H = true) (ht : PySem.W.typeIn K (.ref H) = some (.type "type")) (hs : PySem.W.subIn K t (.ref H) = some b) : PySem.W.kitOne K t (.ref H) = some b := by
  unfold PySem.W.kitOne
  rw [if_neg (by rw [hne]; decide)]
  obtain ⟨cd, hc, _⟩ := PySem.W.any_some hd
  unfold PySem.W.kitCls
  simp only [hc, ht, Option.isSome_some, Bool.true_and, beq_self_eq_true, if_true]
  exact hs
theorem kit_ty {T : String} {n : Addr} {b : Bool} (hs : PySem.W.subIn K (.ref n) (.type T) = some b) (km : PySem.W.kitMeta T = true := by decide +kernel) : PySem.W.kitOne K (.ref n) (.type T) = some b := by
  unfold PySem.W.kitOne
  rw [if_neg (by intro z; have z := beq_iff_eq.mp z; cases z)]
  unfold PySem.W.kitCls
  simp only [km, if_true]
  exact hs
end MD
/-! own exception classes whose __init__ says super().__init__(p, ..) and self.p = p for each of its parameters. -/
namespace MD
open PySem PySem.Spec PySem.Calls PyProof.Rows L2 NdefX

/-! super().__init__ called: the wrapper -/
section
open PySem.W
variable {prog : Program} {w : World} {A : Around} {E : Value → Shared → Prop} {h : Heap} {g : Array GenState} {d : Drawn} {t : Nat} {os : OsState}
variable {nm q : Str} {C N : Addr} {bs bm : List Value} {hdct : Bool} {sn : List Str} {sub : List Value} {ab : Bool} {col : Option Bool} {dd : Option Addr} {k0 k1 k2 k3 k5 : Option Value}
theorem call_mw {u e t0 : Addr} {dv : Option Addr} {rest : List Value} {Q : Value → Shared → Prop}
    (hC : h.get? C = some (excClassObj nm q C N bs bm hdct sn sub ab col dd k0 k1 k2 k3 k5 "ValueError.__new__")) (he : h.get? e = some ({ cls := .ref C, dict := dv, data := .fields #[.ref t0, .none, .none, .none, .bool false, .none] } : Obj)) (hu : h.get? u = some (kxs_mw "ValueError.__init__" e)) (hrest : rest.length ≤ sizeLine)
    (hq : ∀ h' t1, (∀ b o, b ≠ e → h.get? b = some o → h'.get? b = some o) → h'.get? e = some ({ cls := .ref C, dict := dv, data := .fields #[.ref t1, .none, .none, .none, .bool false, .none] } : Obj) → Q .none ⟨h', g, d, t, os⟩) :
    wpAny (model prog w) A (call (.ref u) rest) Q E ⟨h, g, d, t, os⟩ := by
  refine wpAny_call (codeAny_of_tree ?_)
  show wpAny _ A.in1 (callAny (.ref u) ⟨rest, []⟩) _ _ _
  simp only [callAny]
  refine wpAny_bind (wpAny_load hu ?_)
  simp only [kxs_mw, show (Value.type "method-wrapper" == Value.type "method" || Value.type "method-wrapper" == Value.type "builtin_function_or_method" || Value.type "method-wrapper" == Value.type "method-wrapper") = true by decide, if_true]
  refine W.KFB.if_so (by decide) ?_
  refine wpAny_bind (check_bound_init PySem.F.excBase_ValueError.toExcCallFacts hC he rfl ?_)
  refine wpAny_bind (wpAny_pure (wpAny_pure ?_))
  refine ⟨plainId_quiet PySem.F.excBase_ValueError.init.plain _, codeAny_builtin PySem.F.excBase_ValueError.initEntry ?_⟩
  exact exc_init_tree (cls := .ref C) (t0 := t0) (dv := dv) (c2 := .none) (c3 := .none) (b4 := .bool false) he hrest fun h' k e' _ => hq h' h.objs.size k e'
end

/-- the __init__ of the class at C, as it stands behind the top -/
structure FunI (P : Program) (K : PySem.W.Frag) (C : Addr) (qual : Str) (st : Stmt) (f : Addr) (fd : FuncData) : Prop where
  ex : ∃ (oc : Value) (od : Option Addr) (kV doc pm : Value) (an : Option Addr) (ct : Value) (osl : Array (Option Value)) (cda cc : Addr) (ccl : Value) (cdd : Option Addr) (vs : Array Value) (ccs : Array (Option Value)) (file : Str) (tf : Tok) (cl : Value) (cld : Option Addr) (csl : Array (Option Value)),
    fd = PySem.W.fnX "__init__" qual (defArgs st) (defBody st) (defScope st) [(("__class__" : Str), cc)] .none kV doc pm an (.ref cda) ct ∧ K.lookup f = some ⟨oc, od, .func fd, osl⟩ ∧ PySem.W.codeIn K (.ref cda) qual = true ∧
    K.lookup cda = some ⟨ccl, cdd, .fields vs, ccs⟩ ∧ vs[2]? = some (.str file tf) ∧ ((P.main.file : Str) == file) = true ∧ K.lookup cc = some ⟨cl, cld, .cell (some (.ref C)), csl⟩
/-- the class -/
structure ClsI (P : Program) (K : PySem.W.Frag) (C f : Addr) : Prop where
  ox : OexC K C
  fi : PySem.W.findIn K (.ref C) "__init__" = some (some (.ref f))
  ti : PySem.W.typeIn K (.ref f) = some (.type "function")
  su : PySem.W.ks_superIn K C C "__init__" = some (some (.builtin "ValueError.__init__"))
  sv : PySem.W.subIn K (.ref C) (.type "ValueError") = some true
  ms : PySem.W.mroIn K C (.ref C) = some true
  any : PySem.W.nsIn K PySem.cStatics "thirdparty.any" = some none
  sup : PySem.W.nsIn K mainGlobals "super" = some none
  top : (P.main.scope.names.lookup ("super" : Str)).isSome = false
section
variable {CX : CXT} {P : Program} {w : World} {K : PySem.W.Frag} {mg : Str → Option Value} {base : Heap} {N ps : List Str} {F : NF} {f C cc : Addr} {A : Around} {outer : List Env} {s s1 : Shared} {H : Hp} {E : XK} {σ : L2.St} {a : Addr}
/-- super().__init__(e, ..), as a statement -/
theorem super_step {body : List Stmt} {p0 p1 p2 p3 p4 : Pos} {e : Expr} {es : List Expr} {ta : TA} {fd : FuncData} {oc : Value} {od : Option Addr} {osl : Array (Option Value)} {ccl : Value} {cdd : Option Addr} {vs : Array Value} {ccs : Array (Option Value)} {file : Str} {tf : Tok} {cl : Value} {cld : Option Addr} {csl : Array (Option Value)} {ar : Arg} {m : Str → Option Value}
    (T : ClsI P K C f) (I : Inv (ncx CX P w K mg base N F f A outer s H E) [] σ H s1) (hcl : F.cl = [(("__class__" : Str), cc)])
    (hfd : fd.params = F.params) (lk : K.lookup f = some ⟨oc, od, .func fd, osl⟩) (hcode : K.lookup F.c = some ⟨ccl, cdd, .fields vs, ccs⟩) (hvs : vs[2]? = some (.str file tf)) (hfile : ((P.main.file : Str) == file) = true) (hcell : K.lookup cc = some ⟨cl, cld, .cell (some (.ref C)), csl⟩)
    (hp : (F.params.posonlyargs ++ F.params.args).head? = some ar) (hns : s1.heap.Ns s.heap.objs.size m) (hv : m ar.arg = some (.ref a)) (ha : H a = some (exo a C none))
    (hks : F.scope.names.lookup ("super" : Str) = some .globalImplicit) (hkc : F.scope.names.lookup ("__class__" : Str) = some .free) (hka : F.scope.names.lookup ar.arg = some .local) (hk : F.scope.kind = .function)
    (hpa : PA (ncx CX P w K mg base N F f A outer s H E) (e :: es) ta) (hta : ta σ H (fun xs H1 => xs.length ≤ 1000 ∧ H1 = H))
    (he : starEach (e :: es) (envF F f s.heap.objs.size) = (false, eval e (envF F f s.heap.objs.size)) :: starEach es (envF F f s.heap.objs.size)) (hpl : (backTo p3 (starEach es (envF F f s.heap.objs.size))).any (·.1) = false)
    (hi : interactive (envF F f s.heap.objs.size) = false) (hs : swapsWith (.Call (.Attribute (.Call (.Name "super" p0) [] [] p1) "__init__" p2) (e :: es) [] p3) none p4.line (envF F f s.heap.objs.size) = pure false)
    {pl : Sem Bool}
    (hcall : eval (.Call (.Attribute (.Call (.Name "super" p0) [] [] p1) "__init__" p2) (e :: es) [] p3) (envF F f s.heap.objs.size) = (do
        let ov ← attributeBase (.Call (.Name "super" p0) [] [] p1) "__init__" (envF F f s.heap.objs.size) (eval (.Call (.Name "super" p0) [] [] p1) (envF F f s.heap.objs.size))
        standAt p2.atName
        let (fm, first) ← holding [ov] (getMethod ov "__init__" pl)
        callWith p3 fm first (backTo p3 (starEach (e :: es) (envF F f s.heap.objs.size))) [])) :
    _root_.PySem.wpAt (model P w) (A.deeper (envF F f s.heap.objs.size)) (.func body (envF F f s.heap.objs.size)) (exec (.Expr (.Call (.Attribute (.Call (.Name "super" p0) [] [] p1) "__init__" p2) (e :: es) [] p3) p4) (envF F f s.heap.objs.size))
      (fun fl s' => fl = .next ∧ Inv (ncx CX P w K mg base N F f A outer s H E) [] σ H s') (ncx CX P w K mg base N F f A outer s H E).xe s1 := by
  obtain ⟨nm, qn, N', bs, bm, sn, sub, ab, col, dd, k0, k1, k2, k3, k5, hC, hbm⟩ := T.ox.cls
  have hclC : PySem.W.clsIn K C = some { name := nm, bases := bs, mro := .ref C :: bm, ns := N', qualname := qn, hasDict := true, slotNames := sn, subclasses := sub, abstract := ab, collection := col, hasDel := false } := by unfold PySem.W.clsIn; rw [hC] <;> rfl
  have X : K.In s1.heap := I.kIn
  obtain ⟨t1, ho⟩ := exo_at I.hok ha
  refine PySem.ks_wpAt_Expr_any ?_ hi hs
  refine PySem.ks_wpAt_MethodCall (pl := pl) ?_ hcall
  refine PySem.ks_wpAt_super_base (env := envF F f s.heap.objs.size) hks hkc (by decide) rfl (X _ _ lk) rfl (by rw [hfd]; exact hp) rfl (X _ _ hcode) rfl hvs hfile T.top ?_
  obtain ⟨mb, b1, b2⟩ := I.mod.blt
  refine PySem.W.ks_loadName_global hk hks (loadGlobal_builtin (env := envF F f s.heap.objs.size) (I.mod.glob.keeps I.bk) (PySem.W.mg_none_of I.mod.kin I.mod.glob T.sup) (b1.keeps I.bk) ((b2 _ (by decide)).trans (by decide +kernel : bootBuiltins "super" = some (.type "super"))) ⟨rfl, ?_⟩)
  have hcellH : s1.heap.IsCell cc (some (.ref C)) := ⟨_, X _ _ hcell, rfl⟩
  refine wpAny_loadName_free (env := envF F f s.heap.objs.size) (c := cc) hk hkc (by show F.cl.lookup _ = _; rw [hcl]; simp) hcellH ?_
  refine wpAny_loadName_local (env := envF F f s.heap.objs.size) hk hka hns hv ?_
  obtain ⟨hh, g, d, t, os⟩ := s1
  refine PySem.ks_wpAny_isType_cls (X _ _ hC) rfl ⟨rfl, ?_⟩
  refine PySem.ks_wpAny_call_super (X _ _ hC) rfl ho rfl (fun c e => by cases e) (PySem.W.looks_mroIn X T.ms) (fun h' e1 k1 => ?_)
  have I2 : Inv (ncx CX P w K mg base N F f A outer s H E) [] σ H ⟨h', g, d, t, os⟩ := I.kept (t' := t) k1
  have X2 : K.In h' := I2.kIn
  have ho2 := k1 _ _ ho
  have hIv : PySem.W.Looks (model P w) h' (isInstance (.ref a) (.type "ValueError")) true := by
    have IA : PySem.W.InstAt h' a _ C none := ⟨ho2, rfl, rfl, trivial⟩
    exact IA.type.andThen (PySem.W.looks_subIn X2 T.sv)
  have hsu := T.su
  unfold PySem.W.ks_superIn at hsu
  rw [hclC] at hsu
  have hax : a ≠ C := fun z => by
    have q := X _ _ hC
    rw [← z, ho] at q
    cases q
  refine PySem.W.kxs_getMethod PySem.W.kxs_ValueError e1 (PySem.W.looks_opaque X2 T.any) (l₀ := .ref C :: bm) (fun A Q E s k q => wpAny_bind ((PySem.W.looks_clsIn X2 hclC) A _ E s k (wpAny_pure q))) rfl X2 hsu hIv hax (by decide) ?_
  have k3 : ∀ b o, h'.get? b = some o → (h'.push (PySem.W.kxs_mw "ValueError.__init__" a)).get? b = some o := fun b o e => Heap.get?_push_of_some _ e
  have J3 : Inv (ncx CX P w K mg base N F f A outer s H E) [] σ H ⟨h'.push (PySem.W.kxs_mw "ValueError.__init__" a), g, d, t + 1, os⟩ := I2.kept (t' := t + 1) k3
  have hu3 : (h'.push (PySem.W.kxs_mw "ValueError.__init__" a)).get? h'.objs.size = some (PySem.W.kxs_mw "ValueError.__init__" a) := Heap.get?_push_at rfl rfl
  have I3 : Inv (ncx CX P w K mg base N F f A outer s H E) [(h'.objs.size, PySem.W.kxs_mw "ValueError.__init__" a)] σ H ⟨h'.push (PySem.W.kxs_mw "ValueError.__init__" a), g, d, t + 1, os⟩ := J3.pins_of fun p hp => by
    obtain rfl := List.mem_singleton.mp hp
    refine ⟨hu3, I2.hok.fresh (Nat.le_refl _), fun z => ?_, fun z => ?_, fun v z => by cases z⟩
    · obtain ⟨m2, hn2, _⟩ := I2.loc
      obtain ⟨o2, _, _, e2, _⟩ := hn2
      exact absurd (Heap.lt_size e2) (by rw [show (ncx CX P w K mg base N F f A outer s H E).env.locals = h'.objs.size from z.symm]; exact Nat.lt_irrefl _)
    · have z2 : (h'.objs.size : Addr) ∈ (ncx CX P w K mg base N F f A outer s H E).fs := z
      obtain ⟨_, o2, e2, _⟩ := I2.ok.funs.mem z2
      obtain ⟨o3, e3⟩ := I2.base.there _ o2 e2 (fun q => absurd (show (h'.objs.size : Addr) ∈ ([] : List Addr) from q) (by simp))
      exact absurd (Heap.lt_size e3) (Nat.lt_irrefl _)
  refine PySem.W.kxs_callWith (i := "ValueError.__init__") (x := a) (by rw [he]; show (false || (backTo p3 (starEach es (envF F f s.heap.objs.size))).any (·.1)) = false; rw [hpl]; rfl) ?_
  rw [he]
  refine evalArgs_plain ?_
  have hr := hpa.run p3 [(h'.objs.size, PySem.W.kxs_mw "ValueError.__init__" a)] _ σ H _ I3 hta
  rw [show starEach (e :: es) (ncx CX P w K mg base N F f A outer s H E).env = _ from he] at hr
  refine thn hr fun us s4 ⟨xs, H1, I4, r4, hxl, eH⟩ => ?_
  subst eH
  have hu4 := (I4.pin (h'.objs.size, PySem.W.kxs_mw "ValueError.__init__" a) (List.mem_append_right _ List.mem_cons_self)).1
  refine ⟨hu4, ?_⟩
  obtain ⟨t4, ho4⟩ := exo_at I4.hok ha
  obtain ⟨h4, g4, d4, tk4, os4⟩ := s4
  have hlen : us.length ≤ sizeLine := by
    rw [← Paired.length r4, sizeLine_eq]
    omega
  refine call_mw (I4.kIn _ _ hC) ho4 hu4 hlen fun h5 t5 k5 e5 => ⟨rfl, ?_⟩
  have I4' : Inv (ncx CX P w K mg base N F f A outer s H1 E) [] σ H1 ⟨h4, g4, d4, tk4, os4⟩ := I4.pins_of fun p hp => absurd hp (by simp)
  have J := I4'.write (t' := tk4) (x := a) (e := a) (o := exo a C none) (by rw [ha]; exact True.intro) (.inl rfl) k5 ⟨_, e5⟩ (exo_ok e5)
  have eu : upd H1 a (exo a C none) = H1 := by
    funext b
    by_cases hb : b = a
    · rw [hb, upd_same, ha]
    · rw [upd_ne hb]
  rw [eu] at J
  exact J
end

/-- what the __init__ promises: the fields fs hold what is handed in -/
def spI (C : Addr) (fs : List Str) : Sp := fun vs H Q _ => ∃ (a : Addr) (ws : List V), vs = .ref a :: ws ∧ ws.length = fs.length ∧ ws.length ≤ 900 ∧ H a = some (exo a C none) ∧ ∀ d, H d = none → d ≠ a → Q .non (upd (upd H d (exd d (fs.zip ws).reverse)) a (exo a C (some d)))
section
variable {CX : CXT} {P : Program} {w : World} {K : PySem.W.Frag} {mg : Str → Option Value} {base : Heap} {N fs : List Str} {f C : Addr} {st : Stmt} {qual : Str} {fd : FuncData} {k : Nat}
theorem initx_core {p0 p1 p2 p3 p4 : Pos} {e : Expr} {es : List Expr} {rest : List Stmt} {ta : TA} {t : TS} {ar : Arg} (FI : FunI P K C qual st f fd) (T : ClsI P K C f)
    (S : NScope N ("self" :: fs) ["__class__"] (defScope st)) (hN : N = ("self" : Str) :: (fs ++ [("__class__" : Str)]))
    (hbd : defBody st = .Expr (.Call (.Attribute (.Call (.Name "super" p0) [] [] p1) "__init__" p2) (e :: es) [] p3) p4 :: rest)
    (hp : ((defArgs st).posonlyargs ++ (defArgs st).args).head? = some ar) (har : ar.arg = "self")
    (hks : (defScope st).names.lookup ("super" : Str) = some .globalImplicit) (hkc : (defScope st).names.lookup ("__class__" : Str) = some .free)
    (hargs : ∀ (F : NF) (A : Around) (outer : List Env) (s : Shared) (H : Hp) (E : XK), F.scope = defScope st → PA (ncx CX P w K mg base N F f A outer s H E) (e :: es) ta)
    (hta : ∀ (a : Addr) (ws : List V) (H : Hp), ws.length = fs.length → ws.length ≤ 900 → ta (startF N (.ref a :: ws) [some (.ref C)]) H (fun xs H1 => xs.length ≤ 1000 ∧ H1 = H))
    (hrest : ∀ (F : NF) (A : Around) (outer : List Env) (s : Shared) (H : Hp) (E : XK), F.scope = defScope st → PSs (ncx CX P w K mg base N F f A outer s H E) rest t)
    (ht : ∀ (a : Addr) (ws : List V) (H : Hp) (Q : VK), ws.length = fs.length → ws.length ≤ 900 → H a = some (exo a C none) → (∀ d, H d = none → d ≠ a → Q .non (upd (upd H d (exd d (fs.zip ws).reverse)) a (exo a C (some d)))) →
      t { nx := fun _ H' => Q .non H', rt := Q } (startF N (.ref a :: ws) [some (.ref C)]) H)
    (he : ∀ env : Env, starEach (e :: es) env = (false, eval e env) :: starEach es env) (hpl : ∀ env : Env, (backTo p3 (starEach es env)).any (·.1) = false)
    (hi : ∀ (F : NF) (L : Addr), F.scope = defScope st → interactive (envF F f L) = false)
    (hs : ∀ (F : NF) (L : Addr), swapsWith (.Call (.Attribute (.Call (.Name "super" p0) [] [] p1) "__init__" p2) (e :: es) [] p3) none p4.line (envF F f L) = pure false)
    (hcall : ∀ (F : NF) (L : Addr), ∃ pl : Sem Bool, eval (.Call (.Attribute (.Call (.Name "super" p0) [] [] p1) "__init__" p2) (e :: es) [] p3) (envF F f L) = (do
        let ov ← attributeBase (.Call (.Name "super" p0) [] [] p1) "__init__" (envF F f L) (eval (.Call (.Name "super" p0) [] [] p1) (envF F f L))
        standAt p2.atName
        let (fm, first) ← holding [ov] (getMethod ov "__init__" pl)
        callWith p3 fm first (backTo p3 (starEach (e :: es) (envF F f L))) [])) : FnOk P w K mg base CX (k + 1) f fd ("self" :: fs) (spI C fs) := by
  obtain ⟨oc, od, kV, doc, pm, an, ct, osl, cda, cc, ccl, cdd, cvs, ccs, file, tf, cl, cld, csl, rfl, lk, hcd, hcode, hvs, hfile, hcell⟩ := FI.ex
  refine ⟨fun vs H Q E ⟨a, ws, e1, e2, _⟩ => by rw [e1]; simp [e2], fun A outer s H args us vs Q E hr e0 hb r hsp => ?_⟩
  obtain ⟨a, ws, rfl, hwl, hw9, ha, hq⟩ := hsp
  have KX : K.In s.heap := e0.mod.kin.keeps fun b o e => (e0.bs b o e).1
  have lim : s.heap.NoLimit := e0.mod.nolimit.keeps fun b o e => (e0.bs b o e).1
  refine codeAny_call_function hr.depth (KX _ _ lk) rfl S.co S.gen rfl (PySem.W.codeRec_of KX hcd) (hb _ _ _ _ ?_)
  refine wpAny_newFunctionEnv S.nocell (fun ⟨n, _⟩ hy => S.par n (List.of_mem_zip hy).1) (fun h₁ hns hsb => ⟨lim.fresh _ hsb, ?_⟩) S.kind
  let F : NF := ⟨"__init__", qual, defArgs st, defBody st, defScope st, [(("__class__" : Str), cc)], cda⟩
  show codeAny _ _ (.func F.body (envF F f s.heap.objs.size)) _ _
  refine PySem.ks_codeAny_funcAt ?_
  have kp : ∀ b o, s.heap.get? b = some o → h₁.get? b = some o := fun b o e => hsb.extBut b o (Nat.ne_of_lt (Heap.lt_size e)) (Heap.get?_push_of_some _ e)
  have Ce : CellsAt F.cl ["__class__"] [some (.ref C)] s.heap H := by
    have lkc : ∀ {y : Str} {c : Addr}, F.cl.lookup y = some c → y = "__class__" ∧ c = cc := fun {y c} z => by
      have z : List.lookup y [(("__class__" : Str), cc)] = some c := z
      rw [List.lookup_cons] at z
      cases q : y == ("__class__" : Str) with
      | true => rw [q] at z; exact ⟨by simpa using q, (Option.some.inj z).symm⟩
      | false => rw [q] at z; cases z
    have hbs := e0.bs cc _ (e0.mod.kin _ _ hcell)
    refine ⟨rfl, fun y c z => ?_, fun x y c z1 z2 => by rw [(lkc z1).1, (lkc z2).1], fun i y z => ?_⟩
    · obtain ⟨_, rfl⟩ := lkc z
      exact ⟨hbs.2, _, _, hbs.1, rfl⟩
    · match i, z with
      | 0, z =>
        obtain rfl := (Option.some.inj z : ("__class__" : Str) = y)
        refine ⟨cc, by show List.lookup _ [(("__class__" : Str), cc)] = _; simp, fun v hv => ?_⟩
        obtain rfl := (Option.some.inj (Option.some.inj hv) : V.ref C = v)
        exact ⟨.ref C, rfl, _, hbs.1, rfl⟩
      | _ + 1, z => simp at z
  have I : L2.Inv (ncx CX P w K mg base N F f A outer s H E) [] (startF N (.ref a :: ws) [some (.ref C)]) H { s with heap := h₁, toks := s.toks + ((("self" : Str) :: fs).zip us).length } := inv_startN S hr.hd e0 (by simp [hwl]) r Ce hns kp
  obtain ⟨u0, us', rfl, ru⟩ : ∃ u0 us', us = u0 :: us' ∧ u0 = .ref a := by
    cases r with
    | cons ra _ => exact ⟨_, _, rfl, ra⟩
  subst ru
  have nd : (("self" : Str) :: fs).Nodup := by
    have q := S.nd
    rw [hN] at q
    have q2 : ((("self" : Str) :: fs) ++ [("__class__" : Str)]).Nodup := q
    exact (List.nodup_append.mp q2).1
  obtain ⟨pl, hcl⟩ := hcall F s.heap.objs.size
  show _root_.PySem.wpAt _ _ _ (execs (defBody st) (envF F f s.heap.objs.size)) _ _ _
  rw [hbd]
  refine PySem.ks_wpAt_execs_cons ?_
  have B := super_step (body := F.body) (p0 := p0) (p1 := p1) (p2 := p2) (p3 := p3) (p4 := p4) (cc := cc) (fd := PySem.W.fnX "__init__" qual (defArgs st) (defBody st) (defScope st) [(("__class__" : Str), cc)] .none kV doc pm an (.ref cda) ct)
    (file := file) (tf := tf) (m := fun y => ((("self" : Str) :: fs).zip (Value.ref a :: us')).reverse.lookup y) (ar := ar) T I rfl rfl lk hcode hvs hfile hcell hp hns (by rw [har]; exact zip_look (ps := ("self" : Str) :: fs) (us := Value.ref a :: us') (i := 0) nd rfl rfl) ha hks hkc (by rw [har]; exact S.par _ List.mem_cons_self) S.kind
    (hargs F A outer s H E rfl) (hta a ws H hwl hw9) (he _) (hpl _) (hi F _ rfl) (hs F _) (pl := pl) hcl
  refine PySem.ks_wpAt_mono B (fun fl s' hfl => ?_) fun e s' z => z
  obtain ⟨rfl, J⟩ := hfl
  show _root_.PySem.wpAt _ _ _ (execs rest _) _ _ _
  refine wpAt_of_wpAny ?_
  refine wpAny_mono ((hrest F A outer s H E rfl).run [] _ _ H _ J (ht a ws H Q hwl hw9 ha hq)) (fun fl s2 hs2 => ?_) fun e s' z => z
  have fin : ∀ {σ' : L2.St} {H' : Hp} {v : V} {u : Value}, Inv (ncx CX P w K mg base N F f A outer s H E) [] σ' H' s2 → L2.RelV v u → Q v H' → CE outer P w H s Q u s2 :=
    fun {σ' H' v u} J rv q => ⟨v, H', J.os, J.bare, J.base, J.hok, rv, q⟩
  cases fl with
  | ret u =>
    obtain ⟨v, σ', H', J, rv, q⟩ := hs2
    exact fin J rv q
  | next =>
    obtain ⟨σ', H', J, q⟩ := hs2
    exact fin (v := V.non) (u := Value.none) J rfl q
  | brk =>
    obtain ⟨_, _, _, q⟩ := hs2
    exact False.elim q
  | cont =>
    obtain ⟨_, _, _, q⟩ := hs2
    exact False.elim q
end

theorem hcall_of {o : Expr} {nm : Str} {p2 p3 : Pos} {args : List Expr} {env : Env} (hl : (p2.endLine == p3.line) = true) (hf : methodCallForm (args.length + ([] : List Keyword).length) (backTo p3 (starEach args env)) (backToKw p3 (keywordEach [] env)) = true) :
   eval (.Call (.Attribute o nm p2) args [] p3) env = (do
        let ov ← attributeBase o nm env (eval o env)
        standAt p2.atName
        let (fm, first) ← holding [ov] (getMethod ov nm (do return (← importBound o env).getD true))
        callWith p3 fm first (backTo p3 (starEach args env)) []) := by
  have hpos : methodCallPos true o env p2 p3 = pure p3 := by unfold methodCallPos; simp [hl]
  rw [show eval (.Call (.Attribute o nm p2) args [] p3) env = (do
        let ov ← attributeBase o nm env (eval o env)
        standAt p2.atName
        methodCall o nm p2 p3 env ov (args.length + ([] : List Keyword).length) (backTo p3 (starEach args env)) (backToKw p3 (keywordEach [] env))) from rfl]
  unfold methodCall
  rw [hf, hpos]
  unfold calleeOf
  simp only [if_true, pure_bind]
  rfl
theorem upd_swap {H : Hp} {a b : Addr} {o u : HO} (h : a ≠ b) : upd (upd H a o) b u = upd (upd H b u) a o := by
  funext c
  by_cases h1 : c = a
  · subst h1; rw [upd_ne h, upd_same, upd_same]
  · by_cases h2 : c = b
    · subst h2; rw [upd_same, upd_ne h1, upd_same]
    · rw [upd_ne h2, upd_ne h1, upd_ne h1, upd_ne h2]
section
variable {CX : CXT} {P : Program} {w : World} {K : PySem.W.Frag} {mg : Str → Option Value} {base : Heap} {N fs : List Str} {f C : Addr} {st : Stmt} {qual : Str} {fd : FuncData} {k : Nat}
theorem initx1 {n : Str} {p0 p1 p2 p3 p4 q1 r0 r1 r2 r3 : Pos} {ar : Arg} (FI : FunI P K C qual st f fd) (T : ClsI P K C f)
    (hbd : defBody st = [.Expr (.Call (.Attribute (.Call (.Name "super" p0) [] [] p1) "__init__" p2) [.Name n q1] [] p3) p4, .Assign [.Attribute (.Name "self" r0) n r1] (.Name n r2) r3])
    (S : NScope ["self", n, "__class__"] ["self", n] ["__class__"] (defScope st)) (hn1 : (n == ("__debug__" : Str)) = false) (hn2 : (n == ("__classdict__" : Str)) = false)
    (hp : ((defArgs st).posonlyargs ++ (defArgs st).args).head? = some ar) (har : ar.arg = "self") (hno : PySem.W.findIn K (.ref C) n = some none)
    (hl : (p2.endLine == p3.line) = true) (hks : (defScope st).names.lookup ("super" : Str) = some .globalImplicit) (hkc : (defScope st).names.lookup ("__class__" : Str) = some .free) : FnOk P w K mg base CX (k + 1) f fd ["self", n] (spI C [n]) := by
  refine initx_core (fs := [n]) (ta := tCons (tVar 1) tNil) (t := tOst K n (tVar 0) (tVar 1)) FI T S rfl hbd hp har hks hkc (fun F A outer s H E hF => ?_) (fun a ws H h1 h2 => ?_) (fun F A outer s H E hF => ?_) (fun a ws H Q h1 h2 ha hq => ?_) (fun _ => rfl) (fun _ => rfl) (fun F L hF => by unfold interactive; show (F.scope.kind == _ && _) = false; rw [hF, S.kind]; rfl) (fun _ _ => rfl) (fun F L => ⟨_, hcall_of hl rfl⟩)
  · exact pa_cons (pe_var rfl (.inl (by show F.scope.names.lookup n = _; rw [hF]; exact S.par _ (by simp))) hn1 hn2) pa_nil
  · match ws, h1 with
    | [y], _ => exact ⟨y, rfl, (by decide : 1 ≤ 1000), rfl⟩
  · exact pss_one (ps_ost (pe_var (i := 0) rfl (.inl (by show F.scope.names.lookup _ = _; rw [hF]; exact S.par _ (by simp))) (by decide) (by decide)) (pe_var (i := 1) rfl (.inl (by show F.scope.names.lookup n = _; rw [hF]; exact S.par _ (by simp))) hn1 hn2))
  · match ws, h1 with
    | [y], _ => exact ⟨y, rfl, .ref a, rfl, a, C, rfl, T.ox, hno, .inl ⟨ha, fun dx e1 e2 => hq dx e1 e2⟩⟩
theorem initx2 {n m : Str} {p0 p1 p2 p3 p4 q1 q2 r0 r1 r2 r3 t0 t1 t2 t3 : Pos} {ar : Arg} (FI : FunI P K C qual st f fd) (T : ClsI P K C f)
    (hbd : defBody st = [.Expr (.Call (.Attribute (.Call (.Name "super" p0) [] [] p1) "__init__" p2) [.Name n q1, .Name m q2] [] p3) p4, .Assign [.Attribute (.Name "self" r0) n r1] (.Name n r2) r3, .Assign [.Attribute (.Name "self" t0) m t1] (.Name m t2) t3])
    (S : NScope ["self", n, m, "__class__"] ["self", n, m] ["__class__"] (defScope st)) (hn1 : (n == ("__debug__" : Str)) = false) (hn2 : (n == ("__classdict__" : Str)) = false) (hm1 : (m == ("__debug__" : Str)) = false) (hm2 : (m == ("__classdict__" : Str)) = false)
    (hp : ((defArgs st).posonlyargs ++ (defArgs st).args).head? = some ar) (har : ar.arg = "self") (hno : PySem.W.findIn K (.ref C) n = some none) (hmo : PySem.W.findIn K (.ref C) m = some none)
    (hl : (p2.endLine == p3.line) = true) (hks : (defScope st).names.lookup ("super" : Str) = some .globalImplicit) (hkc : (defScope st).names.lookup ("__class__" : Str) = some .free) : FnOk P w K mg base CX (k + 1) f fd ["self", n, m] (spI C [n, m]) := by
  refine initx_core (fs := [n, m]) (ta := tCons (tVar 1) (tCons (tVar 2) tNil)) (t := tSeq (tOst K n (tVar 0) (tVar 1)) (tOst K m (tVar 0) (tVar 2))) FI T S rfl hbd hp har hks hkc (fun F A outer s H E hF => ?_) (fun a ws H h1 h2 => ?_) (fun F A outer s H E hF => ?_) (fun a ws H Q h1 h2 ha hq => ?_) (fun _ => rfl) (fun _ => rfl) (fun F L hF => by unfold interactive; show (F.scope.kind == _ && _) = false; rw [hF, S.kind]; rfl) (fun _ _ => rfl) (fun F L => ⟨_, hcall_of hl rfl⟩)
  · exact pa_cons (pe_var rfl (.inl (by show F.scope.names.lookup n = _; rw [hF]; exact S.par _ (by simp))) hn1 hn2) (pa_cons (pe_var rfl (.inl (by show F.scope.names.lookup m = _; rw [hF]; exact S.par _ (by simp))) hm1 hm2) pa_nil)
  · match ws, h1 with
    | [y, z], _ => exact ⟨y, rfl, z, rfl, (by decide : 2 ≤ 1000), rfl⟩
  · exact pss_cons (ps_ost (pe_var (i := 0) rfl (.inl (by show F.scope.names.lookup _ = _; rw [hF]; exact S.par _ (by simp))) (by decide) (by decide)) (pe_var (i := 1) rfl (.inl (by show F.scope.names.lookup n = _; rw [hF]; exact S.par _ (by simp))) hn1 hn2))
      (pss_one (ps_ost (pe_var (i := 0) rfl (.inl (by show F.scope.names.lookup _ = _; rw [hF]; exact S.par _ (by simp))) (by decide) (by decide)) (pe_var (i := 2) rfl (.inl (by show F.scope.names.lookup m = _; rw [hF]; exact S.par _ (by simp))) hm1 hm2)))
  · match ws, h1 with
    | [y, z], _ =>
      refine ⟨y, rfl, .ref a, rfl, a, C, rfl, T.ox, hno, .inl ⟨ha, fun dx e1 e2 => ?_⟩⟩
      refine ⟨z, rfl, .ref a, rfl, a, C, rfl, T.ox, hmo, .inr ⟨dx, [(n, y)], upd_same, by rw [upd_ne e2, upd_same], by simp, ?_⟩⟩
      have q := hq dx e1 e2
      have e : upd (upd (upd H dx (exd dx [(n, y)])) a (exo a C (some dx))) dx (exd dx [(m, z), (n, y)]) = upd (upd H dx (exd dx [(m, z), (n, y)])) a (exo a C (some dx)) := by
        rw [upd_swap (Ne.symm e2), upd_upd]
      show Q .non _
      rw [e]
      exact q
/-- an own class with such an __init__ -/
structure OwnI (P : Program) (K : PySem.W.Frag) (mg : Str → Option Value) (n : Str) (C fI : Addr) (fd : FuncData) (fs : List Str) : Prop where
  g : mg n = some (.ref C)
  n : PySem.W.nsIn K mainGlobals n = some (some (.ref C))
  T : ClsI P K C fI
  F1 : ∀ (wd : World) (base : Heap), FnOk P wd K mg base CX0 1 fI fd ("self" :: fs) (spI C fs)
  hb : Binds K fd ("self" :: fs) []
def tMkI' (n : Str) (fs : List Str) (ta : TA') : TM' := fun δ M E => ta δ M (fun ds M1 => ∃ ls : List Lit, ds = ls.map Lit.d ∧ ls.length = fs.length ∧ ls.length ≤ 900 ∧ E ⟨n, (fs.zip ls).reverse⟩ M1) (fun _ _ => False)
theorem lits_rep {w : Wd} : ∀ {ls : List Lit} {vs : List V}, RepL K w (ls.map Lit.d) vs → vs = ls.map Lit.v
  | [], vs, h => h
  | l :: ls, vs, h => by
    obtain ⟨x, r, rfl, h1, h2⟩ := h
    rw [lits_rep h2]
    cases l <;> · simp only [Lit.d, Rep] at h1; rw [h1]; rfl
theorem zip_lits : ∀ (fs : List Str) (ls : List Lit), fs.zip (ls.map Lit.v) = (fs.zip ls).map fun p => (p.1, p.2.v)
  | [], _ => rfl
  | _ :: _, [] => rfl
  | f :: fs, l :: ls => by simp [zip_lits fs ls]
theorem mmk_init {X : Cx} {n : Str} {C fI : Addr} {fd : FuncData} {fs : List Str} {p pos : Pos} {e : Expr} {es : List Expr} {ta : TA'} (O : OwnI X.prog X.K X.mg n C fI fd fs) (hr : Room 2 X.A) (hg : Gl X n) (ha : MA X WF (e :: es) ta) (hdb : (n == ("__debug__" : Str)) = false := by decide)
    (he : starEach (e :: es) X.env = (false, eval e X.env) :: starEach es X.env := by rfl) (hpl : (backTo pos (starEach es X.env)).any (·.1) = false := by rfl) : MMk X (.Call (.Name n p) (e :: es) [] pos) (tMkI' n fs ta) :=
  ⟨fun pins s σ H Q I ⟨w, δ, eH, rh, rs, h⟩ => by
    subst eH
    refine pmk_oex (k := 1) (dvs := []) O.T.ox O.T.fi O.T.ti (O.F1 X.w X.base) hr O.hb .nil pass0 hg O.g ha.pa hdb he hpl pins s σ w.H Q I ?_
    refine upA_go ha.mono rh rs h (fun _ _ z => z.elim) fun ds vs w1 l1 rh1 rs1 rv ⟨ls, e1, e2, e3, q⟩ => ?_
    subst e1
    have ev := lits_rep rv
    subst ev
    refine ⟨by simp; omega, fun a hna => ⟨a, ls.map Lit.v, by simp, by simp [e2], by simpa using e3, upd_same, fun d hd hda => ⟨rfl, d, _, upd_same, by rw [upd_ne hda, upd_same], ?_, ?_⟩⟩⟩
    · rw [upd_ne hda] at hd; exact hd
    · have hd1 : w1.H d = none := by rw [upd_ne hda] at hd; exact hd
      have eH : upd (del (upd (upd (upd w1.H a (exo a C none)) d (exd d (fs.zip (ls.map Lit.v)).reverse)) a (exo a C (some d))) a) d (.xd (fs.zip (ls.map Lit.v)).reverse) = (w1.new d (.xd (fs.zip (ls.map Lit.v)).reverse)).H := by
        funext b
        show _ = upd w1.H d _ b
        by_cases hb : b = d
        · subst hb; rw [upd_same, upd_same]
        · rw [upd_ne hb, upd_ne hb]
          by_cases hb2 : b = a
          · subst hb2; rw [del_same, hna]
          · rw [del_ne hb2, upd_ne hb2, upd_ne hb, upd_ne hb2]
      rw [eH]
      refine q (.ref C) (some d) (w1.new d (.xd (fs.zip (ls.map Lit.v)).reverse)) rfl (l1.trans rh rh1 (Le.new hd1)) (rh1.new hd1) ⟨.inl O.n, .inr ⟨d, rfl, ?_⟩⟩
      show upd w1.H d _ d = _
      rw [upd_same]
      congr 2
      unfold fsV
      rw [zip_lits, List.map_reverse],
   fun δ M E E' q h => ha.mono _ _ _ _ _ _ (fun ds M1 ⟨ls, e1, e2, e3, h1⟩ => ⟨ls, e1, e2, e3, q _ _ h1⟩) (fun _ _ z => z) h⟩
end

def initOf (s : Stmt) : Stmt := match s with
  | .ClassDef _ _ _ (d :: _) _ _ _ _ _ _ _ => d
  | _ => .Pass ⟨0, 0, 0, 0⟩
section
variable {P : Program} {K : PySem.W.Frag} {mg : Str → Option Value}
variable {n qual : Str} {st : Stmt} {C fI cda cc : Addr} {oc : Value} {od : Option Addr} {kV doc pm : Value} {an : Option Addr} {ct : Value} {osl : Array (Option Value)} {ccl : Value} {cdd : Option Addr} {vs : Array Value} {ccs : Array (Option Value)} {file : Str} {tf : Tok} {cl : Value} {cld : Option Addr} {csl : Array (Option Value)}
variable {nm q : Str} {N : Addr} {bs bm : List Value} {sn : List Str} {sub : List Value} {ab : Bool} {col : Option Bool} {dd : Option Addr} {k0 k1 k2 k3 k5 : Option Value}
theorem clsI_mk (cx : K.lookup C = some (excClassObj nm q C N bs bm true sn sub ab col dd k0 k1 k2 k3 k5 "ValueError.__new__")) (rv : PySem.HandSPX.refsVE bm = true) (sa : PySem.W.findIn K (.ref C) "__setattr__" = some (some (.builtin "object.__setattr__")))
    (sb : PySem.W.subIn K (.ref C) (.type "BaseException") = some true) (ty : PySem.W.typeIn K (.ref C) = some (.type "type")) (kp : PySem.W.keepIn K (.ref C) = true)
    (fi : PySem.W.findIn K (.ref C) "__init__" = some (some (.ref fI))) (ti : PySem.W.typeIn K (.ref fI) = some (.type "function")) (al : PySem.W.alongIn K "__init__" (((Value.ref C :: bm).dropWhile (· != .ref C)).drop 1) = some (some (.builtin "ValueError.__init__")))
    (sv : PySem.W.subIn K (.ref C) (.type "ValueError") = some true) (ms : PySem.W.mroIn K C (.ref C) = some true) (any : PySem.W.nsIn K PySem.cStatics "thirdparty.any" = some none) (sup : PySem.W.nsIn K mainGlobals "super" = some none)
    (top : (P.main.scope.names.lookup ("super" : Str)).isSome = false) : ClsI P K C fI := by
  refine ⟨⟨⟨nm, q, N, bs, bm, sn, sub, ab, col, dd, k0, k1, k2, k3, k5, cx, rv⟩, sa, sb, ty, kp⟩, fi, ti, ?_, sv, ms, any, sup, top⟩
  unfold PySem.W.ks_superIn
  rw [show PySem.W.clsIn K C = some { name := nm, bases := bs, mro := .ref C :: bm, ns := N, qualname := q, hasDict := true, slotNames := sn, subclasses := sub, abstract := ab, collection := col, hasDel := false } from by unfold PySem.W.clsIn; rw [cx] <;> rfl]
  exact al
abbrev fdI (qual : Str) (st : Stmt) (cc : Addr) (kV doc pm : Value) (an : Option Addr) (cda : Addr) (ct : Value) : FuncData := PySem.W.fnX "__init__" qual (defArgs st) (defBody st) (defScope st) [(("__class__" : Str), cc)] .none kV doc pm an (.ref cda) ct
theorem funI_mk (lk : K.lookup fI = some ⟨oc, od, .func (fdI qual st cc kV doc pm an cda ct), osl⟩) (cd : PySem.W.codeIn K (.ref cda) qual = true) (lc : K.lookup cda = some ⟨ccl, cdd, .fields vs, ccs⟩) (hv : vs[2]? = some (.str file tf)) (fl : ((P.main.file : Str) == file) = true)
    (ce : K.lookup cc = some ⟨cl, cld, .cell (some (.ref C)), csl⟩) : FunI P K C qual st fI (fdI qual st cc kV doc pm an cda ct) :=
  ⟨⟨oc, od, kV, doc, pm, an, ct, osl, cda, cc, ccl, cdd, vs, ccs, file, tf, cl, cld, csl, rfl, lk, cd, lc, hv, fl, ce⟩⟩
end
end MD
/-! list(text). -/
namespace MD
open PySem PySem.Spec PyProof.Rows L2
variable {K : PySem.W.Frag} {w w1 w2 : Wd} {X : Cx} {W : WX} {e a b c : Expr} {pos : Pos}
def signV (x : Str) : List V := x.cps.toList.map fun c => V.str ⟨#[c]⟩
theorem cr_listS (hc : X.calm = true) : CallR X (.type "list") (fun xs H Q => ∃ x, xs = [.str x] ∧ x.length ≤ sizeLine ∧ ∀ l, H l = none → Q (.ref l) (upd H l (.lst (signV x)))) := by
  intro pins s σ H xs us Q I r h
  obtain ⟨x, rfl, hl, q⟩ := h
  obtain ⟨u, rfl, t, rfl⟩ := vals1 r
  refine call_list_str (I.ok.hd hc) x t (hn := hl) fun h' tk acc' c' hk hS' hacc => ?_
  have hz : (signV x).length = x.length := by unfold signV; rw [List.length_map]; exact Array.length_toList
  refine ⟨.ref s.heap.objs.size, _, I.laid (t' := tk) hk (Nat.le_refl _) (show ObjOk X.prog X.w _ h' _ (.lst (signV x)) from ⟨by rw [hz]; exact hl, acc'.toList, c', ?_, by simpa using hS'⟩), rfl, q _ (I.hok.fresh (Nat.le_refl _))⟩
  have h1 := hacc.1
  have h2 := hacc.2
  have key : ∀ (l : List Nat) (us : List Value), us.length = l.length → (∀ (j : Nat) (v : Value), us[j]? = some v → ∃ (c : Nat) (u : Tok), l[j]? = some c ∧ v = Value.str ⟨#[c]⟩ u) → Vals (l.map fun c => V.str ⟨#[c]⟩) us := by
    intro l
    induction l with
    | nil => intro us hu _; have : us = [] := List.length_eq_zero_iff.mp hu; subst this; exact .nil
    | cons c l ih =>
      intro us hu hj
      cases us with
      | nil => simp at hu
      | cons v us =>
        obtain ⟨c', u, e1, e2⟩ := hj 0 v rfl
        simp at e1
        subst e1
        exact .cons ⟨u, e2⟩ (ih us (by simpa using hu) fun j v' hv => by simpa using hj (j + 1) v' (by simpa using hv))
  refine key x.cps.toList acc'.toList (by rw [Array.length_toList, Array.length_toList]; exact h1) fun j v hv => ?_
  obtain ⟨c, u, e1, e2⟩ := h2 j v (by simpa using hv)
  exact ⟨c, u, by simpa using e1, e2⟩
def cListS (cell : Bool) : RA' := fun ds M Q => ∃ x, ds = [.str x] ∧ x.length ≤ sizeLine ∧ newL cell (x.cps.toList.map fun c => D.str ⟨#[c]⟩) M Q
theorem mr_listS {cell : Bool} : MonoR (cListS cell) := fun ds M Q Q' q ⟨x, e, e1, h⟩ => ⟨x, e, e1, h.mono q⟩
theorem repL_signs {w : Wd} : ∀ l : List Nat, RepL K w (l.map fun c => D.str ⟨#[c]⟩) (l.map fun c => V.str ⟨#[c]⟩)
  | [] => rfl
  | c :: l => ⟨_, _, rfl, by simp [Rep], repL_signs l⟩
theorem la_listS {cell : Bool} : LiftA K (fun xs H Q => ∃ x, xs = [.str x] ∧ x.length ≤ sizeLine ∧ ∀ l, H l = none → Q (.ref l) (upd H l (.lst (signV x)))) (cListS cell) := by
  intro w xs ds Q rh r ⟨x, e, e1, q⟩
  subst e
  obtain ⟨v, rfl, rv⟩ := rep1 r
  simp only [Rep] at rv
  subst rv
  exact ⟨x, rfl, e1, newL.lift rh (repL_signs _) q⟩
@[simp] theorem u_listS {c : Bool} {ds : List D} {M : MH} {Q : QE} : cListS c ds M Q ↔ ∃ x, ds = [.str x] ∧ x.length ≤ sizeLine ∧ newL c (x.cps.toList.map fun c => D.str ⟨#[c]⟩) M Q := Iff.rfl
end MD
/-! rules for simp: raise, try. -/
namespace MD
open PySem PySem.Spec PyProof.Rows L2
def litOf : D → Option Lit
  | .non => some .non
  | .bl b => some (.bl b)
  | .int i => some (.int i)
  | .str x => some (.str x)
  | _ => none
def onL (o : Option Lit) (P : Lit → Prop) : Prop := match o with
  | some c => P c
  | none => False
@[simp] theorem onL_some {c : Lit} {P : Lit → Prop} : onL (some c) P ↔ P c := Iff.rfl
@[simp] theorem litOf_non : litOf .non = some .non := rfl
@[simp] theorem litOf_bl {b : Bool} : litOf (.bl b) = some (.bl b) := rfl
@[simp] theorem litOf_int {b : Int} : litOf (.int b) = some (.int b) := rfl
@[simp] theorem litOf_str {b : Str} : litOf (.str b) = some (.str b) := rfl
theorem litOf_d {d : D} {l : Lit} (h : litOf d = some l) : d = l.d := by
  cases d <;> simp [litOf] at h <;> subst h <;> rfl
theorem litOf_back (l : Lit) : litOf l.d = some l := by cases l <;> rfl
def mk1 (n f : Str) (E : QX) (ds : List D) (M : MH) : Prop := match ds with
  | [d] => onL (litOf d) fun l => E ⟨n, [(f, l)]⟩ M
  | _ => False
def mk2 (n f g : Str) (E : QX) (ds : List D) (M : MH) : Prop := match ds with
  | [d, e] => onL (litOf d) fun l => onL (litOf e) fun m => E ⟨n, [(g, m), (f, l)]⟩ M
  | _ => False
@[simp] theorem mk1_one {n f : Str} {E : QX} {d : D} {M : MH} : mk1 n f E [d] M ↔ onL (litOf d) fun l => E ⟨n, [(f, l)]⟩ M := Iff.rfl
@[simp] theorem mk2_two {n f g : Str} {E : QX} {d e : D} {M : MH} : mk2 n f g E [d, e] M ↔ onL (litOf d) fun l => onL (litOf e) fun m => E ⟨n, [(g, m), (f, l)]⟩ M := Iff.rfl
theorem onL_iff {o : Option Lit} {P : Lit → Prop} : onL o P ↔ ∃ l, o = some l ∧ P l := by
  cases o <;> simp [onL]
theorem mk1_iff {n f : Str} {E : QX} {ds : List D} {M : MH} : (∃ ls : List Lit, ds = ls.map Lit.d ∧ ls.length = [f].length ∧ ls.length ≤ 900 ∧ E ⟨n, ([f].zip ls).reverse⟩ M) ↔ mk1 n f E ds M := by
  constructor
  · rintro ⟨ls, rfl, h1, _, h⟩
    match ls, h1 with
    | [l], _ =>
      show onL (litOf l.d) _
      rw [litOf_back]
      exact h
  · intro h
    match ds, h with
    | [d], h =>
      obtain ⟨l, e, h⟩ := onL_iff.mp h
      exact ⟨[l], by rw [litOf_d e]; rfl, rfl, by simp, h⟩
theorem mk2_iff {n f g : Str} {E : QX} {ds : List D} {M : MH} : (∃ ls : List Lit, ds = ls.map Lit.d ∧ ls.length = [f, g].length ∧ ls.length ≤ 900 ∧ E ⟨n, ([f, g].zip ls).reverse⟩ M) ↔ mk2 n f g E ds M := by
  constructor
  · rintro ⟨ls, rfl, h1, _, h⟩
    match ls, h1 with
    | [l, m], _ =>
      show onL (litOf l.d) fun l => onL (litOf m.d) _
      rw [litOf_back, litOf_back]
      exact h
  · intro h
    match ds, h with
    | [d, e], h =>
      obtain ⟨l, e1, h⟩ := onL_iff.mp h
      obtain ⟨m, e2, h⟩ := onL_iff.mp h
      exact ⟨[l, m], by rw [litOf_d e1, litOf_d e2]; rfl, rfl, by simp, h⟩
@[simp] theorem u_mkI1 {n f : Str} {ta : TA'} {δ : EnvD} {M : MH} {E : QX} : tMkI' n [f] ta δ M E ↔ ta δ M (fun ds M1 => mk1 n f E ds M1) (fun _ _ => False) := by
  unfold tMkI'; simp only [mk1_iff]
@[simp] theorem u_mkI2 {n f g : Str} {ta : TA'} {δ : EnvD} {M : MH} {E : QX} : tMkI' n [f, g] ta δ M E ↔ ta δ M (fun ds M1 => mk2 n f g E ds M1) (fun _ _ => False) := by
  unfold tMkI'; simp only [mk2_iff]
@[simp] theorem u_raise {t : TM'} {DD : Ends'} {δ : EnvD} {M : MH} : tRaise' t DD δ M ↔ t δ M (fun x M1 => DD.ex x δ M1) := Iff.rfl
@[simp] theorem u_try {CO : COf} {mt : Mt} {tb : TS'} {hs : List Hd'} {DD : Ends'} {δ : EnvD} {M : MH} : tTry' CO mt tb hs DD δ M ↔ tb { DD with ex := fun x δ M => pick' CO mt DD hs x δ M } δ M := Iff.rfl
@[simp] theorem u_addL {c : Bool} {i : List D} {y : D} {M : MH} {Q : QE} : oAdd c (.lst i) y M Q ↔ ∃ b, lstOf y M = some b ∧ i.length + b.length ≤ sizeLine ∧ newL c (i ++ b) M Q := Iff.rfl
end MD
namespace PySem
open AutoSeq1 (wpAny_loadPart')
open Sem (wp)
theorem meets_enumerate_newTup (l : Addr) (items : Array Value) (n : Nat) (dct : Option Addr) (sl : Array (Option Value)) :
    Meets (Builtin.«enumerate.__new__» ⟨[.type "enumerate", .ref l], []⟩) (fun _ R s => s.heap.get? l = some { cls := .type "tuple", dict := dct, data := .seq items n, slots := sl } ∧
      R (.ok (.ret (.ref (s.heap.push { cls := .type "tuple_iterator", data := .fields #[.ref l, .int 0 0] }).objs.size)))
        { s with heap := (s.heap.push { cls := .type "tuple_iterator", data := .fields #[.ref l, .int 0 0] }).push { cls := .type "enumerate", data := .fields #[.none, .bool false, .ref s.heap.objs.size, rawInt 0, .none, .none] } }) :=
  .of_wp fun prog w A R s h => by
    obtain ⟨hp, g, d, tk, os⟩ := s; obtain ⟨hl, h⟩ := h
    have hsub := sub_enumerate
    have hL : Heap.IsTuple (Shared.heap ⟨hp, g, d, tk, os⟩) l items := ⟨_, hl, rfl, n, rfl⟩
    wp_walk using wpAny_loadPart' hl
    refine wpAny_stack_any fun st => wpAny_pure ?_
    split
    · rename_i c _ _ _ _ _
      cases (c == Value.type "enumerate")
      · wp_walk using wpAny_loadPart' hl, wpAny_pyIter_tuple hL
        exact ⟨_, rfl, h⟩
      · wp_walk using wpAny_loadPart' hl, wpAny_pyIter_tuple hL
        exact ⟨_, rfl, h⟩
    · wp_walk using wpAny_loadPart' hl, wpAny_pyIter_tuple hL
      exact ⟨_, rfl, h⟩
section
variable {prog : Program} {w : World} {A : Around} {E : Value → Shared → Prop} {s : Shared}
theorem call_enumerate_tup {l : Addr} {items : Array Value} {Q : Value → Shared → Prop} (hL : s.heap.IsTuple l items)
    (h : ∀ h', IsEnum h' (s.heap.objs.size + 1) s.heap.objs.size 0 .none → h'.IsTupleIter s.heap.objs.size l 0 → h'.objs.size = s.heap.objs.size + 2 →
      (∀ b o, s.heap.get? b = some o → h'.get? b = some o) → Q (.ref (s.heap.objs.size + 1)) { s with heap := h' }) :
    wpAny (model prog w) A (call (.type "enumerate") [.ref l]) Q E s := by
  obtain ⟨⟨c, dct, dt, sl⟩, hl, hc, n, hd⟩ := hL
  replace hc : c = .type "tuple" := hc
  replace hd : dt = .seq items n := hd
  subst hc hd
  refine callType_new F.called_enumerate (by decide) (F.typeCall_enumerate_1 _) (F.newCall_enumerate_1 _) (fun obj => F.args_object_init_2 obj _) F.entry_enumerate_new
    (meets_enumerate_newTup l items n dct sl) ⟨hl, ?_⟩
  have hz : (s.heap.push { cls := .type "tuple_iterator", data := .fields #[.ref l, .int 0 0] }).objs.size = s.heap.objs.size + 1 := Heap.size_push ..
  show _ ∧ _
  rw [hz]
  have he : IsEnum ((s.heap.push { cls := .type "tuple_iterator", data := .fields #[.ref l, .int 0 0] }).push
      { cls := .type "enumerate", data := .fields #[.none, .bool false, .ref s.heap.objs.size, rawInt 0, .none, .none] }) (s.heap.objs.size + 1) s.heap.objs.size 0 .none := by
    have := Heap.get?_push_size (s.heap.push { cls := .type "tuple_iterator", data := .fields #[.ref l, .int 0 0] })
      (o := { cls := .type "enumerate", data := .fields #[.none, .bool false, .ref s.heap.objs.size, rawInt 0, .none, .none] }) rfl
    rw [hz] at this; exact this
  refine ⟨⟨_, he, rfl⟩, h _ he ⟨_, Heap.get?_push_of_some _ (Heap.get?_push_size _ rfl), rfl, rfl⟩ (by rw [Heap.size_push, hz]) fun b o x => Heap.get?_push_of_some _ (Heap.get?_push_of_some _ x)⟩
theorem wpAny_pyNext_enum_endT {e it l : Addr} {i : Nat} {items : Array Value} {old : Value} {Q : Option Value → Shared → Prop} (hh : A.handled = none)
    (he : IsEnum s.heap e it i old) (hit : s.heap.IsTupleIter it l i) (hl : s.heap.IsTuple l items) (hx : items[i]? = none)
    (hQ : ∀ h', Heap.ExtBut it s.heap h' → Q none { s with heap := h' }) : wpAny (model prog w) A (pyNext (.ref e)) Q E s := by
  have hT : s.TypeIs (.ref e) "enumerate" := ⟨_, he, rfl⟩
  unfold pyNext
  refine wpAny_bind (wpAny_attempt (wpAny_callSpecial?_slot (name := Str.ofString "__next__") hT F.slot_enumerate_next
    (wpAny_call_entry F.slot_enumerate_next hT F.entry_enumerate_next ?_ (F.args_enumerate_next_1 _))))
  show wpAny _ _ (field (.ref e) 2 >>= _) _ _ _
  refine wpAny_bind (wpAny_field he rfl (x := .ref it) rfl ?_)
  refine wpAny_bind (wpAny_nextOf_tuple_end hh hit hl hx fun h' x he' hx' => ?_)
  obtain ⟨o, ho, hc⟩ := hx'
  refine wpAny_bind (wpAny_isInstance (T := "StopIteration") (b := true) ⟨o, ho, hc⟩ isSubtype_stop ?_)
  exact wpAny_pure (hQ _ he')
end
end PySem
namespace MD
open PySem PySem.Spec PyProof.Rows L2
variable {K : PySem.W.Frag} {w w1 w2 : Wd} {X : Cx} {W : WX} {e a b c : Expr} {pos : Pos}
/-! enumerate over a tuple, or a list that nobody writes -/
def IteT (K : PySem.W.Frag) (a : Addr) : It :=
  ⟨fun i H => ∃ (xs : List V) (x : V), SqT K H a xs ∧ xs[i]? = some x, fun i H v H' => ∃ T x, v = .ref T ∧ H T = none ∧ H' = upd H T (.tup [.int (i : Nat), x]) ∧ ∀ xs, SqT K H a xs → xs[i]? = some x, fun i H => ∃ xs : List V, SqT K H a xs ∧ xs.length ≤ i⟩
theorem turn_enumT {P : Program} {w : World} {K : PySem.W.Frag} {elts : List Expr} {kk : Nat} {tpos : Pos} (a e it : Addr) :
    Turn P w K (.Tuple elts kk tpos) (IteT K a) [e, it] e (fun i h => (∃ old, IsEnum h e it ((i : Nat) : Int) old) ∧ h.IsTupleIter it a i ∧ e ≠ it) where
  mem := by simp
  obj := fun i h st b hb => by
    obtain ⟨⟨old, he⟩, ⟨o, ho, hc, hd⟩, _⟩ := st
    have e' : b = e ∨ b = it := by simpa using hb
    rcases e' with z | z
    · rw [z]; exact ⟨_, he, fun v q => nomatch q⟩
    · rw [z]; exact ⟨o, ho, fun v q => by rw [hd] at q; cases q⟩
  keep := fun i h h' st k => let ⟨⟨old, he⟩, hi, hne⟩ := st; ⟨⟨old, k e (by simp) _ he⟩, hi.at fun o q => k it (by simp) o q, hne⟩
  item := by
    intro X hP hw hK hc i pins s σ H E I hf st hg
    subst hP hw hK
    obtain ⟨⟨old, he⟩, hit, hne⟩ := st
    obtain ⟨xs, x, hq, hx⟩ := hg
    obtain ⟨its, rv, p, hz⟩ := I.tuple hq
    obtain ⟨u, hu, ru⟩ := rv.get hx
    have hel : e < s.heap.objs.size := Heap.lt_size he
    have hil : it < s.heap.objs.size := by obtain ⟨_, q, _⟩ := hit; exact Heap.lt_size q
    have hni : a ≠ it := by
      rintro rfl
      obtain ⟨o, ho, hc1, hd⟩ := hit
      obtain ⟨o', ho', hc2, _⟩ := p
      rw [ho] at ho'
      cases ho'
      rw [hc1] at hc2
      exact absurd (Value.type.inj hc2) (by decide)
    have hnt : e ≠ a := by
      rintro rfl
      obtain ⟨o', ho', hc2, _⟩ := p
      have he2 := he
      unfold IsEnum at he2
      rw [he2] at ho'
      cases ho'
      exact absurd (Value.type.inj hc2) (by decide)
    have hlt : i < its.toArray.size := by
      have := (List.getElem?_eq_some_iff.mp hu).1
      simpa using this
    have hst0 : s.heap.IsTupleIter it a i ∧ s.heap.IsTuple a its.toArray := ⟨hit, p⟩
    have hef : e ∉ [it, a] := by
      intro hm
      rcases List.mem_cons.mp hm with z | z
      · exact hne z
      · exact hnt (List.mem_singleton.mp z)
    refine wpAny_pyNext_enum_itemD (Draws.tuple (prog := X.prog) (w := X.w) (A := X.A.in1) (I.ok.hd hc) it a hni its.toArray) he hst0 hlt hne hef fun x' h' tk hx' ho hst' hT hsz hk => ?_
    obtain ⟨hit', _⟩ := hst'
    have hxu : x' = u := by
      have hx' : its.toArray[i]? = some x' := hx'
      rw [List.getElem?_toArray, hu] at hx'
      exact (Option.some.inj hx').symm
    subst hxu
    refine ⟨_, rfl, wpAny_letOwnedTupleGo_enum (s := { s with heap := h', toks := tk + 1 }) ho fun h'' he' sb => ?_⟩
    have hT2 : h''.get? s.heap.objs.size = some { cls := .type "tuple", data := .seq #[.int i tk, x'] } := (sb.2 _ (Nat.ne_of_gt hel)).trans hT
    have new : ObjOk X.prog X.w (upd H s.heap.objs.size (.tup [.int (i : Nat), x])) h'' s.heap.objs.size (.tup [.int (i : Nat), x]) :=
      ⟨by show 2 ≤ sizeLine; decide, [.int i tk, x'], .cons ⟨_, rfl⟩ (.cons ru .nil), ⟨_, hT2, rfl, _, rfl⟩⟩
    have I1 : L2.Inv X pins σ (upd H s.heap.objs.size (.tup [.int (i : Nat), x])) { s with heap := h'', toks := tk + 1 } :=
      I.turnedNew (ch := [e, it]) (fun b ob hb q => (sb.2 b (fun z => hb (by simp [z]))).trans (hk b ob (fun z => hb (by simp [z])) (fun z => hb (by simp [z])) q)) hf (Nat.le_refl _) new
    refine ⟨.ref s.heap.objs.size, _, I1, rfl, ⟨_, x, rfl, I.hok.fresh (Nat.le_refl _), rfl, fun ys hy => by rw [I.tuple_inj hy hq]; exact hx⟩, ⟨⟨x', ?_⟩, hit'.at fun o q => (sb.2 it (Ne.symm hne)).trans q, hne⟩, fun b hb => ?_⟩
    · have e1 : ((i + 1 : Nat) : Int) = (i : Int) + 1 := by omega
      rw [e1]; exact he'
    · have hb' : b < s.heap.objs.size := by
        have e' : b = e ∨ b = it := by simpa using hb
        rcases e' with z | z
        · rw [z]; exact hel
        · rw [z]; exact hil
      rw [upd_ne (Nat.ne_of_lt hb')]
      exact (hf b hb).1
  done := by
    intro X hP hw hK hc i pins s σ H E I hf st hg
    subst hP hw hK
    obtain ⟨⟨old, he⟩, hit, hne⟩ := st
    obtain ⟨xs, hq, hx⟩ := hg
    obtain ⟨its, rv, p, hz⟩ := I.tuple hq
    obtain ⟨f0, f1, f2, f3, f4, f5⟩ := hf it (by simp)
    have hl := rv.length
    exact wpAny_pyNext_enum_endT (I.ok.hd hc) he hit p (by simp; omega) fun h' eb => ⟨rfl, I.turned (t' := s.toks) (fun b o hb q => eb b o hb q) f0 f1 f3 f4 f5⟩
  self := fun A i s Q E st h => let ⟨⟨_, he⟩, _⟩ := st; wpAny_pyIter_enum he h
def iEnum2 (K : PySem.W.Frag) (ta : TA) : TI := fun σ H R => ta σ H fun vs H1 => ∃ a xs, vs = [.ref a] ∧ ((SqL K H1 a xs ∧ R (Ite K a) H1) ∨ (SqT K H1 a xs ∧ R (IteT K a) H1))
theorem pi_enum2 {X : Cx} {e : Expr} {ta : TA} {p pos tpos : Pos} {elts : List Expr} {kk : Nat} (hg : Gl X "enumerate") (hm : X.mg "enumerate" = none) (ha : PA X [e] ta) (hs : starEach [e] X.env = [(false, eval e X.env)] := by rfl) :
    PI X (.Tuple elts kk tpos) (.Call (.Name "enumerate" p) [e] [] pos) (iEnum2 X.K ta) := by
  refine ⟨fun pins s σ H R I h => ?_⟩
  refine Call_ (ld_blt I hg hm boot_enumerate (PyProof.Rows.callWith_type1 (thn (ha.run pos pins s σ H _ I h) fun us s1 ⟨vs, H1, I1, r1, q1⟩ => ?_) hs rfl))
  obtain ⟨a, xs, ex, q⟩ := q1
  subst ex
  cases r1 with
  | cons r rr =>
    cases rr
    cases r
    have fp : ∀ b ∈ [s1.heap.objs.size + 1, s1.heap.objs.size], s1.heap.objs.size ≤ b := fun b hb => by
      have e' : b = s1.heap.objs.size + 1 ∨ b = s1.heap.objs.size := by simpa using hb
      rcases e' with z | z
      · rw [z]; exact Nat.le_add_right _ _
      · rw [z]; exact Nat.le_refl _
    rcases q with ⟨hq, q⟩ | ⟨hq, q⟩
    · obtain ⟨its, rv, p', hz⟩ := I1.list hq
      refine call_enumerate_list p'.isList fun h' he hit hsz hk => wpAny_pyIter_enum he ?_
      have I2 : L2.Inv X pins σ H1 { s1 with heap := h' } := I1.kept (t' := s1.toks) hk
      exact ⟨s1.heap.objs.size + 1, [s1.heap.objs.size + 1, s1.heap.objs.size], _, _, H1, rfl, I2, turn_enum a (s1.heap.objs.size + 1) s1.heap.objs.size, ⟨⟨.none, he⟩, hit, Nat.succ_ne_self _⟩, fun b hb => I1.fpOk (fp b hb) (I1.hok.fresh (fp b hb)), q⟩
    · obtain ⟨its, rv, p', hz⟩ := I1.tuple hq
      refine call_enumerate_tup p' fun h' he hit hsz hk => wpAny_pyIter_enum he ?_
      have I2 : L2.Inv X pins σ H1 { s1 with heap := h' } := I1.kept (t' := s1.toks) hk
      exact ⟨s1.heap.objs.size + 1, [s1.heap.objs.size + 1, s1.heap.objs.size], _, _, H1, rfl, I2, turn_enumT a (s1.heap.objs.size + 1) s1.heap.objs.size, ⟨⟨.none, he⟩, hit, Nat.succ_ne_self _⟩, fun b hb => I1.fpOk (fp b hb) (I1.hok.fresh (fp b hb)), q⟩
theorem itOk_enumT {p : Addr} {ds : List D} {w0 : Wd} (hl : ∀ w2, Le w0 w2 → RH K w2 → ∃ xs, SqT K w2.H p xs ∧ RepL K w2 ds xs) :
    ItOk K ⟨enumD ds, none⟩ (IteT K p) w0 := by
  intro w2 l r st
  obtain ⟨xs, hs, hr⟩ := hl w2 l r
  refine ⟨⟨xs, hs, by rw [enumD_length, hr.length]; exact Nat.le_refl _⟩, fun i x hx => ?_⟩
  obtain ⟨d, hd, rfl⟩ := enumD_at hx
  obtain ⟨y, hy, ry⟩ : ∃ y, xs[i]? = some y ∧ Rep K w2 d y := by
    have := hr.length
    have hi := (List.getElem?_eq_some_iff.mp hd).1
    have := atI_rep (i := (i : Int)) hr (atI_n (by omega) (by simpa using hd))
    obtain ⟨y, e, ry⟩ := this
    refine ⟨y, ?_, ry⟩
    unfold atI ixN at e
    rw [if_pos (by omega), if_pos (by omega)] at e
    simpa using e
  refine ⟨⟨xs, y, hs, hy⟩, ?_⟩
  rintro x H' ⟨T, x', rfl, hT, rfl, hx'⟩
  have : x' = y := by
    have := hx' xs hs
    rw [hy] at this
    exact (Option.some.inj this).symm
  subst this
  exact ⟨w2.new T (.tup [.int (i : Nat), x']), rfl, rfl, Le.new hT, r.new hT, rep_new_tup r hT (RepL.cons (by simp [Rep]) (RepL.cons ry RepL.nil))⟩
def tEnum2' (t : TA') : TI' := fun δ M R E => t δ M (fun dl M1 => ∃ ds, (dl = [.lst ds] ∨ dl = [.tup ds]) ∧ R ⟨enumD ds, none⟩ M1) E
theorem mi_enum2 {p tpos : Pos} {elts : List Expr} {kk : Nat} {t : TA'} (hg : Gl X "enumerate") (hm : X.mg "enumerate" = none) (ha : MA X W [e] t) (hs : starEach [e] X.env = [(false, eval e X.env)] := by rfl) :
    MI X W (.Tuple elts kk tpos) (.Call (.Name "enumerate" p) [e] [] pos) (tEnum2' t) :=
  ⟨PI.imp (pi_enum2 hg hm ha.pa hs) fun σ H R ⟨w, δ, eH, rh, rs, q⟩ => by
    subst eH
    refine upA_go ha.mono rh rs q (fun _ _ x => x) fun dl vl w1 l1 rh1 rs1 rv ⟨ds, e1, h1⟩ => ?_
    rcases e1 with e1 | e1 <;> subst e1 <;> obtain ⟨v1, r1, e2, rv1, e3⟩ := rv <;> have e3 : r1 = [] := e3 <;> subst e2 e3
    · obtain ⟨a, xs, e4, hl, nl, nr, hr⟩ := rv1
      subst e4
      exact ⟨a, xs, rfl, .inl ⟨SqL.of hl, h1 _ w1 rfl l1 rh1 (itOk_enum fun w2 l r => ⟨xs, SqL.of (l.keep a _ hl nl), RepL.le rh1 l _ hr⟩) trivial⟩⟩
    · have rv2 := rv1
      obtain ⟨a, xs, e4, hl, hr⟩ := rv1
      subst e4
      refine ⟨a, xs, rfl, .inr ⟨hl, h1 _ w1 rfl l1 rh1 (itOk_enumT fun w2 l r => ?_) trivial⟩⟩
      obtain ⟨a', xs', e5, hl', hr'⟩ := Rep.le rh1 l (.tup ds) rv2
      cases e5
      exact ⟨xs', hl', hr'⟩,
   fun δ M Q Q' E E' q x hh => ha.mono _ _ _ _ _ _ (fun d M1 ⟨ds, e1, h1⟩ => ⟨ds, e1, q _ _ h1⟩) x hh⟩
@[simp] theorem u_enum2 {t : TA'} {δ : EnvD} {M : MH} {R : ItD → MH → Prop} {E : QX} : tEnum2' t δ M R E ↔ t δ M (fun dl M1 => ∃ ds, (dl = [.lst ds] ∨ dl = [.tup ds]) ∧ R ⟨enumD ds, none⟩ M1) E := Iff.rfl
end MD
namespace MD
open PySem PySem.Spec PyProof.Rows L2
variable {K : PySem.W.Frag} {w w1 w2 : Wd} {X : Cx} {W : WX}
/-! max, min of a list of whole numbers -/
def cMaxL : RA' := fun ds M Q => ∃ (d : D) (es : List D) (ns : List Int), ds = [d] ∧ lstOf d M = some es ∧ es = ns.map D.int ∧ 0 < ns.length ∧ ∀ m, m ∈ ns → (∀ y, y ∈ ns → y ≤ m) → Q (.int m) M
def cMinL : RA' := fun ds M Q => ∃ (d : D) (es : List D) (ns : List Int), ds = [d] ∧ lstOf d M = some es ∧ es = ns.map D.int ∧ 0 < ns.length ∧ ∀ m, m ∈ ns → (∀ y, y ∈ ns → m ≤ y) → Q (.int m) M
theorem repL_ints_eq : ∀ {ns : List Int} {xs : List V}, RepL K w (ns.map D.int) xs → xs = ns.map V.int
  | [], xs, h => h
  | n :: ns, xs, h => by
    obtain ⟨x, r, rfl, hx, hr⟩ := h
    rw [rep_int hx, repL_ints_eq hr]
    rfl
theorem la_maxL : LiftA K (rMax K) cMaxL := by
  intro w xs ds Q rh r ⟨d, es, ns, e, e1, e2, h0, q⟩
  subst e e2
  obtain ⟨v, rfl, rv⟩ := rep1 r
  obtain ⟨a, ys, rfl, hy, hr⟩ := lstOf_rep rh rv e1
  rw [repL_ints_eq hr] at hy
  exact ⟨a, ns, rfl, SqL.of hy, h0, fun m h1 h2 => PV.here rh (q m h1 h2) rep_mk_int⟩
theorem la_minL : LiftA K (rMin K) cMinL := by
  intro w xs ds Q rh r ⟨d, es, ns, e, e1, e2, h0, q⟩
  subst e e2
  obtain ⟨v, rfl, rv⟩ := rep1 r
  obtain ⟨a, ys, rfl, hy, hr⟩ := lstOf_rep rh rv e1
  rw [repL_ints_eq hr] at hy
  exact ⟨a, ns, rfl, SqL.of hy, h0, fun m h1 h2 => PV.here rh (q m h1 h2) rep_mk_int⟩
theorem mr_maxL : MonoR cMaxL := fun ds M Q Q' q ⟨d, es, ps, e, e1, e2, e3, h⟩ => ⟨d, es, ps, e, e1, e2, e3, fun p a b => q _ _ (h p a b)⟩
theorem mr_minL : MonoR cMinL := fun ds M Q Q' q ⟨d, es, ps, e, e1, e2, e3, h⟩ => ⟨d, es, ps, e, e1, e2, e3, fun p a b => q _ _ (h p a b)⟩
@[simp] theorem u_maxL {ds : List D} {M : MH} {Q : QE} : cMaxL ds M Q ↔ ∃ (d : D) (es : List D) (ns : List Int), ds = [d] ∧ lstOf d M = some es ∧ es = ns.map D.int ∧ 0 < ns.length ∧ ∀ m, m ∈ ns → (∀ y, y ∈ ns → y ≤ m) → Q (.int m) M := Iff.rfl
@[simp] theorem u_minL {ds : List D} {M : MH} {Q : QE} : cMinL ds M Q ↔ ∃ (d : D) (es : List D) (ns : List Int), ds = [d] ∧ lstOf d M = some es ∧ es = ns.map D.int ∧ 0 < ns.length ∧ ∀ m, m ∈ ns → (∀ y, y ∈ ns → m ≤ y) → Q (.int m) M := Iff.rfl
end MD
namespace MD
open PySem PySem.Spec PyProof.Rows L2
variable {K : PySem.W.Frag} {w w1 w2 : Wd} {X : Cx} {W : WX}
/-! a member of a tuple or a list of nested data -/
def rInN (K : PySem.W.Frag) (neg : Bool) : V → V → Hp → VK → Prop := fun x y H Q => ∃ d t ds, Dp K H x d ∧ Dp K H y t ∧ (t = .list ds ∨ t = .tuple ds) ∧ SeqAt.shaped d = true ∧ SeqAt.shaped t = true ∧ Q (.bl (if neg then !ds.any fun z => PyData.eqv z d else ds.any fun z => PyData.eqv z d)) H
theorem op_inN (hu : X.A.units + 65 < cLine) : OpR X (compareOp .In) (rInN X.K false) := by
  intro pins s σ H x y v u Q I rx ry h
  obtain ⟨d, t, ds, hd, he, ht, sd, se, q⟩ := h
  obtain ⟨as, r1⟩ := Dp.reads I d x v hd rx
  obtain ⟨bs, r2⟩ := Dp.reads I t y u he ry
  rcases ht with rfl | rfl
  · exact SeqAt.in_list_reads r2 r1 (SeqAt.canLay_of_shaped se) (SeqAt.canLay_of_shaped sd) (room_in_shaped sd hu) ⟨.bl _, H, I, rfl, q⟩
  · exact SeqAt.in_tuple_reads r2 r1 (SeqAt.canLay_of_shaped se) (SeqAt.canLay_of_shaped sd) (room_in_shaped sd hu) ⟨.bl _, H, I, rfl, q⟩
theorem op_notInN (hu : X.A.units + 65 < cLine) : OpR X (compareOp .NotIn) (rInN X.K true) := by
  intro pins s σ H x y v u Q I rx ry h
  obtain ⟨d, t, ds, hd, he, ht, sd, se, q⟩ := h
  obtain ⟨as, r1⟩ := Dp.reads I d x v hd rx
  obtain ⟨bs, r2⟩ := Dp.reads I t y u he ry
  rcases ht with rfl | rfl
  · exact SeqAt.notIn_list_reads r2 r1 (SeqAt.canLay_of_shaped se) (SeqAt.canLay_of_shaped sd) (room_in_shaped sd hu) ⟨.bl _, H, I, rfl, q⟩
  · exact SeqAt.notIn_tuple_reads r2 r1 (SeqAt.canLay_of_shaped se) (SeqAt.canLay_of_shaped sd) (room_in_shaped sd hu) ⟨.bl _, H, I, rfl, q⟩
def inDD (x : D) (ds : List D) : Bool := ds.any fun z => deq z x
def oInN (neg : Bool) : R2' := fun x y M Q => eqOk x ∧ eqOk y ∧ ∃ ds, (y = .tup ds ∨ y = .lst ds) ∧ Q (.bl (if neg then !inDD x ds else inDD x ds)) M
theorem any_py (x : D) : ∀ ds : List D, ((D.pyL ds).any fun z => PyData.eqv z x.py) = inDD x ds
  | [] => rfl
  | d :: r => by
    unfold D.pyL inDD
    rw [List.any_cons, List.any_cons, any_py x r]
    rfl
theorem lf_inN {neg : Bool} : Lift2 K (rInN K neg) (oInN neg) := by
  intro w x y dx dy Q rh rx ry ⟨⟨fx, sx⟩, ⟨fy, sy⟩, ds, e, h⟩
  have h1 := Rep.dp dx fx rx
  have h2 := Rep.dp dy fy ry
  refine ⟨dx.py, dy.py, D.pyL ds, h1, h2, ?_, sx, sy, ?_⟩
  · rcases e with rfl | rfl
    · exact .inr rfl
    · exact .inl rfl
  · rw [any_py]
    exact PV.here rh h rep_mk_bl
theorem mn_inN {neg : Bool} : Mono2 (oInN neg) := fun x y M Q Q' q ⟨fx, fy, ds, e, h⟩ => ⟨fx, fy, ds, e, q _ _ h⟩
@[simp] theorem u_inN {neg : Bool} {x y : D} {M : MH} {Q : QE} : oInN neg x y M Q ↔ eqOk x ∧ eqOk y ∧ ∃ ds, (y = .tup ds ∨ y = .lst ds) ∧ Q (.bl (if neg then !inDD x ds else inDD x ds)) M := Iff.rfl
end MD
namespace MD
open PySem PySem.Spec PyProof.Rows L2
open AutoSeq1 (wpAny_loadPart')
theorem tuple_mul1 (l : Addr) (items : Array Value) (n : Nat) (sl : Array (Option Value)) (u : Tok) (dd : Option Addr) :
    Meets (Builtin.«tuple.__mul__» ⟨[.ref l, .int 1 u], []⟩) (fun _ R s => s.heap.get? l = some { cls := .type "tuple", dict := dd, data := .seq items n, slots := sl } ∧ R (.ok (.ret (Value.ref l))) s) :=
  .of_wp fun prog w A R s h => by
    obtain ⟨hp, g, d, tk, os⟩ := s
    obtain ⟨hl, h⟩ := h
    have f1 := AutoSeq1.idx_int
    have c0 : (decide ((1 : Int) < -(2 ^ 63)) || decide ((1 : Int) ≥ 2 ^ 63)) = false := by decide
    have c1 : (items.isEmpty || (1 : Int) == 1) = true := by simp
    wp_walk using wpAny_loadPart' hl
    exact ⟨_, rfl, h⟩
def rRepT1 (K : PySem.W.Frag) : R2 := fun x y H Q => ∃ l xs, x = .ref l ∧ y = .int 1 ∧ SqT K H l xs ∧ Q (.ref l) H
theorem op_repT1 {X : Cx} : OpR X (binaryOp .Mult) (rRepT1 X.K) := by
  intro pins s σ H x y v u Q I rx ry h
  obtain ⟨l, xs, rfl, rfl, hT, q⟩ := h
  cases rx
  obtain ⟨t, rfl⟩ := ry
  obtain ⟨its, r, ⟨⟨cls, dd, data, sl⟩, ho, hc, n, hd⟩, hs⟩ := I.tuple hT
  simp only at hc hd
  subst hc hd
  exact wpAny_binaryOp_repeat_ref (T := "tuple") (U := "int") (by decide) ⟨_, ho, rfl⟩ (fun s' => typeIs_int s' 1 t) noFill_tuple_mul F.fills_int_mul F.slot_int_rmul repeat_tuple F.slot_int_index.lookup
    (call_meets F.slot_int_rmul (typeIs_int s 1 t) F.entry_int_rmul (F.args_int_rmul_2 _ _) (int_rmul_tuple 1 t l its.toArray n dd sl)
      ⟨ho, rfl, ⟨_, ho, rfl⟩, call_meets F.slot_tuple_mul ⟨_, ho, rfl⟩ F.entry_tuple_mul (F.args_tuple_mul_2 _ _) (tuple_mul1 l its.toArray n sl t dd) ⟨ho, ⟨.ref l, H, I, rfl, q⟩⟩⟩)
/-- a tuple that is not empty, once or more -/
def oMulT : R2' := fun x y M Q => ∃ ds k, x = .tup ds ∧ y = .int k ∧ ds ≠ [] ∧ 1 ≤ k ∧ k ≤ 1000 ∧ ds.length ≤ 1000 ∧ Q (.tup (List.replicate k.toNat ds).flatten) M
abbrev rMulT (K : PySem.W.Frag) : R2 := fun x y H Q => rRepT1 K x y H Q ∨ rRepT K x y H Q
theorem op_mulT {X : Cx} : OpR X (binaryOp .Mult) (rMulT X.K) := OpR.or op_repT1 op_repT
theorem lf_mulT {K : PySem.W.Frag} : Lift2 K (rMulT K) oMulT := by
  intro w x y dx dy Q rh rx ry ⟨ds, k, e1, e2, hne, h1, h2, hl, q⟩
  subst e1 e2
  have ry := rep_int ry
  subst ry
  have rx0 := rx
  obtain ⟨a, xs, rfl, hs, hr⟩ := rx
  by_cases hk : k = 1
  · subst hk
    have ef : (List.replicate (1 : Int).toNat ds).flatten = ds := by
      show (List.replicate 1 ds).flatten = ds
      simp
    rw [ef] at q
    exact .inl ⟨a, xs, rfl, rfl, hs, PV.here rh q rx0⟩
  · refine .inr ⟨a, k, xs, rfl, rfl, hs, ?_, by omega, h2, by rw [hr.length]; exact hl, fun p hn => ?_⟩
    · intro e
      subst e
      have := hr.length
      exact hne (List.eq_nil_of_length_eq_zero (by simpa using this.symm))
    · exact q (.ref p) (w.new p (.tup (List.replicate k.toNat xs).flatten)) rfl (Le.new hn) (rh.new hn) (rep_new_tup rh hn (hr.replicate _))
theorem mn_mulT : Mono2 oMulT := fun x y M Q Q' q ⟨ds, k, e1, e2, h1, h2, h3, h4, h⟩ => ⟨ds, k, e1, e2, h1, h2, h3, h4, q _ _ h⟩
@[simp] theorem u_mulT {x y : D} {M : MH} {Q : QE} : oMulT x y M Q ↔ ∃ ds k, x = .tup ds ∧ y = .int k ∧ ds ≠ [] ∧ 1 ≤ k ∧ k ≤ 1000 ∧ ds.length ≤ 1000 ∧ Q (.tup (List.replicate k.toNat ds).flatten) M := Iff.rfl
end MD
namespace MD
open PySem PySem.Spec PyProof.Rows L2
open AutoSeq1 (wpAny_loadPart')
theorem tuple_mul0 (l : Addr) (items : Array Value) (n : Nat) (sl : Array (Option Value)) (u : Tok) (dd : Option Addr) (c1 : (items.isEmpty || (0 : Int) == 1) = false) :
    Meets (Builtin.«tuple.__mul__» ⟨[.ref l, .int 0 u], []⟩) (fun _ R s => s.heap.get? l = some { cls := .type "tuple", dict := dd, data := .seq items n, slots := sl } ∧
      R (.ok (.ret (Value.ref s.heap.objs.size))) { s with heap := s.heap.push { cls := Value.type "tuple", data := Data.seq #[] }, toks := s.toks }) :=
  .of_wp fun prog w A R s h => by
    obtain ⟨hp, g, d, tk, os⟩ := s
    obtain ⟨hl, h⟩ := h
    have f1 := AutoSeq1.idx_int
    have c0 : (decide ((0 : Int) < -(2 ^ 63)) || decide ((0 : Int) ≥ 2 ^ 63)) = false := by decide
    wp_walk using wpAny_loadPart' hl
    repeat (first
      | (refine wpAny_ite_false (decide_eq_false (by rw [c0]; exact Bool.false_ne_true)) ?_; wp_walk using wpAny_loadPart' hl)
      | (refine wpAny_ite_false (decide_eq_false (by rw [c1]; exact Bool.false_ne_true)) ?_; wp_walk using wpAny_loadPart' hl))
    exact ⟨_, rfl, h⟩
def rRepT0 (K : PySem.W.Frag) : R2 := fun x y H Q => ∃ l xs, x = .ref l ∧ y = .int 0 ∧ SqT K H l xs ∧ xs ≠ [] ∧ ∀ p, H p = none → Q (.ref p) (upd H p (.tup []))
theorem op_repT0 {X : Cx} : OpR X (binaryOp .Mult) (rRepT0 X.K) := by
  intro pins s σ H x y v u Q I rx ry h
  obtain ⟨l, xs, rfl, rfl, hT, hne, q⟩ := h
  cases rx
  obtain ⟨t, rfl⟩ := ry
  obtain ⟨its, r, ⟨⟨cls, dd, data, sl⟩, ho, hc, n, hd⟩, hs⟩ := I.tuple hT
  simp only at hc hd
  subst hc hd
  have c1 : (its.toArray.isEmpty || (0 : Int) == 1) = false := by
    have hle : its.length = xs.length := r.length.symm
    cases its with
    | nil => exact absurd (List.eq_nil_of_length_eq_zero hle.symm) hne
    | cons a b => rfl
  have kp : ∀ b o, s.heap.get? b = some o → (s.heap.push { cls := Value.type "tuple", data := Data.seq #[] }).get? b = some o := fun b o e => Heap.get?_push_of_some _ e
  have I2 : L2.Inv X pins σ (upd H s.heap.objs.size (.tup [])) { s with heap := s.heap.push { cls := Value.type "tuple", data := Data.seq #[] } } :=
    I.laid (t' := s.toks) kp (Nat.le_refl _) (show ObjOk X.prog X.w _ _ _ (.tup []) from ⟨Nat.zero_le _, [], .nil, ⟨_, Heap.get?_push_at rfl rfl, rfl, 0, rfl⟩⟩)
  exact wpAny_binaryOp_repeat_ref (T := "tuple") (U := "int") (by decide) ⟨_, ho, rfl⟩ (fun s' => typeIs_int s' 0 t) noFill_tuple_mul F.fills_int_mul F.slot_int_rmul repeat_tuple F.slot_int_index.lookup
    (call_meets F.slot_int_rmul (typeIs_int s 0 t) F.entry_int_rmul (F.args_int_rmul_2 _ _) (int_rmul_tuple 0 t l its.toArray n dd sl)
      ⟨ho, rfl, ⟨_, ho, rfl⟩, call_meets F.slot_tuple_mul ⟨_, ho, rfl⟩ F.entry_tuple_mul (F.args_tuple_mul_2 _ _) (tuple_mul0 l its.toArray n sl t dd c1) ⟨ho, ⟨.ref s.heap.objs.size, _, I2, rfl, q _ (I.hok.fresh (Nat.le_refl _))⟩⟩⟩)
/-- a tuple that is not empty, no time or more -/
def oMulT0 : R2' := fun x y M Q => ∃ ds k, x = .tup ds ∧ y = .int k ∧ ds ≠ [] ∧ 0 ≤ k ∧ k ≤ 1000 ∧ ds.length ≤ 1000 ∧ Q (.tup (List.replicate k.toNat ds).flatten) M
abbrev rMulT0 (K : PySem.W.Frag) : R2 := fun x y H Q => rRepT0 K x y H Q ∨ rMulT K x y H Q
theorem op_mulT0 {X : Cx} : OpR X (binaryOp .Mult) (rMulT0 X.K) := OpR.or op_repT0 op_mulT
theorem lf_mulT0 {K : PySem.W.Frag} : Lift2 K (rMulT0 K) oMulT0 := by
  intro w x y dx dy Q rh rx ry ⟨ds, k, e1, e2, hne, h1, h2, hl, q⟩
  by_cases hk : k = 0
  · subst e1 e2 hk
    have ry := rep_int ry
    subst ry
    obtain ⟨a, xs, rfl, hs, hr⟩ := rx
    refine .inl ⟨a, xs, rfl, rfl, hs, ?_, fun p hn => ?_⟩
    · intro e
      subst e
      have := hr.length
      exact hne (List.eq_nil_of_length_eq_zero (by simpa using this.symm))
    · exact q (.ref p) (w.new p (.tup [])) rfl (Le.new hn) (rh.new hn) (rep_new_tup (ds := []) rh hn rfl)
  · exact .inr (lf_mulT w x y dx dy Q rh rx ry ⟨ds, k, e1, e2, hne, by omega, h2, hl, q⟩)
theorem mn_mulT0 : Mono2 oMulT0 := fun x y M Q Q' q ⟨ds, k, e1, e2, h1, h2, h3, h4, h⟩ => ⟨ds, k, e1, e2, h1, h2, h3, h4, q _ _ h⟩
@[simp] theorem u_mulT0 {x y : D} {M : MH} {Q : QE} : oMulT0 x y M Q ↔ ∃ ds k, x = .tup ds ∧ y = .int k ∧ ds ≠ [] ∧ 0 ≤ k ∧ k ≤ 1000 ∧ ds.length ≤ 1000 ∧ Q (.tup (List.replicate k.toNat ds).flatten) M := Iff.rfl
end MD
/-! dict(a list of pairs): a dict of which nothing more is asked than its type. -/
namespace MD
open PySem PySem.Spec PyProof.Rows L2
variable {K : PySem.W.Frag} {w w1 w2 : Wd} {X : Cx} {W : WX} {e a b c : Expr} {pos : Pos}
def isKv (d : D) : Bool := match d with
  | .tup [.int _, _] => true
  | .tup [.str _, _] => true
  | _ => false
abbrev rDictP (K : PySem.W.Frag) : List V → Hp → VK → Prop := fun xs H Q => ∃ (a : Addr) (ps : List Addr) (kvs : List (Key × V)), xs = [.ref a] ∧ SqL K H a (ps.map V.ref) ∧ Paired (fun p kv => SqT K H p [kV kv.1, kv.2]) ps kvs ∧
    ∀ p, H p = none → Q (.ref p) (upd H p (.dK (mergeK [] kvs)))
def cDict : RA' := fun ds M Q => ∃ es, ds = [.lst es] ∧ es.all isKv = true ∧ Q .dct M
theorem mr_dict : MonoR cDict := fun ds M Q Q' q ⟨es, e, e1, h⟩ => ⟨es, e, e1, q _ _ h⟩
theorem kvs_rep (rh : RH K w) : ∀ {es : List D} {ys : List V}, es.all isKv = true → RepL K w es ys → ∃ (ps : List Addr) (kvs : List (Key × V)), ys = ps.map V.ref ∧ Paired (fun p kv => SqT K w.H p [kV kv.1, kv.2]) ps kvs
  | [], ys, _, h => by
    have h : ys = [] := h
    subst h
    exact ⟨[], [], rfl, .nil⟩
  | d :: es, ys, hk, h => by
    obtain ⟨y, r, rfl, h1, h2⟩ := h
    rw [List.all_cons, Bool.and_eq_true] at hk
    obtain ⟨ps, kvs, rfl, hp⟩ := kvs_rep rh hk.2 h2
    have hd := hk.1
    have step : ∀ (k v : D) (key : Key), d = .tup [k, v] → (∀ x, Rep K w k x → x = kV key) → ∃ (ps' : List Addr) (kvs' : List (Key × V)), y :: ps.map V.ref = ps'.map V.ref ∧ Paired (fun p kv => SqT K w.H p [kV kv.1, kv.2]) ps' kvs' := by
      rintro k v key rfl hkey
      obtain ⟨a, xs, rfl, hs, hr⟩ := h1
      obtain ⟨x1, x2, rfl, r1, r2⟩ := rep2 hr
      rw [hkey _ r1] at hs
      exact ⟨a :: ps, (key, x2) :: kvs, rfl, .cons hs hp⟩
    unfold isKv at hd
    split at hd
    · exact step _ _ (.inl _) rfl fun x hx => by simpa [Rep, kV] using hx
    · exact step _ _ (.inr _) rfl fun x hx => by simpa [Rep, kV] using hx
    · cases hd
theorem la_dict : LiftA K (rDictP K) cDict := by
  intro w xs ds Q rh r ⟨es, e, e1, q⟩
  subst e
  obtain ⟨v, rfl, rv⟩ := rep1 r
  obtain ⟨a, ys, rfl, hy, nl, nr, hr⟩ := rv
  obtain ⟨ps, kvs, rfl, hp⟩ := kvs_rep rh e1 hr
  refine ⟨a, ps, kvs, rfl, SqL.of hy, hp, fun p hnp => ?_⟩
  refine q (.ref p) (w.new p (.dK (mergeK [] kvs))) rfl (Le.new hnp) (rh.new hnp) ?_
  exact ⟨p, _, rfl, upd_same, fun z => rh.not_live_new hnp z, rh.not_r_new hnp⟩
@[simp] theorem u_dict {ds : List D} {M : MH} {Q : QE} : cDict ds M Q ↔ ∃ es, ds = [.lst es] ∧ es.all isKv = true ∧ Q .dct M := Iff.rfl
end MD
namespace MD
open PySem PySem.Spec PyProof.Rows L2
variable {K : PySem.W.Frag}
/-- x in a sequence, a cell too -/
def oInC (neg : Bool) : R2' := fun x y M Q => x.fl = true ∧ ∃ ds, seqOf y M = some ds ∧ ds.all D.fl = true ∧ Q (.bl (if neg then !inD x ds else inD x ds)) M
theorem lf_inC {neg : Bool} : Lift2 K (rIn K neg) (oInC neg) := by
  intro w x y dx dy Q rh rx ry ⟨fx, ds, e, fs, h⟩
  obtain ⟨rfl, h2⟩ := rep_sv fx rx
  obtain ⟨a, xs, rfl, hx, hr⟩ := seqOf_rep rh ry e
  obtain ⟨rfl, h4⟩ := repL_sv fs hr
  exact ⟨a, _, rfl, hx, h2, h4, PV.here rh h rep_mk_bl⟩
theorem mn_inC {neg : Bool} : Mono2 (oInC neg) := fun x y M Q Q' q ⟨fx, ds, e, fs, h⟩ => ⟨fx, ds, e, fs, q _ _ h⟩
@[simp] theorem u_inC {neg : Bool} {x y : D} {M : MH} {Q : QE} : oInC neg x y M Q ↔ x.fl = true ∧ ∃ ds, seqOf y M = some ds ∧ ds.all D.fl = true ∧ Q (.bl (if neg then !inD x ds else inD x ds)) M := Iff.rfl
end MD
/-! what the program asks of data of any kind: is it a number, an interval, an entry, a duration, a column, a bar. -/
namespace Kc
open MD L2 PySem Kit
mutual
/-- no cell in it -/
def clean : D → Bool
  | .non => true
  | .bl _ => true
  | .int _ => true
  | .str _ => true
  | .dct => true
  | .tup ds => decide (ds.length ≤ sizeLine) && cleanL ds
  | .lst ds => decide (ds.length ≤ sizeLine) && cleanL ds
  | _ => false
def cleanL : List D → Bool
  | [] => true
  | d :: ds => clean d && cleanL ds
end
theorem cleanL_mem : ∀ {ds : List D} {d : D}, cleanL ds = true → d ∈ ds → clean d = true
  | [], _, _, h => nomatch h
  | e :: r, d, hp, h => by
    unfold cleanL at hp
    rw [Bool.and_eq_true] at hp
    rcases List.mem_cons.mp h with rfl | h
    · exact hp.1
    · exact cleanL_mem hp.2 h
/-- the items of a tuple or list -/
def sq2 : D → Option (List D)
  | .tup ds => some ds
  | .lst ds => some ds
  | _ => none
def wholeB : D → Bool
  | .int _ => true
  | _ => false
def blB : D → Bool
  | .bl _ => true
  | _ => false
def absLe (n : Int) : D → Bool
  | .int i => decide (-n ≤ i ∧ i ≤ n)
  | _ => false
def intvB (d : D) : Bool := match sq2 d with
  | some [a, b] => absLe 1000 a && absLe 1000 b
  | _ => false
def frac2 : D → D → Bool
  | .int a, .int b => decide (0 < b ∧ Int.gcd a b = 1)
  | _, _ => false
def fracB (d : D) : Bool := match sq2 d with
  | some [a, b] => frac2 a b
  | _ => false
def dur2 : D → D → Bool
  | .int a, .int b => decide (0 < a ∧ a ≤ 1000 ∧ b ≤ 1000)
  | _, _ => false
def durB (d : D) : Bool := match sq2 d with
  | some [a, b] => frac2 a b && dur2 a b
  | _ => false
def entB : D → Bool
  | .non => true
  | d => match sq2 d with
    | some [x, b] => intvB x && blB b
    | _ => false
def accB : D → Bool
  | .int i => decide (0 ≤ i ∧ i ≤ 9)
  | _ => false
def vBad : Option Nat → Nat → Bool
  | some n, k => decide (k ≠ n)
  | none, _ => false
/-- the word of what is wrong with a column -/
def fltD (c : D) (v : Option Nat) : Option Str := match sq2 c with
  | some [dur, acc, es] => if durB dur = false then some "duration" else if accB acc = false then some "accent" else match sq2 es with
    | none => some "voices"
    | some l => if ¬ (1 ≤ l.length ∧ l.length ≤ 4) then some "voices" else if vBad v l.length = true then some "voices" else if l.all entB = false then some "entry" else none
  | _ => some "column"
/-- how many voices a column has -/
def vcs (c : D) : Nat := match sq2 c with
  | some [_, _, es] => (match sq2 es with | some l => l.length | none => 0)
  | _ => 0
/-- the first wrong column, from a number on -/
def scan : Nat → Option Nat → List D → Option (Nat × Str)
  | _, _, [] => none
  | i, v, c :: r => match fltD c v with
    | some w => some (i, w)
    | none => scan (i + 1) (some (vcs c)) r
/-- what is wrong with a bar -/
def chk (d : D) : Option (Lit × Str) := match sq2 d with
  | none => some (.non, "count")
  | some cs => if ¬ (1 ≤ cs.length ∧ cs.length ≤ 64) then some (.non, "count") else (scan 0 none cs).map fun p => (.int p.1, p.2)
def optN : Option Nat → D
  | some n => .int (n : Int)
  | none => .non
def optS : Option Str → D
  | some x => .str x
  | none => .non
def sp_is_whole : SpD := fun ds M Q _ => ∃ d, ds = [d] ∧ clean d = true ∧ Q (.bl (wholeB d)) M
theorem mono_is_whole : MonoP sp_is_whole := fun ds M Q Q' E E' q x ⟨d, e, h1, h⟩ => ⟨d, e, h1, q _ _ h⟩
theorem len_is_whole (ds M Q E) (h : sp_is_whole ds M Q E) : ds.length = 1 := by obtain ⟨_, rfl, _⟩ := h; rfl
def sp_is_interval : SpD := fun ds M Q _ => ∃ d, ds = [d] ∧ clean d = true ∧ Q (.bl (intvB d)) M
theorem mono_is_interval : MonoP sp_is_interval := fun ds M Q Q' E E' q x ⟨d, e, h1, h⟩ => ⟨d, e, h1, q _ _ h⟩
theorem len_is_interval (ds M Q E) (h : sp_is_interval ds M Q E) : ds.length = 1 := by obtain ⟨_, rfl, _⟩ := h; rfl
def sp_is_entry : SpD := fun ds M Q _ => ∃ d, ds = [d] ∧ clean d = true ∧ Q (.bl (entB d)) M
theorem mono_is_entry : MonoP sp_is_entry := fun ds M Q Q' E E' q x ⟨d, e, h1, h⟩ => ⟨d, e, h1, q _ _ h⟩
theorem len_is_entry (ds M Q E) (h : sp_is_entry ds M Q E) : ds.length = 1 := by obtain ⟨_, rfl, _⟩ := h; rfl
def sp_is_duration : SpD := fun ds M Q _ => ∃ d, ds = [d] ∧ clean d = true ∧ Q (.bl (durB d)) M
theorem mono_is_duration : MonoP sp_is_duration := fun ds M Q Q' E E' q x ⟨d, e, h1, h⟩ => ⟨d, e, h1, q _ _ h⟩
theorem len_is_duration (ds M Q E) (h : sp_is_duration ds M Q E) : ds.length = 1 := by obtain ⟨_, rfl, _⟩ := h; rfl
def sp_is_fraction : SpD := fun ds M Q _ => ∃ d, ds = [d] ∧ clean d = true ∧ Q (.bl (fracB d)) M
theorem mono_is_fraction : MonoP sp_is_fraction := fun ds M Q Q' E E' q x ⟨d, e, h1, h⟩ => ⟨d, e, h1, q _ _ h⟩
theorem len_is_fraction (ds M Q E) (h : sp_is_fraction ds M Q E) : ds.length = 1 := by obtain ⟨_, rfl, _⟩ := h; rfl
def sp_fault : SpD := fun ds M Q _ => ∃ d v, ds = [d, optN v] ∧ clean d = true ∧ Q (optS (fltD d v)) M
theorem mono_fault : MonoP sp_fault := fun ds M Q Q' E E' q x ⟨d, v, e, h1, h⟩ => ⟨d, v, e, h1, q _ _ h⟩
theorem len_fault (ds M Q E) (h : sp_fault ds M Q E) : ds.length = 2 := by obtain ⟨_, _, rfl, _⟩ := h; rfl
def sp_check_bar : SpD := fun ds M Q E => ∃ d, ds = [d] ∧ clean d = true ∧ ((∃ cs cols, sq2 d = some cs ∧ chk d = none ∧ RelL ColL cs cols ∧ (∀ c ∈ cols, c.es.length ≤ 64) ∧ Q (.tup (cols.map colD)) M) ∨ ∃ l w, chk d = some (l, w) ∧ E ⟨"BadColumn", [("reason", .str w), ("number", l)]⟩ M)
theorem mono_check_bar : MonoP sp_check_bar := fun ds M Q Q' E E' q x ⟨d, e, h1, h⟩ => ⟨d, e, h1, h.imp (fun ⟨cs, cols, a, b, c, c2, h⟩ => ⟨cs, cols, a, b, c, c2, q _ _ h⟩) fun ⟨l, w, a, h⟩ => ⟨l, w, a, x _ _ h⟩⟩
theorem len_check_bar (ds M Q E) (h : sp_check_bar ds M Q E) : ds.length = 1 := by obtain ⟨_, rfl, _⟩ := h; rfl
abbrev N_is_whole : List Str := ["value"]
abbrev N_is_interval : List Str := ["value", "part"]
abbrev N_is_entry : List Str := ["value"]
abbrev N_is_duration : List Str := ["value"]
abbrev N_is_fraction : List Str := ["value", "part"]
abbrev N_fault : List Str := ["column", "voices", "duration", "accent", "entries", "entry"]
abbrev N_check_bar : List Str := ["columns", "voices", "number", "column", "reason"]
def r_is_whole : TS' := (tRet' (tAndV' (tCB' cIsi (tCons' (tVar' 0) (tCons' (tC' (.con (.ty "int"))) tNil'))) (tNotV' (tCB' cIsi (tCons' (tVar' 0) (tCons' (tC' (.con (.ty "bool"))) tNil'))))))
def r_is_interval : TS' := (tSeq' (tIfS' (tOr' (tNot' (tTru' (tCB' cIsiT (tCons' (tVar' 0) (tCons' (tTup' (tCons' (tC' (.con (.ty "tuple"))) (tCons' (tC' (.con (.ty "list"))) tNil'))) tNil'))))) (tB' (tOp' (oEq true) (tCB' cLen (tCons' (tVar' 0) tNil')) (tC' (.int 2))))) (tRet' (tC' (.bl false))) tNext')
    (tRet' (tCB' (cBls fun bs => bs.all id) (tCons' (tLc' false (tIt' (tVar' 0)) (gName' 1) tYes' (tAndV' (tCall' sp_is_whole (tCons' (tVar' 1) tNil')) (tOp' (oI0 fun i j => .bl (decide (i ≤ j))) (tCB' (cI1 fun i => .int (if i < 0 then -i else i)) (tCons' (tVar' 1) tNil')) (tC' (.int 1000)))) [1]) tNil'))))
def r_is_entry : TS' := (tSeq' (tIfS' (tB' (tOp' (oIsN' false) (tVar' 0) (tC' .non))) (tRet' (tC' (.bl true))) tNext')
    (tSeq' (tIfS' (tOr' (tNot' (tTru' (tCB' cIsiT (tCons' (tVar' 0) (tCons' (tTup' (tCons' (tC' (.con (.ty "tuple"))) (tCons' (tC' (.con (.ty "list"))) tNil'))) tNil'))))) (tB' (tOp' (oEq true) (tCB' cLen (tCons' (tVar' 0) tNil')) (tC' (.int 2))))) (tRet' (tC' (.bl false))) tNext')
    (tRet' (tAndV' (tCall' sp_is_interval (tCons' (tOp' oIx (tVar' 0) (tC' (.int 0))) tNil')) (tCB' cIsi (tCons' (tOp' oIx (tVar' 0) (tC' (.int 1))) (tCons' (tC' (.con (.ty "bool"))) tNil')))))))
def r_is_duration : TS' := (tRet' (tAndV' (tCall' sp_is_fraction (tCons' (tVar' 0) tNil')) (tAndV' (tChain' (oI0 fun i j => .bl (decide (i < j))) (oI0 fun i j => .bl (decide (i ≤ j))) (tC' (.int 0)) (tOp' oIx (tVar' 0) (tC' (.int 0))) (tC' (.int 1000))) (tOp' (oI0 fun i j => .bl (decide (i ≤ j))) (tOp' oIx (tVar' 0) (tC' (.int 1))) (tC' (.int 1000))))))
def r_is_fraction : TS' := (tSeq' (tIfS' (tOr' (tNot' (tTru' (tCB' cIsiT (tCons' (tVar' 0) (tCons' (tTup' (tCons' (tC' (.con (.ty "tuple"))) (tCons' (tC' (.con (.ty "list"))) tNil'))) tNil'))))) (tB' (tOp' (oEq true) (tCB' cLen (tCons' (tVar' 0) tNil')) (tC' (.int 2))))) (tRet' (tC' (.bl false))) tNext')
    (tSeq' (tIfS' (tTru' (tCB' (cBls fun bs => bs.any id) (tCons' (tLc' false (tIt' (tVar' 0)) (gName' 1) tYes' (tOrV' (tCB' cIsi (tCons' (tVar' 1) (tCons' (tC' (.con (.ty "bool"))) tNil'))) (tNotV' (tCB' cIsi (tCons' (tVar' 1) (tCons' (tC' (.con (.ty "int"))) tNil'))))) [1]) tNil'))) (tRet' (tC' (.bl false))) tNext')
    (tRet' (tAndV' (tOp' (oI0 fun i j => .bl (decide (j < i))) (tOp' oIx (tVar' 0) (tC' (.int 1))) (tC' (.int 0))) (tOp' (oEq false) (tCB' (cI2 fun i j => .int ((Nat.gcd i.natAbs j.natAbs : Nat) : Int)) (tCons' (tOp' oIx (tVar' 0) (tC' (.int 0))) (tCons' (tOp' oIx (tVar' 0) (tC' (.int 1))) tNil'))) (tC' (.int 1)))))))
def r_fault : TS' := (tSeq' (tIfS' (tOr' (tNot' (tTru' (tCB' cIsiT (tCons' (tVar' 0) (tCons' (tTup' (tCons' (tC' (.con (.ty "tuple"))) (tCons' (tC' (.con (.ty "list"))) tNil'))) tNil'))))) (tB' (tOp' (oEq true) (tCB' cLen (tCons' (tVar' 0) tNil')) (tC' (.int 3))))) (tRet' (tC' (.str "column"))) tNext')
    (tSeq' (tAsg' (tVar' 0) (gTup' 3 [(gName' 2), (gName' 3), (gName' 4)]))
    (tSeq' (tIfS' (tNot' (tTru' (tCall' sp_is_duration (tCons' (tVar' 2) tNil')))) (tRet' (tC' (.str "duration"))) tNext')
    (tSeq' (tIfS' (tOr' (tNot' (tTru' (tCall' sp_is_whole (tCons' (tVar' 3) tNil')))) (tNot' (tB' (tChain' (oI0 fun i j => .bl (decide (i ≤ j))) (oI0 fun i j => .bl (decide (i ≤ j))) (tC' (.int 0)) (tVar' 3) (tC' (.int 9)))))) (tRet' (tC' (.str "accent"))) tNext')
    (tSeq' (tIfS' (tOr' (tNot' (tTru' (tCB' cIsiT (tCons' (tVar' 4) (tCons' (tTup' (tCons' (tC' (.con (.ty "tuple"))) (tCons' (tC' (.con (.ty "list"))) tNil'))) tNil'))))) (tNot' (tB' (tChain' (oI0 fun i j => .bl (decide (i ≤ j))) (oI0 fun i j => .bl (decide (i ≤ j))) (tC' (.int 1)) (tCB' cLen (tCons' (tVar' 4) tNil')) (tC' (.int 4)))))) (tRet' (tC' (.str "voices"))) tNext')
    (tSeq' (tIfS' (tAnd' (tB' (tOp' (oIsN' true) (tVar' 1) (tC' .non))) (tB' (tOp' (oEq true) (tCB' cLen (tCons' (tVar' 4) tNil')) (tVar' 1)))) (tRet' (tC' (.str "voices"))) tNext')
    (tSeq' (tIfS' (tNot' (tTru' (tCB' (cBls fun bs => bs.all id) (tCons' (tLc' false (tIt' (tVar' 4)) (gName' 5) tYes' (tCall' sp_is_entry (tCons' (tVar' 5) tNil')) [5]) tNil')))) (tRet' (tC' (.str "entry"))) tNext')
    (tRet' (tC' .non)))))))))
def r_check_bar : TS' := (tSeq' (tIfS' (tOr' (tNot' (tTru' (tCB' cIsiT (tCons' (tVar' 0) (tCons' (tTup' (tCons' (tC' (.con (.ty "tuple"))) (tCons' (tC' (.con (.ty "list"))) tNil'))) tNil'))))) (tNot' (tB' (tChain' (oI0 fun i j => .bl (decide (i ≤ j))) (oI0 fun i j => .bl (decide (i ≤ j))) (tC' (.int 1)) (tCB' cLen (tCons' (tVar' 0) tNil')) (tC' (.int 64)))))) (tRaise' (tMkI' "BadColumn" ["number", "reason"] (tCons' (tC' .non) (tCons' (tC' (.str "count")) tNil')))) tNext')
    (tSeq' (tAsg' (tC' .non) (gName' 1))
    (tSeq' (tFor' (tEnum2' (tCons' (tVar' 0) tNil')) (gTup' 2 [(gName' 2), (gName' 3)]) (tSeq' (tAsg' (tCall' sp_fault (tCons' (tVar' 3) (tCons' (tVar' 1) tNil'))) (gName' 4))
    (tSeq' (tIfS' (tB' (tOp' (oIsN' true) (tVar' 4) (tC' .non))) (tRaise' (tMkI' "BadColumn" ["number", "reason"] (tCons' (tVar' 2) (tCons' (tVar' 4) tNil')))) tNext')
    (tAsg' (tCB' cLen (tCons' (tOp' oIx (tVar' 3) (tC' (.int 2))) tNil')) (gName' 1)))))
    (tRet' (tCB' cTuple (tCons' (tLc' false (tIt' (tVar' 0)) (gName' 3) tYes' (tCall' sp_settled (tCons' (tVar' 3) tNil')) [3]) tNil'))))))
/-! facts about clean data -/
theorem hz : (sizeLine : Nat) = 16777216 := by decide
def isSeq (d : D) : Bool := (sq2 d).isSome
theorem ty_clean {d : D} {M : MH} (h : clean d = true) : ∃ n, tyStr d M = some n ∧ ((subTy n "tuple" = true ∨ subTy n "list" = true) ↔ isSeq d = true) ∧ (subTy n "int" = (wholeB d || blB d)) ∧ subTy n "bool" = blB d := by
  cases d with
  | non => exact ⟨_, rfl, by decide, rfl, rfl⟩
  | bl b => exact ⟨_, rfl, by show _ ↔ false = true; decide, rfl, rfl⟩
  | int b => exact ⟨_, rfl, by show _ ↔ false = true; decide, rfl, rfl⟩
  | str b => exact ⟨_, rfl, by show _ ↔ false = true; decide, rfl, rfl⟩
  | dct => exact ⟨_, rfl, by decide, rfl, rfl⟩
  | tup ds => exact ⟨_, rfl, by show _ ↔ true = true; decide, rfl, rfl⟩
  | lst ds => exact ⟨_, rfl, by show _ ↔ true = true; decide, rfl, rfl⟩
  | _ => cases h
/-- a tuple or list, or none of both -/
theorem seq_cases {d : D} (h : clean d = true) (M : MH) : (isSeq d = false ∧ sq2 d = none) ∨ ∃ ds, isSeq d = true ∧ sq2 d = some ds ∧ ds.length ≤ sizeLine ∧ cleanL ds = true ∧ seqOf d M = some ds ∧ (∀ R : ItD → MH → Prop, seqD d M R ↔ R ⟨ds, none⟩ M) ∧ lenD d M = some ds.length ∧ (∀ z, d ≠ .str z) ∧ (d ≠ .non) := by
  cases d with
  | tup ds =>
    unfold clean at h
    rw [Bool.and_eq_true] at h
    exact .inr ⟨ds, rfl, rfl, of_decide_eq_true h.1, h.2, rfl, fun _ => Iff.rfl, rfl, nofun, nofun⟩
  | lst ds =>
    unfold clean at h
    rw [Bool.and_eq_true] at h
    exact .inr ⟨ds, rfl, rfl, of_decide_eq_true h.1, h.2, rfl, fun _ => Iff.rfl, rfl, nofun, nofun⟩
  | non => exact .inl ⟨rfl, rfl⟩
  | bl b => exact .inl ⟨rfl, rfl⟩
  | int b => exact .inl ⟨rfl, rfl⟩
  | str b => exact .inl ⟨rfl, rfl⟩
  | dct => exact .inl ⟨rfl, rfl⟩
  | _ => cases h
theorem math_is_whole (ds M Q E) (hM : WFM M) (hb : D.belL M.length ds = true) (h : sp_is_whole ds M Q E) : r_is_whole (retE M.length Q E) (startD N_is_whole ds) M := by
  obtain ⟨d, rfl, hc, q⟩ := h
  obtain ⟨n, h1, h2, h3, h4⟩ := ty_clean (M := M) hc
  simp [r_is_whole, startD, h1, h3, h4, popM_same]
  cases d <;> first | (cases hc; done) | simpa [wholeB, blB, popM_same] using q
/-- not of the right length, or no sequence -/
theorem two_cases {d : D} (n : Nat) (h : clean d = true) (M : MH) : (∀ ds, sq2 d = some ds → ds.length ≠ n) ∨ ∃ ds, sq2 d = some ds ∧ ds.length = n := by
  cases hs : sq2 d with
  | none => exact .inl nofun
  | some ds =>
    by_cases hl : ds.length = n
    · exact .inr ⟨ds, rfl, hl⟩
    · exact .inl fun ds' e => by cases e; exact hl
theorem len2 {ds : List D} (h : ds.length = 2) : ∃ a b, ds = [a, b] := by
  match ds, h with
  | [a, b], _ => exact ⟨a, b, rfl⟩
theorem len3 {ds : List D} (h : ds.length = 3) : ∃ a b c, ds = [a, b, c] := by
  match ds, h with
  | [a, b, c], _ => exact ⟨a, b, c, rfl⟩
theorem clean2 {a b : D} (h : cleanL [a, b] = true) : clean a = true ∧ clean b = true := ⟨cleanL_mem h (by simp), cleanL_mem h (by simp)⟩
theorem clean3 {a b c : D} (h : cleanL [a, b, c] = true) : clean a = true ∧ clean b = true ∧ clean c = true := ⟨cleanL_mem h (by simp), cleanL_mem h (by simp), cleanL_mem h (by simp)⟩
/-- [test of x for x in ..], all and any of it -/
theorem lc_bool {te : TE'} {i : Nat} {vs : List Nat} {δ : EnvD} {M : MH} {f : List Bool → Bool} {R : QE} (p : D → Bool) (ds : List D) (hl : ds.length ≤ sizeLine)
    (h : ∀ d ∈ ds, ∀ Q' : QE, Q' (.bl (p d)) M → te ((wipeD δ vs).set i (some d)) M Q' (fun _ _ => False)) (q : R (.bl (f (ds.map p))) M) :
    lcL ⟨ds, none⟩ (gName' i) tYes' te vs δ (fun acc M2 => ∃ x, blsD acc = some x ∧ R (.bl (f x)) M2) ds [] M := by
  refine lcL_map (fun d => .bl (p d)) (by exact trivial) ds [] h (by simpa using hl) ?_
  rw [List.nil_append]
  refine ⟨ds.map p, ?_, q⟩
  rw [show ds.map (fun d => D.bl (p d)) = (ds.map p).map D.bl from by rw [List.map_map]; rfl]
  exact blsD_bl _
theorem math_is_interval (ds M Q E) (hM : WFM M) (hb : D.belL M.length ds = true) (h : sp_is_interval ds M Q E) : r_is_interval (retE M.length Q E) (startD N_is_interval ds) M := by
  obtain ⟨d, rfl, hc, q⟩ := h
  obtain ⟨n, h1, h2, h3, h4⟩ := ty_clean (M := M) hc
  have q : (retE M.length Q E).rt (.bl (intvB d)) M := by show Q _ (popM _ _ _); rw [popM_same (Nat.le_refl _)]; exact q
  unfold r_is_interval
  refine seq_step fun S hS => ?_
  simp [startD, h1, h2]
  rcases seq_cases hc M with ⟨e1, e2⟩ | ⟨xs, e1, e2, e3, e4, e5, hit, e6, e7, e8⟩
  · refine ⟨by rw [hz]; decide, ?_⟩
    rw [e1, if_neg (by decide)]
    have : intvB d = false := by unfold intvB; rw [e2]
    rw [this] at q
    exact q
  · refine ⟨by rw [hz]; decide, ?_⟩
    rw [e1, if_pos rfl]
    simp [e6, e7]
    by_cases hl : xs.length = 2
    · obtain ⟨a, b, rfl⟩ := len2 hl
      rw [if_pos (by rfl)]
      obtain ⟨ca, cb⟩ := clean2 e4
      subst hS
      simp [hit]
      refine lc_bool (R := (retE M.length Q E).rt) (f := fun bs => bs.all id) (absLe 1000) [a, b] (by rw [hz]; simp) (fun d hd Q' q' => ?_) ?_
      · simp [wipeD]
        have hcd : clean d = true := cleanL_mem e4 hd
        refine ⟨d, rfl, hcd, ?_⟩
        cases d with
        | int i =>
          simp [wholeB]
          rw [show decide ((if i < 0 then -i else i) ≤ 1000) = absLe 1000 (.int i) from by unfold absLe; rw [decide_eq_decide]; split <;> omega]
          exact q'
        | _ => exact q'
      · have : intvB d = [a, b].all (absLe 1000) := by unfold intvB; rw [e2]; simp
        rw [this] at q
        exact q
    · rw [if_neg (by omega)]
      have : intvB d = false := by
        unfold intvB
        rw [e2]
        split
        · rename_i e; cases e; exact absurd rfl hl
        · rfl
      rw [this] at q
      exact q
theorem math_is_fraction (ds M Q E) (hM : WFM M) (hb : D.belL M.length ds = true) (h : sp_is_fraction ds M Q E) : r_is_fraction (retE M.length Q E) (startD N_is_fraction ds) M := by
  obtain ⟨d, rfl, hc, q⟩ := h
  obtain ⟨n, h1, h2, h3, h4⟩ := ty_clean (M := M) hc
  have q : (retE M.length Q E).rt (.bl (fracB d)) M := by show Q _ (popM _ _ _); rw [popM_same (Nat.le_refl _)]; exact q
  unfold r_is_fraction
  refine seq_step fun S hS => ?_
  simp [startD, h1, h2]
  rcases seq_cases hc M with ⟨e1, e2⟩ | ⟨xs, e1, e2, e3, e4, e5, hit, e6, e7, e8⟩
  · refine ⟨by rw [hz]; decide, ?_⟩
    rw [e1, if_neg (by decide)]
    have : fracB d = false := by unfold fracB; rw [e2]
    rw [this] at q
    exact q
  · refine ⟨by rw [hz]; decide, ?_⟩
    rw [e1, if_pos rfl]
    simp [e6, e7]
    by_cases hl : xs.length = 2
    · obtain ⟨a, b, rfl⟩ := len2 hl
      rw [if_pos (by rfl)]
      obtain ⟨ca, cb⟩ := clean2 e4
      have hfr : fracB d = frac2 a b := by unfold fracB; rw [e2]
      rw [hfr] at q
      subst hS
      refine seq_step fun S hS => ?_
      simp [hit]
      refine lcL_map (fun d => .bl (!wholeB d)) (by exact trivial) [a, b] [] ?_ (by rw [hz]; simp) ?_
      · intro d hd Q' q'
        have hcd : clean d = true := cleanL_mem e4 hd
        obtain ⟨m, k1, k2, k3, k4⟩ := ty_clean (M := M) hcd
        simp [wipeD, k1, k3, k4]
        cases d <;> first | (cases hcd; done) | simpa [wholeB, blB] using q'
      · rw [List.nil_append]
        refine ⟨[!wholeB a, !wholeB b], rfl, ?_⟩
        by_cases hw : wholeB a = true ∧ wholeB b = true
        · rw [if_neg (by simp [hw.1, hw.2])]
          obtain ⟨i, rfl⟩ : ∃ i, a = .int i := by cases a <;> first | exact ⟨_, rfl⟩ | (cases hw.1; done)
          obtain ⟨j, rfl⟩ : ∃ j, b = .int j := by cases b <;> first | exact ⟨_, rfl⟩ | (cases hw.2; done)
          subst hS
          simp [e5, e7]
          by_cases hj : 0 < j
          · rw [if_pos hj]
            have : frac2 (.int i) (.int j) = decide (((Nat.gcd i.natAbs j.natAbs : Nat) : Int) = 1) := by
              unfold frac2
              rw [decide_eq_decide]
              simp [hj, Int.gcd]
              omega
            rw [this] at q
            exact ⟨_, _, ⟨rfl, rfl⟩, q⟩
          · rw [if_neg hj]
            have : frac2 (.int i) (.int j) = false := decide_eq_false (fun z => hj z.1)
            rw [this] at q
            exact q
        · have hf : frac2 a b = false := by
            unfold frac2
            split
            · exact absurd ⟨rfl, rfl⟩ hw
            · rfl
          rw [hf] at q
          rw [if_pos]
          · exact q
          · cases wa : wholeB a <;> cases wb : wholeB b <;> simp_all
    · rw [if_neg (by omega)]
      have : fracB d = false := by
        unfold fracB
        rw [e2]
        split
        · rename_i e; cases e; exact absurd rfl hl
        · rfl
      rw [this] at q
      exact q
theorem math_is_duration (ds M Q E) (hM : WFM M) (hb : D.belL M.length ds = true) (h : sp_is_duration ds M Q E) : r_is_duration (retE M.length Q E) (startD N_is_duration ds) M := by
  obtain ⟨d, rfl, hc, q⟩ := h
  have q : (retE M.length Q E).rt (.bl (durB d)) M := by show Q _ (popM _ _ _); rw [popM_same (Nat.le_refl _)]; exact q
  simp [r_is_duration, startD]
  refine ⟨d, rfl, hc, ?_⟩
  simp
  cases hf : fracB d with
  | false =>
    have : durB d = false := by
      unfold fracB at hf
      unfold durB
      split at hf
      · simp [hf]
      · rfl
    rw [this] at q
    exact q
  | true =>
    obtain ⟨i, j, hs⟩ : ∃ i j, sq2 d = some [.int i, .int j] := by
      unfold fracB at hf
      split at hf
      · rename_i a b e
        unfold frac2 at hf
        split at hf
        · exact ⟨_, _, e⟩
        · cases hf
      · cases hf
    have hd : durB d = decide (0 < i ∧ i ≤ 1000 ∧ j ≤ 1000) := by
      unfold durB
      unfold fracB at hf
      rw [hs] at hf ⊢
      simp only at hf ⊢
      rw [hf]
      rfl
    rw [hd] at q
    rcases seq_cases hc M with ⟨e1, e2⟩ | ⟨xs, e1, e2, e3, e4, e5, hit, e6, e7, e8⟩
    · rw [hs] at e2; cases e2
    · rw [hs] at e2
      cases e2
      simp [e5, e7]
      by_cases k1 : 0 < i
      · rw [if_pos k1]
        by_cases k2 : i ≤ 1000
        · rw [if_pos k2]
          simpa [k1, k2] using q
        · rw [if_neg k2]
          simpa [k1, k2] using q
      · rw [if_neg k1]
        simpa [k1] using q
theorem math_is_entry (ds M Q E) (hM : WFM M) (hb : D.belL M.length ds = true) (h : sp_is_entry ds M Q E) : r_is_entry (retE M.length Q E) (startD N_is_entry ds) M := by
  obtain ⟨d, rfl, hc, q⟩ := h
  obtain ⟨n, h1, h2, h3, h4⟩ := ty_clean (M := M) hc
  have q : (retE M.length Q E).rt (.bl (entB d)) M := by show Q _ (popM _ _ _); rw [popM_same (Nat.le_refl _)]; exact q
  unfold r_is_entry
  refine seq_step fun S hS => ?_
  have hcon : ∀ u, d ≠ .con u := by rintro u rfl; cases hc
  simp [startD, hcon]
  by_cases hn : d = .non
  · subst hn
    exact q
  have hnn : nonD d = false := by cases d <;> first | rfl | exact absurd rfl hn
  rw [if_neg (by rw [hnn]; decide)]
  have hen : entB d = match sq2 d with
    | some [x, b] => intvB x && blB b
    | _ => false := by cases d <;> first | rfl | exact absurd rfl hn
  rw [hen] at q
  subst hS
  refine seq_step fun S hS => ?_
  simp [h1, h2]
  refine ⟨by rw [hz]; decide, ?_⟩
  rcases seq_cases hc M with ⟨e1, e2⟩ | ⟨xs, e1, e2, e3, e4, e5, hit, e6, e7, e8⟩
  · rw [e1, if_neg (by decide)]
    rw [e2] at q
    exact q
  · rw [e1, if_pos rfl]
    rw [e2] at q
    simp [e6, e7]
    by_cases hl : xs.length = 2
    · obtain ⟨a, b, rfl⟩ := len2 hl
      rw [if_pos (by rfl)]
      obtain ⟨ca, cb⟩ := clean2 e4
      subst hS
      simp [e5, e7]
      refine ⟨a, rfl, ca, ?_⟩
      obtain ⟨m, k1, k2, k3, k4⟩ := ty_clean (M := M) cb
      simp only at q
      cases hi : intvB a with
      | true =>
        rw [hi] at q
        simp [e5, e7, k1, k4]
        simpa using q
      | false =>
        rw [hi] at q
        simpa using q
    · rw [if_neg (by omega)]
      split at q
      · rename_i e; cases e; exact absurd rfl hl
      · exact q
theorem math_fault (ds M Q E) (hM : WFM M) (hb : D.belL M.length ds = true) (h : sp_fault ds M Q E) : r_fault (retE M.length Q E) (startD N_fault ds) M := by
  obtain ⟨d, v, rfl, hc, q⟩ := h
  obtain ⟨n, h1, h2, h3, h4⟩ := ty_clean (M := M) hc
  have q : (retE M.length Q E).rt (optS (fltD d v)) M := by show Q _ (popM _ _ _); rw [popM_same (Nat.le_refl _)]; exact q
  unfold fltD at q
  unfold r_fault
  refine seq_step fun S hS => ?_
  simp [startD, h1, h2]
  refine ⟨by rw [hz]; decide, ?_⟩
  rcases seq_cases hc M with ⟨e1, e2⟩ | ⟨xs, e1, e2, e3, e4, e5, hit, e6, e7, e8⟩
  · rw [e1, if_neg (by decide)]
    rw [e2] at q
    exact q
  rw [e1, if_pos rfl]
  rw [e2] at q
  simp [e6, e7]
  by_cases hl : xs.length = 3
  rotate_left
  · rw [if_neg (by omega)]
    split at q
    · rename_i e; cases e; exact absurd rfl hl
    · exact q
  obtain ⟨dur, acc, es, rfl⟩ := len3 hl
  rw [if_pos (by rfl)]
  simp only at q
  obtain ⟨c1, c2, c3⟩ := clean3 e4
  subst hS
  refine seq_step fun S hS => ?_
  have hg : ∀ (F : EnvD → MH → Prop), F [some d, some (optN v), some dur, some acc, some es, none] M → gTup' 3 [gName' 2, gName' 3, gName' 4] d [some d, some (optN v), none, none, none, none] M F := by
    intro F hF
    cases d <;> first | (cases e2; done) | (cases e2; simpa using hF)
  simp only [u_asg, u_var]
  refine ⟨d, rfl, hg _ ?_⟩
  subst hS
  refine seq_step fun S hS => ?_
  simp
  refine ⟨dur, rfl, c1, ?_⟩
  simp
  cases hdu : durB dur with
  | false =>
    rw [if_pos hdu] at q
    simp
    exact q
  | true =>
  simp
  rw [if_neg (by rw [hdu]; decide)] at q
  subst hS
  refine seq_step fun S hS => ?_
  simp
  refine ⟨acc, rfl, c2, ?_⟩
  simp
  have hac : accB acc = true → wholeB acc = true := by cases acc <;> simp [accB, wholeB]
  cases hw : wholeB acc with
  | false =>
    rw [if_pos (by cases ha : accB acc with
      | false => rfl
      | true => rw [hac ha] at hw; cases hw)] at q
    simp
    exact q
  | true =>
  obtain ⟨i, rfl⟩ : ∃ i, acc = .int i := by cases acc <;> first | exact ⟨_, rfl⟩ | (cases hw; done)
  simp
  have bad : accB (.int i) = false → (retE M.length Q E).rt (.str "accent") M := fun z => by rw [if_pos z] at q; exact q
  by_cases i0 : 0 ≤ i
  rotate_left
  · rw [if_neg i0]
    exact bad (decide_eq_false (fun z => i0 z.1))
  rw [if_pos i0]
  by_cases i9 : i ≤ 9
  rotate_left
  · rw [if_neg i9]
    exact bad (decide_eq_false (fun z => i9 z.2))
  rw [if_pos i9]
  rw [if_neg (by rw [show accB (.int i) = true from decide_eq_true ⟨i0, i9⟩]; decide)] at q
  subst hS
  refine seq_step fun S hS => ?_
  obtain ⟨m, k1, k2, k3, k4⟩ := ty_clean (M := M) c3
  simp [k1, k2]
  refine ⟨by rw [hz]; decide, ?_⟩
  rcases seq_cases c3 M with ⟨f1, f2⟩ | ⟨l, f1, f2, f3, f4, f5, fit, f6, f7, f8⟩
  · rw [f1, if_neg (by decide)]
    rw [f2] at q
    exact q
  rw [f1, if_pos rfl]
  rw [f2] at q
  simp only at q
  simp [f6, f7]
  by_cases l1 : 1 ≤ l.length
  rotate_left
  · rw [if_neg (by omega)]
    rw [if_pos (fun z => l1 z.1)] at q
    exact q
  rw [if_pos (by omega)]
  by_cases l4 : l.length ≤ 4
  rotate_left
  · rw [if_neg (by omega)]
    rw [if_pos (fun z => l4 z.2)] at q
    exact q
  rw [if_pos (by omega)]
  rw [if_neg (fun z => z ⟨l1, l4⟩)] at q
  subst hS
  refine seq_step fun S hS => ?_
  have fin : vBad v l.length = false → S (retE M.length Q E) [some d, some (optN v), some dur, some (.int i), some es, none] M := by
    intro hv
    rw [hv] at q
    simp only [Bool.false_eq_true, if_false] at q
    subst hS
    refine seq_step fun S hS => ?_
    simp [fit]
    refine lcL_map (fun d => .bl (entB d)) (by exact trivial) l [] ?_ (by simpa using f3) ?_
    · intro x hx Q' q'
      simp [wipeD]
      exact ⟨x, rfl, cleanL_mem f4 hx, q'⟩
    · rw [List.nil_append]
      refine ⟨l.map entB, by rw [show l.map (fun d => D.bl (entB d)) = (l.map entB).map D.bl from by rw [List.map_map]; rfl]; exact blsD_bl _, ?_⟩
      cases hall : l.all entB with
      | true =>
        rw [hall] at q
        rw [if_neg]
        · subst hS
          simp at q ⊢
          exact q
        · intro hmem
          obtain ⟨x, hx, e⟩ := List.mem_map.mp hmem
          rw [List.all_eq_true.mp hall x hx] at e
          cases e
      | false =>
        rw [hall] at q
        rw [if_pos]
        · simp at q ⊢
          exact q
        · obtain ⟨x, hx, e⟩ := List.all_eq_false.mp hall
          exact List.mem_map.mpr ⟨x, hx, by simpa using e⟩
  cases v with
  | none =>
    simp [optN]
    exact fin rfl
  | some n =>
    simp [optN, f6, f7]
    by_cases hn : l.length = n
    · rw [if_pos (by omega)]
      exact fin (by simp [vBad, hn])
    · rw [if_neg (by omega)]
      rw [if_pos (by simp [vBad, hn])] at q
      exact q
theorem pair_of {x : D} {i j : Int} (h : sq2 x = some [.int i, .int j]) : Pr x i j := by
  cases x <;> first | (cases h; done) | (cases h; first | exact .inl rfl | exact .inr rfl)
theorem intv_pair {x : D} (h : intvB x = true) : ∃ i j, Pr x i j := by
  unfold intvB at h
  split at h
  · rename_i a b e
    rw [Bool.and_eq_true] at h
    obtain ⟨i, rfl⟩ : ∃ i, a = .int i := by cases a <;> first | exact ⟨_, rfl⟩ | (cases h.1; done)
    obtain ⟨j, rfl⟩ : ∃ j, b = .int j := by cases b <;> first | exact ⟨_, rfl⟩ | (cases h.2; done)
    exact ⟨i, j, pair_of e⟩
  · cases h
theorem ent_of {d : D} (h : entB d = true) : ∃ e, EntL d e := by
  by_cases hn : d = .non
  · subst hn; exact ⟨none, rfl⟩
  have hen : entB d = match sq2 d with
    | some [x, b] => intvB x && blB b
    | _ => false := by cases d <;> first | rfl | exact absurd rfl hn
  rw [hen] at h
  split at h
  · rename_i x b e
    rw [Bool.and_eq_true] at h
    obtain ⟨i, j, hp⟩ := intv_pair h.1
    obtain ⟨bb, rfl⟩ : ∃ bb, b = .bl bb := by cases b <;> first | exact ⟨_, rfl⟩ | (cases h.2; done)
    refine ⟨some ((i, j), bb), x, hp, ?_⟩
    cases d <;> first | (cases e; done) | (cases e; first | exact .inl rfl | exact .inr rfl)
  · cases h
theorem ents_of : ∀ {l : List D}, l.all entB = true → ∃ es, RelL EntL l es
  | [], _ => ⟨[], trivial⟩
  | d :: l, h => by
    rw [List.all_cons, Bool.and_eq_true] at h
    obtain ⟨e, he⟩ := ent_of h.1
    obtain ⟨es, hes⟩ := ents_of h.2
    exact ⟨e :: es, he, hes⟩
/-- a column that is right -/
theorem flt_none {d : D} {v : Option Nat} (h : fltD d v = none) : ∃ c : Col, ColL d c ∧ c.es.length ≤ 4 ∧ vcs d = c.es.length ∧ ∃ x y l, sq2 d = some [x, .int c.acc, y] ∧ sq2 y = some l ∧ l.length = c.es.length := by
  unfold fltD at h
  split at h
  · rename_i dur acc es e
    split at h
    · cases h
    rename_i h1
    split at h
    · cases h
    rename_i h2
    split at h
    · cases h
    rename_i l el
    split at h
    · cases h
    rename_i h3
    split at h
    · cases h
    rename_i h4
    split at h
    · cases h
    rename_i h5
    rw [Bool.not_eq_false] at h1 h2 h5
    obtain ⟨ces, hr⟩ := ents_of h5
    obtain ⟨i, rfl⟩ : ∃ i, acc = .int i := by cases acc <;> first | exact ⟨_, rfl⟩ | (cases h2; done)
    obtain ⟨a, b, hp⟩ : ∃ a b, Pr dur a b := by
      unfold durB at h1
      split at h1
      · rename_i a b e2
        rw [Bool.and_eq_true] at h1
        have h1 := h1.1
        unfold frac2 at h1
        split at h1
        · exact ⟨_, _, pair_of e2⟩
        · cases h1
      · cases h1
    refine ⟨⟨(a, b), i, ces⟩, ⟨dur, es, l, hp, hr, ?_, ?_⟩, by rw [← hr.length]; omega, ?_, dur, es, l, e, el, hr.length⟩
    · cases es <;> first | (cases el; done) | (cases el; first | exact .inl rfl | exact .inr rfl)
    · cases d <;> first | (cases e; done) | (cases e; first | exact .inl rfl | exact .inr rfl)
    · unfold vcs
      rw [e]
      simp only
      rw [el]
      exact hr.length
  · cases h
theorem scan_none : ∀ {cs : List D} {i : Nat} {v : Option Nat}, scan i v cs = none → ∃ cols : List Col, RelL ColL cs cols ∧ ∀ c ∈ cols, c.es.length ≤ 4
  | [], _, _, _ => ⟨[], trivial, nofun⟩
  | c :: r, i, v, h => by
    unfold scan at h
    cases hf : fltD c v with
    | some w => rw [hf] at h; cases h
    | none =>
      rw [hf] at h
      obtain ⟨col, h1, h2, _⟩ := flt_none hf
      obtain ⟨cols, h3, h4⟩ := scan_none h
      exact ⟨col :: cols, ⟨h1, h3⟩, fun x hx => by
        rcases List.mem_cons.mp hx with rfl | hx
        · exact h2
        · exact h4 x hx⟩
theorem optN_non (v : Option Nat) (M : MH) : True := trivial
theorem math_check_bar (ds M Q E) (hM : WFM M) (hb : D.belL M.length ds = true) (h : sp_check_bar ds M Q E) : r_check_bar (retE M.length Q E) (startD N_check_bar ds) M := by
  obtain ⟨d, rfl, hc, q⟩ := h
  obtain ⟨n, h1, h2, h3, h4⟩ := ty_clean (M := M) hc
  have fail : ∀ l w, chk d = some (l, w) → E ⟨"BadColumn", [("reason", .str w), ("number", l)]⟩ (popX M.length ⟨"BadColumn", [("reason", .str w), ("number", l)]⟩ M) := by
    intro l w e
    rw [popX_same (Nat.le_refl _)]
    rcases q with ⟨_, _, _, e2, _⟩ | ⟨l', w', e2, h⟩
    · rw [e] at e2; cases e2
    · rw [e] at e2; cases e2; exact h
  unfold r_check_bar
  refine seq_step fun S hS => ?_
  simp [startD, h1, h2]
  refine ⟨by rw [hz]; decide, ?_⟩
  rcases seq_cases hc M with ⟨e1, e2⟩ | ⟨xs, e1, e2, e3, e4, e5, hit, e6, e7, e8⟩
  · rw [e1, if_neg (by decide)]
    exact fail _ _ (by unfold chk; rw [e2])
  rw [e1, if_pos rfl]
  simp [e6, e7]
  have hck : chk d = if ¬ (1 ≤ xs.length ∧ xs.length ≤ 64) then some (Lit.non, ("count" : Str)) else (scan 0 none xs).map fun p => (Lit.int p.1, p.2) := by unfold chk; rw [e2]
  by_cases l1 : 1 ≤ xs.length
  rotate_left
  · rw [if_neg (by omega)]
    exact fail _ _ (by rw [hck, if_pos (fun z => l1 z.1)])
  rw [if_pos (by omega)]
  by_cases l64 : xs.length ≤ 64
  rotate_left
  · rw [if_neg (by omega)]
    exact fail _ _ (by rw [hck, if_pos (fun z => l64 z.2)])
  rw [if_pos (by omega)]
  rw [if_neg (fun z => z ⟨l1, l64⟩)] at hck
  subst hS
  refine seq_step fun S hS => ?_
  simp
  subst hS
  refine seq_step fun S hS => ?_
  simp
  refine ⟨xs, by cases d <;> first | (cases e2; done) | (cases e2; first | exact .inl rfl | exact .inr rfl), ?_⟩
  refine forI_from (fun i δ M' => M' = M ∧ ∃ v a b c, δ = [some d, some (optN v), a, b, c] ∧ scan i v (xs.drop i) = scan 0 none xs) ?_ ?_ ⟨rfl, none, _, _, _, rfl, rfl⟩
  · rintro δ M' ⟨rfl, v, a, b, c, rfl, hsc⟩
    refine ⟨trivial, ?_⟩
    show S _ _ _
    have hlen : (enumD xs).length = xs.length := enumD_length _
    rw [hlen, List.drop_length] at hsc
    have hsn : scan 0 none xs = none := hsc.symm
    have hcn : chk d = none := by rw [hck, hsn]; rfl
    rcases q with ⟨cs, cols, q1, q2, q3, q4, q⟩ | ⟨l, w, z, _⟩
    · rw [e2] at q1
      cases q1
      subst hS
      simp [hit]
      obtain ⟨cols', r1, r2⟩ := scan_none hsn
      have hlc := q3.length
      refine lcL_rel (R := ColL) colD (by exact trivial) _ cols [] q3 ?_ (by simp; exact e3) ?_
      · intro y c hcm hy Q' q'
        simp [wipeD]
        exact ⟨y, c, rfl, hy, by have := q4 c hcm; rw [hz]; omega, q'⟩
      · rw [List.nil_append]
        rw [popM_same (Nat.le_refl _)]
        exact q
    · rw [hcn] at z; cases z
  · rintro i e δ M' F he ⟨rfl, v, a, b, c, rfl, hsc⟩ hF
    refine ⟨trivial, ?_⟩
    obtain ⟨x, hx, rfl⟩ := enumD_at he
    have hdrop : xs.drop i = x :: xs.drop (i + 1) := by
      have hi := (List.getElem?_eq_some_iff.mp hx).1
      rw [List.drop_eq_getElem_cons hi, (List.getElem?_eq_some_iff.mp hx).2]
    rw [hdrop] at hsc
    have hsc : (match fltD x v with | some w => some (i, w) | none => scan (i + 1) (some (vcs x)) (xs.drop (i + 1))) = scan 0 none xs := hsc
    have hcx : clean x = true := cleanL_mem e4 (List.mem_of_getElem? hx)
    rw [u_gtupT]
    refine ⟨rfl, ?_⟩
    rw [u_gAll2, u_gname, u_gAll1, u_gname, u_gAll0]
    refine seq_step fun S2 hS2 => ?_
    simp
    refine ⟨x, v, rfl, hcx, ?_⟩
    simp
    cases hf : fltD x v with
    | some w =>
      rw [hf] at hsc
      subst hS2
      simp [optS]
      have := fail (.int i) w (by rw [hck, ← hsc]; rfl)
      exact this
    | none =>
      rw [hf] at hsc
      subst hS2
      simp [optS]
      obtain ⟨col, k1, k2, k3, k4, k5, k6, k7, k8, k9⟩ := flt_none hf
      have hsx : seqOf x M' = some [k4, .int col.acc, k5] := by cases x <;> first | (cases k7; done) | (cases k7; rfl)
      have hnx : ∀ z, x ≠ .str z := by rintro z rfl; cases k7
      have hly : lenD k5 M' = some k6.length := by cases k5 <;> first | (cases k8; done) | (cases k8; rfl)
      have hny : ∀ z, k5 ≠ .str z := by rintro z rfl; cases k8
      simp [hsx, hnx, hly, hny]
      refine hF _ _ ⟨rfl, some k6.length, _, _, _, rfl, ?_⟩
      rw [k9, ← k3]
      exact hsc
end Kc
namespace Kit
open MD L2 PySem
/-! tuples made lists -/
mutual
def lis : D → D
  | .tup ds => .lst (lisL ds)
  | .non => .non
  | .bl b => .bl b
  | .int i => .int i
  | .str x => .str x
  | .lst ds => .lst ds
  | .scr ns => .scr ns
  | .ref i => .ref i
  | .con v => .con v
  | .exc a c d fs => .exc a c d fs
  | .dct => .dct
def lisL : List D → List D
  | [] => []
  | d :: ds => lis d :: lisL ds
end
mutual
def tupD (n : Nat) : D → Bool
  | .non => true
  | .bl _ => true
  | .int _ => true
  | .str _ => true
  | .tup ds => decide (0 < n) && decide (ds.length ≤ sizeLine) && tupL (n - 1) ds
  | _ => false
def tupL (n : Nat) : List D → Bool
  | [] => true
  | d :: ds => tupD n d && tupL n ds
end
def spr__law_listed (n : Nat) : SpD := fun ds M Q _ => ∃ d, ds = [d] ∧ n ≠ 0 ∧ tupD (n - 1) d = true ∧ Q (lis d) M
def sp__law_listed : SpD := fun ds M Q _ => ∃ d, ds = [d] ∧ tupD 6 d = true ∧ Q (lis d) M
theorem mono__law_listed : MonoP sp__law_listed := fun ds M Q Q' E E' q x ⟨d, e, h1, h⟩ => ⟨d, e, h1, q _ _ h⟩
theorem monor__law_listed (n : Nat) : MonoP (spr__law_listed n) := fun ds M Q Q' E E' q x ⟨d, e, h0, h1, h⟩ => ⟨d, e, h0, h1, q _ _ h⟩
theorem lenr__law_listed (n : Nat) (ds M Q E) (h : spr__law_listed n ds M Q E) : ds.length = 1 := by obtain ⟨_, rfl, _⟩ := h; rfl
theorem zero__law_listed (ds M Q E) (h : spr__law_listed 0 ds M Q E) : False := by obtain ⟨_, _, h, _⟩ := h; exact h rfl
theorem sub__law_listed {ds M Q E} (h : sp__law_listed ds M Q E) : spr__law_listed 7 ds M Q E := by
  obtain ⟨d, e, h1, h⟩ := h
  exact ⟨d, e, by decide, h1, h⟩
abbrev N__law_listed : List Str := ["thing", "part"]
def rr__law_listed (i : Nat) : TS' := (tSeq' (tIfS' (tTru' (tCB' cIsi (tCons' (tVar' 0) (tCons' (tC' (.con (.ty "tuple"))) tNil')))) (tRet' (tLc' false (tIt' (tVar' 0)) (gName' 1) tYes' (tCall' (spr__law_listed i) (tCons' (tVar' 1) tNil')) [1])) tNext')
    (tRet' (tVar' 0)))
theorem entD_bel (n : Nat) (e : Ent) : (entD e).bel n = true := by
  cases e with
  | none => rfl
  | some u => rfl
theorem colD_bel (n : Nat) (c : Col) : (colD c).bel n = true := by
  show (true && (true && (D.belL n (c.es.map entD) && true))) = true
  have : D.belL n (c.es.map entD) = true := by
    rw [belL_iff]
    intro d hd
    obtain ⟨e, _, rfl⟩ := List.mem_map.mp hd
    exact entD_bel n e
  rw [this]; rfl
theorem bar_it {d : D} {es : List D} (h : d = .tup es ∨ d = .lst es) {M : MH} (R : ItD → MH → Prop) (r : R ⟨es, none⟩ M) : seqD d M R := by rcases h with rfl | rfl <;> exact r
theorem lisL_map : ∀ ds : List D, lisL ds = ds.map lis
  | [] => rfl
  | d :: ds => by
    show lis d :: lisL ds = _
    rw [lisL_map ds]; rfl
theorem tupL_mem {n : Nat} : ∀ {ds : List D} {d : D}, tupL n ds = true → d ∈ ds → tupD n d = true
  | [], _, _, h => nomatch h
  | e :: r, d, hp, h => by
    unfold tupL at hp
    rw [Bool.and_eq_true] at hp
    rcases List.mem_cons.mp h with rfl | h
    · exact hp.1
    · exact tupL_mem hp.2 h
theorem mathr__law_listed (n : Nat) (ds M Q E) (hM : WFM M) (hb : D.belL M.length ds = true) (h : spr__law_listed (n + 1) ds M Q E) : rr__law_listed n (retE M.length Q E) (startD N__law_listed ds) M := by
  obtain ⟨d, rfl, _, hp, q⟩ := h
  have hp : tupD n d = true := hp
  have same : ∀ d', d' = lis d → Q d' (popM M.length d' M) := fun d' e => by rw [popM_same (Nat.le_refl _), e]; exact q
  unfold rr__law_listed
  refine seq_step fun S hS => ?_
  cases d with
  | tup es =>
    unfold tupD at hp
    simp only [Bool.and_eq_true, decide_eq_true_eq] at hp
    obtain ⟨⟨h0, h1⟩, h2⟩ := hp
    simp [startD, tyStr, subTy]
    refine lcL_map lis (by exact trivial) es [] ?_ (by simpa using h1) ?_
    · intro e he Q' q'
      simp [wipeD]
      exact ⟨e, rfl, by omega, tupL_mem h2 he, q'⟩
    · simp
      refine same _ ?_
      unfold lis
      rw [lisL_map]
  | non => simp [startD, tyStr, subTy]; subst hS; simp; exact same _ rfl
  | bl b => simp [startD, tyStr, subTy]; subst hS; simp; exact same _ rfl
  | int b => simp [startD, tyStr, subTy]; subst hS; simp; exact same _ rfl
  | str b => simp [startD, tyStr, subTy]; subst hS; simp; exact same _ rfl
  | _ => unfold tupD at hp; cases hp
theorem cut_butlast {ds : List D} (h : ds ≠ []) : cutD ds none (some (-1)) = ds.dropLast := by
  have hl : 0 < ds.length := List.length_pos_iff.mpr h
  have e : HT.sIx ds.length ds.length (some (-1)) = ds.length - 1 := by
    show (if (-1 : Int) < 0 then ((-1 : Int) + (ds.length : Int)).toNat else min (-1 : Int).toNat ds.length) = _
    rw [if_pos (by decide)]
    omega
  unfold cutD
  rw [HT.sIx_none, e, List.dropLast_eq_take]
  simp
theorem cut_tail (a b c : D) : cutD [a, b, c] (some 1) none = [b, c] := rfl
theorem okCol_mono {T U : Tone → Prop} {v : Nat} {c : Col} (h : okCol T v c) (l : ∀ t, T t → U t) : okCol U v c :=
  ⟨h.1, h.2.1, h.2.2.1, h.2.2.2.1, fun e he t b z => l t (h.2.2.2.2 e he t b z)⟩
def Ok (x : Str) : Prop := ∀ c ∈ x.cps.toList, c < 1114112
theorem ok_app {a b : Str} (h : Ok a) (k : Ok b) : Ok (a ++ b) := fun c hc => by
  rw [cps_app] at hc
  rcases List.mem_append.mp hc with hc | hc
  · exact h c hc
  · exact k c hc
theorem ok_int (i : Int) : Ok ((toString i : String) : Str) := fun c hc => by
  obtain ⟨m, ⟨e, h1⟩ | ⟨_, e, h1⟩⟩ := num_split i
  · rw [h1] at hc
    have := digs_all m c hc
    omega
  · rw [h1] at hc
    rcases List.mem_cons.mp hc with rfl | hc
    · decide
    · have := digs_all m c hc
      omega
theorem ok_textFrom : ∀ (ts : List Str) (k : Nat) (acc : Str), Ok acc → (∀ t ∈ ts, Ok t) → Ok (textFrom k acc ts)
  | [], _, _, h, _ => h
  | t :: r, k, acc, h, ht => by
    show Ok (textFrom (k + 1) (acc ++ ((if k > 0 then ", " else "" : String) : Str) ++ t) r)
    refine ok_textFrom r _ _ (ok_app (ok_app h ?_) (ht t List.mem_cons_self)) (fun x hx => ht x (List.mem_cons_of_mem _ hx))
    split <;> (intro c hc; revert c; decide)
theorem ok_list {ts : List Str} (ht : ∀ t ∈ ts, Ok t) : Ok (listText ts) := by
  unfold listText
  exact ok_app (ok_textFrom ts 0 _ (by intro c hc; revert c; decide) ht) (by intro c hc; revert c; decide)
theorem ok_join : ∀ ts : List Str, (∀ t ∈ ts, Ok t) → Ok (Str.join ", " ts)
  | [], _ => by rw [PyProof.Rows.join_nil]; intro c hc; cases hc
  | [x], h => by rw [PyProof.Rows.join_one]; exact h x List.mem_cons_self
  | x :: y :: r, h => by
    rw [PyProof.Rows.join_cons_cons]
    exact ok_app (ok_app (h x List.mem_cons_self) (by intro c hc; revert c; decide)) (ok_join (y :: r) fun z hz => h z (List.mem_cons_of_mem _ hz))
theorem ok_tuple {ts : List Str} (ht : ∀ t ∈ ts, Ok t) : Ok (tupleText ts) := by
  unfold tupleText
  refine ok_app (ok_app (by intro c hc; revert c; decide) (ok_join ts ht)) ?_
  split <;> (intro c hc; revert c; decide)
/-- may be shown, in so many signs -/
structure Sh (k L : Nat) (d : D) : Prop where
  f : d.flat = true
  s : d.py.showable = true
  h : d.py.hasDict = false
  dep : d.py.depth ≤ k
  l : d.py.shown.length ≤ L
  o : Ok d.py.shown
theorem int_len64 {i : Int} (h : Bg 64 i) : ((toString i : String) : Str).length ≤ 21 := by
  unfold Bg at h
  have hp : (2 : Nat) ^ 64 < 10 ^ 20 := by decide
  have dl : ∀ m : Nat, m < 2 ^ 64 → (digs m).length ≤ 20 := fun m hm => by
    unfold digs
    rw [List.length_map]
    exact (Nat.length_toDigits_le_iff (by decide) (by decide)).mpr (Nat.lt_trans hm hp)
  rw [len_cps]
  obtain ⟨m, ⟨e, h1⟩ | ⟨_, e, h1⟩⟩ := num_split i <;> rw [h1]
  · have := dl m (by rw [e, Int.natAbs_natCast] at h; exact h)
    omega
  · have := dl m (by rw [e, Int.natAbs_neg, Int.natAbs_natCast] at h; exact h)
    rw [List.length_cons]
    omega
theorem int_show64 {i : Int} (h : Bg 64 i) : (PyData.int i).showable = true := by
  unfold PyData.showable
  refine decide_eq_true ?_
  unfold Bg at h
  by_cases h0 : i.natAbs = 0
  · rw [h0]; decide
  · exact Nat.lt_trans ((Nat.log2_lt h0).mpr h) (by decide)
theorem sh_int {i : Int} (h : Bg 64 i) : Sh 0 21 (.int i) := ⟨rfl, int_show64 h, rfl, Nat.le_refl 0, int_len64 h, ok_int i⟩
theorem sh_non : Sh 0 21 .non := ⟨rfl, rfl, rfl, Nat.le_refl 0, by show (4 : Nat) ≤ 21; decide, by intro c hc; revert c; decide⟩
theorem sh_bl (b : Bool) : Sh 0 21 (.bl b) := ⟨rfl, rfl, rfl, Nat.le_refl 0, by cases b <;> decide, by cases b <;> (intro c hc; revert c; decide)⟩
theorem Sh.mono {k L k' L' : Nat} {d : D} (h : Sh k L d) (l1 : k ≤ k') (l2 : L ≤ L') : Sh k' L' d := ⟨h.f, h.s, h.h, Nat.le_trans h.dep l1, Nat.le_trans h.l l2, h.o⟩
theorem sh_all {k L : Nat} : ∀ es : List D, (∀ e ∈ es, Sh k L e) →
    D.flatL es = true ∧ PyData.showableAll (D.pyL es) = true ∧ PyData.hasDictAll (D.pyL es) = false ∧ PyData.depthAll (D.pyL es) ≤ k ∧ (∀ t ∈ PyData.shownAll (D.pyL es), t.length ≤ L) ∧ (PyData.shownAll (D.pyL es)).length = es.length ∧ ∀ t ∈ PyData.shownAll (D.pyL es), Ok t
  | [], _ => ⟨rfl, rfl, rfl, Nat.zero_le _, nofun, rfl, nofun⟩
  | e :: r, h => by
    have p := h e List.mem_cons_self
    obtain ⟨q1, q2, q3, q4, q5, q6, q7⟩ := sh_all r (fun x hx => h x (List.mem_cons_of_mem _ hx))
    refine ⟨?_, ?_, ?_, ?_, ?_, ?_, ?_⟩
    · show (D.flat e && D.flatL r) = true
      rw [p.f, q1]; rfl
    · show (PyData.showable e.py && PyData.showableAll (D.pyL r)) = true
      rw [p.s, q2]; rfl
    · show (PyData.hasDict e.py || PyData.hasDictAll (D.pyL r)) = false
      rw [p.h, q3]; rfl
    · show max e.py.depth (PyData.depthAll (D.pyL r)) ≤ k
      have := p.dep
      omega
    · intro t ht
      rcases List.mem_cons.mp ht with rfl | ht
      · exact p.l
      · exact q5 t ht
    · show (PyData.shownAll (D.pyL r)).length + 1 = r.length + 1
      rw [q6]
    · intro t ht
      rcases List.mem_cons.mp ht with rfl | ht
      · exact p.o
      · exact q7 t ht
theorem sh_seq {k L n : Nat} {d : D} {es : List D} (hd : d = .tup es ∨ d = .lst es) (h : ∀ e ∈ es, Sh k L e) (hl : es.length ≤ n) : Sh (k + 1) (3 + n * (L + 2)) d := by
  obtain ⟨q1, q2, q3, q4, q5, q6, q7⟩ := sh_all es h
  have hm : (PyData.shownAll (D.pyL es)).length * (L + 2) ≤ n * (L + 2) := Nat.mul_le_mul (by omega) (Nat.le_refl _)
  rcases hd with rfl | rfl
  · refine ⟨q1, q2, q3, ?_, ?_, ok_tuple q7⟩
    · show PyData.depthAll (D.pyL es) + 1 ≤ k + 1
      omega
    · have := tuple_le _ q5
      show (tupleText (PyData.shownAll (D.pyL es))).length ≤ _
      omega
  · refine ⟨q1, q2, q3, ?_, ?_, ok_list q7⟩
    · show PyData.depthAll (D.pyL es) + 1 ≤ k + 1
      omega
    · have := list_le _ q5
      show (listText (PyData.shownAll (D.pyL es))).length ≤ _
      omega
theorem sh_pr {x : D} {a b : Int} (h : Pr x a b) (ha : Bg 64 a) (hb : Bg 64 b) : Sh 1 49 x :=
  sh_seq (n := 2) h (fun e he => by
    simp only [List.mem_cons, List.not_mem_nil, or_false] at he
    rcases he with rfl | rfl
    · exact sh_int ha
    · exact sh_int hb) (Nat.le_refl 2)
/-- tones of 64 bits -/
def T64 (t : Tone) : Prop := Bg 64 t.1 ∧ Bg 64 t.2
theorem near_64 {t : Tone} (h : Near t) : T64 t := by
  unfold Near at h
  exact ⟨bg64 (by omega) (by decide), bg64 (by omega) (by decide)⟩
theorem sh_ent {d : D} {e : Ent} (h : EntL d e) (ok : okEnt T64 e) : Sh 2 105 d := by
  cases e with
  | none =>
    have h : d = .non := h
    subst h
    exact sh_non.mono (by decide) (by decide)
  | some u =>
    obtain ⟨t, b⟩ := u
    obtain ⟨x, hx, hd⟩ := h
    obtain ⟨b1, b2⟩ := ok t b rfl
    exact sh_seq (n := 2) hd (fun e he => by
      simp only [List.mem_cons, List.not_mem_nil, or_false] at he
      rcases he with rfl | rfl
      · exact sh_pr hx b1 b2
      · exact (sh_bl b).mono (by decide) (by decide)) (Nat.le_refl 2)
theorem RelL.mem {α β : Type} {R : α → β → Prop} : ∀ {xs : List α} {ys : List β} {x : α}, RelL R xs ys → x ∈ xs → ∃ y ∈ ys, R x y
  | x :: xs, y :: ys, z, h, hz => by
    rcases List.mem_cons.mp hz with rfl | hz
    · exact ⟨y, List.mem_cons_self, h.1⟩
    · obtain ⟨w, hw, r⟩ := RelL.mem h.2 hz
      exact ⟨w, List.mem_cons_of_mem _ hw, r⟩
theorem sh_col {d : D} {c : Col} {v : Nat} (h : ColL d c) (ok : okCol T64 v c) (hv : v ≤ 4) : Sh 4 1305 d := by
  obtain ⟨x, y, es, hx, hes, hy, hd⟩ := h
  obtain ⟨⟨_, _, b1, b2, _⟩, a1, a2, hl, hen⟩ := ok
  have hel := hes.length
  have hys : Sh 3 431 y := sh_seq (n := 4) hy (fun e he => by
    obtain ⟨en, h1, h2⟩ := RelL.mem hes he
    exact sh_ent h2 (hen en h1)) (by omega)
  exact (sh_seq (k := 3) (L := 431) (n := 3) hd (fun e he => by
    simp only [List.mem_cons, List.not_mem_nil, or_false] at he
    rcases he with rfl | rfl | rfl
    · exact (sh_pr hx b1 b2).mono (by decide) (by decide)
    · exact (sh_int (bg64 (by omega) (by decide))).mono (by decide) (by decide)
    · exact hys) (Nat.le_refl 3)).mono (by decide) (by decide)
/-- a bar that is handed in: its columns loosely -/
def BarL (d : D) (cs : List Col) : Prop := ∃ es, (d = .tup es ∨ d = .lst es) ∧ RelL ColL es cs
def barD (cs : List Col) : D := .tup (cs.map colD)
def okBar (v : Nat) (cs : List Col) : Prop := cs.length ≤ 1000 ∧ ∀ c ∈ cs, okCol T64 v c
theorem barD_bel (n : Nat) (cs : List Col) : (barD cs).bel n = true := by
  show D.belL n (cs.map colD) = true
  rw [belL_iff]
  intro d hd
  obtain ⟨c, _, rfl⟩ := List.mem_map.mp hd
  exact colD_bel n c
theorem sh_bar {d : D} {cs : List Col} {v : Nat} (h : BarL d cs) (ok : okBar v cs) (hv : v ≤ 4) : Sh 5 1307003 d := by
  obtain ⟨es, hd, hes⟩ := h
  have hel := hes.length
  exact sh_seq (n := 1000) hd (fun e he => by
    obtain ⟨c, h1, h2⟩ := RelL.mem hes he
    exact sh_col h2 (ok.2 c h1) hv) (by have := ok.1; omega)
/-! lists all through -/
theorem lis_ent (e : Ent) : EntL (lis (entD e)) e := by
  cases e with
  | none => rfl
  | some u => exact ⟨_, .inr rfl, .inr rfl⟩
theorem lis_col (c : Col) : ColL (lis (colD c)) c := by
  refine ⟨.lst [.int c.dur.1, .int c.dur.2], .lst (c.es.map fun e => lis (entD e)), c.es.map fun e => lis (entD e), .inr rfl, RelL.map _ lis_ent c.es, .inr rfl, .inr ?_⟩
  show D.lst [lis (MD.prD c.dur), .int c.acc, .lst (lisL (c.es.map entD))] = _
  rw [lisL_map, List.map_map]
  rfl
theorem lis_bar (cs : List Col) : BarL (lis (barD cs)) cs := by
  refine ⟨cs.map fun c => lis (colD c), .inr ?_, RelL.map _ lis_col cs⟩
  show D.lst (lisL (cs.map colD)) = _
  rw [lisL_map, List.map_map]
  rfl
theorem bar_bar (cs : List Col) : BarL (barD cs) cs := ⟨_, .inl rfl, RelL.map _ colL_colD cs⟩
theorem tupL_of {n : Nat} : ∀ ds : List D, (∀ d ∈ ds, tupD n d = true) → tupL n ds = true
  | [], _ => rfl
  | d :: r, h => by
    show (tupD n d && tupL n r) = true
    rw [h d List.mem_cons_self, tupL_of r fun x hx => h x (List.mem_cons_of_mem _ hx)]; rfl
theorem tup_ent (e : Ent) : tupD 2 (entD e) = true := by
  cases e with
  | none => rfl
  | some u => rfl
theorem tup_col {c : Col} (h : c.es.length ≤ sizeLine) : tupD 4 (colD c) = true := by
  show (true && (true && (true && (((decide (0 < 3) && decide ((c.es.map entD).length ≤ sizeLine)) && tupL 2 (c.es.map entD)) && true)))) = true
  rw [tupL_of (c.es.map entD) fun d hd => by
    obtain ⟨e, _, rfl⟩ := List.mem_map.mp hd
    exact tup_ent e, List.length_map, decide_eq_true h]
  rfl
theorem plainL_of {n : Nat} : ∀ ds : List D, (∀ d ∈ ds, plainD n d = true) → plainL n ds = true
  | [], _ => rfl
  | d :: r, h => by
    show (plainD n d && plainL n r) = true
    rw [h d List.mem_cons_self, plainL_of r fun x hx => h x (List.mem_cons_of_mem _ hx)]; rfl
theorem plain_ent (e : Ent) : plainD 2 (entD e) = true := by
  cases e with
  | none => rfl
  | some u => rfl
theorem plain_col {c : Col} (h : c.es.length ≤ sizeLine) : plainD 4 (colD c) = true := by
  show (true && (true && (true && (((decide (0 < 3) && decide ((c.es.map entD).length ≤ sizeLine)) && plainL 2 (c.es.map entD)) && true)))) = true
  rw [plainL_of (c.es.map entD) fun d hd => by
    obtain ⟨e, _, rfl⟩ := List.mem_map.mp hd
    exact plain_ent e, List.length_map, decide_eq_true h]
  rfl
theorem plain_bar {cs : List Col} (h1 : cs.length ≤ sizeLine) (h : ∀ c ∈ cs, c.es.length ≤ sizeLine) : plainD 5 (barD cs) = true := by
  show ((decide (0 < 5) && decide ((cs.map colD).length ≤ sizeLine)) && plainL 4 (cs.map colD)) = true
  rw [plainL_of (cs.map colD) fun d hd => by
    obtain ⟨c, hc, rfl⟩ := List.mem_map.mp hd
    exact plain_col (h c hc), List.length_map, decide_eq_true h1]
  rfl
theorem tup_bar {cs : List Col} (h1 : cs.length ≤ sizeLine) (h : ∀ c ∈ cs, c.es.length ≤ sizeLine) : tupD 6 (barD cs) = true := by
  have up : ∀ c ∈ cs, tupD 5 (colD c) = true := fun c hc => by
    show (true && (true && (true && (((decide (0 < 4) && decide ((c.es.map entD).length ≤ sizeLine)) && tupL 3 (c.es.map entD)) && true)))) = true
    rw [tupL_of (c.es.map entD) fun d hd => by
      obtain ⟨e, _, rfl⟩ := List.mem_map.mp hd
      cases e <;> rfl, List.length_map, decide_eq_true (h c hc)]
    rfl
  show ((decide (0 < 6) && decide ((cs.map colD).length ≤ sizeLine)) && tupL 5 (cs.map colD)) = true
  rw [tupL_of (cs.map colD) fun d hd => by
    obtain ⟨c, hc, rfl⟩ := List.mem_map.mp hd
    exact up c hc, List.length_map, decide_eq_true h1]
  rfl
theorem Sh.rep {k L : Nat} {d : D} {es : List D} (h : Sh k L d) (hd : d = .tup es ∨ d = .lst es) (hk : k ≤ 64) (hL : L ≤ sizeLine) {M : MH} {Q : QE} (q : Q (.str d.py.shown) M) : cRepr [d] M Q :=
  ⟨d, rfl, h.f, ⟨es, hd⟩, h.s, h.h, Nat.le_trans h.dep hk, Nat.le_trans h.l hL, q⟩
theorem two_eqOk {a b : Str} (h : Ok a) (k : Ok b) : eqOk (.tup [.str a, .str b]) := by
  have e : ∀ x : Str, Ok x → PyData.strOk x = true := fun x hx => by
    unfold PyData.strOk
    rw [← Array.all_toList, List.all_eq_true]
    intro c hc
    exact decide_eq_true (hx c hc)
  refine ⟨rfl, ?_⟩
  simp [SeqAt.shaped, D.py, D.pyL, PyData.canLay0, PyData.canLayAll0, PyData.depth, PyData.depthAll, e a h, e b k]
theorem two_deq (a b : Str) : deq (.tup [.str a, .str b]) (.tup [.str a, .str b]) = true := by simp [deq, D.py, D.pyL, PyData.eqv, PyData.eqvAll]
theorem blsD_rep : ∀ n : Nat, blsD (List.replicate n (D.bl true)) = some (List.replicate n true)
  | 0 => rfl
  | n + 1 => by
    rw [List.replicate_succ, List.replicate_succ]
    show (blsD (List.replicate n (D.bl true))).map (true :: ·) = _
    rw [blsD_rep n]; rfl
theorem strOk_of {x : Str} (hx : Ok x) : PyData.strOk x = true := by
  unfold PyData.strOk
  rw [← Array.all_toList, List.all_eq_true]
  intro c hc
  exact decide_eq_true (hx c hc)
end Kit
namespace Kit
open MD L2 PySem
/-! what is asked of a bar: raised, turned, paced, exchanged -/
def paceC (p : Int × Int) (c : Col) : Col := ⟨fr (c.dur.1 * p.1) (c.dur.2 * p.2), c.acc, c.es⟩
def pickC (ks : List Nat) (c : Col) : Col := ⟨c.dur, c.acc, ks.map fun k => c.es.getD k none⟩
/-- what is asked for: a kind and its number, pair or order -/
inductive Rule where
  | raise (t : Tone) | turn (t : Tone) | pace (p : Int × Int) | voices (ks : List Nat)
def Rule.word : Rule → Str
  | .raise _ => "raise"
  | .turn _ => "turn"
  | .pace _ => "pace"
  | .voices _ => "voices"
def Rule.kind : Rule → Int
  | .raise _ => 0
  | .turn _ => 1
  | .pace _ => 2
  | .voices _ => 3
def Rule.items : Rule → List D
  | .raise t => [.int t.1, .int t.2]
  | .turn t => [.int t.1, .int t.2]
  | .pace p => [.int p.1, .int p.2]
  | .voices ks => ks.map fun k : Nat => D.int k
def Rule.does : Rule → Col → Col
  | .raise t => moveC 1 t
  | .turn t => moveC (-1) t
  | .pace p => paceC p
  | .voices ks => pickC ks
def Rule.ok (v : Nat) : Rule → Prop
  | .raise t => T64 t
  | .turn t => T64 t
  | .pace p => okDur p
  | .voices ks => ks.Perm (List.range v)
abbrev N__law_done : List Str := ["rule", "cell", "voice"]
def sp__law_done : SpD := fun ds M Q _ => ∃ (r : Rule) (c : Col) (v : Nat), ds = [.tup [.str r.word, .int 0, .tup r.items], colD c] ∧ v ≤ 1000 ∧ c.es.length = v ∧ okDur c.dur ∧ r.ok v ∧ Q (colD (r.does c)) M
theorem mono__law_done : MonoP sp__law_done := fun ds M Q Q' E E' q x ⟨r, c, v, e, h1, h2, h3, h4, h⟩ => ⟨r, c, v, e, h1, h2, h3, h4, q _ _ h⟩
theorem len__law_done (ds M Q E) (h : sp__law_done ds M Q E) : ds.length = 2 := by obtain ⟨_, _, _, rfl, _⟩ := h; rfl
def r__law_done : TS' := (tSeq' (tIfS' (tB' (tOp' (oEq false) (tOp' oIx (tVar' 0) (tC' (.int 0))) (tC' (.str "raise")))) (tRet' (tCall' sp__law_raised (tCons' (tVar' 1) (tCons' (tC' (.int 1)) (tCons' (tOp' oIx (tVar' 0) (tC' (.int 2))) tNil'))))) tNext')
    (tSeq' (tIfS' (tB' (tOp' (oEq false) (tOp' oIx (tVar' 0) (tC' (.int 0))) (tC' (.str "turn")))) (tRet' (tCall' sp__law_raised (tCons' (tVar' 1) (tCons' (tUn' oNeg (tC' (.int 1))) (tCons' (tOp' oIx (tVar' 0) (tC' (.int 2))) tNil'))))) tNext')
    (tSeq' (tIfS' (tB' (tOp' (oEq false) (tOp' oIx (tVar' 0) (tC' (.int 0))) (tC' (.str "pace")))) (tRet' (tTup' (tCons' (tCall' sp__law_times (tCons' (tOp' oIx (tVar' 1) (tC' (.int 0))) (tCons' (tOp' oIx (tVar' 0) (tC' (.int 2))) tNil'))) (tCons' (tOp' oIx (tVar' 1) (tC' (.int 1))) (tCons' (tOp' oIx (tVar' 1) (tC' (.int 2))) tNil'))))) tNext')
    (tSeq' (tIfS' (tB' (tOp' (oEq false) (tOp' oIx (tVar' 0) (tC' (.int 0))) (tC' (.str "voices")))) (tRet' (tTup' (tCons' (tOp' oIx (tVar' 1) (tC' (.int 0))) (tCons' (tOp' oIx (tVar' 1) (tC' (.int 1))) (tCons' (tCB' cTuple (tCons' (tLc' false (tIt' (tOp' oIx (tVar' 0) (tC' (.int 2)))) (gName' 2) tYes' (tOp' oIx (tOp' oIx (tVar' 1) (tC' (.int 2))) (tVar' 2)) [2]) tNil')) tNil'))))) tNext')
    (tRet' (tVar' 1))))))

theorem ks_at {ks : List Nat} {es : List Ent} (h : ∀ k ∈ ks, k < es.length) : ∀ k ∈ ks, atI (es.map entD) (k : Int) = some (entD (es.getD k none)) := by
  intro k hk
  have := h k hk
  refine at_nat ?_
  rw [List.getElem?_map, List.getD_eq_getElem?_getD, List.getElem?_eq_getElem this]; rfl
/-- the entries of an order -/
theorem pick_lc {it : ItD} {te : TE'} {i : Nat} {vs : List Nat} {δ : EnvD} {M : MH} {Q : List D → MH → Prop} (hst : it.still M) {ks : List Nat} {es : List Ent} (h : ∀ k ∈ ks, k < es.length) (hl : ks.length ≤ 1000)
    (hte : ∀ k ∈ ks, ∀ Q' : QE, Q' (entD (es.getD k none)) M → te ((wipeD δ vs).set i (some (.int (k : Int)))) M Q' (fun _ _ => False))
    (q : Q ((ks.map fun k => es.getD k none).map entD) M) : lcL it (gName' i) tYes' te vs δ Q (ks.map fun k : Nat => D.int k) [] M := by
  have hz : (sizeLine : Nat) = 16777216 := by decide
  refine lcL_rel (R := fun d (k : Nat) => d = .int (k : Int)) (fun k => entD (es.getD k none)) hst _ ks _ (RelL.map (R := fun d (k : Nat) => d = D.int (k : Int)) (fun k : Nat => D.int (k : Int)) (fun _ => rfl) ks) ?_ (by simp; omega) ?_
  · rintro d k hk rfl Q' q'
    exact hte k hk Q' q'
  · rw [List.nil_append]
    rw [List.map_map] at q
    exact q
theorem math__law_done (ds M Q E) (hM : WFM M) (hb : D.belL M.length ds = true) (h : sp__law_done ds M Q E) : r__law_done (retE M.length Q E) (startD N__law_done ds) M := by
  obtain ⟨r, c, v, rfl, hv, hcl, hdur, hr, q⟩ := h
  have hz : (sizeLine : Nat) = 16777216 := by decide
  have hq : ∀ d, d = colD (r.does c) → Q d (popM M.length d M) := fun d e => by rw [popM_same (Nat.le_refl _), e]; exact q
  have w1 : ((Str.ofString "turn") = (Str.ofString "raise")) = False := by simp; decide
  have w2 : ((Str.ofString "pace") = (Str.ofString "raise")) = False := by simp; decide
  have w3 : ((Str.ofString "pace") = (Str.ofString "turn")) = False := by simp; decide
  have w4 : ((Str.ofString "voices") = (Str.ofString "raise")) = False := by simp; decide
  have w5 : ((Str.ofString "voices") = (Str.ofString "turn")) = False := by simp; decide
  have w6 : ((Str.ofString "voices") = (Str.ofString "pace")) = False := by simp; decide
  unfold r__law_done
  simp [startD]
  cases r with
  | raise t =>
    simp [Rule.word, Rule.items]
    exact ⟨c, 1, _, t, rfl, by decide, .inl rfl, by omega, hq _ rfl⟩
  | turn t =>
    simp [Rule.word, Rule.items, w1]
    exact ⟨c, -1, _, t, rfl, by decide, .inl rfl, by omega, hq _ rfl⟩
  | pace p =>
    have hr : okDur p := hr
    simp [Rule.word, Rule.items, w2, w3, colD]
    obtain ⟨dp1, dp2, db1, db2, _⟩ := hdur
    refine ⟨_, _, c.dur.1, c.dur.2, p.1, p.2, rfl, .inl rfl, .inl rfl, dp2, hr.2.1, ⟨64, 64, by decide, db1, db2, hr.2.2.1, hr.2.2.2.1⟩, ?_⟩
    exact ⟨by decide, hq _ rfl⟩
  | voices ks =>
    have hr : ks.Perm (List.range v) := hr
    have hkl : ks.length = v := by have := hr.length_eq; rwa [List.length_range] at this
    have hks : ∀ k ∈ ks, k < c.es.length := fun k hk => by rw [hcl]; exact List.mem_range.mp (hr.subset hk)
    simp [Rule.word, Rule.items, w4, w5, w6, colD]
    refine pick_lc (es := c.es) (by exact trivial) hks (by omega) ?_ ?_
    · intro k hkm Q' q'
      simp [wipeD, ks_at hks k hkm]
      exact q'
    · simp
      refine ⟨by decide, hq _ ?_⟩
      simp [Rule.does, colD, pickC]
theorem does_len (r : Rule) {v : Nat} {c : Col} (hr : r.ok v) (hc : c.es.length = v) : (r.does c).es.length = v := by
  cases r with
  | raise t => show (c.es.map _).length = v; rw [List.length_map]; exact hc
  | turn t => show (c.es.map _).length = v; rw [List.length_map]; exact hc
  | pace p => exact hc
  | voices ks =>
    have hr : ks.Perm (List.range v) := hr
    show (ks.map _).length = v
    rw [List.length_map, hr.length_eq, List.length_range]
theorem sh_items {r : Rule} {v : Nat} (hr : r.ok v) (hv : v ≤ 4) : ∀ {d : D}, (d = .tup r.items ∨ d = .lst r.items) → Sh 1 95 d := by
  intro d hd
  have two : ∀ a b : Int, Bg 64 a → Bg 64 b → (∀ e ∈ [D.int a, D.int b], Sh 0 21 e) := fun a b ha hb e he => by
    simp only [List.mem_cons, List.not_mem_nil, or_false] at he
    rcases he with rfl | rfl
    · exact sh_int ha
    · exact sh_int hb
  have fin : ∀ es : List D, (d = .tup es ∨ d = .lst es) → (∀ e ∈ es, Sh 0 21 e) → es.length ≤ 4 → Sh 1 95 d := fun es h1 h2 h3 => sh_seq (k := 0) (L := 21) (n := 4) h1 h2 h3
  cases r with
  | raise t => obtain ⟨b1, b2⟩ := (show T64 t from hr); exact fin _ hd (two _ _ b1 b2) (by show 2 ≤ 4; decide)
  | turn t => obtain ⟨b1, b2⟩ := (show T64 t from hr); exact fin _ hd (two _ _ b1 b2) (by show 2 ≤ 4; decide)
  | pace p =>
    have hr : okDur p := hr
    exact fin _ hd (two _ _ hr.2.2.1 hr.2.2.2.1) (by show 2 ≤ 4; decide)
  | voices ks =>
    have hr : ks.Perm (List.range v) := hr
    have hkl : ks.length = v := by have := hr.length_eq; rwa [List.length_range] at this
    refine fin _ hd (fun e he => ?_) (by show (ks.map _).length ≤ 4; rw [List.length_map]; omega)
    obtain ⟨k, hk, rfl⟩ := List.mem_map.mp he
    have := List.mem_range.mp (hr.subset hk)
    exact sh_int (bg64 (by omega) (by decide))
/-! an interval drawn -/
abbrev N__law_interval : List Str := ["pool"]
def sp__law_interval : SpD := fun ds M Q _ => ∃ p, ds = [.ref p] ∧ Pool M p ∧ ∀ t M', (-100 ≤ t.1 ∧ t.1 ≤ 100 ∧ -100 ≤ t.2 ∧ t.2 ≤ 100) → Step p M M' → Q (MD.prD t) M'
theorem mono__law_interval : MonoP sp__law_interval := fun ds M Q Q' E E' q x ⟨p, e, h1, h⟩ => ⟨p, e, h1, fun a M' b c => q _ _ (h a M' b c)⟩
theorem len__law_interval (ds M Q E) (h : sp__law_interval ds M Q E) : ds.length = 1 := by obtain ⟨_, rfl, _⟩ := h; rfl
def r__law_interval : TS' := (tSeq' (tIfS' (tB' (tOp' (oEq false) (tCall' sp__law_take (tCons' (tVar' 0) (tCons' (tC' (.int 8)) tNil'))) (tC' (.int 0)))) (tRet' (tTup' (tCons' (tOp' oSub (tCall' sp__law_take (tCons' (tVar' 0) (tCons' (tC' (.int 201)) tNil'))) (tC' (.int 100))) (tCons' (tOp' oSub (tCall' sp__law_take (tCons' (tVar' 0) (tCons' (tC' (.int 201)) tNil'))) (tC' (.int 100))) tNil')))) tNext')
    (tRet' (tTup' (tCons' (tOp' oSub (tCall' sp__law_take (tCons' (tVar' 0) (tCons' (tC' (.int 9)) tNil'))) (tC' (.int 4))) (tCons' (tOp' oSub (tCall' sp__law_take (tCons' (tVar' 0) (tCons' (tC' (.int 9)) tNil'))) (tC' (.int 4))) tNil')))))

theorem math__law_interval (ds M Q E) (hM : WFM M) (hb : D.belL M.length ds = true) (h : sp__law_interval ds M Q E) : r__law_interval (retE M.length Q E) (startD N__law_interval ds) M := by
  obtain ⟨p, rfl, hp, q⟩ := h
  unfold r__law_interval
  refine seq_step fun S hS => ?_
  simp [startD]
  refine ⟨p, 8, rfl, by decide, by decide, hp, fun k M1 a1 b1 k1 => ?_⟩
  simp
  split
  · refine ⟨p, 201, rfl, by decide, by decide, k1.2, fun r M2 a2 b2 k2 => ?_⟩
    simp
    refine ⟨p, 201, rfl, by decide, by decide, k2.2, fun r3 M3 a3 b3 k3 => ?_⟩
    simp
    refine ⟨by decide, ?_⟩
    have s3 := (k1.trans k2).trans k3
    rw [popM_same (by rw [s3.length]; simp)]
    exact q (r - 100, r3 - 100) M3 (by simp only; omega) s3
  · subst hS
    simp
    refine ⟨p, 9, rfl, by decide, by decide, k1.2, fun r M2 a2 b2 k2 => ?_⟩
    simp
    refine ⟨p, 9, rfl, by decide, by decide, k2.2, fun r3 M3 a3 b3 k3 => ?_⟩
    simp
    refine ⟨by decide, ?_⟩
    have s3 := (k1.trans k2).trans k3
    rw [popM_same (by rw [s3.length]; simp)]
    exact q (r - 4, r3 - 4) M3 (by simp only; omega) s3
end Kit
/-! objects of own classes: made by their __init__, fields read and stored, methods called. -/
namespace MD
open PySem PySem.Spec PyProof.Rows L2
variable {K : PySem.W.Frag} {w w1 w2 : Wd} {X : Cx} {W : WX} {e a b c : Expr} {pos : Pos}
/-! fields -/
def putD (f : Str) (v : D) : List (Str × D) → List (Str × D)
  | [] => [(f, v)]
  | (g, u) :: r => if g = f then (g, v) :: r else (g, u) :: putD f v r
def getD (f : Str) (fs : List (Str × D)) : Option D := fs.lookup f
theorem RepF.nil : RepF K w [] [] := ⟨rfl, rfl⟩
theorem RepF.cons_inv {g : Str} {u : D} {fs : List (Str × D)} {gs : List (Str × V)} (h : RepF K w ((g, u) :: fs) gs) : ∃ x r, gs = (g, x) :: r ∧ Rep K w u x ∧ RepF K w fs r := by
  cases gs with
  | nil => exact absurd h.1 (by simp)
  | cons p r =>
    obtain ⟨g2, x⟩ := p
    obtain ⟨h1, x2, r2, e, hx, hr⟩ := h
    simp at h1
    obtain ⟨rfl, h1⟩ := h1
    simp at e
    obtain ⟨rfl, rfl⟩ := e
    exact ⟨x, r, rfl, hx, h1, hr⟩
theorem RepF.cons {g : Str} {u : D} {x : V} {fs : List (Str × D)} {gs : List (Str × V)} (hu : Rep K w u x) (h : RepF K w fs gs) : RepF K w ((g, u) :: fs) ((g, x) :: gs) :=
  ⟨by rw [List.map_cons, List.map_cons, h.1], ⟨x, gs.map (·.2), rfl, hu, h.2⟩⟩
theorem RepF.get {f : Str} : ∀ {fs : List (Str × D)} {gs : List (Str × V)}, RepF K w fs gs → match fs.lookup f with | some d => ∃ v, gs.lookup f = some v ∧ Rep K w d v | none => gs.lookup f = none
  | [], gs, h => by
    have : gs = [] := by have := h.1; simpa using this
    subst this; rfl
  | (g, u) :: fs, gs, h => by
    obtain ⟨x, r, rfl, hu, hr⟩ := h.cons_inv
    have ih := RepF.get (f := f) hr
    rw [List.lookup_cons, List.lookup_cons]
    cases (f == g) with
    | true => exact ⟨x, rfl, hu⟩
    | false => exact ih
theorem RepF.put {f : Str} {d : D} {v : V} (hd : Rep K w d v) : ∀ {fs : List (Str × D)} {gs : List (Str × V)}, RepF K w fs gs → RepF K w (putD f d fs) (putF f v gs)
  | [], gs, h => by
    have : gs = [] := by have := h.1; simpa using this
    subst this; exact RepF.cons hd RepF.nil
  | (g, u) :: fs, gs, h => by
    obtain ⟨x, r, rfl, hu, hr⟩ := h.cons_inv
    show RepF K w (if g = f then (g, d) :: fs else (g, u) :: putD f d fs) (if g = f then (g, v) :: r else (g, x) :: putF f v r)
    split
    · exact RepF.cons hd hr
    · exact RepF.cons hu (RepF.put hd hr)
theorem RepF.len {fs : List (Str × D)} {gs : List (Str × V)} (h : RepF K w fs gs) : gs.length = fs.length := by
  have := congrArg List.length h.1
  simpa using this
theorem RepF.le {fs : List (Str × D)} {gs : List (Str × V)} (r : RH K w) (l : Le w w1) (h : RepF K w fs gs) : RepF K w1 fs gs := ⟨h.1, RepL.le r l _ h.2⟩
/-- a class by its name; a field's name is no name of the class -/
def FldOk (K : PySem.W.Frag) (n f : Str) : Prop := ∀ C, PySem.W.nsIn K mainGlobals n = some (some (.ref C)) → Cls K C ∧ NoAttr K C f
theorem fld_ok {n f : Str} {C : Addr} (h : PySem.W.nsIn K mainGlobals n = some (some (.ref C))) (c : Cls K C) (z : NoAttr K C f) : FldOk K n f := fun C' h' => by
  have e := h.symm.trans h'
  cases e
  exact ⟨c, z⟩
/-- e.f -/
def tFld' (cs : List Str) (f : Str) (te : TE') : TE' := fun δ M Q E => te δ M (fun d M1 => ∃ i n fs v, d = .ref i ∧ M1[i]? = some (.ins n fs) ∧ n ∈ cs ∧ fs.lookup f = some v ∧ Q v M1) E
theorem me_fld {cs : List Str} {f : Str} {o : Expr} {to : TE'} (F : ∀ n ∈ cs, FldOk X.K n f) (ho : ME X W o to) (hbase : attributeBase o f X.env (eval o X.env) = eval o X.env := by rfl) : ME X W (.Attribute o f pos) (tFld' cs f to) :=
  ⟨PE.imp (pe_fld ho.pe hbase) fun σ H Q ⟨w, δ, eH, rh, rs, h⟩ => by
    subst eH
    refine up_go ho.mono rh rs h (fun _ _ x => x) fun d v w1 l1 rh1 rs1 rv ⟨i, n, fs, u, e, ei, hn, hu, q⟩ => ?_
    subst e
    obtain ⟨a, e, em⟩ := rv
    subst e
    obtain ⟨C, dx, gs, nC, hH, hF⟩ := rh1.ok i a _ em ei
    have g := hF.get (f := f)
    rw [hu] at g
    obtain ⟨v, ev, rv⟩ := g
    obtain ⟨c1, c2⟩ := F n hn C nC
    exact ⟨a, C, dx, gs, v, rfl, hH, c1, c2, ev, q v w1 rfl l1 rh1 rv⟩,
   fun δ M Q Q' E E' q x hh => ho.mono _ _ _ _ _ _ (fun d M1 ⟨i, n, fs, v, e, h1, h2, h3, h4⟩ => ⟨i, n, fs, v, e, h1, h2, h3, q _ _ h4⟩) x hh⟩
/-- o.f = e -/
def tFldS' (cs : List Str) (f : Str) (tv to : TE') : TS' := fun D δ M => tv δ M (fun v M1 => to δ M1 (fun d M2 => ∃ i n fs, d = .ref i ∧ M2[i]? = some (.ins n fs) ∧ n ∈ cs ∧ fs.length < 1000 ∧ D.nx δ (M2.set i (.ins n (putD f v fs)))) (fun x M1 => D.ex x δ M1)) (fun x M1 => D.ex x δ M1)
theorem ms_fld {cs : List Str} {f : Str} {o v : Expr} {p2 : Pos} {tv to : TE'} (F : ∀ n ∈ cs, FldOk X.K n f) (ho : ME X W o to) (hv : ME X W v tv) (hs : swapsWith v (some (.Attribute o f p2)) pos.line X.env = pure false := by rfl) : MS X W (.Assign [.Attribute o f p2] v pos) (tFldS' cs f tv to) :=
  ⟨PS.imp (ps_fld ho.pe hv.pe hs) fun D σ H ⟨w, δ, e, rh, rs, h⟩ => by
    subst e
    refine up_go hv.mono rh rs h (ex_of rs rh (Ends'.le.refl _)) fun u y w1 l1 rh1 rs1 ry h1 => ?_
    refine up_go ho.mono rh1 rs1 h1 (ex_of rs1 rh1 (endsD.le rh rh1 l1)) fun d z w2 l2 rh2 rs2 rz ⟨i, n, fs, e, ei, hn, hl, q⟩ => ?_
    subst e
    obtain ⟨a, e, em⟩ := rz
    subst e
    obtain ⟨C, dx, gs, nC, hH, hF⟩ := rh2.ok i a _ em ei
    obtain ⟨c1, c2⟩ := F n hn C nC
    have nd : (Cell.ins n fs) ≠ Cell.dead := fun z => by cases z
    have l3 : Le w2 (w2.put i a (.ins C dx (putF f y gs)) (.ins n (putD f u fs))) := Le.put rh2 em ei nd
    have ok : CellOk X.K (w2.put i a (.ins C dx (putF f y gs)) (.ins n (putD f u fs))) a (.ins n (putD f u fs)) := ⟨C, dx, _, nC, upd_same, (hF.put (ry.le rh1 l2)).le rh2 l3⟩
    have rh3 := rh2.put em ei nd ok
    exact ⟨a, C, dx, gs, rfl, hH, c1, c2, by rw [hF.len]; exact hl, q σ (w2.put i a (.ins C dx (putF f y gs)) (.ins n (putD f u fs))) rfl ((l1.trans rh rh1 l2).trans rh rh2 l3) rh3 (rs2.le rh2 l3)⟩,
   fun δ M D D' l h => hv.mono _ _ _ _ _ _ (fun d M1 h1 => ho.mono _ _ _ _ _ _ (fun z M2 ⟨i, n, fs, e, h2, h3, h4, h5⟩ => ⟨i, n, fs, e, h2, h3, h4, l.nx _ _ h5⟩) (fun x M1 h1 => l.ex _ _ _ h1) h1) (fun x M1 h1 => l.ex _ _ _ h1) h⟩
/-! an object is made -/
theorem run_makeSD {CX : CXT} {k : Nat} {f C : Addr} {fd : FuncData} {ps : List Str} {sp : Sp} {E : L2.St → XK} {pins : List (Addr × Obj)} {σ : L2.St} {H : Hp} {s : Shared} {Q : VK} {us : List Value} {vs : List V}
    (M : Mk X.K C f) (F : FnOk X.prog X.w X.K X.mg X.base CX k f fd ps sp) (hr : Room (k + 1) X.A) (hb : Binds X.K fd ps []) (hx : PassesAt CX X σ (E σ)) (I : L2.Inv X pins σ H s) (r : Vals vs us)
    (h : ∀ x dx, H x = none → H dx = none → dx ≠ x → sp (V.ref x :: vs) (upd (upd H dx (.own x)) x (.ins C dx [])) (fun v H2 => v = .non ∧ Q (.ref x) H2) (E σ)) :
    wpAny (model X.prog X.w) X.A (call (.ref C) us) (EP X pins σ Q) X.xe s := by
  have hs := h (s.heap.objs.size + 1) s.heap.objs.size (I.hok.fresh (Nat.le_succ _)) (I.hok.fresh (Nat.le_refl _)) (by intro z; have : s.heap.objs.size = s.heap.objs.size + 1 := z; omega)
  have I1 := I.made (C := C)
  have hty : PySem.W.typeIn X.K (.ref f) = some (.type "function") := by
    have := M.fn
    unfold PySem.W.isFn at this
    exact eq_of_beq this
  have r2 : Vals (V.ref (s.heap.objs.size + 1) :: vs) (.ref (s.heap.objs.size + 1) :: us) := Paired.cons (show RelV (V.ref _) (Value.ref _) from rfl) r
  have hl := F.len _ _ _ _ hs
  have hl2 : ((Value.ref (s.heap.objs.size + 1) :: us) ++ []).length = ps.length := by rw [List.append_nil, ← r2.length, hl]
  refine wpAny_call (make_map I.kIn M.makes M.init hty (codeAny_mono (F.run _ X.stack _ _ ⟨.ref (s.heap.objs.size + 1) :: us, []⟩ _ _ _ _ (hr.make C us []) (I1.env0.make C us []) (hb _ _ I1.kIn hl2) (by rw [List.append_nil]; exact r2) hs) fun r s' hq => ?_))
  cases r with
  | error e => exact hx pins _ _ e s' I1 hq
  | ok fl =>
    cases fl with
    | ret u =>
      obtain ⟨v, H', i, rv, e, q⟩ := I1.after hq
      subst e
      exact ⟨rv, .ref _, H', i, rfl, q⟩
    | next => exact False.elim hq
    | brk => exact False.elim hq
    | cont => exact False.elim hq
def tMakeSD (C : Addr) (sp : Sp) (E : L2.St → XK) (t : TA) : TE := fun σ H Q => t σ H fun vs H1 => ∀ x dx, H1 x = none → H1 dx = none → dx ≠ x → sp (V.ref x :: vs) (upd (upd H1 dx (.own x)) x (.ins C dx [])) (fun v H2 => v = .non ∧ Q (.ref x) H2) (E σ)
def tMake' (n : Str) (sp : SpD) (t : TA') : TE' := fun δ M Q E => t δ M (fun ds M1 => sp (.ref M1.length :: ds) (M1 ++ [.ins n []]) (fun d M2 => d = .non ∧ Q (.ref M1.length) M2) E) E
theorem me_make {x : Str} {p : Pos} {es : List Expr} {k : Nat} {f C : Addr} {fd : FuncData} {ps : List Str} {sp : SpD} {t : TA'} (hn : PySem.W.nsIn X.K mainGlobals x = some (some (.ref C))) (M : Mk X.K C f)
    (F : FnOk X.prog X.w X.K X.mg X.base (L2.CX X.prog X.w) k f fd ps (upP X.K sp)) (ms : MonoP sp) (hr : Room (k + 1) X.A) (tk : Takes X W)
    (hg : Gl X x) (hm : X.mg x = some (.ref C)) (hb : Binds X.K fd ps []) (ha : MA X W (e :: es) t)
    (hdb : (x == ("__debug__" : Str)) = false := by decide) (he : starEach (e :: es) X.env = (false, eval e X.env) :: starEach es X.env := by rfl) (hpl : (backTo pos (starEach es X.env)).any (·.1) = false := by rfl) :
    ME X W (.Call (.Name x p) (e :: es) [] pos) (tMake' x sp t) := by
  have core : PE X (.Call (.Name x p) (e :: es) [] pos) (tMakeSD C (upP X.K sp) (fun σ c d H => W c d σ H) (upA X.K W t)) := by
    refine ⟨fun pins s σ H Q I h => ?_⟩
    refine wpAny_Call_Name_kw (ld_glob I hg hm ?_ hdb)
    refine PySem.W.callWith_K (h₀ := X.base) I.ok.mod.kin M.kp (thn (ha.pa.run pos pins s σ H _ I h) fun us s1 ⟨vs, H1, I1, rel, q⟩ => ⟨I1.kIn, ?_⟩) he hpl
    exact run_makeSD (E := fun σ c d H => W c d σ H) M F hr hb (fun pins H s e s' I c => tk e s' (XE.of_call I (fun _ _ _ h => h) c)) I1 rel q
  exact ⟨PE.imp core fun σ H Q ⟨w, δ, e, rh, rs, h1⟩ => by
    subst e
    refine upA_go ha.mono rh rs h1 (fun _ _ x => x) fun ds vs w1 l1 rh1 rs1 rv h2 => ?_
    intro y dx hy hdx ne
    have hy2 : (w1.new dx (.own y)).H y = none := by show upd w1.H dx _ y = none; rw [upd_ne ne.symm]; exact hy
    have rh2 := rh1.new (o := .own y) hdx
    have rh3 : RH X.K ((w1.new dx (.own y)).cell y (.ins C dx []) (.ins x [])) := rh2.cell hy2 ⟨C, dx, [], hn, upd_same, RepF.nil⟩
    have l3 : Le w1 ((w1.new dx (.own y)).cell y (.ins C dx []) (.ins x [])) := (Le.new hdx).trans rh1 rh2 (Le.cell rh2 hy2)
    have rr : Rep X.K ((w1.new dx (.own y)).cell y (.ins C dx []) (.ins x [])) (.ref w1.M.length) (.ref y) := RH.cell_ix rh2
    refine ⟨(w1.new dx (.own y)).cell y (.ins C dx []) (.ins x []), .ref w1.M.length :: ds, rfl, rh3, ⟨.ref y, vs, rfl, rr, RepL.le rh1 l3 ds rv⟩, ms _ _ _ _ _ _ (fun d M2 ⟨ed, q⟩ => ?_) (fun x M q => (q.le rh rh1 l1).le rh1 rh3 l3) h2⟩
    subst ed
    intro v w4 e4 l4 rh4 rv4
    refine ⟨rep_non rv4, ?_⟩
    exact q (.ref y) w4 e4 ((l1.trans rh rh1 l3).trans rh rh3 l4) rh4 (Rep.le rh3 l4 _ rr),
   fun δ M Q Q' E E' q x hh => ha.mono _ _ _ _ _ _ (fun d M1 h1 => ms _ _ _ _ _ _ (fun d M2 ⟨e, h⟩ => ⟨e, q _ _ h⟩) x h1) x hh⟩
/-! methods -/
def tMethSD (C : Addr) (m : Str) (sp : Sp) (E : L2.St → XK) (ta : TE) (t : TA) : TE := fun σ H Q => ta σ H fun x H1 => ∃ a dx fs, x = V.ref a ∧ H1 a = some (.ins C dx fs) ∧ fs.lookup m = none ∧ t σ H1 fun vs H2 => sp (x :: vs) H2 Q (E σ)
def tMeth' (n m : Str) (sp : SpD) (to : TE') (t : TA') : TE' := fun δ M Q E => to δ M (fun d M1 => (∃ i fs, d = .ref i ∧ M1[i]? = some (.ins n fs) ∧ fs.lookup m = none) ∧ t δ M1 (fun ds M2 => sp (d :: ds) M2 Q E) E) E
theorem me_meth {n m : Str} {apos : Pos} {o : Expr} {es : List Expr} {k : Nat} {f C : Addr} {fd : FuncData} {ps : List Str} {sp : SpD} {to : TE'} {t : TA'} {pl : Sem Bool} (hn : PySem.W.nsIn X.K mainGlobals n = some (some (.ref C))) (ho : ME X W o to) (c : Cls X.K C) (hm : Meth X.K C m f)
    (F : FnOk X.prog X.w X.K X.mg X.base (L2.CX X.prog X.w) k f fd ps (upP X.K sp)) (ms : MonoP sp) (hr : Room k X.A) (tk : Takes X W) (hb : Binds X.K fd ps []) (ha : MA X W (e :: es) t)
    (hst : starEach (e :: es) X.env = (false, eval e X.env) :: starEach es X.env := by rfl) (hpl : (backTo pos (starEach es X.env)).any (·.1) = false := by rfl)
    (hcall : eval (.Call (.Attribute o m apos) (e :: es) [] pos) X.env = (do
      let ov ← eval o X.env
      standAt apos.atName
      let (f, first) ← holding [ov] (getMethod ov m pl)
      callWith pos f first (backTo pos (starEach (e :: es) X.env)) (backToKw pos (keywordEach [] X.env))) := by rfl) :
    ME X W (.Call (.Attribute o m apos) (e :: es) [] pos) (tMeth' n m sp to t) := by
  have core : PE X (.Call (.Attribute o m apos) (e :: es) [] pos) (tMethSD C m (upP X.K sp) (fun σ c d H => W c d σ H) (up X.K W to) (upA X.K W t)) := by
    refine ⟨fun pins s σ H Q I h => ?_⟩
    refine PySem.W.methodCall_KW (thn (ho.pe.run pins s σ H _ I h) fun u s1 ⟨x, H1, I1, rx, a, dx, fs, ex, ea, hl, q⟩ => ?_) hcall
    subst ex
    have ru : u = .ref a := rx
    subst ru
    refine getmeth_ok I1 ea c hm hl ?_
    refine PySem.W.callWith_K I.ok.mod.kin hm.kp (thn (ha.pa.run pos pins s1 σ H1 _ I1 q) fun us s2 ⟨vs, H2, I2, r, q2⟩ => ⟨I2.kIn, ?_⟩) hst hpl
    exact run_fnSD (E := fun σ c d H => W c d σ H) F hr hb .nil (fun pins H s e s' I c => tk e s' (XE.of_call I (fun _ _ _ h => h) c)) I2 (Paired.cons (show RelV (V.ref a) (Value.ref a) from rfl) r) (by rw [List.append_nil]; exact q2)
  exact ⟨PE.imp core fun σ H Q ⟨w, δ, e, rh, rs, h⟩ => by
    subst e
    refine up_go ho.mono rh rs h (fun _ _ x => x) fun d v w1 l1 rh1 rs1 rv ⟨⟨i, fs, e, ei, hl⟩, h2⟩ => ?_
    subst e
    obtain ⟨a, e, em⟩ := id rv
    subst e
    obtain ⟨C', dx, gs, nC, hH, hF⟩ := rh1.ok i a _ em ei
    have e := hn.symm.trans nC
    cases e
    have g := hF.get (f := m)
    rw [hl] at g
    refine ⟨a, dx, gs, rfl, hH, g, ?_⟩
    refine upA_go ha.mono rh1 rs1 h2 (fun _ _ x => x.le rh rh1 l1) fun ds vs w2 l2 rh2 rs2 rvs h3 => ?_
    exact ⟨w2, .ref i :: ds, rfl, rh2, ⟨.ref a, vs, rfl, Rep.le rh1 l2 _ rv, rvs⟩, ms _ _ _ _ _ _ (fun d M q => (q.le rh rh1 l1).le rh1 rh2 l2) (fun x M q => (q.le rh rh1 l1).le rh1 rh2 l2) h3⟩,
   fun δ M Q Q' E E' q x hh => ho.mono _ _ _ _ _ _ (fun d M1 ⟨h1, h2⟩ => ⟨h1, ha.mono _ _ _ _ _ _ (fun ds M2 h3 => ms _ _ _ _ _ _ q x h3) x h2⟩) x hh⟩
theorem me_meth0 {n m : Str} {apos : Pos} {o : Expr} {k : Nat} {f C : Addr} {fd : FuncData} {ps : List Str} {sp : SpD} {to : TE'} {pl : Sem Bool} (hn : PySem.W.nsIn X.K mainGlobals n = some (some (.ref C))) (ho : ME X W o to) (c : Cls X.K C) (hm : Meth X.K C m f)
    (F : FnOk X.prog X.w X.K X.mg X.base (L2.CX X.prog X.w) k f fd ps (upP X.K sp)) (ms : MonoP sp) (hr : Room k X.A) (tk : Takes X W) (hb : Binds X.K fd ps [])
    (hcall : eval (.Call (.Attribute o m apos) [] [] pos) X.env = (do
      let ov ← eval o X.env
      standAt apos.atName
      let (f, first) ← holding [ov] (getMethod ov m pl)
      callWith pos f first (backTo pos (starEach [] X.env)) (backToKw pos (keywordEach [] X.env))) := by rfl) :
    ME X W (.Call (.Attribute o m apos) [] [] pos) (tMeth' n m sp to tNil') := by
  have core : PE X (.Call (.Attribute o m apos) [] [] pos) (tMethSD C m (upP X.K sp) (fun σ c d H => W c d σ H) (up X.K W to) L2.tNil) := by
    refine ⟨fun pins s σ H Q I h => ?_⟩
    refine PySem.W.methodCall_KW (thn (ho.pe.run pins s σ H _ I h) fun u s1 ⟨x, H1, I1, rx, a, dx, fs, ex, ea, hl, q⟩ => ?_) hcall
    subst ex
    have ru : u = .ref a := rx
    subst ru
    refine getmeth_ok I1 ea c hm hl ?_
    refine PySem.W.callWith_K0 I1.kIn hm.kp ?_
    exact run_fnSD (E := fun σ c d H => W c d σ H) F hr hb .nil (fun pins H s e s' I c => tk e s' (XE.of_call I (fun _ _ _ h => h) c)) I1 (Paired.cons (show RelV (V.ref a) (Value.ref a) from rfl) .nil) (by rw [List.append_nil]; exact q)
  exact ⟨PE.imp core fun σ H Q ⟨w, δ, e, rh, rs, h⟩ => by
    subst e
    refine up_go ho.mono rh rs h (fun _ _ x => x) fun d v w1 l1 rh1 rs1 rv ⟨⟨i, fs, e, ei, hl⟩, h2⟩ => ?_
    subst e
    obtain ⟨a, e, em⟩ := id rv
    subst e
    obtain ⟨C', dx, gs, nC, hH, hF⟩ := rh1.ok i a _ em ei
    have e := hn.symm.trans nC
    cases e
    have g := hF.get (f := m)
    rw [hl] at g
    refine ⟨a, dx, gs, rfl, hH, g, ?_⟩
    exact ⟨w1, [.ref i], rfl, rh1, ⟨.ref a, [], rfl, rv, rfl⟩, ms _ _ _ _ _ _ (fun d M q => q.le rh rh1 l1) (fun x M q => q.le rh rh1 l1) h2⟩,
   fun δ M Q Q' E E' q x hh => ho.mono _ _ _ _ _ _ (fun d M1 ⟨h1, h2⟩ => ⟨h1, ms _ _ _ _ _ _ q x h2⟩) x hh⟩
@[simp] theorem u_fld {cs : List Str} {f : Str} {te : TE'} {δ : EnvD} {M : MH} {Q : QE} {E : QX} : tFld' cs f te δ M Q E ↔ te δ M (fun d M1 => ∃ i n fs v, d = .ref i ∧ M1[i]? = some (.ins n fs) ∧ n ∈ cs ∧ fs.lookup f = some v ∧ Q v M1) E := Iff.rfl
@[simp] theorem u_fldS {cs : List Str} {f : Str} {tv to : TE'} {δ : EnvD} {M : MH} {D : Ends'} : tFldS' cs f tv to D δ M ↔ tv δ M (fun v M1 => to δ M1 (fun d M2 => ∃ i n fs, d = .ref i ∧ M2[i]? = some (.ins n fs) ∧ n ∈ cs ∧ fs.length < 1000 ∧ D.nx δ (M2.set i (.ins n (putD f v fs)))) (fun x M1 => D.ex x δ M1)) (fun x M1 => D.ex x δ M1) := Iff.rfl
@[simp] theorem u_make {n : Str} {sp : SpD} {t : TA'} {δ : EnvD} {M : MH} {Q : QE} {E : QX} : tMake' n sp t δ M Q E ↔ t δ M (fun ds M1 => sp (.ref M1.length :: ds) (M1 ++ [.ins n []]) (fun d M2 => d = .non ∧ Q (.ref M1.length) M2) E) E := Iff.rfl
@[simp] theorem u_meth {n m : Str} {sp : SpD} {to : TE'} {t : TA'} {δ : EnvD} {M : MH} {Q : QE} {E : QX} : tMeth' n m sp to t δ M Q E ↔ to δ M (fun d M1 => (∃ i fs, d = .ref i ∧ M1[i]? = some (.ins n fs) ∧ fs.lookup m = none) ∧ t δ M1 (fun ds M2 => sp (d :: ds) M2 Q E) E) E := Iff.rfl

theorem fld1 {n f : Str} (h : FldOk K n f) : ∀ m ∈ [n], FldOk K m f := fun m hm => by rw [List.mem_singleton.mp hm]; exact h
theorem fld2 {n n2 f : Str} (h : FldOk K n f) (h2 : FldOk K n2 f) : ∀ m ∈ [n, n2], FldOk K m f := fun m hm => by
  rcases List.mem_cons.mp hm with rfl | hm
  · exact h
  · rw [List.mem_singleton.mp hm]; exact h2
end MD
namespace MD
open PySem PySem.Spec PySem.W PyProof.Rows L2
variable {K : PySem.W.Frag} {w w1 w2 : Wd} {X : Cx} {W : WX} {e a b c : Expr} {pos : Pos}
/-! sorted(xs), min(xs), xs a list of triples of whole numbers -/
abbrev Tri := Int × Int × Int
def Tri.enc (p : Tri) : PyData := .tuple [.int p.1, .int p.2.1, .int p.2.2]
def lex3 (p q : Tri) : Prop := p.1 < q.1 ∨ (p.1 = q.1 ∧ (p.2.1 < q.2.1 ∨ (p.2.1 = q.2.1 ∧ p.2.2 < q.2.2)))
theorem lt3 (p q : Tri) : dataLt p.enc q.enc = true ↔ lex3 p q := by
  obtain ⟨x, y, z⟩ := p
  obtain ⟨x', y', z'⟩ := q
  have e : dataLt (Tri.enc (x, y, z)) (Tri.enc (x', y', z')) = rowLt ([x, y, z].map PyData.int) ([x', y', z'].map PyData.int) := by
    unfold Tri.enc rowLt
    rw [dataLt_tuple]
    rfl
  rw [e, dataLt_ints, decide_eq_true_iff]
  unfold lex3
  rw [List.cons_lt_cons_iff, List.cons_lt_cons_iff, List.cons_lt_cons_iff]
  have : ¬ (([] : List Int) < []) := List.not_lt_nil _
  simp [this]
theorem enc_alike (p q : Tri) : alike p.enc q.enc = true := by simp [Tri.enc, alike, alikeAll]
theorem enc_depth (p : Tri) : p.enc.depth ≤ 64 := by simp [Tri.enc, PyData.depth, PyData.depthAll]

def rSortT (K : PySem.W.Frag) : List V → Hp → VK → Prop := fun vs H Q => ∃ (a : Addr) (zs : List (V × Tri)), vs = [V.ref a] ∧ SqL K H a (zs.map (·.1)) ∧ (∀ z ∈ zs, ∃ t, z.1 = V.ref t ∧ SqT K H t [.int z.2.1, .int z.2.2.1, .int z.2.2.2]) ∧
  ∀ (zs' : List (V × Tri)) p, (∀ z ∈ zs', z ∈ zs) → (zs'.map (·.2)).Perm (zs.map (·.2)) → (zs'.map (·.2)).Pairwise (fun p q => ¬ lex3 q p) → H p = none → Q (.ref p) (upd H p (.lst (zs'.map (·.1))))
def rMinT (K : PySem.W.Frag) : List V → Hp → VK → Prop := fun vs H Q => ∃ (a : Addr) (zs : List (V × Tri)), vs = [V.ref a] ∧ SqL K H a (zs.map (·.1)) ∧ (∀ z ∈ zs, ∃ t, z.1 = V.ref t ∧ SqT K H t [.int z.2.1, .int z.2.2.1, .int z.2.2.2]) ∧ zs ≠ [] ∧
  ∀ z ∈ zs, (∀ y ∈ zs, ¬ lex3 y.2 z.2) → Q z.1 H
theorem each_tri {P : V × Tri → Prop} : ∀ (zs : List (V × Tri)) (its : List Value), zs.map (·.1) = its.map backV → (∀ u ∈ its, ∃ a, u = Value.ref a) → (∀ z ∈ zs, P z) → EachIs (fun v p => P (backV v, p) ∧ ∃ a, v = Value.ref a) its (zs.map (·.2))
  | [], [], _, _, _ => .nil
  | [], _ :: _, e, _, _ => nomatch e
  | _ :: _, [], e, _, _ => nomatch e
  | z :: zs, v :: its, e, h1, h2 => by
    rw [List.map_cons, List.map_cons] at e
    injection e with e1 e2
    refine .cons ⟨?_, h1 v List.mem_cons_self⟩ (each_tri zs its e2 (fun u m => h1 u (List.mem_cons_of_mem _ m)) fun z m => h2 z (List.mem_cons_of_mem _ m))
    rw [← e1]; exact h2 z List.mem_cons_self
theorem tri_each {P : V × Tri → Prop} : ∀ {out : List Value} {bs : List Tri}, EachIs (fun v p => P (backV v, p) ∧ ∃ a, v = Value.ref a) out bs → ∃ zs : List (V × Tri), zs.map (·.1) = out.map backV ∧ zs.map (·.2) = bs ∧ (∀ z ∈ zs, P z) ∧ ∀ u ∈ out, ∃ a, u = Value.ref a
  | _, _, .nil => ⟨[], rfl, rfl, nofun, nofun⟩
  | _, _, .cons (a := a) (b := b) h t => by
    obtain ⟨zs, e1, e2, h3, h4⟩ := tri_each t
    refine ⟨(backV a, b) :: zs, by rw [List.map_cons, List.map_cons, e1], by rw [List.map_cons, e2], fun z m => ?_, fun u m => ?_⟩
    · rcases List.mem_cons.mp m with rfl | m
      · exact h.1
      · exact h3 z m
    · rcases List.mem_cons.mp m with rfl | m
      · exact h.2
      · exact h4 u m
theorem l3_tot (p q : Tri) : ¬ lex3 p q ∨ ¬ lex3 q p := by unfold lex3; omega
theorem l3_tr {p q r : Tri} (a : ¬ lex3 q p) (b : ¬ lex3 r q) : ¬ lex3 r p := by unfold lex3 at *; omega
theorem reads_tri {X : Cx} {pins : List (Addr × Obj)} {σ : L2.St} {H : Hp} {s : Shared} (I : L2.Inv X pins σ H s) {v : Value} {p : Tri} (h : ∃ t, backV v = V.ref t ∧ SqT X.K H t [.int p.1, .int p.2.1, .int p.2.2]) (hv : ∃ a, v = Value.ref a) : ∃ as, Reads s.heap v p.enc as := by
  obtain ⟨a, rfl⟩ := hv
  obtain ⟨t, e, ht⟩ := h
  cases e
  obtain ⟨its2, r2, ⟨o, ho, hc, n, hd⟩, _⟩ := I.tuple ht
  cases r2 with
  | cons ru1 r3 =>
  cases r3 with
  | cons ru2 r4 =>
  cases r4 with
  | cons ru3 r5 =>
  cases r5
  obtain ⟨t1, rfl⟩ := ru1
  obtain ⟨t2, rfl⟩ := ru2
  obtain ⟨t3, rfl⟩ := ru3
  exact ⟨_, .tuple ho hc hd (.cons (.int _ _) (.cons (.int _ _) (.cons (.int _ _) .nil)))⟩
theorem cr_sortT (hu : X.A.units + 66 < cLine) : CallR X (.builtin "sorted") (rSortT X.K) := by
  intro pins s σ H vs us Q I r h
  obtain ⟨a, zs, rfl, hs, hx, q⟩ := h
  obtain ⟨its, rv, hl, hz⟩ := I.list hs
  obtain ⟨u, rfl, ru⟩ := vals1 r
  obtain rfl : u = Value.ref a := ru
  obtain ⟨e1, e2⟩ := refs_back rv fun x m => by
    obtain ⟨z, hz, rfl⟩ := List.mem_map.mp m
    obtain ⟨t, e, _⟩ := hx z hz
    exact ⟨t, e⟩
  have E := each_tri (P := fun z => z ∈ zs) zs its e1 e2 (fun z m => m)
  refine sorted_data (enc := Tri.enc) (R := fun v p => (backV v, p) ∈ zs ∧ ∃ a, v = Value.ref a) hl.isList E (E.mono fun v p ⟨m, hv⟩ => reads_tri I (hx _ m) hv) ?_ ?_ ?_ (fun b _ => ?_) fun out ho h2 => ?_
  · intro d hd d' hd'
    obtain ⟨p, _, rfl⟩ := List.mem_map.mp hd
    obtain ⟨p', _, rfl⟩ := List.mem_map.mp hd'
    exact enc_alike p p'
  · refine .inl fun d hd => ?_
    obtain ⟨p, _, rfl⟩ := List.mem_map.mp hd
    exact ⟨_, _, rfl⟩
  · rw [List.length_map] at hz ⊢; exact hz
  · have := enc_depth b
    omega
  · obtain ⟨zs', f1, f2, f3, f4⟩ := tri_each (P := fun z => z ∈ zs) h2
    obtain ⟨ep, he'⟩ := PyProof.Rows.sortedAll_at s.heap its out.toArray
    refine ⟨.ref (s.heap.objs.size + 1), upd H (s.heap.objs.size + 1) (.lst (out.map backV)), I.laid (t' := s.toks) (fun _ _ => PyProof.Rows.sortedAll_old) (Nat.le_succ _) ⟨?_, out, ep, vals_back f4, he'⟩, rfl, ?_⟩
    · rw [List.length_map, ho, List.length_map]; rw [List.length_map] at hz; exact hz
    · rw [← f1]
      refine q zs' _ f3 ?_ ?_ (I.hok.fresh (Nat.le_succ _))
      · rw [f2]; exact List.mergeSort_perm _ _
      · rw [f2]
        refine (List.pairwise_mergeSort (le := dataLe false Tri.enc) ?_ ?_ _).imp ?_
        · intro p q r hp hq
          rw [dataLe_eq] at hp hq ⊢
          simp only [cond_false, Bool.not_eq_true', ← Bool.not_eq_true, lt3] at hp hq ⊢
          exact l3_tr hp hq
        · intro p q
          rw [dataLe_eq]
          simp only [cond_false, Bool.or_eq_true, Bool.not_eq_true', ← Bool.not_eq_true, lt3]
          exact (l3_tot p q).symm
        · intro p q hp
          rw [dataLe_eq] at hp
          simpa only [cond_false, Bool.not_eq_true', ← Bool.not_eq_true, lt3] using hp
theorem minD_tri : ∀ (ps : List Tri) (p : Tri), ∃ m, m ∈ p :: ps ∧ minD p.enc (ps.map Tri.enc) = m.enc ∧ ∀ y ∈ p :: ps, ¬ lex3 y m
  | [], p => ⟨p, List.mem_cons_self, rfl, fun y m => by rw [List.mem_singleton.mp m]; unfold lex3; omega⟩
  | r :: ps, p => by
    have e : minD p.enc ((r :: ps).map Tri.enc) = minD (if dataLt r.enc p.enc = true then r.enc else p.enc) (ps.map Tri.enc) := rfl
    rw [e]
    by_cases h : dataLt r.enc p.enc = true
    · rw [if_pos h]
      obtain ⟨m, h1, h2, h3⟩ := minD_tri ps r
      refine ⟨m, List.mem_cons_of_mem _ h1, h2, fun y my => ?_⟩
      rcases List.mem_cons.mp my with rfl | my
      · have a := h3 r List.mem_cons_self
        have b := (lt3 _ _).mp h
        unfold lex3 at *
        omega
      · exact h3 y my
    · rw [if_neg h]
      obtain ⟨m, h1, h2, h3⟩ := minD_tri ps p
      rw [lt3] at h
      refine ⟨m, ?_, h2, fun y my => ?_⟩
      · rcases List.mem_cons.mp h1 with rfl | h1
        · exact List.mem_cons_self
        · exact List.mem_cons_of_mem _ (List.mem_cons_of_mem _ h1)
      · rcases List.mem_cons.mp my with rfl | my
        · exact h3 y List.mem_cons_self
        rcases List.mem_cons.mp my with rfl | my
        · have a := h3 p List.mem_cons_self
          exact l3_tr a h
        · exact h3 y (List.mem_cons_of_mem _ my)
theorem enc_inj {p q : Tri} (h : p.enc = q.enc) : p = q := by
  obtain ⟨x, y, z⟩ := p
  obtain ⟨x', y', z'⟩ := q
  simp only [Tri.enc, PyData.tuple.injEq, List.cons.injEq, PyData.int.injEq] at h
  obtain ⟨rfl, rfl, rfl, _⟩ := h
  rfl
theorem readsAll_tri {h : Heap} {R : Value → Tri → Prop} : ∀ {its : List Value} {ps : List Tri}, EachIs R its ps → (∀ v p, R v p → ∃ as, Reads h v p.enc as) → ∃ as, ReadsAll h its (ps.map Tri.enc) as
  | _, _, .nil, _ => ⟨_, .nil⟩
  | _, _, .cons a t, f => by
    obtain ⟨as, r⟩ := f _ _ a
    obtain ⟨bs, r'⟩ := readsAll_tri t f
    exact ⟨_, .cons r r'⟩
theorem each_at {α β} {R : α → β → Prop} : ∀ {xs : List α} {ys : List β}, EachIs R xs ys → ∀ (i : Nat) (x : α), xs[i]? = some x → ∃ y, y ∈ ys ∧ R x y
  | _, _, .nil, i, x, e => by cases e
  | _, _, .cons a t, 0, x, e => by cases e; exact ⟨_, List.mem_cons_self, a⟩
  | _, _, .cons a t, i + 1, x, e => by
    obtain ⟨y, h1, h2⟩ := each_at t i x e
    exact ⟨y, List.mem_cons_of_mem _ h1, h2⟩
theorem cr_minT (hc : X.calm = true) (hu : X.A.units + 66 < cLine) : CallR X (.builtin "min") (rMinT X.K) := by
  intro pins s σ H vs us Q I r h
  obtain ⟨a, zs, rfl, hs, hx, hne, q⟩ := h
  obtain ⟨its, rv, hl, hz⟩ := I.list hs
  obtain ⟨u, rfl, ru⟩ := vals1 r
  obtain rfl : u = Value.ref a := ru
  obtain ⟨e1, e2⟩ := refs_back rv fun x m => by
    obtain ⟨z, hz, rfl⟩ := List.mem_map.mp m
    obtain ⟨t, e, _⟩ := hx z hz
    exact ⟨t, e⟩
  have E := each_tri (P := fun z => z ∈ zs) zs its e1 e2 (fun z m => m)
  obtain ⟨as, ra⟩ := readsAll_tri E fun v p ⟨m, hv⟩ => reads_tri I (hx _ m) hv
  cases hzs : zs with
  | nil => exact absurd hzs hne
  | cons z0 zr =>
    have ek : (zs.map (·.2)).map Tri.enc = z0.2.enc :: (zr.map (·.2)).map Tri.enc := by rw [hzs]; rfl
    rw [ek] at ra
    have key : ∀ d ∈ z0.2.enc :: (zr.map (·.2)).map Tri.enc, ∃ p : Tri, d = p.enc := fun d m => by
      rw [← ek] at m
      obtain ⟨p, _, rfl⟩ := List.mem_map.mp m
      exact ⟨p, rfl⟩
    refine min_list_data (vs := its.toArray) (I.ok.hd hc) hl.isList (by rw [List.toList_toArray]; exact ra) ⟨fun x mx y my => ?_, fun x mx => ?_⟩ ?_ fun i v h' tk bs hi hr hk => ?_
    · obtain ⟨p, rfl⟩ := key x mx
      obtain ⟨p', rfl⟩ := key y my
      exact enc_alike p p'
    · obtain ⟨p, rfl⟩ := key x mx
      intro e; cases e
    · have : ∀ ds : List PyData, (∀ d ∈ ds, ∃ p : Tri, d = p.enc) → PyData.depthAll ds ≤ 64 := by
        intro ds
        induction ds with
        | nil => intro _; exact Nat.zero_le _
        | cons d r ih =>
          intro h
          obtain ⟨p, rfl⟩ := h d List.mem_cons_self
          have := ih fun d m => h d (List.mem_cons_of_mem _ m)
          have := enc_depth p
          simp only [PyData.depthAll]
          omega
      have := this _ key
      omega
    · obtain ⟨p, mp, ⟨mz, hv⟩⟩ := each_at E i v (by simpa using hi)
      obtain ⟨m, m1, m2, m3⟩ := minD_tri (zr.map (·.2)) z0.2
      rw [m2] at hr
      obtain ⟨as', r'⟩ := reads_tri I (hx _ mz) hv
      have hd := (reads_det (fun b o e _ => hk b o e) r' hr)
      have hd : m = p := by first | exact enc_inj hd.1 | exact enc_inj hd.1.symm | exact enc_inj hd | exact enc_inj hd.symm
      subst hd
      obtain ⟨av, rfl⟩ := hv
      refine ⟨backV (.ref av), H, I.kept hk, rfl, q _ mz fun y my => ?_⟩
      refine m3 _ ?_
      rw [hzs] at my
      rcases List.mem_cons.mp my with rfl | my
      · exact List.mem_cons_self
      · exact List.mem_cons_of_mem _ (List.mem_map.mpr ⟨y, my, rfl⟩)
def triD (p : Tri) : D := .tup [.int p.1, .int p.2.1, .int p.2.2]
def cSortT (cell : Bool) : RA' := fun ds M Q => ∃ d es ps, ds = [d] ∧ lstOf d M = some es ∧ es = ps.map triD ∧ ∀ ps' : List Tri, ps'.Perm ps → ps'.Pairwise (fun p q => ¬ lex3 q p) → newL cell (ps'.map triD) M Q
def cMinT : RA' := fun ds M Q => ∃ d es ps, ds = [d] ∧ lstOf d M = some es ∧ es = ps.map triD ∧ ps ≠ [] ∧ ∀ p ∈ ps, (∀ q ∈ ps, ¬ lex3 q p) → Q (triD p) M
theorem repL_tris : ∀ {ps : List Tri} {xs : List V}, RepL K w (ps.map triD) xs → ∃ zs : List (V × Tri), zs.map (·.1) = xs ∧ zs.map (·.2) = ps ∧ (∀ z ∈ zs, Rep K w (triD z.2) z.1)
  | [], xs, h => by have h : xs = [] := h; subst h; exact ⟨[], rfl, rfl, nofun⟩
  | p :: ps, xs, h => by
    obtain ⟨x, r, rfl, hx, hr⟩ := h
    obtain ⟨zs, e1, e2, h3⟩ := repL_tris hr
    refine ⟨(x, p) :: zs, by rw [List.map_cons, e1], by rw [List.map_cons, e2], fun z hz => ?_⟩
    rcases List.mem_cons.mp hz with rfl | hz
    · exact hx
    · exact h3 z hz
theorem repL_of_tris : ∀ {zs : List (V × Tri)}, (∀ z ∈ zs, Rep K w (triD z.2) z.1) → RepL K w ((zs.map (·.2)).map triD) (zs.map (·.1))
  | [], _ => rfl
  | z :: zs, h => ⟨_, _, rfl, h z List.mem_cons_self, repL_of_tris fun y hy => h y (List.mem_cons_of_mem _ hy)⟩
theorem tri_sq {z : V × Tri} (h : Rep K w (triD z.2) z.1) : ∃ t, z.1 = V.ref t ∧ SqT K w.H t [.int z.2.1, .int z.2.2.1, .int z.2.2.2] := by
  obtain ⟨t, us, e, ht, hu⟩ := h
  refine ⟨t, e, ?_⟩
  obtain ⟨x1, r1, rfl, hx1, hr1⟩ := hu
  obtain ⟨x2, r2, rfl, hx2, hr2⟩ := hr1
  obtain ⟨x3, r3, rfl, hx3, hr3⟩ := hr2
  have hr3 : r3 = [] := hr3
  rw [rep_int hx1, rep_int hx2, rep_int hx3, hr3] at ht
  exact ht
theorem la_sortT {cell : Bool} : LiftA K (rSortT K) (cSortT cell) := by
  intro w xs ds Q rh r ⟨d, es, ps, e, e1, e2, q⟩
  subst e e2
  obtain ⟨v, rfl, rv⟩ := rep1 r
  obtain ⟨a, ys, rfl, hy, hr⟩ := lstOf_rep rh rv e1
  obtain ⟨zs, f1, f2, h3⟩ := repL_tris hr
  subst f1 f2
  exact ⟨a, zs, rfl, SqL.of hy, fun z hz => tri_sq (h3 z hz), fun zs' p hm hp hs hn => newL.lift rh (repL_of_tris fun z hz => h3 z (hm z hz)) (q (zs'.map (·.2)) hp hs) p hn⟩
theorem la_minT : LiftA K (rMinT K) cMinT := by
  intro w xs ds Q rh r ⟨d, es, ps, e, e1, e2, hne, q⟩
  subst e e2
  obtain ⟨v, rfl, rv⟩ := rep1 r
  obtain ⟨a, ys, rfl, hy, hr⟩ := lstOf_rep rh rv e1
  obtain ⟨zs, f1, f2, h3⟩ := repL_tris hr
  subst f1 f2
  refine ⟨a, zs, rfl, SqL.of hy, fun z hz => tri_sq (h3 z hz), fun e => hne (by rw [e]; rfl), fun z hz hm => PV.here rh (q z.2 (List.mem_map.mpr ⟨z, hz, rfl⟩) fun p hp => ?_) (h3 z hz)⟩
  obtain ⟨y, hy, rfl⟩ := List.mem_map.mp hp
  exact hm y hy
theorem mr_sortT {cell : Bool} : MonoR (cSortT cell) := fun ds M Q Q' q ⟨d, es, ps, e, e1, e2, h⟩ => ⟨d, es, ps, e, e1, e2, fun ps' a b => (h ps' a b).mono q⟩
theorem mr_minT : MonoR cMinT := fun ds M Q Q' q ⟨d, es, ps, e, e1, e2, e3, h⟩ => ⟨d, es, ps, e, e1, e2, e3, fun p a b => q _ _ (h p a b)⟩
@[simp] theorem u_sortT {cell : Bool} {ds : List D} {M : MH} {Q : QE} : cSortT cell ds M Q ↔ ∃ d es ps, ds = [d] ∧ lstOf d M = some es ∧ es = ps.map triD ∧ ∀ ps' : List Tri, ps'.Perm ps → ps'.Pairwise (fun p q => ¬ lex3 q p) → newL cell (ps'.map triD) M Q := Iff.rfl
@[simp] theorem u_minT {ds : List D} {M : MH} {Q : QE} : cMinT ds M Q ↔ ∃ d es ps, ds = [d] ∧ lstOf d M = some es ∧ es = ps.map triD ∧ ps ≠ [] ∧ ∀ p ∈ ps, (∀ q ∈ ps, ¬ lex3 q p) → Q (triD p) M := Iff.rfl
theorem l3_uniq {ps : List Tri} {p q : Tri} (a : p ∈ ps) (b : q ∈ ps) (h1 : ∀ r ∈ ps, ¬ lex3 r p) (h2 : ∀ r ∈ ps, ¬ lex3 r q) : p = q := by
  have x := h1 q b
  have y := h2 p a
  obtain ⟨p1, p2, p3⟩ := p
  obtain ⟨q1, q2, q3⟩ := q
  unfold lex3 at x y
  simp only at x y
  refine Prod.ext ?_ (Prod.ext ?_ ?_) <;> simp only <;> omega
end MD
namespace MD
open PySem PySem.Spec PySem.W PyProof.Rows L2
variable {K : PySem.W.Frag} {w w1 w2 : Wd} {X : Cx} {W : WX} {e a b c : Expr} {pos : Pos}
/-! lcm of two whole numbers -/
theorem log_lt {n k : Nat} (h : n < 2 ^ k) (hk : 0 < k) : n.log2 < k := by
  by_cases h0 : n = 0
  · subst h0; simpa using hk
  · exact (Nat.log2_lt h0).mpr h
def rLcm : List V → Hp → VK → Prop := fun vs H Q => ∃ a b : Int, vs = [V.int a, V.int b] ∧ a.natAbs < 2 ^ 13000 ∧ b.natAbs < 2 ^ 13000 ∧ Nat.lcm a.natAbs b.natAbs < 2 ^ 13000 ∧ Q (.int ((Nat.lcm a.natAbs b.natAbs : Nat) : Int)) H
theorem cr_lcm {X : Cx} : CallR X (.builtin "math.lcm") rLcm := fun pins s σ H vs us Q I r h => by
  obtain ⟨a, b, rfl, ha, hb, hl, q⟩ := h
  obtain ⟨t, u, rfl⟩ := Vals.int2 r
  have e1 : (Nat.lcm 1 a.natAbs).lcm b.natAbs = Nat.lcm a.natAbs b.natAbs := by rw [Nat.lcm_one_left]
  have l1 : ¬ (max 1 a.natAbs).log2 / 30 + 1 > 450 := by
    have : (max 1 a.natAbs).log2 < 13000 := log_lt (by
      rcases Nat.le_total 1 a.natAbs with h | h
      · rw [Nat.max_eq_right h]; exact ha
      · rw [Nat.max_eq_left h]; exact Nat.one_lt_two_pow (by decide)) (by decide)
    omega
  have l2 : ¬ (max a.natAbs b.natAbs).log2 / 30 + 1 > 450 := by
    have : (max a.natAbs b.natAbs).log2 < 13000 := log_lt (by
      rcases Nat.le_total b.natAbs a.natAbs with h | h
      · rw [Nat.max_eq_left h]; exact ha
      · rw [Nat.max_eq_right h]; exact hb) (by decide)
    omega
  have l3 : ((((Nat.lcm 1 a.natAbs).lcm b.natAbs : Nat) : Int)).natAbs.log2 < bitsLine := by
    rw [e1]
    exact Nat.lt_of_lt_of_le (log_lt (k := 13000) (by simpa using hl) (by decide)) (by decide)
  refine call_function_meets MGF.kind_lcm MGF.plain_lcm MGF.entry_lcm (MGF.args_lcm (Value.int a t) (Value.int b u)) (Gives.meets (mg_run_lcm a t b u l1 l2 l3)) ?_
  rw [e1]
  exact ⟨V.int ((Nat.lcm a.natAbs b.natAbs : Nat) : Int), H, I.tok (s.toks + 1), ⟨s.toks, rfl⟩, q⟩
def cLcm : RA' := fun ds M Q => ∃ a b : Int, ds = [.int a, .int b] ∧ a.natAbs < 2 ^ 13000 ∧ b.natAbs < 2 ^ 13000 ∧ Nat.lcm a.natAbs b.natAbs < 2 ^ 13000 ∧ Q (.int ((Nat.lcm a.natAbs b.natAbs : Nat) : Int)) M
theorem la_lcm : LiftA K rLcm cLcm := by
  intro w xs ds Q rh rs ⟨a, b, e, h1, h2, h3, q⟩
  subst e
  obtain ⟨x, r1, rfl, hx, r2⟩ := rs
  obtain ⟨y, r3, rfl, hy, r4⟩ := r2
  have r4 : r3 = [] := r4
  subst r4
  have e1 := rep_int hx
  have e2 := rep_int hy
  subst e1 e2
  exact ⟨a, b, rfl, h1, h2, h3, PV.here rh q rep_mk_int⟩
theorem mr_lcm : MonoR cLcm := fun ds M Q Q' q ⟨a, b, e, h1, h2, h3, h⟩ => ⟨a, b, e, h1, h2, h3, q _ _ h⟩
@[simp] theorem u_cLcm {a b : Int} {M : MH} {Q : QE} : cLcm [.int a, .int b] M Q ↔ a.natAbs < 2 ^ 13000 ∧ b.natAbs < 2 ^ 13000 ∧ Nat.lcm a.natAbs b.natAbs < 2 ^ 13000 ∧ Q (.int ((Nat.lcm a.natAbs b.natAbs : Nat) : Int)) M :=
  ⟨fun ⟨a', b', e, h⟩ => by cases e; exact h, fun h => ⟨a, b, rfl, h⟩⟩
/-! < of data -/
def rLtD (K : PySem.W.Frag) : R2 := fun x y H Q => ∃ d e, Dp K H x d ∧ Dp K H y e ∧ alike d e = true ∧ d ≠ PyData.none ∧ d.depth ≤ 64 ∧ Q (V.bl (dataLt d e)) H
theorem op_ltD {X : Cx} (hu : X.A.units + 64 < cLine) : OpR X (compareOp .Lt) (rLtD X.K) := fun pins s σ H x y v u Q I rx ry h => by
  obtain ⟨d, e, hd, he, ha, hn, hde, q⟩ := h
  obtain ⟨as, r1⟩ := Dp.reads I d x v hd rx
  obtain ⟨bs, r2⟩ := Dp.reads I e y u he ry
  exact lt_data r1 r2 ha hn (by have := Nat.min_le_left d.depth e.depth; omega) ⟨V.bl (dataLt d e), H, I, rfl, q⟩
def oLtD : R2' := fun x y M Q => x.flat = true ∧ y.flat = true ∧ alike x.py y.py = true ∧ x.py ≠ PyData.none ∧ x.py.depth ≤ 64 ∧ Q (.bl (dataLt x.py y.py)) M
theorem lf_ltD : Lift2 K (rLtD K) oLtD := by
  intro w x y dx dy Q rh rx ry ⟨h1, h2, h3, h4, h5, q⟩
  exact ⟨_, _, Rep.dp dx h1 rx, Rep.dp dy h2 ry, h3, h4, h5, PV.here rh q rep_mk_bl⟩
theorem mn_ltD : Mono2 oLtD := fun x y M Q Q' q ⟨h1, h2, h3, h4, h5, h⟩ => ⟨h1, h2, h3, h4, h5, q _ _ h⟩
@[simp] theorem u_ltD {x y : D} {M : MH} {Q : QE} : oLtD x y M Q ↔ x.flat = true ∧ y.flat = true ∧ alike x.py y.py = true ∧ x.py ≠ PyData.none ∧ x.py.depth ≤ 64 ∧ Q (.bl (dataLt x.py y.py)) M := Iff.rfl
/-- lexicographic order of rows of whole numbers -/
def lexB : List Int → List Int → Bool
  | [], [] => false
  | [], _ :: _ => true
  | _ :: _, [] => false
  | x :: xs, y :: ys => if x = y then lexB xs ys else decide (x < y)
theorem lexB_lt : ∀ xs ys : List Int, lexB xs ys = decide (xs < ys)
  | [], [] => by simp [lexB]
  | [], y :: ys => by simp [lexB]
  | x :: xs, [] => by simp [lexB]
  | x :: xs, y :: ys => by
    have ih := lexB_lt xs ys
    unfold lexB
    by_cases h : x = y
    · subst h
      rw [if_pos rfl, ih, decide_eq_decide, List.cons_lt_cons_iff]
      simp
    · rw [if_neg h, decide_eq_decide, List.cons_lt_cons_iff]
      simp [h]
/-- two rows of whole numbers, as tuples -/
theorem lt_ints (xs ys : List Int) (M : MH) (Q : QE) (q : Q (.bl (lexB xs ys)) M) (hx : xs.length ≤ 1000000) : oLtD (.tup (xs.map D.int)) (.tup (ys.map D.int)) M Q := by
  have pl : ∀ l : List Int, D.pyL (l.map D.int) = l.map PyData.int := by
    intro l
    induction l with
    | nil => rfl
    | cons a r ih => show D.py (.int a) :: D.pyL (r.map D.int) = _; rw [ih]; rfl
  have fl : ∀ l : List Int, D.flatL (l.map D.int) = true := by
    intro l
    induction l with
    | nil => rfl
    | cons a r ih => unfold D.flatL; show (D.flat (.int a) && D.flatL (r.map D.int)) = true; rw [ih]; rfl
  have al : ∀ l m : List Int, alikeAll (l.map PyData.int) (m.map PyData.int) = true := by
    intro l
    induction l with
    | nil => intro m; cases m <;> simp [alikeAll]
    | cons a r ih =>
      intro m
      cases m with
      | nil => simp [alikeAll]
      | cons b s => simp [alikeAll, alike, ih s]
  have dp : ∀ l : List Int, PyData.depthAll (l.map PyData.int) ≤ 1 := by
    intro l
    induction l with
    | nil => simp [PyData.depthAll]
    | cons a r ih => simp [PyData.depthAll, PyData.depth]; omega
  have e1 : (D.tup (xs.map D.int)).py = .tuple (xs.map PyData.int) := by show PyData.tuple (D.pyL _) = _; rw [pl]
  have e2 : (D.tup (ys.map D.int)).py = .tuple (ys.map PyData.int) := by show PyData.tuple (D.pyL _) = _; rw [pl]
  refine ⟨fl xs, fl ys, ?_, ?_, ?_, ?_⟩
  · rw [e1, e2]; simp [alike, al]
  · rw [e1]; exact nofun
  · rw [e1]; have := dp xs; simp [PyData.depth]; omega
  · rw [e1, e2, dataLt_tuple]
    have : lexLt itemOrd (keyToksAll (xs.map PyData.int)) (keyToksAll (ys.map PyData.int)) = decide (xs < ys) := dataLt_ints xs ys
    rw [this, ← lexB_lt]
    exact q
end MD
namespace K73
open MD L2 PySem Kit Kc
/-! pieces -/
abbrev Part := Int × Int
abbrev Piece := Part × Part × Part
def okPart (p : Part) : Prop := 0 < p.2 ∧ p.2 ≤ 1000 ∧ 0 ≤ p.1 ∧ p.1 ≤ 1000000 ∧ Int.gcd p.1 p.2 = 1
def okPiece (p : Piece) : Prop := okPart p.1 ∧ okPart p.2.1 ∧ okPart p.2.2 ∧ p.2.2.1 * p.1.2 ≤ p.1.1 * p.2.2.2
def pcD (p : Piece) : D := .tup [MD.prD p.1, MD.prD p.2.1, MD.prD p.2.2]
def PcL (d : D) (p : Piece) : Prop := ∃ a b c, Pr a p.1.1 p.1.2 ∧ Pr b p.2.1.1 p.2.1.2 ∧ Pr c p.2.2.1 p.2.2.2 ∧ (d = .tup [a, b, c] ∨ d = .lst [a, b, c])
def PcsL (d : D) (ps : List Piece) : Prop := ∃ es, (d = .tup es ∨ d = .lst es) ∧ RelL PcL es ps
def pcsD (ps : List Piece) : D := .tup (ps.map pcD)
def okPcs (ps : List Piece) : Prop := 1 ≤ ps.length ∧ ps.length ≤ 400 ∧ ∀ p ∈ ps, okPiece p
def okRoom (r : Part) : Prop := okPart r ∧ r.1 ≠ 0
/-! one measure for all -/
def lcI (c d : Int) : Int := ((Nat.lcm c.natAbs d.natAbs : Nat) : Int)
def lc3 (c : Int) (p : Piece) : Int := lcI (lcI (lcI c p.1.2) p.2.1.2) p.2.2.2
def com (c : Int) (ps : List Piece) : Int := ps.foldl lc3 c
def sc (C : Int) (p : Part) : Int := p.1 * (C / p.2)
def scP (C : Int) (p : Piece) : Tri := (sc C p.1, sc C p.2.1, sc C p.2.2)
def addT (a t : Tri) : Tri := (a.1 + t.1, a.2.1 + t.2.1, a.2.2 + t.2.2)
def sumsF (a : Tri) : List Tri → List Tri
  | [] => [a]
  | t :: r => a :: sumsF (addT a t) r
def sumsP (r : Part) (ps : List Piece) : List Tri := sumsF (0, 0, 0) (ps.map (scP (com r.2 ps)))
def roomP (r : Part) (ps : List Piece) : Int := sc (com r.2 ps) r
def triD (t : Tri) : D := .tup [.int t.1, .int t.2.1, .int t.2.2]
/-! sums of widths, of stretches, of shrinks; the room -/
def g (ss : List Tri) (i : Nat) : Tri := ss.getD i (0, 0, 0)
structure Lok (ss : List Tri) (R : Int) : Prop where
  len : 2 ≤ ss.length ∧ ss.length ≤ 401
  mono : ∀ i j, i ≤ j → j < ss.length → (g ss i).1 ≤ (g ss j).1 ∧ (g ss i).2.1 ≤ (g ss j).2.1 ∧ (g ss i).2.2 ≤ (g ss j).2.2
  big : ∀ i, i < ss.length → (0 ≤ (g ss i).1 ∧ (g ss i).1 < 2 ^ 2000) ∧ (0 ≤ (g ss i).2.1 ∧ (g ss i).2.1 < 2 ^ 2000) ∧ (0 ≤ (g ss i).2.2 ∧ (g ss i).2.2 < 2 ^ 2000)
  room : 0 < R ∧ R < 2 ^ 2000
def dW (ss : List Tri) (i j : Nat) : Int := (g ss j).1 - (g ss i).1
def dS (ss : List Tri) (i j : Nat) : Int := (g ss j).2.1 - (g ss i).2.1
def dH (ss : List Tri) (i j : Nat) : Int := (g ss j).2.2 - (g ss i).2.2
def badF (ss : List Tri) (R : Int) (i j : Nat) : Option Int :=
  if R - dW ss i j = 0 ∨ (0 < R - dW ss i j ∧ j + 1 = ss.length) then some 0 else
  if 0 < R - dW ss i j then (if 0 < dS ss i j then some (1000 * (R - dW ss i j) * (R - dW ss i j) / (dS ss i j * dS ss i j)) else none) else
  if 0 ≤ dH ss i j + (R - dW ss i j) then some (1000 * (R - dW ss i j) * (R - dW ss i j) / (dH ss i j * dH ss i j)) else none
def fitL (ss : List Tri) (R : Int) (i : Nat) : List Nat → List (Nat × Int)
  | [] => []
  | j :: r => if R < dW ss i j - dH ss i j then [] else match badF ss R i j with
    | some b => (j, b) :: fitL ss R i r
    | none => fitL ss R i r
def fit (ss : List Tri) (R : Int) (i : Nat) : List (Nat × Int) := fitL ss R i (List.range' (i + 1) (ss.length - 1 - i))
def linesF (ss : List Tri) (R : Int) : List (List (Nat × Int)) := (List.range (ss.length - 1)).map (fit ss R)
def optI : Option Int → D
  | some b => .int b
  | none => .non
def jbD (x : Nat × Int) : D := .tup [.int (x.1 : Int), .int x.2]
def lineD (l : List (Nat × Int)) : D := .lst (l.map jbD)
def LinesAt (M : MH) (i : Nat) (ss : List Tri) (R : Int) : Prop := ∃ j, M[i]? = some (.ins "Lines" [("many", .int ((ss.length - 1 : Nat) : Int)), ("room", .int R), ("_sums", .ref j)]) ∧ M[j]? = some (.lst (ss.map triD))
/-! breakings -/
/-- lines that lead onward, their badness not below 0 -/
structure LLok (L : List (List (Nat × Int))) : Prop where
  len : 1 ≤ L.length ∧ L.length ≤ 400
  up : ∀ (i : Nat) (l : List (Nat × Int)), L[i]? = some l → ∀ x ∈ l, i < x.1 ∧ x.1 ≤ L.length ∧ 0 ≤ x.2
  asc : ∀ (i : Nat) (l : List (Nat × Int)), L[i]? = some l → l.Pairwise fun x y => x.1 < y.1
abbrev Brk := Int × Int × List Nat
def lt2 (a b : Int × Int) : Bool := if a.1 = b.1 then decide (a.2 < b.2) else decide (a.1 < b.1)
def step (f : Nat → Option Brk) (l : List (Nat × Int)) (acc : Option Brk) : Option Brk := l.foldl (fun acc x => match f x.1 with
  | none => acc
  | some (b, c, es) => match acc with
    | none => some (x.2 + b, 1 + c, x.1 :: es)
    | some a => if lt2 (x.2 + b, 1 + c) (a.1, a.2.1) = true then some (x.2 + b, 1 + c, x.1 :: es) else some a) acc
def optR (L : List (List (Nat × Int))) : Nat → Nat → Option Brk
  | 0, i => if i = L.length then some (0, 0, []) else none
  | k + 1, i => if i = L.length then some (0, 0, []) else step (optR L k) (L.getD i []) none
/-- the best breaking from a piece on -/
def opt (L : List (List (Nat × Int))) (i : Nat) : Option Brk := optR L (L.length - i) i
def resD : Option Brk → D
  | some (b, _, es) => .tup [.int b, .tup (es.map fun (k : Nat) => D.int k)]
  | none => .non
/-- all breakings from a piece on -/
def brk (L : List (List (Nat × Int))) : Nat → Nat → List (List Nat × Int)
  | 0, i => if i = L.length then [([], 0)] else []
  | k + 1, i => if i = L.length then [([], 0)] else ((L.getD i []).map fun x => (brk L k x.1).map fun y => (x.1 :: y.1, x.2 + y.2)).flatten
def brkD (y : List Nat × Int) : D := .tup [.tup (y.1.map fun (k : Nat) => D.int k), .int y.2]
/-! promises -/
def sp_is_part : SpD := fun ds M Q _ => ∃ (d : D) (p : Part), ds = [d] ∧ Pr d p.1 p.2 ∧ okPart p ∧ Q (.bl true) M
theorem mono_is_part : MonoP sp_is_part := fun ds M Q Q' E E' q x ⟨d, p, e, h1, h2, h⟩ => ⟨d, p, e, h1, h2, q _ _ h⟩
theorem len_is_part (ds M Q E) (h : sp_is_part ds M Q E) : ds.length = 1 := by obtain ⟨_, _, rfl, _⟩ := h; rfl
def sp_is_piece : SpD := fun ds M Q _ => ∃ (d : D) (p : Piece), ds = [d] ∧ PcL d p ∧ okPiece p ∧ Q (.bl true) M
theorem mono_is_piece : MonoP sp_is_piece := fun ds M Q Q' E E' q x ⟨d, p, e, h1, h2, h⟩ => ⟨d, p, e, h1, h2, q _ _ h⟩
theorem len_is_piece (ds M Q E) (h : sp_is_piece ds M Q E) : ds.length = 1 := by obtain ⟨_, _, rfl, _⟩ := h; rfl
def sp_check_pieces : SpD := fun ds M Q _ => ∃ (d : D) (ps : List Piece), ds = [d] ∧ PcsL d ps ∧ okPcs ps ∧ Q .non M
theorem mono_check_pieces : MonoP sp_check_pieces := fun ds M Q Q' E E' q x ⟨d, p, e, h1, h2, h⟩ => ⟨d, p, e, h1, h2, q _ _ h⟩
theorem len_check_pieces (ds M Q E) (h : sp_check_pieces ds M Q E) : ds.length = 1 := by obtain ⟨_, _, rfl, _⟩ := h; rfl
def linesC (ss : List Tri) (R : Int) (j : Nat) : Cell := .ins "Lines" [("many", .int ((ss.length - 1 : Nat) : Int)), ("room", .int R), ("_sums", .ref j)]
def sp_Lines_init : SpD := fun ds M Q _ => ∃ (i : Nat) (d r : D) (ps : List Piece) (ρ : Part), ds = [.ref i, d, r] ∧ M[i]? = some (.ins "Lines" []) ∧ PcsL d ps ∧ okPcs ps ∧ Pr r ρ.1 ρ.2 ∧ okRoom ρ ∧
  Q .non (M.set i (linesC (sumsP ρ ps) (roomP ρ ps) M.length) ++ [.lst ((sumsP ρ ps).map triD)])
theorem mono_Lines_init : MonoP sp_Lines_init := fun ds M Q Q' E E' q x ⟨i, d, r, ps, ρ, e, h1, h2, h3, h4, h5, h⟩ => ⟨i, d, r, ps, ρ, e, h1, h2, h3, h4, h5, q _ _ h⟩
theorem len_Lines_init (ds M Q E) (h : sp_Lines_init ds M Q E) : ds.length = 3 := by obtain ⟨_, _, _, _, _, rfl, _⟩ := h; rfl
def sp_Lines_badness : SpD := fun ds M Q _ => ∃ (i a b : Nat) (ss : List Tri) (R : Int), ds = [.ref i, .int a, .int b] ∧ LinesAt M i ss R ∧ Lok ss R ∧ a < b ∧ b < ss.length ∧ Q (optI (badF ss R a b)) M
theorem mono_Lines_badness : MonoP sp_Lines_badness := fun ds M Q Q' E E' q x ⟨i, a, b, ss, R, e, h1, h2, h3, h4, h⟩ => ⟨i, a, b, ss, R, e, h1, h2, h3, h4, q _ _ h⟩
theorem len_Lines_badness (ds M Q E) (h : sp_Lines_badness ds M Q E) : ds.length = 3 := by obtain ⟨_, _, _, _, _, rfl, _⟩ := h; rfl
def sp_Lines_from_piece : SpD := fun ds M Q _ => ∃ (i a : Nat) (ss : List Tri) (R : Int), ds = [.ref i, .int a] ∧ LinesAt M i ss R ∧ Lok ss R ∧ a + 1 < ss.length ∧ Q (lineD (fit ss R a)) M
theorem mono_Lines_from_piece : MonoP sp_Lines_from_piece := fun ds M Q Q' E E' q x ⟨i, a, ss, R, e, h1, h2, h3, h⟩ => ⟨i, a, ss, R, e, h1, h2, h3, q _ _ h⟩
theorem len_Lines_from_piece (ds M Q E) (h : sp_Lines_from_piece ds M Q E) : ds.length = 2 := by obtain ⟨_, _, _, _, rfl, _⟩ := h; rfl
def dueP (ps : List Piece) (ρ : Part) : D := resD (opt (linesF (sumsP ρ ps) (roomP ρ ps)) 0)
def sp_best_lines : SpD := fun ds M Q _ => ∃ (d r : D) (ps : List Piece) (ρ : Part), ds = [d, r] ∧ PcsL d ps ∧ okPcs ps ∧ Pr r ρ.1 ρ.2 ∧ okRoom ρ ∧ Q (dueP ps ρ) M
theorem mono_best_lines : MonoP sp_best_lines := fun ds M Q Q' E E' q x ⟨d, r, ps, ρ, e, h2, h3, h4, h5, h⟩ => ⟨d, r, ps, ρ, e, h2, h3, h4, h5, q _ _ h⟩
theorem len_best_lines (ds M Q E) (h : sp_best_lines ds M Q E) : ds.length = 2 := by obtain ⟨_, _, _, _, rfl, _⟩ := h; rfl
def sp__law_given : SpD := fun ds M Q _ => ∃ (p : Nat) (d : D), ds = [.ref p, d] ∧ Pool M p ∧ tupD 6 d = true ∧ ∀ e M', (e = d ∨ e = lis d) → Step p M M' → Q e M'
theorem mono__law_given : MonoP sp__law_given := fun ds M Q Q' E E' q x ⟨p, d, e, h1, h2, h⟩ => ⟨p, d, e, h1, h2, fun y M' a b => q _ _ (h y M' a b)⟩
theorem len__law_given (ds M Q E) (h : sp__law_given ds M Q E) : ds.length = 2 := by obtain ⟨_, _, rfl, _⟩ := h; rfl
def sp__law_divisor : SpD := fun ds M Q _ => ∃ a b : Int, ds = [.int a, .int b] ∧ 0 < a ∧ a ≤ 1000 ∧ 0 < b ∧ Bg 8000 b ∧ Q (.int ((Int.gcd a b : Nat) : Int)) M
theorem mono__law_divisor : MonoP sp__law_divisor := fun ds M Q Q' E E' q x ⟨a, b, e, h1, h2, h3, h4, h⟩ => ⟨a, b, e, h1, h2, h3, h4, q _ _ h⟩
theorem len__law_divisor (ds M Q E) (h : sp__law_divisor ds M Q E) : ds.length = 2 := by obtain ⟨_, _, rfl, _⟩ := h; rfl
def sp__law_piece : SpD := fun ds M Q _ => ∃ (p : Nat) (k : Int), ds = [.ref p, .int k] ∧ Pool M p ∧ ∀ pc M', okPiece pc → Step p M M' → Q (pcD pc) M'
theorem mono__law_piece : MonoP sp__law_piece := fun ds M Q Q' E E' q x ⟨p, d, e, h1, h⟩ => ⟨p, d, e, h1, fun y M' a b => q _ _ (h y M' a b)⟩
theorem len__law_piece (ds M Q E) (h : sp__law_piece ds M Q E) : ds.length = 2 := by obtain ⟨_, _, rfl, _⟩ := h; rfl
def sp__law_pieces : SpD := fun ds M Q _ => ∃ p n : Nat, ds = [.ref p, .int n] ∧ Pool M p ∧ 1 ≤ n ∧ n ≤ 400 ∧ ∀ ps M', ps.length = n → okPcs ps → Step p M M' → Q (pcsD ps) M'
theorem mono__law_pieces : MonoP sp__law_pieces := fun ds M Q Q' E E' q x ⟨p, d, e, h1, h2, h3, h⟩ => ⟨p, d, e, h1, h2, h3, fun y M' a b c => q _ _ (h y M' a b c)⟩
theorem len__law_pieces (ds M Q E) (h : sp__law_pieces ds M Q E) : ds.length = 2 := by obtain ⟨_, _, rfl, _⟩ := h; rfl
def sp__law_room : SpD := fun ds M Q _ => ∃ (p : Nat) (ps : List Piece) (m : Int), ds = [.ref p, pcsD ps, .int m] ∧ Pool M p ∧ okPcs ps ∧ 1 ≤ m ∧ m ≤ 1000 ∧ ∀ ρ M', okRoom ρ → Step p M M' → Q (MD.prD ρ) M'
theorem mono__law_room : MonoP sp__law_room := fun ds M Q Q' E E' q x ⟨p, ps, m, e, h1, h2, h3, h4, h⟩ => ⟨p, ps, m, e, h1, h2, h3, h4, fun y M' a b => q _ _ (h y M' a b)⟩
theorem len__law_room (ds M Q E) (h : sp__law_room ds M Q E) : ds.length = 3 := by obtain ⟨_, _, _, rfl, _⟩ := h; rfl
def scaledD (ss : List Tri) (R : Int) : D := .tup [.lst (ss.map triD), .int R]
def sp__law_scaled : SpD := fun ds M Q _ => ∃ (ps : List Piece) (ρ : Part), ds = [pcsD ps, MD.prD ρ] ∧ okPcs ps ∧ okRoom ρ ∧ Q (scaledD (sumsP ρ ps) (roomP ρ ps)) M
theorem mono__law_scaled : MonoP sp__law_scaled := fun ds M Q Q' E E' q x ⟨ps, ρ, e, h1, h2, h⟩ => ⟨ps, ρ, e, h1, h2, q _ _ h⟩
theorem len__law_scaled (ds M Q E) (h : sp__law_scaled ds M Q E) : ds.length = 2 := by obtain ⟨_, _, rfl, _⟩ := h; rfl
def sp__law_bad : SpD := fun ds M Q _ => ∃ (a b : Nat) (ss : List Tri) (R : Int), ds = [scaledD ss R, .int a, .int b] ∧ Lok ss R ∧ a < b ∧ b < ss.length ∧ Q (optI (badF ss R a b)) M
theorem mono__law_bad : MonoP sp__law_bad := fun ds M Q Q' E E' q x ⟨a, b, ss, R, e, h1, h2, h3, h⟩ => ⟨a, b, ss, R, e, h1, h2, h3, q _ _ h⟩
theorem len__law_bad (ds M Q E) (h : sp__law_bad ds M Q E) : ds.length = 3 := by obtain ⟨_, _, _, _, rfl, _⟩ := h; rfl
def linesD (L : List (List (Nat × Int))) : D := .lst (L.map lineD)
def sp__law_fitting : SpD := fun ds M Q _ => ∃ (ss : List Tri) (R : Int), ds = [scaledD ss R] ∧ Lok ss R ∧ Q (linesD (linesF ss R)) M
theorem mono__law_fitting : MonoP sp__law_fitting := fun ds M Q Q' E E' q x ⟨ss, R, e, h1, h⟩ => ⟨ss, R, e, h1, q _ _ h⟩
theorem len__law_fitting (ds M Q E) (h : sp__law_fitting ds M Q E) : ds.length = 1 := by obtain ⟨_, _, rfl, _⟩ := h; rfl
/-- by a size: how many pieces are left -/
def spr__law_breakings (i : Nat) : SpD := fun ds M Q _ => ∃ (L : List (List (Nat × Int))) (k : Nat), ds = [linesD L, .int k] ∧ LLok L ∧ L.length ≤ 12 ∧ k ≤ L.length ∧ L.length - k < i ∧ Q (.lst ((brk L (L.length - k) k).map brkD)) M
theorem monor__law_breakings (i : Nat) : MonoP (spr__law_breakings i) := fun ds M Q Q' E E' q x ⟨L, k, e, h1, h2, h3, h4, h⟩ => ⟨L, k, e, h1, h2, h3, h4, q _ _ h⟩
theorem lenr__law_breakings (i : Nat) (ds M Q E) (h : spr__law_breakings i ds M Q E) : ds.length = 2 := by obtain ⟨_, _, rfl, _⟩ := h; rfl
theorem zero__law_breakings (ds M Q E) (h : spr__law_breakings 0 ds M Q E) : False := by obtain ⟨_, _, _, _, _, _, h, _⟩ := h; omega
def sp__law_breakings : SpD := fun ds M Q _ => ∃ (L : List (List (Nat × Int))) (k : Nat), ds = [linesD L, .int k] ∧ LLok L ∧ L.length ≤ 12 ∧ k ≤ L.length ∧ Q (.lst ((brk L (L.length - k) k).map brkD)) M
theorem mono__law_breakings : MonoP sp__law_breakings := fun ds M Q Q' E E' q x ⟨L, k, e, h1, h2, h3, h⟩ => ⟨L, k, e, h1, h2, h3, q _ _ h⟩
theorem len__law_breakings (ds M Q E) (h : sp__law_breakings ds M Q E) : ds.length = 2 := by obtain ⟨_, _, rfl, _⟩ := h; rfl
theorem sub__law_breakings {ds M Q E} (h : sp__law_breakings ds M Q E) : spr__law_breakings 14 ds M Q E := by
  obtain ⟨L, k, e, h1, h2, h3, h⟩ := h
  exact ⟨L, k, e, h1, h2, h3, by omega, h⟩
def sp__law_best : SpD := fun ds M Q _ => ∃ (L : List (List (Nat × Int))), ds = [linesD L] ∧ LLok L ∧ Q (resD (opt L 0)) M
theorem mono__law_best : MonoP sp__law_best := fun ds M Q Q' E E' q x ⟨L, e, h1, h⟩ => ⟨L, e, h1, q _ _ h⟩
theorem len__law_best (ds M Q E) (h : sp__law_best ds M Q E) : ds.length = 1 := by obtain ⟨_, rfl, _⟩ := h; rfl
def sp__law_amounts : SpD := fun ds M Q _ => ∃ p : Nat, ds = [.ref p] ∧ Pool M p ∧ ∀ (n m : Nat) M', 1 ≤ n → n ≤ 400 → 1 ≤ m → m ≤ 9 → Step p M M' → Q (.tup [.int n, .int m]) M'
theorem mono__law_amounts : MonoP sp__law_amounts := fun ds M Q Q' E E' q x ⟨p, e, h1, h⟩ => ⟨p, e, h1, fun n m M' a b c d f => q _ _ (h n m M' a b c d f)⟩
theorem len__law_amounts (ds M Q E) (h : sp__law_amounts ds M Q E) : ds.length = 1 := by obtain ⟨_, rfl, _⟩ := h; rfl
def sp__law_due : SpD := fun ds M Q _ => ∃ (L : List (List (Nat × Int))), ds = [linesD L] ∧ LLok L ∧ Q (resD (opt L 0)) M
theorem mono__law_due : MonoP sp__law_due := fun ds M Q Q' E E' q x ⟨L, e, h1, h⟩ => ⟨L, e, h1, q _ _ h⟩
theorem len__law_due (ds M Q E) (h : sp__law_due ds M Q E) : ds.length = 1 := by obtain ⟨_, rfl, _⟩ := h; rfl
def sp_law : SpD := fun ds M Q _ => ∃ ns : List Int, ds = [.scr ns] ∧ ns.length ≤ 63 ∧ M = [] ∧ ∀ M', Q (.bl true) M'
theorem len_law (ds M Q E) (h : sp_law ds M Q E) : ds.length = 1 := by obtain ⟨_, rfl, _⟩ := h; rfl
theorem law_start (ns : List Int) (h : ns.length ≤ 63) (hb : ∀ z ∈ ns, Builtin.Int.intBits z ≤ 1048576) : ∀ Q E, (∀ M, Q (.bl true) M) → sp_law [.scr ns] [] Q E := fun Q E q => ⟨ns, rfl, h, rfl, q⟩
abbrev N_is_part : List Str := ["value"]
abbrev N_is_piece : List Str := ["value", "part"]
abbrev N_check_pieces : List Str := ["pieces", "number", "piece"]
abbrev N_Lines_init : List Str := ["self", "pieces", "room", "common", "piece", "part", "ahead", "width", "stretch", "shrink"]
abbrev N_Lines_badness : List Str := ["self", "first", "stop", "short", "width", "stretch", "shrink", "k"]
abbrev N_Lines_from_piece : List Str := ["self", "first", "found", "ahead", "stop", "behind", "bad"]
abbrev N_best_lines : List Str := ["pieces", "room", "lines", "best", "ends", "first", "found", "at", "stop", "bad", "rank"]
abbrev N__law_given : List Str := ["pool", "thing"]
abbrev N__law_divisor : List Str := ["one", "other"]
abbrev N__law_piece : List Str := ["pool", "kind", "part", "width", "shrink", "stretch"]
abbrev N__law_pieces : List Str := ["pool", "many", "kind", "rigid", "found", "k", "piece"]
abbrev N__law_room : List Str := ["pool", "pieces", "most", "first", "room", "piece", "kind", "wider"]
abbrev N__law_scaled : List Str := ["pieces", "room", "common", "piece", "sums", "part", "new"]
abbrev N__law_bad : List Str := ["scaled", "first", "stop", "width", "part", "sums", "room"]
abbrev N__law_fitting : List Str := ["scaled", "found", "many", "first", "row", "stop", "bad"]
abbrev N__law_breakings : List Str := ["lines", "first", "found", "stop", "bad", "ends", "later"]
abbrev N__law_best : List Str := ["lines", "many", "rest", "first", "ends", "at", "turn", "best", "stop", "bad", "mine"]
abbrev N__law_amounts : List Str := ["pool"]
abbrev N__law_due : List Str := ["lines", "best", "ends", "bad", "mine"]
abbrev N_law : List Str := ["script", "pool", "rows", "turn", "k", "pieces", "room", "handed", "before", "many", "most", "due"]
def r_is_part : TS' := (tRet' (tAndV' (tCall' sp_is_fraction (tCons' (tVar' 0) tNil')) (tAndV' (tChain' (oI0 fun i j => .bl (decide (i ≤ j))) (oI0 fun i j => .bl (decide (i ≤ j))) (tC' (.int 0)) (tOp' oIx (tVar' 0) (tC' (.int 0))) (tC' (.int 1000000))) (tOp' (oI0 fun i j => .bl (decide (i ≤ j))) (tOp' oIx (tVar' 0) (tC' (.int 1))) (tC' (.int 1000))))))

def r_is_piece : TS' := (tSeq' (tIfS' (tOr' (tNot' (tTru' (tCB' cIsiT (tCons' (tVar' 0) (tCons' (tTup' (tCons' (tC' (.con (.ty "tuple"))) (tCons' (tC' (.con (.ty "list"))) tNil'))) tNil'))))) (tOr' (tB' (tOp' (oEq true) (tCB' cLen (tCons' (tVar' 0) tNil')) (tC' (.int 3)))) (tNot' (tTru' (tCB' (cBls fun bs => bs.all id) (tCons' (tLc' false (tIt' (tVar' 0)) (gName' 1) tYes' (tCall' sp_is_part (tCons' (tVar' 1) tNil')) [1]) tNil')))))) (tRet' (tC' (.bl false))) tNext')
    (tRet' (tOp' (oI0 fun i j => .bl (decide (i ≤ j))) (tOp' (oMul false) (tOp' oIx (tOp' oIx (tVar' 0) (tC' (.int 2))) (tC' (.int 0))) (tOp' oIx (tOp' oIx (tVar' 0) (tC' (.int 0))) (tC' (.int 1)))) (tOp' (oMul false) (tOp' oIx (tOp' oIx (tVar' 0) (tC' (.int 0))) (tC' (.int 0))) (tOp' oIx (tOp' oIx (tVar' 0) (tC' (.int 2))) (tC' (.int 1)))))))

def r_check_pieces : TS' := (tSeq' (tIfS' (tOr' (tNot' (tTru' (tCB' cIsiT (tCons' (tVar' 0) (tCons' (tTup' (tCons' (tC' (.con (.ty "tuple"))) (tCons' (tC' (.con (.ty "list"))) tNil'))) tNil'))))) (tNot' (tB' (tChain' (oI0 fun i j => .bl (decide (i ≤ j))) (oI0 fun i j => .bl (decide (i ≤ j))) (tC' (.int 1)) (tCB' cLen (tCons' (tVar' 0) tNil')) (tC' (.int 400)))))) (tRaise' (tMkI' "BadPieces" ["number"] (tCons' (tC' .non) tNil'))) tNext')
    (tFor' (tEnum2' (tCons' (tVar' 0) tNil')) (gTup' 2 [(gName' 1), (gName' 2)]) (tIfS' (tNot' (tTru' (tCall' sp_is_piece (tCons' (tVar' 2) tNil')))) (tRaise' (tMkI' "BadPieces" ["number"] (tCons' (tVar' 1) tNil'))) tNext')))

def r_Lines_init : TS' := (tSeq' (tDrop' (tCall' sp_check_pieces (tCons' (tVar' 1) tNil')))
    (tSeq' (tIfS' (tOr' (tNot' (tTru' (tCall' sp_is_part (tCons' (tVar' 2) tNil')))) (tB' (tOp' (oEq false) (tOp' oIx (tVar' 2) (tC' (.int 0))) (tC' (.int 0))))) (tRaise' (tMk0' "BadRoom" (tCons' (tC' (.str "this is no room")) tNil'))) tNext')
    (tSeq' (tAsg' (tOp' oIx (tVar' 2) (tC' (.int 1))) (gName' 3))
    (tSeq' (tFor' (tIt' (tVar' 1)) (gName' 4) (tFor' (tIt' (tVar' 4)) (gName' 5) (tAsg' (tCB' cLcm (tCons' (tVar' 3) (tCons' (tOp' oIx (tVar' 5) (tC' (.int 1))) tNil'))) (gName' 3))))
    (tSeq' (tFldS' ["Lines"] "many" (tCB' cLen (tCons' (tVar' 1) tNil')) (tVar' 0))
    (tSeq' (tFldS' ["Lines"] "room" (tOp' (oMul false) (tOp' oIx (tVar' 2) (tC' (.int 0))) (tOp' oFdiv (tVar' 3) (tOp' oIx (tVar' 2) (tC' (.int 1))))) (tVar' 0))
    (tSeq' (tFldS' ["Lines"] "_sums" (tLst' true (tCons' (tTup' (tCons' (tC' (.int 0)) (tCons' (tC' (.int 0)) (tCons' (tC' (.int 0)) tNil')))) tNil')) (tVar' 0))
    (tFor' (tIt' (tVar' 1)) (gName' 4) (tSeq' (tAsg' (tLc' false (tIt' (tVar' 4)) (gName' 5) tYes' (tOp' (oMul false) (tOp' oIx (tVar' 5) (tC' (.int 0))) (tOp' oFdiv (tVar' 3) (tOp' oIx (tVar' 5) (tC' (.int 1))))) [5]) (gTup' 3 [(gName' 7), (gName' 8), (gName' 9)]))
    (tSeq' (tAsg' (tOp' oIx (tFld' ["Lines"] "_sums" (tVar' 0)) (tUn' oNeg (tC' (.int 1)))) (gName' 6))
    (tDrop' (tBM' "list" mAppend (tFld' ["Lines"] "_sums" (tVar' 0)) (tCons' (tTup' (tCons' (tOp' (oAdd false) (tOp' oIx (tVar' 6) (tC' (.int 0))) (tVar' 7)) (tCons' (tOp' (oAdd false) (tOp' oIx (tVar' 6) (tC' (.int 1))) (tVar' 8)) (tCons' (tOp' (oAdd false) (tOp' oIx (tVar' 6) (tC' (.int 2))) (tVar' 9)) tNil')))) tNil')))))))))))))

def r_Lines_badness : TS' := (tSeq' (tAsg' (tLc' false (tRng1' (tCons' (tC' (.int 3)) tNil')) (gName' 7) tYes' (tOp' oSub (tOp' oIx (tOp' oIx (tFld' ["Lines"] "_sums" (tVar' 0)) (tVar' 2)) (tVar' 7)) (tOp' oIx (tOp' oIx (tFld' ["Lines"] "_sums" (tVar' 0)) (tVar' 1)) (tVar' 7))) [7]) (gTup' 3 [(gName' 4), (gName' 5), (gName' 6)]))
    (tSeq' (tAsg' (tOp' oSub (tFld' ["Lines"] "room" (tVar' 0)) (tVar' 4)) (gName' 3))
    (tSeq' (tIfS' (tOr' (tB' (tOp' (oEq false) (tVar' 3) (tC' (.int 0)))) (tAnd' (tB' (tOp' (oI0 fun i j => .bl (decide (j < i))) (tVar' 3) (tC' (.int 0)))) (tB' (tOp' (oEq false) (tVar' 2) (tFld' ["Lines"] "many" (tVar' 0)))))) (tRet' (tC' (.int 0))) tNext')
    (tSeq' (tIfS' (tB' (tOp' (oI0 fun i j => .bl (decide (j < i))) (tVar' 3) (tC' (.int 0)))) (tRet' (tIf' (tB' (tOp' (oI0 fun i j => .bl (decide (j < i))) (tVar' 5) (tC' (.int 0)))) (tOp' oFdiv (tOp' (oMul false) (tOp' (oMul false) (tC' (.int 1000)) (tVar' 3)) (tVar' 3)) (tOp' (oMul false) (tVar' 5) (tVar' 5))) (tC' .non))) tNext')
    (tRet' (tIf' (tB' (tOp' (oI0 fun i j => .bl (decide (j ≤ i))) (tOp' (oAdd false) (tVar' 6) (tVar' 3)) (tC' (.int 0)))) (tOp' oFdiv (tOp' (oMul false) (tOp' (oMul false) (tC' (.int 1000)) (tVar' 3)) (tVar' 3)) (tOp' (oMul false) (tVar' 6) (tVar' 6))) (tC' .non)))))))

def r_Lines_from_piece : TS' := (tSeq' (tAsg' (tLst' true tNil') (gName' 2))
    (tSeq' (tAsg' (tOp' oIx (tFld' ["Lines"] "_sums" (tVar' 0)) (tVar' 1)) (gName' 3))
    (tSeq' (tFor' (tRng2' (tCons' (tOp' (oAdd false) (tVar' 1) (tC' (.int 1))) (tCons' (tOp' (oAdd false) (tFld' ["Lines"] "many" (tVar' 0)) (tC' (.int 1))) tNil'))) (gName' 4) (tSeq' (tAsg' (tOp' oIx (tFld' ["Lines"] "_sums" (tVar' 0)) (tVar' 4)) (gName' 5))
    (tSeq' (tIfS' (tB' (tOp' (oI0 fun i j => .bl (decide (j < i))) (tOp' oSub (tOp' oSub (tOp' oIx (tVar' 5) (tC' (.int 0))) (tOp' oIx (tVar' 3) (tC' (.int 0)))) (tOp' oSub (tOp' oIx (tVar' 5) (tC' (.int 2))) (tOp' oIx (tVar' 3) (tC' (.int 2))))) (tFld' ["Lines"] "room" (tVar' 0)))) tBreak' tNext')
    (tSeq' (tAsg' (tMeth' "Lines" "badness" sp_Lines_badness (tVar' 0) (tCons' (tVar' 1) (tCons' (tVar' 4) tNil'))) (gName' 6))
    (tIfS' (tB' (tOp' (oIsN' true) (tVar' 6) (tC' .non))) (tDrop' (tBM' "list" mAppend (tVar' 2) (tCons' (tTup' (tCons' (tVar' 4) (tCons' (tVar' 6) tNil'))) tNil'))) tNext')))))
    (tRet' (tFrz (tVar' 2))))))

def r_best_lines : TS' := (tSeq' (tAsg' (tMake' "Lines" sp_Lines_init (tCons' (tVar' 0) (tCons' (tVar' 1) tNil'))) (gName' 2))
    (tSeq' (tAsg' (tOp' (oAdd true) (tOp' (oMul false) (tLst' false (tCons' (tC' .non) tNil')) (tFld' ["Lines"] "many" (tVar' 2))) (tLst' false (tCons' (tTup' (tCons' (tC' (.int 0)) (tCons' (tC' (.int 0)) tNil'))) tNil'))) (gName' 3))
    (tSeq' (tAsg' (tOp' (oMul true) (tLst' false (tCons' (tC' .non) tNil')) (tOp' (oAdd false) (tFld' ["Lines"] "many" (tVar' 2)) (tC' (.int 1)))) (gName' 4))
    (tSeq' (tFor' (tRng3' (tCons' (tOp' oSub (tFld' ["Lines"] "many" (tVar' 2)) (tC' (.int 1))) (tCons' (tUn' oNeg (tC' (.int 1))) (tCons' (tUn' oNeg (tC' (.int 1))) tNil')))) (gName' 5) (tFor' (tIt' (tMeth' "Lines" "from_piece" sp_Lines_from_piece (tVar' 2) (tCons' (tVar' 5) tNil'))) (gTup' 2 [(gName' 8), (gName' 9)]) (tIfS' (tB' (tOp' (oIsN' true) (tOp' oIx (tVar' 3) (tVar' 8)) (tC' .non))) (tSeq' (tAsg' (tTup' (tCons' (tOp' (oAdd false) (tVar' 9) (tOp' oIx (tOp' oIx (tVar' 3) (tVar' 8)) (tC' (.int 0)))) (tCons' (tOp' (oAdd false) (tC' (.int 1)) (tOp' oIx (tOp' oIx (tVar' 3) (tVar' 8)) (tC' (.int 1)))) tNil'))) (gName' 10))
    (tIfS' (tOr' (tB' (tOp' (oIsN' false) (tOp' oIx (tVar' 3) (tVar' 5)) (tC' .non))) (tB' (tOp' oLtD (tVar' 10) (tOp' oIx (tVar' 3) (tVar' 5))))) (tSeq' (tAsg' (tVar' 10) (gSub' (tVar' 3) (tVar' 5) oSetL))
    (tAsg' (tVar' 8) (gSub' (tVar' 4) (tVar' 5) oSetL))) tNext')) tNext')))
    (tSeq' (tIfS' (tB' (tOp' (oIsN' false) (tOp' oIx (tVar' 3) (tC' (.int 0))) (tC' .non))) (tRet' (tC' .non)) tNext')
    (tSeq' (tAsg' (tLst' true tNil') (gName' 6))
    (tSeq' (tAsg' (tC' (.int 0)) (gName' 7))
    (tSeq' (tWhile' (tB' (tOp' (oI0 fun i j => .bl (decide (i < j))) (tVar' 7) (tFld' ["Lines"] "many" (tVar' 2)))) (tSeq' (tAsg' (tOp' oIx (tVar' 4) (tVar' 7)) (gName' 7))
    (tDrop' (tBM' "list" mAppend (tVar' 6) (tCons' (tVar' 7) tNil')))))
    (tRet' (tTup' (tCons' (tOp' oIx (tOp' oIx (tVar' 3) (tC' (.int 0))) (tC' (.int 0))) (tCons' (tCB' cTuple (tCons' (tVar' 6) tNil')) tNil'))))))))))))

def r__law_given : TS' := (tRet' (tIf' (tB' (tOp' (oEq false) (tCall' sp__law_take (tCons' (tVar' 0) (tCons' (tC' (.int 3)) tNil'))) (tC' (.int 0)))) (tCall' sp__law_listed (tCons' (tVar' 1) tNil')) (tVar' 1)))

def r__law_divisor : TS' := (tRet' (tIf' (tB' (tOp' (oI0 fun i j => .bl (decide (j < i))) (tVar' 0) (tC' (.int 0)))) (tOp' oFdiv (tVar' 0) (tOp' oIx (tCall' sp__law_lowest (tCons' (tVar' 0) (tCons' (tVar' 1) tNil'))) (tC' (.int 0)))) (tVar' 1)))

def r__law_piece : TS' := (tSeq' (tIfS' (tB' (tOp' (oEq false) (tVar' 1) (tC' (.int 0)))) (tSeq' (tAsg' (tOp' (oAdd false) (tC' (.int 1)) (tCall' sp__law_take (tCons' (tVar' 0) (tCons' (tC' (.int 9)) tNil')))) (gName' 3))
    (tRet' (tTup' (tCons' (tTup' (tCons' (tVar' 3) (tCons' (tC' (.int 1)) tNil'))) (tCons' (tTup' (tCons' (tCall' sp__law_take (tCons' (tVar' 0) (tCons' (tC' (.int 4)) tNil'))) (tCons' (tC' (.int 1)) tNil'))) (tCons' (tTup' (tCons' (tIf' (tB' (tOp' (oEq false) (tCall' sp__law_take (tCons' (tVar' 0) (tCons' (tC' (.int 2)) tNil'))) (tC' (.int 0)))) (tCall' sp__law_take (tCons' (tVar' 0) (tCons' (tOp' (oAdd false) (tVar' 3) (tC' (.int 1))) tNil'))) (tC' (.int 0))) (tCons' (tC' (.int 1)) tNil'))) tNil')))))) tNext')
    (tSeq' (tIfS' (tB' (tOp' (oEq false) (tVar' 1) (tC' (.int 1)))) (tSeq' (tAsg' (tOp' (oAdd false) (tC' (.int 1)) (tCall' sp__law_take (tCons' (tVar' 0) (tCons' (tC' (.int 12)) tNil')))) (gName' 2))
    (tSeq' (tAsg' (tCall' sp__law_take (tCons' (tVar' 0) (tCons' (tC' (.int 40)) tNil'))) (gName' 3))
    (tSeq' (tAsg' (tCall' sp__law_take (tCons' (tVar' 0) (tCons' (tOp' (oAdd false) (tVar' 3) (tC' (.int 1))) tNil'))) (gName' 4))
    (tSeq' (tAsg' (tCall' sp__law_lowest (tCons' (tCall' sp__law_take (tCons' (tVar' 0) (tCons' (tC' (.int 20)) tNil'))) (tCons' (tOp' (oAdd false) (tC' (.int 1)) (tCall' sp__law_take (tCons' (tVar' 0) (tCons' (tC' (.int 12)) tNil')))) tNil'))) (gName' 5))
    (tRet' (tTup' (tCons' (tCall' sp__law_lowest (tCons' (tVar' 3) (tCons' (tVar' 2) tNil'))) (tCons' (tVar' 5) (tCons' (tCall' sp__law_lowest (tCons' (tVar' 4) (tCons' (tVar' 2) tNil'))) tNil'))))))))) tNext')
    (tSeq' (tAsg' (tOp' (oAdd false) (tC' (.int 1)) (tCall' sp__law_take (tCons' (tVar' 0) (tCons' (tC' (.int 1000)) tNil')))) (gName' 2))
    (tSeq' (tAsg' (tCall' sp__law_take (tCons' (tVar' 0) (tCons' (tOp' (oAdd false) (tOp' oPow (tC' (.int 10)) (tC' (.int 6))) (tC' (.int 1))) tNil'))) (gName' 3))
    (tSeq' (tAsg' (tCall' sp__law_take (tCons' (tVar' 0) (tCons' (tOp' (oAdd false) (tVar' 3) (tC' (.int 1))) tNil'))) (gName' 4))
    (tRet' (tTup' (tCons' (tCall' sp__law_lowest (tCons' (tVar' 3) (tCons' (tVar' 2) tNil'))) (tCons' (tCall' sp__law_lowest (tCons' (tCall' sp__law_take (tCons' (tVar' 0) (tCons' (tOp' (oAdd false) (tOp' oPow (tC' (.int 10)) (tC' (.int 6))) (tC' (.int 1))) tNil'))) (tCons' (tOp' (oAdd false) (tC' (.int 1)) (tCall' sp__law_take (tCons' (tVar' 0) (tCons' (tC' (.int 1000)) tNil')))) tNil'))) (tCons' (tCall' sp__law_lowest (tCons' (tVar' 4) (tCons' (tVar' 2) tNil'))) tNil'))))))))))

def r__law_pieces : TS' := (tSeq' (tAsg' (tCall' sp__law_take (tCons' (tVar' 0) (tCons' (tC' (.int 3)) tNil'))) (gName' 2))
    (tSeq' (tAsg' (tCall' sp__law_take (tCons' (tVar' 0) (tCons' (tC' (.int 3)) tNil'))) (gName' 3))
    (tSeq' (tAsg' (tTup' tNil') (gName' 4))
    (tSeq' (tFor' (tRng1' (tCons' (tVar' 1) tNil')) (gName' 5) (tSeq' (tAsg' (tCall' sp__law_piece (tCons' (tVar' 0) (tCons' (tVar' 2) tNil'))) (gName' 6))
    (tSeq' (tIfS' (tAnd' (tB' (tOp' (oEq false) (tVar' 3) (tC' (.int 0)))) (tB' (tOp' (oEq false) (tCall' sp__law_take (tCons' (tVar' 0) (tCons' (tC' (.int 2)) tNil'))) (tC' (.int 0))))) (tAsg' (tTup' (tCons' (tOp' oIx (tVar' 6) (tC' (.int 0))) (tCons' (tTup' (tCons' (tC' (.int 0)) (tCons' (tC' (.int 1)) tNil'))) (tCons' (tOp' oIx (tVar' 6) (tC' (.int 2))) tNil')))) (gName' 6)) tNext')
    (tAsg' (tOp' (oAdd false) (tVar' 4) (tTup' (tCons' (tVar' 6) tNil'))) (gName' 4)))))
    (tRet' (tVar' 4))))))

def r__law_room : TS' := (tSeq' (tAsg' (tCall' sp__law_take (tCons' (tVar' 0) (tCons' (tCB' cLen (tCons' (tVar' 1) tNil')) tNil'))) (gName' 3))
    (tSeq' (tAsg' (tTup' (tCons' (tC' (.int 0)) (tCons' (tC' (.int 1)) tNil'))) (gName' 4))
    (tSeq' (tFor' (tIt' (tSl' (oSl false) (tVar' 1) (tPart' (tVar' 3)) (tPart' (tOp' (oAdd false) (tOp' (oAdd false) (tVar' 3) (tC' (.int 1))) (tCall' sp__law_take (tCons' (tVar' 0) (tCons' (tVar' 2) tNil'))))))) (gName' 5) (tSeq' (tAsg' (tCall' sp__law_sum (tCons' (tVar' 4) (tCons' (tOp' oIx (tVar' 5) (tC' (.int 0))) tNil'))) (gName' 7))
    (tIfS' (tAnd' (tB' (tOp' (oI0 fun i j => .bl (decide (i ≤ j))) (tOp' oIx (tVar' 7) (tC' (.int 0))) (tOp' oPow (tC' (.int 10)) (tC' (.int 6))))) (tB' (tOp' (oI0 fun i j => .bl (decide (i ≤ j))) (tOp' oIx (tVar' 7) (tC' (.int 1))) (tC' (.int 1000))))) (tAsg' (tVar' 7) (gName' 4)) tNext')))
    (tSeq' (tAsg' (tCall' sp__law_take (tCons' (tVar' 0) (tCons' (tC' (.int 4)) tNil'))) (gName' 6))
    (tSeq' (tIfS' (tB' (tOp' (oEq false) (tVar' 6) (tC' (.int 0)))) (tAsg' (tTup' (tCons' (tOp' (oAdd false) (tOp' oFdiv (tOp' oIx (tVar' 4) (tC' (.int 0))) (tOp' oIx (tVar' 4) (tC' (.int 1)))) (tCall' sp__law_take (tCons' (tVar' 0) (tCons' (tC' (.int 3)) tNil')))) (tCons' (tC' (.int 1)) tNil'))) (gName' 4)) tNext')
    (tSeq' (tIfS' (tAnd' (tB' (tOp' (oEq false) (tVar' 6) (tC' (.int 1)))) (tB' (tOp' (oEq false) (tOp' oIx (tVar' 4) (tC' (.int 1))) (tC' (.int 1))))) (tAsg' (tCall' sp__law_lowest (tCons' (tOp' (oAdd false) (tOp' (oMul false) (tC' (.int 2)) (tOp' oIx (tVar' 4) (tC' (.int 0)))) (tC' (.int 1))) (tCons' (tC' (.int 2)) tNil'))) (gName' 4)) tNext')
    (tSeq' (tIfS' (tOr' (tB' (tOp' (oEq false) (tOp' oIx (tVar' 4) (tC' (.int 0))) (tC' (.int 0)))) (tB' (tOp' (oI0 fun i j => .bl (decide (j < i))) (tOp' oIx (tVar' 4) (tC' (.int 0))) (tOp' oPow (tC' (.int 10)) (tC' (.int 6)))))) (tRet' (tTup' (tCons' (tC' (.int 1)) (tCons' (tC' (.int 1)) tNil')))) tNext')
    (tRet' (tVar' 4)))))))))

def r__law_scaled : TS' := (tSeq' (tAsg' (tOp' oIx (tVar' 1) (tC' (.int 1))) (gName' 2))
    (tSeq' (tFor' (tIt' (tVar' 0)) (gName' 3) (tFor' (tIt' (tVar' 3)) (gName' 5) (tAsg' (tOp' (oMul false) (tVar' 2) (tOp' oFdiv (tOp' oIx (tVar' 5) (tC' (.int 1))) (tCall' sp__law_divisor (tCons' (tOp' oIx (tVar' 5) (tC' (.int 1))) (tCons' (tVar' 2) tNil'))))) (gName' 2))))
    (tSeq' (tAsg' (tLst' true (tCons' (tTup' (tCons' (tC' (.int 0)) (tCons' (tC' (.int 0)) (tCons' (tC' (.int 0)) tNil')))) tNil')) (gName' 4))
    (tSeq' (tFor' (tIt' (tVar' 0)) (gName' 3) (tSeq' (tAsg' (tLc' false (tIt' (tVar' 3)) (gName' 5) tYes' (tOp' (oMul false) (tOp' oIx (tVar' 5) (tC' (.int 0))) (tOp' oFdiv (tVar' 2) (tOp' oIx (tVar' 5) (tC' (.int 1))))) [5]) (gName' 6))
    (tDrop' (tBM' "list" mAppend (tVar' 4) (tCons' (tTup' (tCons' (tOp' (oAdd false) (tOp' oIx (tOp' oIx (tVar' 4) (tUn' oNeg (tC' (.int 1)))) (tC' (.int 0))) (tOp' oIx (tVar' 6) (tC' (.int 0)))) (tCons' (tOp' (oAdd false) (tOp' oIx (tOp' oIx (tVar' 4) (tUn' oNeg (tC' (.int 1)))) (tC' (.int 1))) (tOp' oIx (tVar' 6) (tC' (.int 1)))) (tCons' (tOp' (oAdd false) (tOp' oIx (tOp' oIx (tVar' 4) (tUn' oNeg (tC' (.int 1)))) (tC' (.int 2))) (tOp' oIx (tVar' 6) (tC' (.int 2)))) tNil')))) tNil')))))
    (tRet' (tTup' (tCons' (tFrz (tVar' 4)) (tCons' (tOp' (oMul false) (tOp' oIx (tVar' 1) (tC' (.int 0))) (tOp' oFdiv (tVar' 2) (tOp' oIx (tVar' 1) (tC' (.int 1))))) tNil'))))))))

def r__law_bad : TS' := (tSeq' (tAsg' (tVar' 0) (gTup' 2 [(gName' 5), (gName' 6)]))
    (tSeq' (tAsg' (tOp' oSub (tOp' oIx (tOp' oIx (tVar' 5) (tVar' 2)) (tC' (.int 0))) (tOp' oIx (tOp' oIx (tVar' 5) (tVar' 1)) (tC' (.int 0)))) (gName' 3))
    (tSeq' (tIfS' (tOr' (tB' (tOp' (oEq false) (tVar' 3) (tVar' 6))) (tAnd' (tB' (tOp' (oI0 fun i j => .bl (decide (i < j))) (tVar' 3) (tVar' 6))) (tB' (tOp' (oEq false) (tVar' 2) (tOp' oSub (tCB' cLen (tCons' (tVar' 5) tNil')) (tC' (.int 1))))))) (tRet' (tC' (.int 0))) tNext')
    (tSeq' (tAsg' (tOp' oSub (tOp' oIx (tOp' oIx (tVar' 5) (tVar' 2)) (tC' (.int 1))) (tOp' oIx (tOp' oIx (tVar' 5) (tVar' 1)) (tC' (.int 1)))) (gName' 4))
    (tSeq' (tIfS' (tB' (tOp' (oI0 fun i j => .bl (decide (j < i))) (tVar' 3) (tVar' 6))) (tSeq' (tAsg' (tOp' oSub (tOp' oIx (tOp' oIx (tVar' 5) (tVar' 2)) (tC' (.int 2))) (tOp' oIx (tOp' oIx (tVar' 5) (tVar' 1)) (tC' (.int 2)))) (gName' 4))
    (tIfS' (tB' (tOp' (oI0 fun i j => .bl (decide (j < i))) (tOp' oSub (tVar' 3) (tVar' 4)) (tVar' 6))) (tRet' (tC' .non)) tNext')) tNext')
    (tSeq' (tIfS' (tB' (tOp' (oEq false) (tVar' 4) (tC' (.int 0)))) (tRet' (tC' .non)) tNext')
    (tRet' (tOp' oFdiv (tOp' (oMul false) (tOp' (oMul false) (tC' (.int 1000)) (tOp' oSub (tVar' 3) (tVar' 6))) (tOp' oSub (tVar' 3) (tVar' 6))) (tOp' (oMul false) (tVar' 4) (tVar' 4))))))))))

def r__law_fitting : TS' := (tSeq' (tAsg' (tLst' true tNil') (gName' 1))
    (tSeq' (tAsg' (tOp' oSub (tCB' cLen (tCons' (tOp' oIx (tVar' 0) (tC' (.int 0))) tNil')) (tC' (.int 1))) (gName' 2))
    (tSeq' (tFor' (tRng1' (tCons' (tVar' 2) tNil')) (gName' 3) (tSeq' (tAsg' (tLst' true tNil') (gName' 4))
    (tSeq' (tFor' (tRng2' (tCons' (tOp' (oAdd false) (tVar' 3) (tC' (.int 1))) (tCons' (tOp' (oAdd false) (tVar' 2) (tC' (.int 1))) tNil'))) (gName' 5) (tSeq' (tIfS' (tB' (tOp' (oI0 fun i j => .bl (decide (j < i))) (tOp' (oAdd false) (tOp' oSub (tOp' oSub (tOp' oIx (tOp' oIx (tOp' oIx (tVar' 0) (tC' (.int 0))) (tVar' 5)) (tC' (.int 0))) (tOp' oIx (tOp' oIx (tOp' oIx (tVar' 0) (tC' (.int 0))) (tVar' 3)) (tC' (.int 0)))) (tOp' oIx (tOp' oIx (tOp' oIx (tVar' 0) (tC' (.int 0))) (tVar' 5)) (tC' (.int 2)))) (tOp' oIx (tOp' oIx (tOp' oIx (tVar' 0) (tC' (.int 0))) (tVar' 3)) (tC' (.int 2)))) (tOp' oIx (tVar' 0) (tC' (.int 1))))) tBreak' tNext')
    (tSeq' (tAsg' (tCall' sp__law_bad (tCons' (tVar' 0) (tCons' (tVar' 3) (tCons' (tVar' 5) tNil')))) (gName' 6))
    (tIfS' (tB' (tOp' (oIsN' true) (tVar' 6) (tC' .non))) (tDrop' (tBM' "list" mAppend (tVar' 4) (tCons' (tTup' (tCons' (tVar' 5) (tCons' (tVar' 6) tNil'))) tNil'))) tNext'))))
    (tDrop' (tBM' "list" mAppend (tVar' 1) (tCons' (tFrz (tVar' 4)) tNil'))))))
    (tRet' (tFrz (tVar' 1))))))

def r__law_best : TS' := (tSeq' (tAsg' (tCB' cLen (tCons' (tVar' 0) tNil')) (gName' 1))
    (tSeq' (tAsg' (tOp' (oAdd true) (tOp' (oMul false) (tLst' false (tCons' (tC' .non) tNil')) (tVar' 1)) (tLst' false (tCons' (tTup' (tCons' (tC' (.int 0)) (tCons' (tC' (.int 0)) (tCons' (tTup' tNil') tNil')))) tNil'))) (gName' 2))
    (tSeq' (tFor' (tRng3' (tCons' (tOp' oSub (tVar' 1) (tC' (.int 1))) (tCons' (tUn' oNeg (tC' (.int 1))) (tCons' (tUn' oNeg (tC' (.int 1))) tNil')))) (gName' 3) (tSeq' (tAsg' (tC' .non) (gName' 7))
    (tSeq' (tFor' (tIt' (tOp' oIx (tVar' 0) (tVar' 3))) (gTup' 2 [(gName' 8), (gName' 9)]) (tIfS' (tB' (tOp' (oIsN' true) (tOp' oIx (tVar' 2) (tVar' 8)) (tC' .non))) (tSeq' (tAsg' (tTup' (tCons' (tOp' (oAdd false) (tVar' 9) (tOp' oIx (tOp' oIx (tVar' 2) (tVar' 8)) (tC' (.int 0)))) (tCons' (tOp' (oAdd false) (tC' (.int 1)) (tOp' oIx (tOp' oIx (tVar' 2) (tVar' 8)) (tC' (.int 1)))) (tCons' (tVar' 8) tNil')))) (gName' 10))
    (tIfS' (tOr' (tB' (tOp' (oIsN' false) (tVar' 7) (tC' .non))) (tB' (tOp' oLtD (tVar' 10) (tVar' 7)))) (tAsg' (tVar' 10) (gName' 7)) tNext')) tNext'))
    (tAsg' (tVar' 7) (gSub' (tVar' 2) (tVar' 3) oSetL)))))
    (tSeq' (tIfS' (tB' (tOp' (oIsN' false) (tOp' oIx (tVar' 2) (tC' (.int 0))) (tC' .non))) (tRet' (tC' .non)) tNext')
    (tSeq' (tAsg' (tTup' tNil') (gName' 4))
    (tSeq' (tAsg' (tC' (.int 0)) (gName' 5))
    (tSeq' (tFor' (tRng1' (tCons' (tVar' 1) tNil')) (gName' 6) (tIfS' (tB' (tOp' (oI0 fun i j => .bl (decide (i < j))) (tVar' 5) (tVar' 1))) (tSeq' (tAsg' (tOp' oIx (tOp' oIx (tVar' 2) (tVar' 5)) (tC' (.int 2))) (gName' 5))
    (tAsg' (tOp' (oAdd false) (tVar' 4) (tTup' (tCons' (tVar' 5) tNil'))) (gName' 4))) tNext'))
    (tRet' (tTup' (tCons' (tOp' oIx (tOp' oIx (tVar' 2) (tC' (.int 0))) (tC' (.int 0))) (tCons' (tVar' 4) tNil')))))))))))

def r__law_amounts : TS' := (tRet' (tCall' sp__law_pick (tCons' (tVar' 0) (tCons' (tLst' false (tCons' (tTup' (tCons' (tOp' (oAdd false) (tC' (.int 1)) (tCall' sp__law_take (tCons' (tVar' 0) (tCons' (tC' (.int 7)) tNil')))) (tCons' (tC' (.int 3)) tNil'))) (tCons' (tTup' (tCons' (tOp' (oAdd false) (tC' (.int 1)) (tCall' sp__law_take (tCons' (tVar' 0) (tCons' (tC' (.int 12)) tNil')))) (tCons' (tC' (.int 6)) tNil'))) (tCons' (tTup' (tCons' (tOp' (oAdd false) (tC' (.int 20)) (tCall' sp__law_take (tCons' (tVar' 0) (tCons' (tC' (.int 40)) tNil')))) (tCons' (tC' (.int 9)) tNil'))) (tCons' (tTup' (tCons' (tC' (.int 400)) (tCons' (tC' (.int 4)) tNil'))) tNil'))))) tNil'))))

def r__law_due : TS' := (tSeq' (tIfS' (tB' (tOp' (oI0 fun i j => .bl (decide (j < i))) (tCB' cLen (tCons' (tVar' 0) tNil')) (tC' (.int 12)))) (tRet' (tCall' sp__law_best (tCons' (tVar' 0) tNil'))) tNext')
    (tSeq' (tAsg' (tC' .non) (gName' 1))
    (tSeq' (tFor' (tIt' (tCall' sp__law_breakings (tCons' (tVar' 0) (tCons' (tC' (.int 0)) tNil')))) (gTup' 2 [(gName' 2), (gName' 3)]) (tSeq' (tAsg' (tTup' (tCons' (tVar' 3) (tCons' (tCB' cLen (tCons' (tVar' 2) tNil')) (tCons' (tVar' 2) tNil')))) (gName' 4))
    (tIfS' (tOr' (tB' (tOp' (oIsN' false) (tVar' 1) (tC' .non))) (tB' (tOp' oLtD (tVar' 4) (tVar' 1)))) (tAsg' (tVar' 4) (gName' 1)) tNext')))
    (tRet' (tIf' (tB' (tOp' (oIsN' false) (tVar' 1) (tC' .non))) (tC' .non) (tTup' (tCons' (tOp' oIx (tVar' 1) (tC' (.int 0))) (tCons' (tOp' oIx (tVar' 1) (tC' (.int 2))) tNil'))))))))

def r_law : TS' := (tSeq' (tAsg' (tCall' sp__law_pool (tCons' (tVar' 0) tNil')) (gName' 1))
    (tSeq' (tAsg' (tLst' true tNil') (gName' 2))
    (tSeq' (tFor' (tRng1' (tCons' (tC' (.int 4)) tNil')) (gName' 3) (tSeq' (tAsg' (tCall' sp__law_amounts (tCons' (tVar' 1) tNil')) (gTup' 2 [(gName' 9), (gName' 10)]))
    (tSeq' (tIfS' (tB' (tOp' (oI0 fun i j => .bl (decide (j < i))) (tVar' 3) (tC' (.int 0)))) (tAsg' (tCB' (cI2 fun i j => .int (if j < i then j else i)) (tCons' (tVar' 9) (tCons' (tC' (.int 12)) tNil'))) (gName' 9)) tNext')
    (tSeq' (tAsg' (tCall' sp__law_pieces (tCons' (tVar' 1) (tCons' (tVar' 9) tNil'))) (gName' 5))
    (tSeq' (tIfS' (tB' (tOp' (oEq false) (tVar' 3) (tC' (.int 3)))) (tAsg' (tOp' (oAdd false) (tSl' (oSl false) (tOp' oIx (tOp' oIx (tVar' 2) (tC' (.int 2))) (tC' (.int 0))) tNoPart' (tPart' (tUn' oNeg (tC' (.int 1))))) (tTup' (tCons' (tOp' (oAdd false) (tSl' (oSl false) (tOp' oIx (tOp' oIx (tOp' oIx (tVar' 2) (tC' (.int 2))) (tC' (.int 0))) (tUn' oNeg (tC' (.int 1)))) tNoPart' (tPart' (tC' (.int 2)))) (tTup' (tCons' (tTup' (tCons' (tC' (.int 0)) (tCons' (tC' (.int 1)) tNil'))) tNil'))) tNil'))) (gName' 5)) tNext')
    (tSeq' (tAsg' (tCall' sp__law_room (tCons' (tVar' 1) (tCons' (tVar' 5) (tCons' (tVar' 10) tNil')))) (gName' 6))
    (tDrop' (tBM' "list" mAppend (tVar' 2) (tCons' (tTup' (tCons' (tVar' 5) (tCons' (tVar' 6) (tCons' (tCall' sp__law_due (tCons' (tCall' sp__law_fitting (tCons' (tCall' sp__law_scaled (tCons' (tVar' 5) (tCons' (tVar' 6) tNil'))) tNil')) tNil')) tNil')))) tNil')))))))))
    (tSeq' (tFor' (tIt' (tTup' (tCons' (tC' (.int 0)) (tCons' (tC' (.int 1)) (tCons' (tC' (.int 2)) (tCons' (tC' (.int 3)) (tCons' (tC' (.int 1)) (tCons' (tC' (.int 2)) tNil')))))))) (gName' 4) (tSeq' (tAsg' (tOp' oIx (tVar' 2) (tVar' 4)) (gTup' 3 [(gName' 5), (gName' 6), (gName' 11)]))
    (tSeq' (tAsg' (tCall' sp__law_given (tCons' (tVar' 1) (tCons' (tVar' 5) tNil'))) (gName' 7))
    (tSeq' (tAsg' (tCB' cRepr (tCons' (tVar' 7) tNil')) (gName' 8))
    (tIfS' (tOr' (tNot' (tTru' (tCall' sp__law_same (tCons' (tCall' sp_best_lines (tCons' (tVar' 7) (tCons' (tCall' sp__law_given (tCons' (tVar' 1) (tCons' (tVar' 6) tNil'))) tNil'))) (tCons' (tVar' 11) tNil'))))) (tB' (tOp' (oEq true) (tCB' cRepr (tCons' (tVar' 7) tNil')) (tVar' 8)))) (tRet' (tC' (.bl false))) tNext')))))
    (tRet' (tC' (.bl true)))))))
def rr__law_breakings (i : Nat) : TS' := (tSeq' (tIfS' (tB' (tOp' (oEq false) (tVar' 1) (tCB' cLen (tCons' (tVar' 0) tNil')))) (tRet' (tLst' false (tCons' (tTup' (tCons' (tTup' tNil') (tCons' (tC' (.int 0)) tNil'))) tNil'))) tNext')
    (tSeq' (tAsg' (tLst' true tNil') (gName' 2))
    (tSeq' (tFor' (tIt' (tOp' oIx (tVar' 0) (tVar' 1))) (gTup' 2 [(gName' 3), (gName' 4)]) (tFor' (tIt' (tCall' (spr__law_breakings i) (tCons' (tVar' 0) (tCons' (tVar' 3) tNil')))) (gTup' 2 [(gName' 5), (gName' 6)]) (tDrop' (tBM' "list" mAppend (tVar' 2) (tCons' (tTup' (tCons' (tOp' (oAdd false) (tTup' (tCons' (tVar' 3) tNil')) (tVar' 5)) (tCons' (tOp' (oAdd false) (tVar' 4) (tVar' 6)) tNil'))) tNil')))))
    (tRet' (tFrz (tVar' 2))))))

end K73
namespace K73
open MD L2 PySem Kit Kc
theorem same_pop' {M : MH} {Q : QE} {E : QX} {d : D} (q : Q d M) : (retE M.length Q E).rt d M := by show Q _ (popM _ _ _); rw [popM_same (Nat.le_refl _)]; exact q
theorem pr_clean {d : D} {a b : Int} (h : Pr d a b) : clean d = true := by rcases h with rfl | rfl <;> rfl
theorem pr_frac {d : D} {p : Part} (h : Pr d p.1 p.2) (ok : okPart p) : fracB d = true := by
  obtain ⟨h1, h2, h3, h4, h5⟩ := ok
  have : frac2 (.int p.1) (.int p.2) = true := decide_eq_true ⟨h1, h5⟩
  rcases h with rfl | rfl <;> exact this
theorem pr_seq {d : D} {a b : Int} (h : Pr d a b) (M : MH) : seqOf d M = some [.int a, .int b] := by rcases h with rfl | rfl <;> rfl
theorem pr_ns {d : D} {a b : Int} (h : Pr d a b) : ∀ z : Str, d ≠ .str z := by rcases h with rfl | rfl <;> exact nofun
theorem math_is_part (ds M Q E) (hM : WFM M) (hb : D.belL M.length ds = true) (h : sp_is_part ds M Q E) : r_is_part (retE M.length Q E) (startD N_is_part ds) M := by
  obtain ⟨d, p, rfl, hp, ok, q⟩ := h
  have q : (retE M.length Q E).rt (.bl true) M := same_pop' q
  obtain ⟨h1, h2, h3, h4, h5⟩ := id ok
  unfold r_is_part
  simp [startD]
  refine ⟨d, rfl, pr_clean hp, ?_⟩
  rw [pr_frac hp ok]
  simp [pr_seq hp, pr_ns hp]
  rw [if_pos h3, if_pos h4, decide_eq_true h2]
  exact q
theorem pc_seq {d : D} {p : Piece} (h : PcL d p) : ∃ a b c, Pr a p.1.1 p.1.2 ∧ Pr b p.2.1.1 p.2.1.2 ∧ Pr c p.2.2.1 p.2.2.2 ∧ (d = .tup [a, b, c] ∨ d = .lst [a, b, c]) ∧ (∀ M, seqOf d M = some [a, b, c]) ∧ (∀ z : Str, d ≠ .str z) ∧ (∀ M (R : ItD → MH → Prop), seqD d M R ↔ R ⟨[a, b, c], none⟩ M) ∧ (∀ M, lenD d M = some 3) ∧ (∀ M : MH, ∃ n, tyStr d M = some n ∧ (subTy n "tuple" = true ∨ subTy n "list" = true)) := by
  obtain ⟨a, b, c, h1, h2, h3, h4⟩ := h
  refine ⟨a, b, c, h1, h2, h3, h4, ?_, ?_, ?_, ?_, ?_⟩
  · rcases h4 with rfl | rfl <;> exact fun _ => rfl
  · rcases h4 with rfl | rfl <;> exact nofun
  · rcases h4 with rfl | rfl <;> exact fun _ _ => Iff.rfl
  · rcases h4 with rfl | rfl <;> exact fun _ => rfl
  · rcases h4 with rfl | rfl
    · exact fun _ => ⟨_, rfl, .inl (by decide)⟩
    · exact fun _ => ⟨_, rfl, .inr (by decide)⟩
theorem math_is_piece (ds M Q E) (hM : WFM M) (hb : D.belL M.length ds = true) (h : sp_is_piece ds M Q E) : r_is_piece (retE M.length Q E) (startD N_is_piece ds) M := by
  obtain ⟨d, p, rfl, hp, ⟨ok1, ok2, ok3, hle⟩, q⟩ := h
  have q : (retE M.length Q E).rt (.bl true) M := same_pop' q
  obtain ⟨a, b, c, p1, p2, p3, hd, hsq, hns, hit, hln, hty⟩ := pc_seq hp
  obtain ⟨n, t1, t2⟩ := hty M
  unfold r_is_piece
  refine seq_step fun S hS => ?_
  simp [startD, t1]
  refine ⟨by rw [hz]; decide, ?_⟩
  rw [if_pos t2]
  simp [hln, hns, hit]
  refine lcL_map (fun d => .bl true) (by exact trivial) [a, b, c] [] ?_ (by rw [hz]; simp) ?_
  · intro x hx Q' q'
    simp [wipeD]
    simp only [List.mem_cons, List.not_mem_nil, or_false] at hx
    rcases hx with rfl | rfl | rfl
    · exact ⟨_, p.1, rfl, p1, ok1, q'⟩
    · exact ⟨_, p.2.1, rfl, p2, ok2, q'⟩
    · exact ⟨_, p.2.2, rfl, p3, ok3, q'⟩
  · rw [List.nil_append]
    refine ⟨[true, true, true], rfl, ?_⟩
    rw [if_neg (by decide)]
    subst hS
    simp [hsq, hns, pr_seq p1, pr_seq p3, pr_ns p1, pr_ns p3]
    obtain ⟨a1, a2, a3, a4, _⟩ := ok1
    obtain ⟨c1, c2, c3, c4, _⟩ := ok3
    refine ⟨mulOk_l (by omega), mulOk_l (by omega), ?_⟩
    rw [decide_eq_true hle]
    exact q
theorem pcs_seq {d : D} {ps : List Piece} (h : PcsL d ps) (hl : ps.length ≤ 400) : ∃ es, RelL PcL es ps ∧ es.length = ps.length ∧ (d = .tup es ∨ d = .lst es) ∧ (∀ M, seqOf d M = some es) ∧ (∀ z : Str, d ≠ .str z) ∧ (∀ M (R : ItD → MH → Prop), seqD d M R ↔ R ⟨es, none⟩ M) ∧ (∀ M, lenD d M = some es.length) ∧ (∀ M : MH, ∃ n, tyStr d M = some n ∧ (subTy n "tuple" = true ∨ subTy n "list" = true)) := by
  obtain ⟨es, h4, h1⟩ := h
  refine ⟨es, h1, h1.length, h4, ?_, ?_, ?_, ?_, ?_⟩
  · rcases h4 with rfl | rfl <;> exact fun _ => rfl
  · rcases h4 with rfl | rfl <;> exact nofun
  · rcases h4 with rfl | rfl <;> exact fun _ _ => Iff.rfl
  · rcases h4 with rfl | rfl <;> exact fun _ => rfl
  · rcases h4 with rfl | rfl
    · exact fun _ => ⟨_, rfl, .inl (by decide)⟩
    · exact fun _ => ⟨_, rfl, .inr (by decide)⟩
theorem RelL.get {α β : Type} {R : α → β → Prop} : ∀ {xs : List α} {ys : List β} {i : Nat} {x : α}, RelL R xs ys → xs[i]? = some x → ∃ y, ys[i]? = some y ∧ R x y := fun h e => RelL.at h e
theorem math_check_pieces (ds M Q E) (hM : WFM M) (hb : D.belL M.length ds = true) (h : sp_check_pieces ds M Q E) : r_check_pieces (retE M.length Q E) (startD N_check_pieces ds) M := by
  obtain ⟨d, ps, rfl, hp, ⟨ok1, ok2, ok3⟩, q⟩ := h
  obtain ⟨es, hr, hel, hd, hsq, hns, hit, hln, hty⟩ := pcs_seq hp ok2
  obtain ⟨n, t1, t2⟩ := hty M
  unfold r_check_pieces
  refine seq_step fun S hS => ?_
  simp [startD, t1]
  refine ⟨by rw [hz]; decide, ?_⟩
  rw [if_pos t2]
  simp [hln, hns]
  rw [if_pos (by omega), if_pos (by omega)]
  subst hS
  simp
  refine ⟨es, by rcases hd with rfl | rfl; exact .inr rfl; exact .inl rfl, ?_⟩
  refine forI_from (fun k δ M' => M' = M ∧ ∃ a b, δ = [some d, a, b]) ?_ ?_ ⟨rfl, _, _, rfl⟩
  · rintro δ M' ⟨rfl, a, b, rfl⟩
    refine ⟨trivial, ?_⟩
    show Q .non (popM _ _ _)
    rw [popM_same (Nat.le_refl _)]
    exact q
  · rintro k e δ M' F he ⟨rfl, a, b, rfl⟩ hF
    refine ⟨trivial, ?_⟩
    obtain ⟨x, hx, rfl⟩ := enumD_at he
    obtain ⟨p, hpp, hxp⟩ := hr.at hx
    rw [u_gtupT]
    refine ⟨rfl, ?_⟩
    rw [u_gAll2, u_gname, u_gAll1, u_gname, u_gAll0]
    simp
    refine ⟨x, p, rfl, hxp, ok3 p (List.mem_of_getElem? hpp), ?_⟩
    simp
    exact hF _ _ ⟨rfl, _, _, rfl⟩
theorem math__law_given (ds M Q E) (hM : WFM M) (hb : D.belL M.length ds = true) (h : sp__law_given ds M Q E) : r__law_given (retE M.length Q E) (startD N__law_given ds) M := by
  obtain ⟨p, d, rfl, hp, ht, q⟩ := h
  have hpl := hp.lt
  unfold r__law_given
  simp [startD]
  refine ⟨p, 3, rfl, by decide, by decide, hp, fun r M1 a1 b1 c1 => ?_⟩
  simp
  split
  · refine ⟨d, rfl, ht, ?_⟩
    show Q _ (popM _ _ _)
    rw [popM_same (by rw [c1.length]; exact Nat.le_refl _)]
    exact q _ _ (.inr rfl) c1
  · rw [popM_same (by rw [c1.length]; exact Nat.le_refl _)]
    exact q _ _ (.inl rfl) c1
theorem math__law_divisor (ds M Q E) (hM : WFM M) (hb : D.belL M.length ds = true) (h : sp__law_divisor ds M Q E) : r__law_divisor (retE M.length Q E) (startD N__law_divisor ds) M := by
  obtain ⟨a, b, rfl, ha, ha2, hb1, hb2, q⟩ := h
  have q : (retE M.length Q E).rt (.int ((Int.gcd a b : Nat) : Int)) M := same_pop' q
  have bga : Bg 64 a := Bg.of (by omega)
  unfold r__law_divisor
  simp [startD]
  rw [if_pos ha]
  refine ⟨a, b, rfl, hb1, bga.mono (by decide), hb2, .inl (bga.mono (by decide)), ?_⟩
  simp
  rw [fr_pos hb1]
  have hg : 0 < (Int.gcd a b : Int) := by
    have : 0 < Int.gcd a b := Int.gcd_pos_of_ne_zero_left _ (by omega)
    omega
  have hq : 0 < a / (Int.gcd a b : Int) := Int.ediv_pos_of_pos_of_dvd ha (by omega) (gcd_dvd_l a b)
  have hqa : a / (Int.gcd a b : Int) ≤ a := Int.ediv_le_self _ (by omega)
  have fin : oFdiv (D.int a) (.int (a / (Int.gcd a b : Int))) M (retE (List.length M) Q E).rt := by
    simp
    refine ⟨divOk_of hq (by omega), ?_⟩
    rw [e_fdiv hq]
    have key : ∀ G x : Int, 0 < x → a = G * x → a / x = G := fun G x hx e => by
      rw [e]
      exact Int.mul_ediv_cancel _ (by omega)
    have this := key _ _ hq (Int.mul_ediv_cancel' (gcd_dvd_l a b)).symm
    rw [this]
    exact q
  exact .inl ⟨_, rfl, _, rfl, fin⟩
end K73
namespace K73
open MD L2 PySem Kit Kc
/-! the common measure -/
theorem lcI_pos {c d : Int} (hc : 0 < c) (hd : 0 < d) : 0 < lcI c d := by
  unfold lcI
  have := Nat.lcm_pos (m := c.natAbs) (n := d.natAbs) (by omega) (by omega)
  omega
theorem lcI_l (c d : Int) : c ∣ lcI c d := by
  unfold lcI
  exact Int.natAbs_dvd.mp (Int.natCast_dvd_natCast.mpr (Nat.dvd_lcm_left c.natAbs d.natAbs))
theorem lcI_r (c d : Int) : d ∣ lcI c d := by
  unfold lcI
  exact Int.natAbs_dvd.mp (Int.natCast_dvd_natCast.mpr (Nat.dvd_lcm_right c.natAbs d.natAbs))
theorem lcI_dvd {c d e : Int} (h1 : c ∣ e) (h2 : d ∣ e) : lcI c d ∣ e := by
  unfold lcI
  have h1 := Int.natAbs_dvd_natAbs.mpr h1
  have h2 := Int.natAbs_dvd_natAbs.mpr h2
  exact Int.dvd_natAbs.mp (Int.natCast_dvd_natCast.mpr (Nat.lcm_dvd h1 h2))
/-- the least common multiple of the first n numbers -/
def lcmTo : Nat → Nat
  | 0 => 1
  | n + 1 => Nat.lcm (lcmTo n) (n + 1)
theorem lcmTo_dvd : ∀ (n d : Nat), 0 < d → d ≤ n → d ∣ lcmTo n
  | 0, d, h, h2 => by omega
  | n + 1, d, h, h2 => by
    unfold lcmTo
    by_cases hd : d = n + 1
    · rw [hd]; exact Nat.dvd_lcm_right _ _
    · exact Nat.dvd_trans (lcmTo_dvd n d h (by omega)) (Nat.dvd_lcm_left _ _)
def lcmFold (n : Nat) : Nat := (List.range n).foldl (fun c i => Nat.lcm c (i + 1)) 1
theorem lcmFold_eq (n : Nat) : lcmFold n = lcmTo n := by
  unfold lcmFold
  induction n with
  | zero => rfl
  | succ n ih => rw [List.range_succ, List.foldl_append, ih]; rfl
theorem lcm_big : lcmTo 1000 < 2 ^ 1500 ∧ 0 < lcmTo 1000 := by
  rw [← lcmFold_eq]
  decide +kernel
abbrev LL : Int := (lcmTo 1000 : Nat)
theorem LL_dvd {d : Int} (h : 0 < d) (h2 : d ≤ 1000) : d ∣ LL := by
  have := lcmTo_dvd 1000 d.natAbs (by omega) (by omega)
  exact Int.natAbs_dvd.mp (Int.natCast_dvd_natCast.mpr this)
/-- a common measure so far -/
def Cm (c : Int) : Prop := 0 < c ∧ c ∣ LL
theorem Cm.lt {c : Int} (h : Cm c) : c < 2 ^ 1500 := by
  have h1 := Int.le_of_dvd (by have := lcm_big.2; unfold LL; omega) h.2
  have h2 : LL < 2 ^ 1500 := by have := lcm_big.1; unfold LL; exact_mod_cast this
  omega
theorem Cm.lc {c d : Int} (h : Cm c) (h1 : 0 < d) (h2 : d ≤ 1000) : Cm (lcI c d) := ⟨lcI_pos h.1 h1, lcI_dvd h.2 (LL_dvd h1 h2)⟩
theorem Cm.lc3 {c : Int} {p : Piece} (h : Cm c) (ok : okPiece p) : Cm (lc3 c p) := ((h.lc ok.1.1 ok.1.2.1).lc ok.2.1.1 ok.2.1.2.1).lc ok.2.2.1.1 ok.2.2.1.2.1
theorem Cm.com {c : Int} : ∀ {ps : List Piece}, Cm c → (∀ p ∈ ps, okPiece p) → Cm (com c ps)
  | [], h, _ => h
  | p :: r, h, ok => Cm.com (ps := r) (h.lc3 (ok p List.mem_cons_self)) fun x hx => ok x (List.mem_cons_of_mem _ hx)
theorem com_dvd {c : Int} : ∀ {ps : List Piece}, c ∣ com c ps
  | [] => Int.dvd_refl _
  | p :: r => Int.dvd_trans (Int.dvd_trans (Int.dvd_trans (lcI_l _ _) (lcI_l _ _)) (lcI_l _ _)) (com_dvd (c := lc3 c p) (ps := r))
theorem com_dvd3 {c : Int} : ∀ {ps : List Piece} {p : Piece}, p ∈ ps → p.1.2 ∣ com c ps ∧ p.2.1.2 ∣ com c ps ∧ p.2.2.2 ∣ com c ps
  | q :: r, p, h => by
    rcases List.mem_cons.mp h with rfl | h
    · have := com_dvd (c := lc3 c p) (ps := r)
      exact ⟨Int.dvd_trans (Int.dvd_trans (Int.dvd_trans (lcI_r _ _) (lcI_l _ _)) (lcI_l _ _)) this, Int.dvd_trans (Int.dvd_trans (lcI_r _ _) (lcI_l _ _)) this, Int.dvd_trans (lcI_r _ _) this⟩
    · exact com_dvd3 (c := lc3 c q) h
theorem com_cm {ρ : Part} {ps : List Piece} (h : okRoom ρ) (ok : okPcs ps) : Cm (com ρ.2 ps) := Cm.com ⟨h.1.1, LL_dvd h.1.1 h.1.2.1⟩ ok.2.2
/-- a part, scaled -/
theorem sc_ok {C : Int} {p : Part} (hC : Cm C) (ok : okPart p) : 0 ≤ sc C p ∧ sc C p < 2 ^ 1520 := by
  obtain ⟨h1, h2, h3, h4, _⟩ := ok
  have hq : 0 ≤ C / p.2 := Int.ediv_nonneg (by have := hC.1; omega) (by omega)
  have hq2 : C / p.2 ≤ C := Int.ediv_le_self _ (by have := hC.1; omega)
  have hlt := hC.lt
  refine ⟨Int.mul_nonneg h3 hq, ?_⟩
  have e1 : sc C p ≤ 1000000 * (C / p.2) := Int.mul_le_mul_of_nonneg_right h4 hq
  have e2 : (1000000 : Int) * 2 ^ 1500 < 2 ^ 1520 := by decide
  omega
end K73
namespace K73
open MD L2 PySem Kit Kc
def totT (a : Tri) (ts : List Tri) : Tri := ts.foldl addT a
theorem sumsF_snoc (t : Tri) : ∀ (ts : List Tri) (a : Tri), sumsF a (ts ++ [t]) = sumsF a ts ++ [addT (totT a ts) t]
  | [], a => rfl
  | s :: r, a => by
    show a :: sumsF (addT a s) (r ++ [t]) = _
    rw [sumsF_snoc t r (addT a s)]; rfl
theorem sumsF_len : ∀ (ts : List Tri) (a : Tri), (sumsF a ts).length = ts.length + 1
  | [], a => rfl
  | s :: r, a => by show (sumsF (addT a s) r).length + 1 = _; rw [sumsF_len r]; rfl
theorem sumsF_last : ∀ (ts : List Tri) (a : Tri), ∃ pre, sumsF a ts = pre ++ [totT a ts]
  | [], a => ⟨[], rfl⟩
  | s :: r, a => by
    obtain ⟨pre, h⟩ := sumsF_last r (addT a s)
    exact ⟨a :: pre, by show a :: sumsF (addT a s) r = _; rw [h]; rfl⟩
theorem sumsP_len {ρ : Part} {ps : List Piece} : (sumsP ρ ps).length = ps.length + 1 := by unfold sumsP; rw [sumsF_len, List.length_map]
theorem sumsF_at : ∀ (ts : List Tri) (a : Tri) (i : Nat), i ≤ ts.length → (sumsF a ts)[i]? = some (totT a (ts.take i))
  | [], a, 0, _ => rfl
  | s :: r, a, 0, _ => rfl
  | s :: r, a, i + 1, h => by
    show (sumsF (addT a s) r)[i]? = _
    rw [sumsF_at r (addT a s) i (by simpa using h)]; rfl
theorem putD_cons {f h : Str} {v u : D} {r : List (Str × D)} : putD f v ((h, u) :: r) = if h = f then (h, v) :: r else (h, u) :: putD f v r := rfl
theorem popM_stay {n : Nat} {d : D} {M : MH} {c : Cell} (h : c ∈ M.take n) (hb : Cell.below n c = false) : popM n d M = M := by
  unfold popM
  rw [if_neg]
  rintro ⟨_, h2⟩
  have := h2 c h
  rw [hb] at this; cases this
/-- one piece, measured anew -/
theorem math_Lines_init (ds M Q E) (hM : WFM M) (hb : D.belL M.length ds = true) (h : sp_Lines_init ds M Q E) : r_Lines_init (retE M.length Q E) (startD N_Lines_init ds) M := by
  obtain ⟨i, d, r, ps, ρ, rfl, hi, hp, ok, hr, okr, q⟩ := h
  have hil : i < M.length := (List.getElem?_eq_some_iff.mp hi).1
  obtain ⟨es, hre, hel, hd, hsq, hns, hit, hln, hty⟩ := pcs_seq hp ok.2.1
  unfold r_Lines_init
  refine seq_step fun S hS => ?_
  simp [startD]
  refine ⟨d, ps, rfl, hp, ok, ?_⟩
  subst hS
  refine seq_step fun S hS => ?_
  simp
  refine ⟨r, ρ, rfl, hr, okr.1, ?_⟩
  simp [pr_seq hr, pr_ns hr]
  rw [if_neg okr.2]
  subst hS
  refine seq_step fun S hS => ?_
  simp [pr_seq hr, pr_ns hr]
  subst hS
  refine seq_step fun S hS => ?_
  simp [hit]
  have cm0 : Cm ρ.2 := ⟨okr.1.1, LL_dvd okr.1.1 okr.1.2.1⟩
  refine forL_ind (fun ds δ M' => M' = M ∧ ∃ (qs : List Piece) (c : Int) (a b : Option D), RelL PcL ds qs ∧ (∀ p ∈ qs, okPiece p) ∧ Cm c ∧ com c qs = com ρ.2 ps ∧ δ = [some (.ref i), some d, some r, some (.int c), a, b, none, none, none, none]) ?_ ?_ _ _ _ ⟨rfl, ps, ρ.2, none, none, hre, ok.2.2, cm0, rfl, rfl⟩
  · rintro δ M' ⟨rfl, qs, c, a, b, hq, _, hc, hcm, rfl⟩
    have : qs = [] := by cases qs with | nil => rfl | cons => exact hq.elim
    subst this
    have hcm : c = com ρ.2 ps := hcm
    rw [hcm] at hc ⊢
    refine ⟨trivial, ?_⟩
    show S _ _ _
    subst hS
    refine seq_step fun S hS => ?_
    simp [hln, hns, hi]
    refine ⟨"Lines", [], ⟨rfl, rfl⟩, rfl, by decide, ?_⟩
    show S _ _ (M'.set i (.ins "Lines" [("many", .int (es.length : Int))]))
    have C0 := hc.1
    generalize hC : com ρ.2 ps = C at hc C0
    have dv : ρ.2 ∣ C := by rw [← hC]; exact com_dvd
    obtain ⟨o1, o2, o3, o4, o5⟩ := okr.1
    have hi1 : ∀ X : Cell, (M'.set i X)[i]? = some X := fun X => List.getElem?_set_self hil
    have hs1 : ∀ X Y : Cell, (M'.set i X).set i Y = M'.set i Y := fun X Y => List.set_set ..
    have hl1 : ∀ X : Cell, (M'.set i X).length = M'.length := fun X => List.length_set
    subst hS
    refine seq_step fun S hS => ?_
    simp [pr_seq hr, pr_ns hr, hi1]
    refine ⟨divOk_of o1 (by omega), ?_⟩
    rw [e_fdiv o1]
    refine ⟨mulOk_l (by omega), "Lines", _, ⟨rfl, rfl⟩, rfl, by show 1 < 1000; decide, ?_⟩
    show S _ _ (M'.set i (.ins "Lines" (putD "room" (.int (sc C ρ)) [("many", .int (es.length : Int))])))
    have pd : ∀ u v : D, putD "room" v [("many", u)] = ([("many", u), ("room", v)] : List (Str × D)) := fun u v => by
      show (if ("many" : Str) = "room" then _ else _) = _
      rw [if_neg (by decide)]
      rfl
    have pd2 : ∀ u v x : D, putD "_sums" x [("many", u), ("room", v)] = ([("many", u), ("room", v), ("_sums", x)] : List (Str × D)) := fun u v x => by
      rw [putD_cons, if_neg (by decide), putD_cons, if_neg (by decide)]
      rfl
    rw [pd]
    subst hS
    refine seq_step fun S hS => ?_
    simp [hi1]
    have hi2 : ∀ (X : Cell) (l : List D), (M'.set i X ++ [Cell.lst l])[i]? = some X := fun X l => by rw [List.getElem?_append_left (by rw [hl1]; exact hil)]; exact hi1 X
    have hs2 : ∀ (X Y : Cell) (l : List D), (M'.set i X ++ [Cell.lst l]).set i Y = M'.set i Y ++ [Cell.lst l] := fun X Y l => by rw [List.set_append_left _ _ (by rw [hl1]; exact hil), hs1]
    have hj2 : ∀ (X : Cell) (l : List D), (M'.set i X ++ [Cell.lst l])[M'.length]? = some (.lst l) := fun X l => by rw [← hl1 X]; exact get_last _ _
    have hp2 : ∀ (X : Cell) (l l2 : List D), (M'.set i X ++ [Cell.lst l]).set M'.length (.lst l2) = M'.set i X ++ [Cell.lst l2] := fun X l l2 => by rw [← hl1 X]; exact set_last _ _ _
    refine ⟨by rw [hz]; decide, by rw [hz]; decide, "Lines", _, hi2 _ _, rfl, by show 2 < 1000; decide, ?_⟩
    rw [hs2, pd2]
    subst hS
    simp [hit]
    have fin : ∀ l : List Piece, l = ps → (M'.set i (.ins "Lines" [("many", .int (es.length : Int)), ("room", .int (sc C ρ)), ("_sums", .ref M'.length)]) ++ [.lst ((sumsF (0, 0, 0) (l.map (scP C))).map triD)]) = (M'.set i (linesC (sumsP ρ ps) (roomP ρ ps) M'.length) ++ [.lst ((sumsP ρ ps).map triD)]) := by
      intro l e
      rw [e]
      unfold linesC roomP
      rw [sumsP_len, hC, hel]
      unfold sumsP
      rw [hC]
      rfl
    generalize hX : Cell.ins "Lines" [("many", .int (es.length : Int)), ("room", .int (sc C ρ)), ("_sums", .ref M'.length)] = X at fin
    refine forI_from (fun k δ M2 => ∃ a b e f g h : Option D, δ = [some (.ref i), some d, some r, some (.int C), a, b, e, f, g, h] ∧ M2 = M'.set i X ++ [.lst ((sumsF (0, 0, 0) ((ps.take k).map (scP C))).map triD)]) ?_ ?_ ⟨_, _, _, _, _, _, rfl, rfl⟩
    · rintro δ M2 ⟨a, b, e, f, g, h, rfl, rfl⟩
      refine ⟨trivial, ?_⟩
      rw [hel, List.take_length, fin ps rfl]
      show Q .non (popM M'.length .non _)
      rw [popM_stay (c := linesC (sumsP ρ ps) (roomP ρ ps) M'.length)]
      · exact q
      · have hl3 : (M'.set i (linesC (sumsP ρ ps) (roomP ρ ps) M'.length)).length = M'.length := hl1 _
        rw [List.take_left' hl3]
        exact List.mem_of_getElem? (hi1 _)
      · show D.belL M'.length [_, _, .ref M'.length] = false
        simp [D.belL, D.bel]
    · rintro k x δ M2 F hx ⟨a, b, e, f, g, h, rfl, rfl⟩ hF
      refine ⟨trivial, ?_⟩
      obtain ⟨p, hpk, hxp⟩ := hre.at hx
      obtain ⟨u, v, w, p1, p2, p3, hd3, hsq3, hns3, hit3, hln3, hty3⟩ := pc_seq hxp
      have okp := ok.2.2 p (List.mem_of_getElem? hpk)
      refine seq_step fun S2 hS2 => ?_
      simp [hit3]
      simp [lcL, wipeD, pr_seq p1, pr_seq p2, pr_seq p3, pr_ns p1, pr_ns p2, pr_ns p3]
      obtain ⟨⟨a1, a2, a3, a4, _⟩, ⟨b1, b2, b3, b4, _⟩, ⟨d1, d2, d3, d4, _⟩, _⟩ := okp
      rw [e_fdiv a1, e_fdiv b1, e_fdiv d1]
      refine ⟨divOk_of a1 (by omega), mulOk_l (by omega), by rw [hz]; decide, divOk_of b1 (by omega), mulOk_l (by omega), by rw [hz]; decide, divOk_of d1 (by omega), mulOk_l (by omega), by rw [hz]; decide, ?_⟩
      have hsn : sumsF (0, 0, 0) ((ps.take (k + 1)).map (scP C)) = sumsF (0, 0, 0) ((ps.take k).map (scP C)) ++ [addT (totT (0, 0, 0) ((ps.take k).map (scP C))) (scP C p)] := by
        rw [List.take_add_one, hpk, List.map_append]
        exact sumsF_snoc _ _ _
      obtain ⟨pre, hpre⟩ := sumsF_last ((ps.take k).map (scP C)) (0, 0, 0)
      have hlen : (sumsF (0, 0, 0) ((ps.take k).map (scP C))).length ≤ 401 := by rw [sumsF_len, List.length_map, List.length_take]; have := ok.2.1; omega
      rw [← List.map_take]
      generalize totT (0, 0, 0) ((ps.take k).map (scP C)) = tt at hsn hpre
      generalize sumsF (0, 0, 0) ((ps.take k).map (scP C)) = L0 at hsn hpre hlen ⊢
      have hlast : atI (L0.map triD) (-1) = some (triD tt) := by
        have hne : L0 ≠ [] := by rw [hpre]; simp
        have := last_map triD hne
        rw [this]
        congr 2
        simp [hpre]
      subst hS2
      refine seq_step fun S2 hS2 => ?_
      subst hX
      simp [hi2, hj2, hlast]
      refine ⟨"Lines", _, ⟨rfl, rfl⟩, rfl, .ref M'.length, rfl, .inl ⟨_, seqOf_ref (hj2 _ _), _, hlast, ?_⟩⟩
      subst hS2
      simp [hi2, hj2, triD]
      refine ⟨"Lines", _, ⟨rfl, rfl⟩, rfl, .ref M'.length, rfl, .inl ⟨rfl, _, hj2 _ _⟩, by rw [hz]; decide, M'.length, rfl, _, hj2 _ _, by rw [List.length_map, hz]; omega, ?_⟩
      rw [hp2]
      refine hF _ _ ⟨_, _, _, _, _, _, rfl, ?_⟩
      rw [hsn, List.map_append]
      rfl
  · rintro e rest δ M' F ⟨rfl, qs, c, a, b, hq, okq, hc, hcm, rfl⟩ hF
    refine ⟨trivial, ?_⟩
    obtain ⟨p, qs, rfl⟩ : ∃ p q2, qs = p :: q2 := by
      cases qs with
      | nil => exact hq.elim
      | cons p r => exact ⟨p, r, rfl⟩
    obtain ⟨x, y, w, p1, p2, p3, hd3, hsq3, hns3, hit3, hln3, hty3⟩ := pc_seq hq.1
    have okp := okq p List.mem_cons_self
    have c1 := hc.lc okp.1.1 okp.1.2.1
    have c2 := c1.lc okp.2.1.1 okp.2.1.2.1
    have c3 := c2.lc okp.2.2.1.1 okp.2.2.1.2.1
    have big : ∀ z : Int, Cm z → z.natAbs < 2 ^ 13000 := fun z hz => Nat.lt_of_lt_of_le (show z.natAbs < 2 ^ 1500 by have := hz.lt; have := hz.1; omega) (Nat.pow_le_pow_right (by decide) (by decide))
    have sml : ∀ z : Int, 0 < z → z ≤ 1000 → z.natAbs < 2 ^ 13000 := fun z h1 h2 => Nat.lt_of_lt_of_le (show z.natAbs < 2 ^ 10 by omega) (Nat.pow_le_pow_right (by decide) (by decide))
    have bl : ∀ c d : Int, Cm (lcI c d) → Nat.lcm c.natAbs d.natAbs < 2 ^ 13000 := fun c d h => by have := big _ h; unfold lcI at this; simpa using this
    simp [hit3, forL, pr_seq p1, pr_seq p2, pr_seq p3, pr_ns p1, pr_ns p2, pr_ns p3]
    refine ⟨big c hc, sml _ okp.1.1 okp.1.2.1, bl _ _ c1, sml _ okp.2.1.1 okp.2.1.2.1, by simpa [lcI] using bl _ _ c2, sml _ okp.2.2.1.1 okp.2.2.1.2.1, by simpa [lcI] using bl _ _ c3, ?_⟩
    refine hF _ _ ⟨rfl, qs, lc3 c p, some e, some w, hq.2, fun x hx => okq x (List.mem_cons_of_mem _ hx), c3, hcm, ?_⟩
    simp [lc3, lcI]
end K73
namespace K73
open MD L2 PySem Kit Kc
theorem g_at {ss : List Tri} {n : Nat} (h : n < ss.length) : atI (ss.map triD) (n : Int) = some (triD (g ss n)) := by
  refine at_nat ?_
  rw [List.getElem?_map, List.getElem?_eq_getElem h]
  unfold g
  rw [List.getD_eq_getElem?_getD, List.getElem?_eq_getElem h]; rfl
theorem Lok.d {ss : List Tri} {R : Int} (h : Lok ss R) {a b : Nat} (hab : a < b) (hb : b < ss.length) : (0 ≤ dW ss a b ∧ dW ss a b < 2 ^ 2000) ∧ (0 ≤ dS ss a b ∧ dS ss a b < 2 ^ 2000) ∧ (0 ≤ dH ss a b ∧ dH ss a b < 2 ^ 2000) := by
  obtain ⟨m1, m2, m3⟩ := h.mono a b (by omega) hb
  obtain ⟨⟨x1, x2⟩, ⟨x3, x4⟩, x5, x6⟩ := h.big a (by omega)
  obtain ⟨⟨y1, y2⟩, ⟨y3, y4⟩, y5, y6⟩ := h.big b hb
  generalize (2 : Int) ^ 2000 = P at *
  unfold dW dS dH
  exact ⟨⟨by omega, by omega⟩, ⟨by omega, by omega⟩, by omega, by omega⟩
theorem bgP {x : Int} (h : -(2 ^ 2000) < x ∧ x < 2 ^ 2000) : Bg 2000 x := by
  have e : ((2 ^ 2000 : Nat) : Int) = 2 ^ 2000 := by norm_cast
  unfold Bg
  rw [← e] at h
  generalize (2 ^ 2000 : Nat) = P at *
  omega
theorem sq_pos {x : Int} (h : 0 < x) : 0 < x * x := Int.mul_pos h h
theorem divBg {x : Int} (h0 : 0 < x) (h : Bg 4000 x) : DivOk x := ⟨by omega, Nat.lt_of_lt_of_le h (Nat.pow_le_pow_right (by decide) (by decide))⟩
theorem mul_bg {j k : Nat} {x y : Int} (h : Bg j x) (h2 : Bg k y) : Bg (j + k) (x * y) := by
  unfold Bg at *
  rw [Int.natAbs_mul, Nat.pow_add]
  exact Nat.mul_lt_mul'' h h2
theorem math_Lines_badness (ds M Q E) (hM : WFM M) (hb : D.belL M.length ds = true) (h : sp_Lines_badness ds M Q E) : r_Lines_badness (retE M.length Q E) (startD N_Lines_badness ds) M := by
  obtain ⟨i, a, b, ss, R, rfl, ⟨j, h1, h2⟩, ok, hab, hbl, q⟩ := h
  have q : (retE M.length Q E).rt (optI (badF ss R a b)) M := same_pop' q
  have ga := g_at (show a < ss.length by omega)
  have gb := g_at hbl
  have sq : seqOf (.ref j) M = some (ss.map triD) := seqOf_ref h2
  unfold r_Lines_badness
  refine seq_step fun S hS => ?_
  simp [startD]
  have r3 : rangeD 0 3 = [D.int 0, .int 1, .int 2] := rfl
  rw [r3]
  refine lcL_map (fun d => match d with | .int 0 => D.int (dW ss a b) | .int 1 => .int (dS ss a b) | _ => .int (dH ss a b)) (by exact trivial) _ [] ?_ (by rw [hz]; decide) ?_
  · intro d hd Q' q'
    simp [wipeD]
    simp only [List.mem_cons, List.not_mem_nil, or_false] at hd
    rcases hd with rfl | rfl | rfl
    · exact ⟨_, _, h1, rfl, .ref j, rfl, .inl ⟨_, seqOf_ref h2, triD (g ss b), gb, 0, rfl, .inl ⟨_, rfl, _, rfl, _, _, h1, rfl, .ref j, rfl, .inl ⟨_, seqOf_ref h2, triD (g ss a), ga, 0, rfl, .inl ⟨_, rfl, _, rfl, q'⟩⟩⟩⟩⟩
    · exact ⟨_, _, h1, rfl, .ref j, rfl, .inl ⟨_, seqOf_ref h2, triD (g ss b), gb, 1, rfl, .inl ⟨_, rfl, _, rfl, _, _, h1, rfl, .ref j, rfl, .inl ⟨_, seqOf_ref h2, triD (g ss a), ga, 1, rfl, .inl ⟨_, rfl, _, rfl, q'⟩⟩⟩⟩⟩
    · exact ⟨_, _, h1, rfl, .ref j, rfl, .inl ⟨_, seqOf_ref h2, triD (g ss b), gb, 2, rfl, .inl ⟨_, rfl, _, rfl, _, _, h1, rfl, .ref j, rfl, .inl ⟨_, seqOf_ref h2, triD (g ss a), ga, 2, rfl, .inl ⟨_, rfl, _, rfl, q'⟩⟩⟩⟩⟩
  · rw [List.nil_append]
    simp
    obtain ⟨⟨w1, w2⟩, ⟨s1, s2⟩, x1, x2⟩ := ok.d hab hbl
    obtain ⟨r1, r2⟩ := ok.room
    have bS : Bg 2000 (R - dW ss a b) := bgP (by generalize (2 : Int) ^ 2000 = P at *; omega)
    have bK : Bg 10 (1000 : Int) := by unfold Bg; decide
    have bs : Bg 2000 (dS ss a b) := bgP ⟨by generalize (2 : Int) ^ 2000 = P at *; omega, s2⟩
    have bh : Bg 2000 (dH ss a b) := bgP ⟨by generalize (2 : Int) ^ 2000 = P at *; omega, x2⟩
    unfold badF at q
    have hlast : ((b : Int) = ((ss.length - 1 : Nat) : Int)) ↔ (b + 1 = ss.length) := by omega
    have q0 : R - dW ss a b = 0 ∨ 0 < R - dW ss a b ∧ b + 1 = ss.length → (retE M.length Q E).rt (.int 0) M := fun h => by rw [if_pos h] at q; exact q
    have q1 : ¬ (R - dW ss a b = 0 ∨ 0 < R - dW ss a b ∧ b + 1 = ss.length) → (retE M.length Q E).rt (optI (if 0 < R - dW ss a b then if 0 < dS ss a b then some (1000 * (R - dW ss a b) * (R - dW ss a b) / (dS ss a b * dS ss a b)) else none
        else if 0 ≤ dH ss a b + (R - dW ss a b) then some (1000 * (R - dW ss a b) * (R - dW ss a b) / (dH ss a b * dH ss a b)) else none)) M := fun h => by rw [if_neg h] at q; exact q
    clear q
    subst hS
    refine seq_step fun S hS => ?_
    simp
    refine ⟨_, _, h1, rfl, .int R, rfl, ?_⟩
    simp
    generalize R - dW ss a b = sh at q0 q1 bS
    subst hS
    refine seq_step fun S hS => ?_
    have nx : ¬ (sh = 0 ∨ 0 < sh ∧ b + 1 = ss.length) → S (retE M.length Q E) [some (D.ref i), some (D.int ↑a), some (D.int ↑b), some (.int sh), some (D.int (dW ss a b)), some (D.int (dS ss a b)), some (D.int (dH ss a b)), none] M := by
      intro h
      have q := q1 h
      have bk : Bg 4000 (1000 * sh) := (mul_bg bK bS).mono (by decide)
      clear q0 q1
      subst hS
      refine seq_step fun S hS => ?_
      simp
      by_cases hp : 0 < sh
      · rw [if_pos hp]
        rw [if_pos hp] at q
        by_cases hs : 0 < dS ss a b
        · rw [if_pos hs]
          rw [if_pos hs] at q
          refine ⟨mulOk_l (by decide), mulBg bk bS (by decide), mulBg bs bs (by decide), divBg (sq_pos hs) (mul_bg bs bs), ?_⟩
          rw [e_fdiv (sq_pos hs)]
          exact q
        · rw [if_neg hs]
          rw [if_neg hs] at q
          exact q
      · rw [if_neg hp]
        rw [if_neg hp] at q
        subst hS
        simp
        by_cases hh : 0 ≤ dH ss a b + sh
        · rw [if_pos hh]
          rw [if_pos hh] at q
          have hd : 0 < dH ss a b := by omega
          refine ⟨mulOk_l (by decide), mulBg bk bS (by decide), mulBg bh bh (by decide), divBg (sq_pos hd) (mul_bg bh bh), ?_⟩
          rw [e_fdiv (sq_pos hd)]
          exact q
        · rw [if_neg hh]
          rw [if_neg hh] at q
          exact q
    simp
    by_cases h0 : sh = 0
    · rw [if_pos h0]
      exact q0 (.inl h0)
    · rw [if_neg h0]
      by_cases hp : 0 < sh
      · rw [if_pos hp]
        refine ⟨_, _, h1, rfl, _, rfl, ?_⟩
        simp
        by_cases hbn : (b : Int) = ((ss.length - 1 : Nat) : Int)
        · rw [if_pos (by exact_mod_cast hbn)]
          exact q0 (.inr ⟨hp, hlast.mp hbn⟩)
        · rw [if_neg (by intro z; exact hbn (by exact_mod_cast z))]
          exact nx (by rintro (z | z); exact h0 z; exact hbn (hlast.mpr z.2))
      · rw [if_neg hp]
        exact nx (by rintro (z | z); exact h0 z; exact hp z.1)
end K73
namespace K73
open MD L2 PySem Kit Kc
theorem rangeD_nat (lo n : Nat) : rangeD (lo : Int) n = (List.range' lo n).map fun (k : Nat) => D.int (k : Int) := by
  unfold rangeD
  rw [List.range'_eq_map_range, List.map_map]
  apply List.map_congr_left
  intro k hk
  simp
theorem popM_last2 {M : MH} {d : D} {c : Cell} (hM : WFM M) (hd : d.bel M.length = true) : popM M.length d (M ++ [c]) = M :=
  popM_pop hd (by rw [List.take_left' rfl]; exact hM) (List.take_left' rfl)
theorem lineD_bel (n : Nat) (l : List (Nat × Int)) : (lineD l).bel n = true := by
  show D.belL n (l.map jbD) = true
  rw [belL_iff]
  intro d hd
  obtain ⟨x, _, rfl⟩ := List.mem_map.mp hd
  rfl
theorem no_meth {m a b c : Str} {x y z : D} (h1 : ¬ m = a) (h2 : ¬ m = b) (h3 : ¬ m = c) : ∀ (u : Str) (v : D), (u, v) ∈ [(a, x), (b, y), (c, z)] → ¬ m = u := by
  intro u v h
  simp only [List.mem_cons, Prod.mk.injEq, List.not_mem_nil, or_false] at h
  rcases h with ⟨rfl, _⟩ | ⟨rfl, _⟩ | ⟨rfl, _⟩
  · exact h1
  · exact h2
  · exact h3
theorem math_Lines_from_piece (ds M Q E) (hM : WFM M) (hb : D.belL M.length ds = true) (h : sp_Lines_from_piece ds M Q E) : r_Lines_from_piece (retE M.length Q E) (startD N_Lines_from_piece ds) M := by
  obtain ⟨i, a, ss, R, rfl, ⟨j, h1, h2⟩, ok, hal, q⟩ := h
  have hil : i < M.length := (List.getElem?_eq_some_iff.mp h1).1
  have hjl : j < M.length := (List.getElem?_eq_some_iff.mp h2).1
  have hll := ok.len
  have ga := g_at (show a < ss.length by omega)
  have m1 : ∀ l, (M ++ [Cell.lst l])[i]? = some (linesC ss R j) := fun l => by rw [List.getElem?_append_left hil]; exact h1
  have m2 : ∀ l, (M ++ [Cell.lst l])[j]? = some (.lst (ss.map triD)) := fun l => by rw [List.getElem?_append_left hjl]; exact h2
  unfold r_Lines_from_piece
  refine seq_step fun S hS => ?_
  simp [startD]
  subst hS
  refine seq_step fun S hS => ?_
  simp
  refine ⟨_, _, m1 _, rfl, .ref j, rfl, .inl ⟨_, seqOf_ref (m2 _), _, ga, ?_⟩⟩
  subst hS
  refine seq_step fun S hS => ?_
  simp
  refine ⟨_, _, m1 _, rfl, .int ((ss.length - 1 : Nat) : Int), rfl, ?_⟩
  simp
  refine ⟨(a : Int) + 1, ((ss.length - 1 : Nat) : Int) + 1, ⟨rfl, rfl⟩, ⟨by omega, by omega, by omega, by omega⟩, ?_⟩
  have e1 : (((ss.length - 1 : Nat) : Int) + 1 - ((a : Int) + 1)).toNat = ss.length - 1 - a := by omega
  have e2 : rangeD ((a : Int) + 1) (ss.length - 1 - a) = (List.range' (a + 1) (ss.length - 1 - a)).map fun (k : Nat) => D.int (k : Int) := by
    rw [show ((a : Int) + 1) = ((a + 1 : Nat) : Int) by omega]
    exact rangeD_nat _ _
  rw [e1, e2]
  have hfit : fit ss R a = fitL ss R a (List.range' (a + 1) (ss.length - 1 - a)) := rfl
  have hjs : ∀ k ∈ List.range' (a + 1) (ss.length - 1 - a), a < k ∧ k < ss.length := fun k hk => by
    rw [List.mem_range'_1] at hk
    omega
  have hcount : (List.range' (a + 1) (ss.length - 1 - a)).length ≤ 401 := by rw [List.length_range']; omega
  generalize List.range' (a + 1) (ss.length - 1 - a) = js0 at hfit hjs hcount
  have done : ∀ (acc : List (Nat × Int)) (s4 s5 s6 : Option D), acc = fit ss R a → S (retE M.length Q E) [some (.ref i), some (.int (a : Int)), some (.ref M.length), some (triD (g ss a)), s4, s5, s6] (M ++ [.lst (acc.map jbD)]) := by
    intro acc s4 s5 s6 e
    subst hS
    simp
    rw [show D.lst (acc.map jbD) = lineD acc from rfl, popM_last2 hM (lineD_bel _ _), e]
    exact q
  refine forL_ind (fun ds δ M' => ∃ (js : List Nat) (acc : List (Nat × Int)) (s4 s5 s6 : Option D), ds = js.map (fun (k : Nat) => D.int (k : Int)) ∧ (∀ k ∈ js, a < k ∧ k < ss.length) ∧ acc.length + js.length ≤ 401 ∧ acc ++ fitL ss R a js = fit ss R a ∧
    δ = [some (.ref i), some (.int (a : Int)), some (.ref M.length), some (triD (g ss a)), s4, s5, s6] ∧ M' = M ++ [.lst (acc.map jbD)]) ?_ ?_ _ _ _ ⟨js0, [], none, none, none, rfl, hjs, by simpa using hcount, by rw [hfit]; rfl, rfl, rfl⟩
  · rintro δ M' ⟨js, acc, s4, s5, s6, e, _, _, hacc, rfl, rfl⟩
    have : js = [] := by cases js with | nil => rfl | cons => cases e
    subst this
    refine ⟨trivial, ?_⟩
    exact done acc s4 s5 s6 (by simpa [fitL] using hacc)
  · rintro d rest δ M' F ⟨js, acc, s4, s5, s6, e, hk, hcnt, hacc, rfl, rfl⟩ hF
    refine ⟨trivial, ?_⟩
    obtain ⟨k, js, rfl⟩ : ∃ k js2, js = k :: js2 := by
      cases js with
      | nil => cases e
      | cons k r => exact ⟨k, r, rfl⟩
    rw [List.map_cons] at e
    cases e
    obtain ⟨k1, k2⟩ := hk k List.mem_cons_self
    have gk := g_at k2
    refine seq_step fun S2 hS2 => ?_
    simp
    refine ⟨_, _, m1 _, rfl, .ref j, rfl, .inl ⟨_, seqOf_ref (m2 _), _, gk, ?_⟩⟩
    subst hS2
    refine seq_step fun S2 hS2 => ?_
    have tri_seq : ∀ (t : Tri) (M : MH), seqOf (triD t) M = some [.int t.1, .int t.2.1, .int t.2.2] := fun _ _ => rfl
    have tri_ns : ∀ (t : Tri) (z : Str), triD t ≠ .str z := fun _ _ => nofun
    simp [tri_seq, tri_ns]
    refine ⟨_, _, m1 _, rfl, .int R, rfl, ?_⟩
    simp
    have ho : (R < (g ss k).1 - (g ss a).1 - ((g ss k).2.2 - (g ss a).2.2)) ↔ R < dW ss a k - dH ss a k := Iff.rfl
    by_cases hov : R < dW ss a k - dH ss a k
    · rw [if_pos (ho.mpr hov)]
      refine done acc _ _ _ ?_
      rw [← hacc]
      unfold fitL
      rw [if_pos hov, List.append_nil]
    · rw [if_neg (fun z => hov (ho.mp z))]
      unfold fitL at hacc
      rw [if_neg hov] at hacc
      subst hS2
      refine seq_step fun S2 hS2 => ?_
      simp
      refine ⟨⟨_, m1 _, no_meth (by decide) (by decide) (by decide)⟩, i, a, k, ss, R, rfl, ⟨j, m1 _, m2 _⟩, ok, k1, k2, ?_⟩
      cases hbd : badF ss R a k with
      | none =>
        rw [hbd] at hacc
        subst hS2
        simp [optI]
        exact hF _ _ ⟨js, acc, _, _, _, rfl, fun x hx => hk x (List.mem_cons_of_mem _ hx), by simp at hcnt ⊢; omega, hacc, rfl, rfl⟩
      | some b =>
        rw [hbd] at hacc
        subst hS2
        simp [optI]
        refine ⟨by rw [hz]; decide, by have := hcnt; simp at this; rw [hz]; omega, ?_⟩
        refine hF _ _ ⟨js, acc ++ [(k, b)], _, _, _, rfl, fun x hx => hk x (List.mem_cons_of_mem _ hx), by simp at hcnt ⊢; omega, ?_, rfl, by rw [List.map_append]; rfl⟩
        rw [List.append_assoc]
        exact hacc
end K73
namespace K73
open MD L2 PySem Kit Kc
theorem lcI_eq {c d : Int} (hc : 0 < c) (hd : 0 < d) : c * (d / (Int.gcd d c : Int)) = lcI c d := by
  obtain ⟨m, rfl⟩ : ∃ m : Nat, c = (m : Int) := ⟨c.toNat, by omega⟩
  obtain ⟨n, rfl⟩ : ∃ n : Nat, d = (n : Int) := ⟨d.toNat, by omega⟩
  unfold lcI
  rw [Int.natAbs_natCast, Int.natAbs_natCast]
  have e : Int.gcd (n : Int) (m : Int) = Nat.gcd n m := rfl
  rw [e, Nat.gcd_comm n m]
  have h : Nat.lcm m n = m * (n / Nat.gcd m n) := by
    unfold Nat.lcm
    exact Nat.mul_div_assoc _ (Nat.gcd_dvd_right m n)
  rw [h]
  push_cast
  rfl
theorem pcL_pcD (p : Piece) : PcL (pcD p) p := ⟨_, _, _, .inl rfl, .inl rfl, .inl rfl, .inl rfl⟩
theorem pcsL_pcsD (ps : List Piece) : PcsL (pcsD ps) ps := ⟨_, .inl rfl, RelL.map _ pcL_pcD ps⟩
theorem Cm.bg {c : Int} (h : Cm c) : Bg 1500 c := by
  have h1 := h.lt
  have h2 := h.1
  have e : ((2 ^ 1500 : Nat) : Int) = 2 ^ 1500 := by norm_cast
  unfold Bg
  rw [← e] at h1
  generalize (2 ^ 1500 : Nat) = P at *
  omega
theorem scaledD_bel (n : Nat) (ss : List Tri) (R : Int) : (scaledD ss R).bel n = true := by
  show (D.belL n (ss.map triD) && (true && true)) = true
  have : D.belL n (ss.map triD) = true := by
    rw [belL_iff]
    intro d hd
    obtain ⟨x, _, rfl⟩ := List.mem_map.mp hd
    rfl
  rw [this]; rfl
theorem math__law_scaled (ds M Q E) (hM : WFM M) (hb : D.belL M.length ds = true) (h : sp__law_scaled ds M Q E) : r__law_scaled (retE M.length Q E) (startD N__law_scaled ds) M := by
  obtain ⟨ps, ρ, rfl, ok, okr, q⟩ := h
  obtain ⟨o1, o2, o3, o4, o5⟩ := okr.1
  have hit : ∀ M (R : ItD → MH → Prop), seqD (pcsD ps) M R ↔ R ⟨ps.map pcD, none⟩ M := fun _ _ => Iff.rfl
  have hiu : ∀ (p : Piece) M (R : ItD → MH → Prop), seqD (pcD p) M R ↔ R ⟨[MD.prD p.1, MD.prD p.2.1, MD.prD p.2.2], none⟩ M := fun _ _ _ => Iff.rfl
  have prs : ∀ (p : Part) (M : MH), seqOf (MD.prD p) M = some [.int p.1, .int p.2] := fun _ _ => rfl
  have prn : ∀ (p : Part) (z : Str), MD.prD p ≠ .str z := fun _ => nofun
  unfold r__law_scaled
  refine seq_step fun S hS => ?_
  simp [startD, prs, prn]
  subst hS
  refine seq_step fun S hS => ?_
  simp [hit]
  have cm0 : Cm ρ.2 := ⟨o1, LL_dvd o1 o2⟩
  refine forI_from (fun k δ M' => M' = M ∧ ∃ (c : Int) (a b : Option D), Cm c ∧ com c (ps.drop k) = com ρ.2 ps ∧ δ = [some (pcsD ps), some (MD.prD ρ), some (.int c), a, none, b, none]) ?_ ?_ ⟨rfl, ρ.2, none, none, cm0, rfl, rfl⟩
  · rintro δ M' ⟨rfl, c, a, b, hc, hcm, rfl⟩
    rw [List.length_map, List.drop_length] at hcm
    have hcm : c = com ρ.2 ps := hcm
    rw [hcm] at hc ⊢
    refine ⟨trivial, ?_⟩
    show S _ _ _
    have C0 := hc.1
    generalize hC : com ρ.2 ps = C at hc C0
    subst hS
    refine seq_step fun S hS => ?_
    simp
    repeat (refine ⟨by rw [hz]; decide, ?_⟩)
    subst hS
    refine seq_step fun S hS => ?_
    simp [hit]
    refine forI_from (fun k δ M2 => ∃ a b e : Option D, δ = [some (pcsD ps), some (MD.prD ρ), some (.int C), a, some (.ref M'.length), b, e] ∧ M2 = M' ++ [.lst ((sumsF (0, 0, 0) ((ps.take k).map (scP C))).map triD)]) ?_ ?_ ⟨_, _, _, rfl, rfl⟩
    · rintro δ M2 ⟨a, b, e, rfl, rfl⟩
      refine ⟨trivial, ?_⟩
      rw [List.length_map, List.take_length]
      show S _ _ _
      subst hS
      simp [prs, prn]
      have dv : ρ.2 ∣ C := by rw [← hC]; exact com_dvd
      rw [e_fdiv o1]
      refine ⟨divOk_of o1 (by omega), mulOk_l (by omega), by rw [hz]; decide, ?_⟩
      have e1 : D.tup [D.lst ((sumsF (0, 0, 0) (ps.map (scP C))).map triD), .int (ρ.1 * (C / ρ.2))] = scaledD (sumsP ρ ps) (roomP ρ ps) := by
        unfold scaledD sumsP roomP
        rw [hC]; rfl
      rw [e1, popM_last2 hM (scaledD_bel _ _ _)]
      exact q
    · rintro k x δ M2 F hx ⟨a, b, e, rfl, rfl⟩ hF
      refine ⟨trivial, ?_⟩
      rw [List.getElem?_map] at hx
      obtain ⟨p, hpk, rfl⟩ := Option.map_eq_some_iff.mp hx
      have okp := ok.2.2 p (List.mem_of_getElem? hpk)
      refine seq_step fun S2 hS2 => ?_
      simp [hiu]
      simp [lcL, wipeD, prs, prn]
      obtain ⟨⟨a1, a2, a3, a4, _⟩, ⟨b1, b2, b3, b4, _⟩, ⟨d1, d2, d3, d4, _⟩, _⟩ := okp
      rw [e_fdiv a1, e_fdiv b1, e_fdiv d1]
      refine ⟨divOk_of a1 (by omega), mulOk_l (by omega), by rw [hz]; decide, divOk_of b1 (by omega), mulOk_l (by omega), by rw [hz]; decide, divOk_of d1 (by omega), mulOk_l (by omega), by rw [hz]; decide, ?_⟩
      have hsn : sumsF (0, 0, 0) ((ps.take (k + 1)).map (scP C)) = sumsF (0, 0, 0) ((ps.take k).map (scP C)) ++ [addT (totT (0, 0, 0) ((ps.take k).map (scP C))) (scP C p)] := by
        rw [List.take_add_one, hpk, List.map_append]
        exact sumsF_snoc _ _ _
      obtain ⟨pre, hpre⟩ := sumsF_last ((ps.take k).map (scP C)) (0, 0, 0)
      have hlen : (sumsF (0, 0, 0) ((ps.take k).map (scP C))).length ≤ 401 := by rw [sumsF_len, List.length_map, List.length_take]; have := ok.2.1; omega
      rw [← List.map_take]
      generalize totT (0, 0, 0) ((ps.take k).map (scP C)) = tt at hsn hpre
      generalize sumsF (0, 0, 0) ((ps.take k).map (scP C)) = L0 at hsn hpre hlen ⊢
      have hlast : atI (L0.map triD) (-1) = some (triD tt) := by
        have hne : L0 ≠ [] := by rw [hpre]; simp
        have := last_map triD hne
        rw [this]
        congr 2
        simp [hpre]
      have tri_seq : ∀ (t : Tri) (M : MH), seqOf (triD t) M = some [.int t.1, .int t.2.1, .int t.2.2] := fun _ _ => rfl
      have tri_ns : ∀ (t : Tri) (z : Str), triD t ≠ .str z := fun _ _ => nofun
      have sq0 : seqOf (.ref M'.length) (M' ++ [Cell.lst (L0.map triD)]) = some (L0.map triD) := seqOf_ref (get_last M' _)
      subst hS2
      simp [sq0, hlast, tri_seq, tri_ns]
      have lo : lstOf (.ref M'.length) (M' ++ [Cell.lst (L0.map triD)]) = some (L0.map triD) := lstOf_ref (get_last M' _)
      refine ⟨_, lo, _, hlast, .inl ⟨_, rfl, .int tt.1, rfl, ?_⟩⟩
      simp
      refine ⟨_, lo, _, hlast, .inl ⟨_, rfl, .int tt.2.1, rfl, ?_⟩⟩
      simp
      refine ⟨_, lo, _, hlast, .inl ⟨_, rfl, .int tt.2.2, rfl, ?_⟩⟩
      simp
      refine ⟨by rw [hz]; decide, by rw [hz]; omega, hF _ _ ⟨_, _, _, rfl, ?_⟩⟩
      rw [hsn, List.map_append]
      rfl
  · rintro k x δ M' F hx ⟨rfl, c, a, b, hc, hcm, rfl⟩ hF
    refine ⟨trivial, ?_⟩
    rw [List.getElem?_map] at hx
    obtain ⟨p, hpk, rfl⟩ := Option.map_eq_some_iff.mp hx
    have okp := ok.2.2 p (List.mem_of_getElem? hpk)
    have hdrop : ps.drop k = p :: ps.drop (k + 1) := by
      have hi := (List.getElem?_eq_some_iff.mp hpk).1
      rw [List.drop_eq_getElem_cons hi, (List.getElem?_eq_some_iff.mp hpk).2]
    rw [hdrop] at hcm
    have hcm : com (lc3 c p) (ps.drop (k + 1)) = com ρ.2 ps := hcm
    simp [hiu, forL, prs, prn]
    have one : ∀ (c d : Int) (R : QE) (X : QX), Cm c → 0 < d → d ≤ 1000 → R (.int (lcI c d)) M' → sp__law_divisor [.int d, .int c] M' (fun y M2 => oFdiv (.int d) y M2 fun y M2 => oMul false (.int c) y M2 R) X := by
      intro c d R X hc h1 h2 hR
      refine ⟨d, c, rfl, h1, h2, hc.1, hc.bg.mono (by decide), ?_⟩
      have hg : 0 < (Int.gcd d c : Int) := by
        have : 0 < Int.gcd d c := Int.gcd_pos_of_ne_zero_left _ (by omega)
        omega
      have hgl : (Int.gcd d c : Int) ≤ d := Int.le_of_dvd h1 (gcd_dvd_l d c)
      have hq : 0 < d / (Int.gcd d c : Int) := Int.ediv_pos_of_pos_of_dvd h1 (by omega) (gcd_dvd_l d c)
      have hq2 : d / (Int.gcd d c : Int) ≤ d := Int.ediv_le_self _ (by omega)
      simp
      rw [e_fdiv hg]
      refine ⟨divOk_of hg (by omega), mulOk_r (by omega), ?_⟩
      rw [lcI_eq hc.1 h1]
      exact hR
    have c1 := hc.lc okp.1.1 okp.1.2.1
    have c2 := c1.lc okp.2.1.1 okp.2.1.2.1
    have c3 := c2.lc okp.2.2.1.1 okp.2.2.1.2.1
    refine one _ _ _ _ hc okp.1.1 okp.1.2.1 ?_
    refine one _ _ _ _ c1 okp.2.1.1 okp.2.1.2.1 ?_
    refine one _ _ _ _ c2 okp.2.2.1.1 okp.2.2.1.2.1 ?_
    exact hF _ _ ⟨rfl, _, _, _, c3, hcm, rfl⟩
end K73
namespace K73
open MD L2 PySem Kit Kc
theorem math__law_bad (ds M Q E) (hM : WFM M) (hb : D.belL M.length ds = true) (h : sp__law_bad ds M Q E) : r__law_bad (retE M.length Q E) (startD N__law_bad ds) M := by
  obtain ⟨a, b, ss, R, rfl, ok, hab, hbl, q⟩ := h
  have q : (retE M.length Q E).rt (optI (badF ss R a b)) M := same_pop' q
  have ga := g_at (show a < ss.length by omega)
  have gb := g_at hbl
  obtain ⟨⟨w1, w2⟩, ⟨s1, s2⟩, x1, x2⟩ := ok.d hab hbl
  obtain ⟨r1, r2⟩ := ok.room
  have bK : Bg 10 (1000 : Int) := by unfold Bg; decide
  have bS : Bg 2000 (dW ss a b - R) := bgP (by generalize (2 : Int) ^ 2000 = P at *; omega)
  have bs : Bg 2000 (dS ss a b) := bgP ⟨by generalize (2 : Int) ^ 2000 = P at *; omega, s2⟩
  have bh : Bg 2000 (dH ss a b) := bgP ⟨by generalize (2 : Int) ^ 2000 = P at *; omega, x2⟩
  have bk : Bg 4000 (1000 * (dW ss a b - R)) := (mul_bg bK bS).mono (by decide)
  have hlast : ((b : Int) = (ss.length : Int) - 1) ↔ (b + 1 = ss.length) := by omega
  have neg2 : ∀ x : Int, 1000 * x * x = 1000 * (-x) * (-x) := fun x => by rw [Int.mul_neg, Int.mul_neg, Int.neg_mul, Int.neg_neg]
  have e2 : 1000 * (dW ss a b - R) * (dW ss a b - R) = 1000 * (R - dW ss a b) * (R - dW ss a b) := by rw [neg2, Int.neg_sub]
  clear w2 s2 x2 r2
  unfold badF at q
  unfold r__law_bad
  refine seq_step fun S hS => ?_
  simp [startD, scaledD]
  subst hS
  refine seq_step fun S hS => ?_
  simp [ga, gb, triD]
  show S _ [_, _, _, some (.int (dW ss a b)), _, _, _] _
  have hS1 : (g ss b).2.1 - (g ss a).2.1 = dS ss a b := rfl
  have hS2 : (g ss b).2.2 - (g ss a).2.2 = dH ss a b := rfl
  generalize dW ss a b = W at *
  generalize dS ss a b = T at *
  generalize dH ss a b = H at *
  have fin : ∀ (p : Int), p ≠ 0 → Bg 2000 p → (retE M.length Q E).rt (.int (1000 * (R - W) * (R - W) / (p * p))) M → ∀ s4 s5, (tRet' (tOp' oFdiv (tOp' (oMul false) (tOp' (oMul false) (tC' (.int 1000)) (tOp' oSub (tVar' 3) (tVar' 6))) (tOp' oSub (tVar' 3) (tVar' 6))) (tOp' (oMul false) (tVar' 4) (tVar' 4)))) (retE M.length Q E) [s4, some (D.int ↑a), some (D.int ↑b), some (.int W), some (.int p), s5, some (.int R)] M := by
    intro p hp bp q s4 s5
    have hpp : 0 < p * p := by
      rcases Int.lt_or_gt_of_ne hp with h | h
      · exact Int.mul_pos_of_neg_of_neg h h
      · exact Int.mul_pos h h
    simp
    refine ⟨mulOk_l (by decide), mulBg bk bS (by decide), mulBg bp bp (by decide), divBg hpp (mul_bg bp bp), ?_⟩
    rw [e_fdiv hpp, e2]
    exact q
  subst hS
  refine seq_step fun S hS => ?_
  have nx : ¬ (W = R ∨ W < R ∧ b + 1 = ss.length) → S (retE M.length Q E) [some (D.tup [D.lst (ss.map triD), D.int R]), some (D.int ↑a), some (D.int ↑b), some (D.int W), none, some (D.lst (ss.map triD)), some (D.int R)] M := by
    intro hn
    have q2 := q
    rw [if_neg (by rintro (z | z); exact hn (.inl (by omega)); exact hn (.inr ⟨by omega, z.2⟩))] at q2
    have hW : W ≠ R := fun z => hn (.inl z)
    clear q
    subst hS
    refine seq_step fun S hS => ?_
    simp [ga, gb, triD]
    rw [hS1]
    subst hS
    refine seq_step fun S hS => ?_
    have last : ∀ p : Int, (p = 0 → (retE M.length Q E).rt .non M) → (p ≠ 0 → Bg 2000 p → (retE M.length Q E).rt (.int (1000 * (R - W) * (R - W) / (p * p))) M) → Bg 2000 p → S (retE M.length Q E) [some (D.tup [D.lst (ss.map triD), D.int R]), some (D.int ↑a), some (D.int ↑b), some (D.int W), some (.int p), some (D.lst (ss.map triD)), some (D.int R)] M := by
      intro p h0 h1 bp
      subst hS
      refine seq_step fun S hS => ?_
      simp
      by_cases hp : p = 0
      · rw [if_pos hp]
        exact h0 hp
      · rw [if_neg hp]
        subst hS
        exact fin p hp bp (h1 hp bp) _ _
    simp
    by_cases hlt : R < W
    · rw [if_pos hlt]
      simp [ga, gb, triD]
      rw [hS2]
      rw [if_neg (by omega)] at q2
      by_cases hov : R < W - H
      · rw [if_pos hov]
        rw [if_neg (by omega)] at q2
        exact q2
      · rw [if_neg hov]
        rw [if_pos (by omega)] at q2
        exact last H (fun h => absurd h (by omega)) (fun h bt => q2) bh
    · rw [if_neg hlt]
      rw [if_pos (by omega)] at q2
      refine last T (fun h => ?_) (fun h bt => ?_) bs
      · rw [if_neg (by omega)] at q2
        exact q2
      · rw [if_pos (by omega)] at q2
        exact q2
  simp
  by_cases h0 : W = R
  · rw [if_pos h0]
    rw [if_pos (.inl (by omega))] at q
    exact q
  · rw [if_neg h0]
    by_cases h1 : W < R
    · rw [if_pos h1]
      by_cases h2 : (b : Int) = (ss.length : Int) - 1
      · rw [if_pos h2]
        rw [if_pos (.inr ⟨by omega, hlast.mp h2⟩)] at q
        exact q
      · rw [if_neg h2]
        exact nx (by rintro (z | z); exact h0 z; exact h2 (hlast.mpr z.2))
    · rw [if_neg h1]
      exact nx (by rintro (z | z); exact h0 z; exact h1 z.1)
end K73
namespace K73
open MD L2 PySem Kit Kc
/-- the heap with the list of rows and k rows that are told -/
def Bk (M : MH) (acc : List D) (k : Nat) : MH := M ++ (Cell.lst acc :: List.replicate k Cell.dead)
theorem Bk_len {M : MH} {acc : List D} {k : Nat} : (Bk M acc k).length = M.length + 1 + k := by unfold Bk; simp; omega
theorem Bk_at {M : MH} {acc : List D} {k : Nat} : (Bk M acc k)[M.length]? = some (.lst acc) := by unfold Bk; simp
theorem Bk_at2 {M : MH} {acc : List D} {k : Nat} {l : List Cell} : (Bk M acc k ++ l)[M.length]? = some (.lst acc) := by
  rw [List.getElem?_append_left (by rw [Bk_len]; omega)]; exact Bk_at
theorem Bk_set {M : MH} {acc acc2 : List D} {k : Nat} {l : List Cell} : (Bk M acc k ++ l).set M.length (.lst acc2) = Bk M acc2 k ++ l := by
  unfold Bk
  rw [List.append_assoc, List.set_append_right _ _ (Nat.le_refl _), Nat.sub_self]
  simp
theorem Bk_dead {M : MH} {acc : List D} {k : Nat} : Bk M acc k ++ [Cell.dead] = Bk M acc (k + 1) := by
  unfold Bk
  rw [List.append_assoc, List.cons_append, List.replicate_succ' (n := k)]
theorem popM_more {M : MH} {d : D} {l : List Cell} (hM : WFM M) (hd : d.bel M.length = true) : popM M.length d (M ++ l) = M :=
  popM_pop hd (by rw [List.take_left' rfl]; exact hM) (List.take_left' rfl)
theorem linesD_bel (n : Nat) (L : List (List (Nat × Int))) : (linesD L).bel n = true := by
  show D.belL n (L.map lineD) = true
  rw [belL_iff]
  intro d hd
  obtain ⟨x, _, rfl⟩ := List.mem_map.mp hd
  exact lineD_bel n x
theorem math__law_fitting (ds M Q E) (hM : WFM M) (hb : D.belL M.length ds = true) (h : sp__law_fitting ds M Q E) : r__law_fitting (retE M.length Q E) (startD N__law_fitting ds) M := by
  obtain ⟨ss, R, rfl, ok, q⟩ := h
  have hll := ok.len
  have ssq : ∀ M : MH, seqOf (scaledD ss R) M = some [.lst (ss.map triD), .int R] := fun _ => rfl
  have ssn : ∀ z : Str, scaledD ss R ≠ .str z := fun _ => nofun
  unfold r__law_fitting
  refine seq_step fun S hS => ?_
  simp [startD]
  subst hS
  refine seq_step fun S hS => ?_
  simp [ssq, ssn]
  subst hS
  refine seq_step fun S hS => ?_
  simp
  obtain ⟨n, hn, hn2⟩ : ∃ n : Nat, (ss.length : Int) - 1 = (n : Int) ∧ n = ss.length - 1 := ⟨ss.length - 1, by omega, rfl⟩
  rw [hn, ← hn2]
  refine ⟨by omega, by omega, ?_⟩
  refine forR_ind (fun i δ M' => ∃ a b c d : Option D, δ = [some (scaledD ss R), some (.ref M.length), some (.int (n : Int)), a, b, c, d] ∧ M' = Bk M ((List.range i).map fun j => lineD (fit ss R j)) i) ?_ ?_ ⟨_, _, _, _, rfl, rfl⟩
  · rintro δ M' ⟨a, b, c, d, rfl, rfl⟩
    refine ⟨trivial, ?_⟩
    show S _ _ _
    subst hS
    simp [Bk_at]
    have e : (Bk M ((List.range n).map fun j => lineD (fit ss R j)) n).set M.length .dead = M ++ (Cell.dead :: List.replicate n Cell.dead) := by
      unfold Bk
      rw [List.set_append_right _ _ (Nat.le_refl _), Nat.sub_self]; rfl
    rw [e]
    have e2 : D.lst ((List.range n).map fun j => lineD (fit ss R j)) = linesD (linesF ss R) := by
      unfold linesD linesF
      rw [List.map_map, hn2]; rfl
    rw [e2, popM_more hM (linesD_bel _ _)]
    exact q
  · rintro i δ M' F hi ⟨s3, s4, s5, s6, rfl, rfl⟩ hF
    refine ⟨trivial, ?_⟩
    generalize hacc0 : (List.range i).map (fun j => lineD (fit ss R j)) = acc0
    have hal : acc0.length = i := by rw [← hacc0]; simp
    have gi := g_at (show i < ss.length by omega)
    refine seq_step fun S2 hS2 => ?_
    simp [Bk_len]
    subst hS2
    refine seq_step fun S2 hS2 => ?_
    simp
    refine ⟨(i : Int) + 1, (n : Int) + 1, ⟨rfl, rfl⟩, ⟨by omega, by omega, by omega, by omega⟩, ?_⟩
    have e1 : ((n : Int) + 1 - ((i : Int) + 1)).toNat = ss.length - 1 - i := by omega
    have e2 : rangeD ((i : Int) + 1) (ss.length - 1 - i) = (List.range' (i + 1) (ss.length - 1 - i)).map fun (k : Nat) => D.int (k : Int) := by
      rw [show ((i : Int) + 1) = ((i + 1 : Nat) : Int) by omega]
      exact rangeD_nat _ _
    rw [e1, e2]
    have hfit : fit ss R i = fitL ss R i (List.range' (i + 1) (ss.length - 1 - i)) := rfl
    have hjs : ∀ k ∈ List.range' (i + 1) (ss.length - 1 - i), i < k ∧ k < ss.length := fun k hk => by
      rw [List.mem_range'_1] at hk
      omega
    have hcount : (List.range' (i + 1) (ss.length - 1 - i)).length ≤ 401 := by rw [List.length_range']; omega
    generalize List.range' (i + 1) (ss.length - 1 - i) = js0 at hfit hjs hcount
    have hBl : (Bk M acc0 i).length = M.length + 1 + i := Bk_len
    generalize hJ : M.length + 1 + i = J at hBl
    have rowAt : ∀ l, (Bk M acc0 i ++ [Cell.lst l])[J]? = some (.lst l) := fun l => by rw [← hBl]; exact get_last _ _
    have rowSet : ∀ l x, (Bk M acc0 i ++ [Cell.lst l]).set J x = Bk M acc0 i ++ [x] := fun l x => by rw [← hBl]; exact set_last _ _ _
    have done : ∀ (acc : List (Nat × Int)) (s5 s6 : Option D), acc = fit ss R i → S2 { nx := F, rt := (retE M.length Q E).rt, bk := S (retE M.length Q E), ct := F, ex := (retE M.length Q E).ex } [some (scaledD ss R), some (.ref M.length), some (.int (n : Int)), some (.int (i : Int)), some (.ref J), s5, s6] (Bk M acc0 i ++ [.lst (acc.map jbD)]) := by
      intro acc s5 s6 e
      subst hS2
      simp
      refine ⟨⟨_, Bk_at2⟩, _, rowAt _, acc0, by rw [rowSet]; exact Bk_at2, by rw [hz]; omega, ?_⟩
      rw [rowSet, Bk_set, Bk_dead]
      refine hF _ _ ⟨_, _, _, _, rfl, ?_⟩
      rw [← hacc0, List.range_succ, List.map_append, e]
      rfl
    refine forL_ind (fun ds δ M' => ∃ (js : List Nat) (acc : List (Nat × Int)) (s5 s6 : Option D), ds = js.map (fun (k : Nat) => D.int (k : Int)) ∧ (∀ k ∈ js, i < k ∧ k < ss.length) ∧ acc.length + js.length ≤ 401 ∧ acc ++ fitL ss R i js = fit ss R i ∧
      δ = [some (scaledD ss R), some (.ref M.length), some (.int (n : Int)), some (.int (i : Int)), some (.ref J), s5, s6] ∧ M' = Bk M acc0 i ++ [.lst (acc.map jbD)]) ?_ ?_ _ _ _ ⟨js0, [], _, _, rfl, hjs, by simpa using hcount, by rw [hfit]; rfl, rfl, rfl⟩
    · rintro δ M' ⟨js, acc, s5, s6, e, _, _, hacc, rfl, rfl⟩
      have : js = [] := by cases js with | nil => rfl | cons => cases e
      subst this
      refine ⟨trivial, ?_⟩
      exact done acc s5 s6 (by simpa [fitL] using hacc)
    · rintro d rest δ M' F2 ⟨js, acc, s5, s6, e, hk, hcnt, hacc, rfl, rfl⟩ hF2
      refine ⟨trivial, ?_⟩
      obtain ⟨k, js, rfl⟩ : ∃ k js2, js = k :: js2 := by
        cases js with
        | nil => cases e
        | cons k r => exact ⟨k, r, rfl⟩
      rw [List.map_cons] at e
      cases e
      obtain ⟨k1, k2⟩ := hk k List.mem_cons_self
      have gk := g_at k2
      have tri_seq : ∀ (t : Tri) (M : MH), seqOf (triD t) M = some [.int t.1, .int t.2.1, .int t.2.2] := fun _ _ => rfl
      have tri_ns : ∀ (t : Tri) (z : Str), triD t ≠ .str z := fun _ _ => nofun
      refine seq_step fun S3 hS3 => ?_
      simp [ssq, ssn, gk, gi, tri_seq, tri_ns]
      have ho : (R < (g ss k).1 - (g ss i).1 - (g ss k).2.2 + (g ss i).2.2) ↔ R < dW ss i k - dH ss i k := by
        unfold dW dH
        constructor <;> intro h <;> omega
      by_cases hov : R < dW ss i k - dH ss i k
      · rw [if_pos (ho.mpr hov)]
        refine done acc _ _ ?_
        rw [← hacc]
        unfold fitL
        rw [if_pos hov, List.append_nil]
      · rw [if_neg (fun z => hov (ho.mp z))]
        unfold fitL at hacc
        rw [if_neg hov] at hacc
        subst hS3
        refine seq_step fun S3 hS3 => ?_
        simp
        refine ⟨i, k, ss, R, rfl, ok, k1, k2, ?_⟩
        cases hbd : badF ss R i k with
        | none =>
          rw [hbd] at hacc
          subst hS3
          simp [optI]
          exact hF2 _ _ ⟨js, acc, _, _, rfl, fun x hx => hk x (List.mem_cons_of_mem _ hx), by simp at hcnt ⊢; omega, hacc, rfl, rfl⟩
        | some b =>
          rw [hbd] at hacc
          subst hS3
          simp [optI]
          refine ⟨⟨_, rowAt _⟩, by rw [hz]; decide, _, rowAt _, by have := hcnt; simp at this; rw [List.length_map, hz]; omega, ?_⟩
          rw [rowSet]
          refine hF2 _ _ ⟨js, acc ++ [(k, b)], _, _, rfl, fun x hx => hk x (List.mem_cons_of_mem _ hx), by simp at hcnt ⊢; omega, ?_, rfl, by rw [List.map_append]; rfl⟩
          rw [List.append_assoc]
          exact hacc
end K73
namespace K73
open MD L2 PySem Kit Kc
/-! the lines of some pieces are right -/
theorem badF_nonneg {ss : List Tri} {R : Int} {i j : Nat} {b : Int} (h : badF ss R i j = some b) : 0 ≤ b := by
  have key : ∀ x d : Int, 0 ≤ 1000 * x * x / (d * d) := fun x d => Int.ediv_nonneg (by rw [Int.mul_assoc]; exact Int.mul_nonneg (by decide) (by rcases Int.le_total 0 x with h | h; exact Int.mul_nonneg h h; exact Int.mul_nonneg_of_nonpos_of_nonpos h h)) (by rcases Int.le_total 0 d with h | h; exact Int.mul_nonneg h h; exact Int.mul_nonneg_of_nonpos_of_nonpos h h)
  unfold badF at h
  split at h
  · cases h; decide
  · split at h
    · split at h
      · cases h; exact key _ _
      · cases h
    · split at h
      · cases h; exact key _ _
      · cases h
theorem fitL_mem {ss : List Tri} {R : Int} {i : Nat} : ∀ {js : List Nat} {x : Nat × Int}, x ∈ fitL ss R i js → x.1 ∈ js ∧ 0 ≤ x.2
  | j :: r, x, h => by
    unfold fitL at h
    split at h
    · cases h
    · split at h
      · rename_i b hb
        rcases List.mem_cons.mp h with rfl | h
        · exact ⟨List.mem_cons_self, badF_nonneg hb⟩
        · obtain ⟨h1, h2⟩ := fitL_mem h
          exact ⟨List.mem_cons_of_mem _ h1, h2⟩
      · obtain ⟨h1, h2⟩ := fitL_mem h
        exact ⟨List.mem_cons_of_mem _ h1, h2⟩
theorem fitL_asc {ss : List Tri} {R : Int} {i : Nat} : ∀ {js : List Nat}, js.Pairwise (· < ·) → (fitL ss R i js).Pairwise fun x y => x.1 < y.1
  | [], _ => List.Pairwise.nil
  | j :: r, h => by
    obtain ⟨h1, h2⟩ := List.pairwise_cons.mp h
    unfold fitL
    split
    · exact List.Pairwise.nil
    · split
      · rename_i b hb
        exact List.pairwise_cons.mpr ⟨fun y hy => h1 y.1 (fitL_mem hy).1, fitL_asc h2⟩
      · exact fitL_asc h2
theorem lines_ok {ss : List Tri} {R : Int} (ok : Lok ss R) : LLok (linesF ss R) := by
  have hll := ok.len
  have hl : (linesF ss R).length = ss.length - 1 := by unfold linesF; simp
  have at_ : ∀ (i : Nat) (l : List (Nat × Int)), (linesF ss R)[i]? = some l → i < ss.length - 1 ∧ l = fit ss R i := by
    intro i l h
    have hi := (List.getElem?_eq_some_iff.mp h).1
    rw [hl] at hi
    refine ⟨hi, ?_⟩
    unfold linesF at h
    rw [List.getElem?_map, List.getElem?_range hi] at h
    simpa using h.symm
  refine ⟨⟨by omega, by omega⟩, fun i l h x hx => ?_, fun i l h => ?_⟩
  · obtain ⟨hi, rfl⟩ := at_ i l h
    obtain ⟨h1, h2⟩ := fitL_mem hx
    rw [List.mem_range'_1] at h1
    exact ⟨by omega, by omega, h2⟩
  · obtain ⟨hi, rfl⟩ := at_ i l h
    exact fitL_asc (List.pairwise_lt_range')
/-! sums of pieces are right -/
theorem tot_add : ∀ (ts : List Tri) (a : Tri), (∀ t ∈ ts, (0 ≤ t.1 ∧ t.1 ≤ 2 ^ 1520) ∧ (0 ≤ t.2.1 ∧ t.2.1 ≤ 2 ^ 1520) ∧ 0 ≤ t.2.2 ∧ t.2.2 ≤ 2 ^ 1520) →
    (a.1 ≤ (totT a ts).1 ∧ (totT a ts).1 ≤ a.1 + ts.length * 2 ^ 1520) ∧ (a.2.1 ≤ (totT a ts).2.1 ∧ (totT a ts).2.1 ≤ a.2.1 + ts.length * 2 ^ 1520) ∧ a.2.2 ≤ (totT a ts).2.2 ∧ (totT a ts).2.2 ≤ a.2.2 + ts.length * 2 ^ 1520
  | [], a, _ => by simp [totT]
  | t :: r, a, h => by
    have ih := tot_add r (addT a t) fun x hx => h x (List.mem_cons_of_mem _ hx)
    obtain ⟨⟨h1, h2⟩, ⟨h3, h4⟩, h5, h6⟩ := h t List.mem_cons_self
    have e : totT a (t :: r) = totT (addT a t) r := rfl
    rw [e, List.length_cons]
    generalize (2 : Int) ^ 1520 = P at *
    have e2 : ((r.length + 1 : Nat) : Int) * P = r.length * P + P := by push_cast; rw [Int.add_mul, Int.one_mul]
    rw [e2]
    unfold addT at ih
    simp only at ih
    generalize (r.length : Int) * P = W at *
    unfold addT
    omega
theorem totT_append (ts us : List Tri) (a : Tri) : totT a (ts ++ us) = totT (totT a ts) us := by unfold totT; rw [List.foldl_append]
theorem sums_ok {ρ : Part} {ps : List Piece} (ok : okPcs ps) (okr : okRoom ρ) : Lok (sumsP ρ ps) (roomP ρ ps) := by
  have hcm := com_cm okr ok
  have hdv : ρ.2 ∣ com ρ.2 ps := com_dvd
  obtain ⟨l1, l2, l3⟩ := ok
  have hlen : (sumsP ρ ps).length = ps.length + 1 := sumsP_len
  generalize hts : ps.map (scP (com ρ.2 ps)) = ts
  have tl : ts.length = ps.length := by rw [← hts]; simp
  have tb : ∀ t ∈ ts, (0 ≤ t.1 ∧ t.1 ≤ 2 ^ 1520) ∧ (0 ≤ t.2.1 ∧ t.2.1 ≤ 2 ^ 1520) ∧ 0 ≤ t.2.2 ∧ t.2.2 ≤ 2 ^ 1520 := by
    intro t ht
    rw [← hts] at ht
    obtain ⟨p, hp, rfl⟩ := List.mem_map.mp ht
    have okp := l3 p hp
    have a1 := sc_ok hcm okp.1
    have a2 := sc_ok hcm okp.2.1
    have a3 := sc_ok hcm okp.2.2.1
    exact ⟨⟨a1.1, Int.le_of_lt a1.2⟩, ⟨a2.1, Int.le_of_lt a2.2⟩, a3.1, Int.le_of_lt a3.2⟩
  have hg : ∀ i, i ≤ ts.length → g (sumsP ρ ps) i = totT (0, 0, 0) (ts.take i) := by
    intro i hi
    unfold g sumsP
    rw [hts, List.getD_eq_getElem?_getD, sumsF_at ts _ i hi]; rfl
  have small : ∀ k : Nat, k ≤ 400 → (k : Int) * 2 ^ 1520 < 2 ^ 2000 := by
    intro k hk
    have e1 : (k : Int) * 2 ^ 1520 ≤ 400 * 2 ^ 1520 := Int.mul_le_mul_of_nonneg_right (by omega) (by decide)
    have e2 : (400 : Int) * 2 ^ 1520 < 2 ^ 2000 := by decide
    omega
  refine ⟨⟨by omega, by omega⟩, fun i j hij hj => ?_, fun i hi => ?_, ?_⟩
  · rw [hg i (by omega), hg j (by omega)]
    have e : ts.take j = ts.take i ++ (ts.take j).drop i := by
      conv => lhs; rw [← List.take_append_drop i (ts.take j)]
      rw [List.take_take, Nat.min_eq_left hij]
    rw [e, totT_append]
    have := tot_add ((ts.take j).drop i) (totT (0, 0, 0) (ts.take i)) fun t ht => tb t (List.mem_of_mem_take (List.mem_of_mem_drop ht))
    exact ⟨this.1.1, this.2.1.1, this.2.2.1⟩
  · rw [hg i (by omega)]
    have := tot_add (ts.take i) (0, 0, 0) fun t ht => tb t (List.mem_of_mem_take ht)
    have hs := small (ts.take i).length (by rw [List.length_take]; omega)
    simp only at this
    generalize ((ts.take i).length : Int) * 2 ^ 1520 = W at *
    generalize (2 : Int) ^ 2000 = P at *
    omega
  · have h1 := sc_ok hcm okr.1
    have h2 : (2 : Int) ^ 1520 < 2 ^ 2000 := by decide
    refine ⟨?_, Int.lt_trans h1.2 h2⟩
    obtain ⟨o1, o2, o3, o4, o5⟩ := okr.1
    have hne := okr.2
    have hq : 0 < com ρ.2 ps / ρ.2 := Int.ediv_pos_of_pos_of_dvd hcm.1 (by omega) hdv
    exact Int.mul_pos (by omega) hq
end K73
namespace K73
open MD L2 PySem Kit Kc
/-! the best breaking -/
def cand (x : Nat × Int) (r : Brk) : Brk := (x.2 + r.1, 1 + r.2.1, x.1 :: r.2.2)
def pick2 (acc : Option Brk) (c : Brk) : Option Brk := match acc with
  | none => some c
  | some a => if lt2 (c.1, c.2.1) (a.1, a.2.1) = true then some c else some a
def step1 (f : Nat → Option Brk) (acc : Option Brk) (x : Nat × Int) : Option Brk := match f x.1 with
  | none => acc
  | some r => pick2 acc (cand x r)
theorem step_nil {f : Nat → Option Brk} {acc : Option Brk} : step f [] acc = acc := rfl
theorem step_cons {f : Nat → Option Brk} {x : Nat × Int} {l : List (Nat × Int)} {acc : Option Brk} : step f (x :: l) acc = step f l (step1 f acc x) := by
  unfold step
  rw [List.foldl_cons]
  congr 1
  unfold step1 pick2 cand
  cases f x.1 with
  | none => rfl
  | some r => cases acc <;> rfl
theorem step_congr {f h : Nat → Option Brk} : ∀ {l : List (Nat × Int)} {acc : Option Brk}, (∀ x ∈ l, f x.1 = h x.1) → step f l acc = step h l acc
  | [], acc, _ => rfl
  | x :: l, acc, e => by
    rw [step_cons, step_cons]
    have : step1 f acc x = step1 h acc x := by unfold step1; rw [e x List.mem_cons_self]
    rw [this]
    exact step_congr fun y hy => e y (List.mem_cons_of_mem _ hy)
abbrev LN := List (List (Nat × Int))
theorem LLok.at_ {L : LN} (ok : LLok L) {i : Nat} (h : i < L.length) : (∀ x ∈ L.getD i [], i < x.1 ∧ x.1 ≤ L.length ∧ 0 ≤ x.2) ∧ (L.getD i []).Pairwise fun x y => x.1 < y.1 := by
  have e : L[i]? = some (L.getD i []) := by rw [List.getD_eq_getElem?_getD, List.getElem?_eq_getElem h]; rfl
  exact ⟨ok.up i _ e, ok.asc i _ e⟩
theorem fuel {L : LN} (ok : LLok L) : ∀ (k i : Nat), i ≤ L.length → L.length - i ≤ k → optR L k i = optR L (L.length - i) i := by
  intro k
  induction k using Nat.strongRecOn with
  | ind k ih =>
    intro i hi hk
    by_cases he : i = L.length
    · rw [he, Nat.sub_self]
      cases k <;> simp [optR]
    · have hlt : i < L.length := by omega
      cases k with
      | zero => omega
      | succ k =>
        obtain ⟨m, hm⟩ : ∃ m, L.length - i = m + 1 := ⟨L.length - i - 1, by omega⟩
        rw [hm]
        unfold optR
        rw [if_neg he, if_neg he]
        refine step_congr fun x hx => ?_
        obtain ⟨h1, h2, _⟩ := (ok.at_ hlt).1 x hx
        by_cases hkm : k = m
        · rw [hkm]
        · rw [ih k (by omega) x.1 h2 (by omega), ih m (by omega) x.1 h2 (by omega)]
theorem opt_end {L : LN} : opt L L.length = some (0, 0, []) := by
  unfold opt
  rw [Nat.sub_self]
  simp [optR]
theorem opt_step {L : LN} (ok : LLok L) {i : Nat} (h : i < L.length) : opt L i = step (opt L) (L.getD i []) none := by
  obtain ⟨m, hm⟩ : ∃ m, L.length - i = m + 1 := ⟨L.length - i - 1, by omega⟩
  unfold opt
  rw [hm]
  show (if i = L.length then _ else _) = _
  rw [if_neg (by omega)]
  refine step_congr fun x hx => ?_
  obtain ⟨h1, h2, _⟩ := (ok.at_ h).1 x hx
  exact fuel ok m x.1 h2 (by omega)
/-- what is taken comes from a line, or was there -/
theorem step_from {f : Nat → Option Brk} : ∀ {l : List (Nat × Int)} {acc : Option Brk} {r : Brk}, step f l acc = some r → acc = some r ∨ ∃ x ∈ l, ∃ r', f x.1 = some r' ∧ r = cand x r'
  | [], acc, r, h => .inl h
  | x :: l, acc, r, h => by
    rw [step_cons] at h
    rcases step_from h with h | ⟨y, hy, r', h1, h2⟩
    · unfold step1 at h
      cases hf : f x.1 with
      | none => rw [hf] at h; exact .inl h
      | some r' =>
        rw [hf] at h
        simp only at h
        unfold pick2 at h
        cases acc with
        | none => cases h; exact .inr ⟨x, List.mem_cons_self, r', hf, rfl⟩
        | some a =>
          simp only at h
          split at h
          · cases h; exact .inr ⟨x, List.mem_cons_self, r', hf, rfl⟩
          · exact .inl h
    · exact .inr ⟨y, List.mem_cons_of_mem _ hy, r', h1, h2⟩
theorem opt_path {L : LN} (ok : LLok L) {i : Nat} (hi : i ≤ L.length) {r : Brk} (h : opt L i = some r) : (i = L.length ∧ r = (0, 0, [])) ∨ (i < L.length ∧ ∃ x ∈ L.getD i [], ∃ r', opt L x.1 = some r' ∧ r = cand x r' ∧ i < x.1 ∧ x.1 ≤ L.length) := by
  by_cases he : i = L.length
  · rw [he, opt_end] at h
    cases h
    exact .inl ⟨he, rfl⟩
  · have hlt : i < L.length := by omega
    rw [opt_step ok hlt] at h
    rcases step_from h with h | ⟨x, hx, r', h1, h2⟩
    · cases h
    · obtain ⟨u1, u2, _⟩ := (ok.at_ hlt).1 x hx
      exact .inr ⟨hlt, x, hx, r', h1, h2, u1, u2⟩
/-- the first item of the ends, none at the end -/
def hd (r : Brk) : Nat := r.2.2.headD 0
/-- what is taken is the least, and of the least ones the first -/
def Best (r : Brk) (x : Nat × Int) (r' : Brk) : Prop := r = cand x r' ∨ r.1 < (cand x r').1 ∨ (r.1 = (cand x r').1 ∧ (r.2.1 < (cand x r').2.1 ∨ (r.2.1 = (cand x r').2.1 ∧ hd r < x.1)))
theorem lt2_iff {a b c d : Int} : lt2 (a, b) (c, d) = true ↔ a < c ∨ (a = c ∧ b < d) := by
  unfold lt2
  simp only
  split
  · rename_i h; rw [decide_eq_true_iff]; omega
  · rename_i h; rw [decide_eq_true_iff]; omega
theorem step_least {f : Nat → Option Brk} : ∀ {l : List (Nat × Int)} {acc : Option Brk}, l.Pairwise (fun x y => x.1 < y.1) → (∀ a, acc = some a → ∀ x ∈ l, hd a < x.1) →
    (∀ a, acc = some a → ∃ r, step f l acc = some r ∧ (r = a ∨ r.1 < a.1 ∨ (r.1 = a.1 ∧ r.2.1 < a.2.1))) ∧ ∀ x ∈ l, ∀ r', f x.1 = some r' → ∃ r, step f l acc = some r ∧ Best r x r'
  | [], acc, _, _ => ⟨fun a e => ⟨a, e, .inl rfl⟩, nofun⟩
  | x :: l, acc, hp, ha => by
    obtain ⟨p1, p2⟩ := List.pairwise_cons.mp hp
    have hn : ∀ a, step1 f acc x = some a → ∀ y ∈ l, hd a < y.1 := by
      intro a e y hy
      unfold step1 at e
      cases hf : f x.1 with
      | none => rw [hf] at e; exact ha a e y (List.mem_cons_of_mem _ hy)
      | some r' =>
        rw [hf] at e
        simp only at e
        unfold pick2 at e
        cases acc with
        | none => cases e; exact p1 y hy
        | some b =>
          simp only at e
          split at e
          · cases e; exact p1 y hy
          · cases e; exact ha _ rfl y (List.mem_cons_of_mem _ hy)
    obtain ⟨i1, i2⟩ := step_least (f := f) (acc := step1 f acc x) p2 hn
    rw [step_cons]
    refine ⟨fun a e => ?_, fun y hy r' hr => ?_⟩
    · -- what was there
      subst e
      cases hf : f x.1 with
      | none =>
        have e1 : step1 f (some a) x = some a := by unfold step1; rw [hf]
        exact i1 a e1
      | some r' =>
        by_cases hlt : lt2 ((cand x r').1, (cand x r').2.1) (a.1, a.2.1) = true
        · have e1 : step1 f (some a) x = some (cand x r') := by unfold step1 pick2; rw [hf]; simp only; rw [if_pos hlt]
          obtain ⟨r, h1, h2⟩ := i1 _ e1
          refine ⟨r, h1, ?_⟩
          rw [lt2_iff] at hlt
          rcases h2 with rfl | h2
          · right; omega
          · right; omega
        · have e1 : step1 f (some a) x = some a := by unfold step1 pick2; rw [hf]; simp only; rw [if_neg hlt]
          exact i1 a e1
    · rcases List.mem_cons.mp hy with rfl | hy
      · have e1 : ∃ a, step1 f acc y = some a ∧ Best a y r' := by
          unfold step1
          rw [hr]
          simp only
          unfold pick2
          cases acc with
          | none => exact ⟨_, rfl, .inl rfl⟩
          | some b =>
            simp only
            split
            · exact ⟨_, rfl, .inl rfl⟩
            · rename_i hlt
              refine ⟨b, rfl, .inr ?_⟩
              rw [lt2_iff] at hlt
              have := ha b rfl y List.mem_cons_self
              omega
        obtain ⟨a, e1, hb⟩ := e1
        obtain ⟨r, h1, h2⟩ := i1 a e1
        refine ⟨r, h1, ?_⟩
        rcases h2 with rfl | h2
        · exact hb
        · right
          rcases hb with rfl | hb
          · omega
          · omega
      · exact i2 y hy r' hr
end K73
namespace K73
open MD L2 PySem Kit Kc
/-! all breakings -/
abbrev Rb := List Nat × Int
def ext (x : Nat × Int) (y : Rb) : Rb := (x.1 :: y.1, x.2 + y.2)
def Bx (L : LN) (i : Nat) : List Rb := brk L (L.length - i) i
theorem brk_succ {L : LN} {k i : Nat} : brk L (k + 1) i = if i = L.length then [([], 0)] else ((L.getD i []).map fun x => (brk L k x.1).map (ext x)).flatten := rfl
theorem bfuel {L : LN} (ok : LLok L) : ∀ (k i : Nat), i ≤ L.length → L.length - i ≤ k → brk L k i = Bx L i := by
  intro k
  induction k using Nat.strongRecOn with
  | ind k ih =>
    intro i hi hk
    unfold Bx
    by_cases he : i = L.length
    · rw [he, Nat.sub_self]
      cases k <;> simp [brk]
    · have hlt : i < L.length := by omega
      cases k with
      | zero => omega
      | succ k =>
        obtain ⟨m, hm⟩ : ∃ m, L.length - i = m + 1 := ⟨L.length - i - 1, by omega⟩
        rw [hm, brk_succ, brk_succ, if_neg he, if_neg he]
        congr 1
        refine List.map_congr_left fun x hx => ?_
        obtain ⟨h1, h2, _⟩ := (ok.at_ hlt).1 x hx
        rw [ih k (by omega) x.1 h2 (by omega)]
        by_cases hkm : k = m
        · rw [← hkm, ih k (by omega) x.1 h2 (by omega)]
        · rw [ih m (by omega) x.1 h2 (by omega)]
theorem Bx_end {L : LN} : Bx L L.length = [([], 0)] := by
  unfold Bx
  rw [Nat.sub_self]
  simp [brk]
theorem Bx_step {L : LN} (ok : LLok L) {i : Nat} (h : i < L.length) : Bx L i = ((L.getD i []).map fun x => (Bx L x.1).map (ext x)).flatten := by
  obtain ⟨m, hm⟩ : ∃ m, L.length - i = m + 1 := ⟨L.length - i - 1, by omega⟩
  unfold Bx
  rw [hm, brk_succ, if_neg (by omega)]
  congr 1
  refine List.map_congr_left fun x hx => ?_
  obtain ⟨h1, h2, _⟩ := (ok.at_ h).1 x hx
  rw [bfuel ok m x.1 h2 (by omega)]; rfl
theorem pow_sum {N : Nat} {f : Nat → List Rb} (hf : ∀ j, j ≤ N → (f j).length ≤ 2 ^ (N - j)) : ∀ (l : List (Nat × Int)) (m : Nat), m ≤ N → l.Pairwise (fun x y => x.1 < y.1) → (∀ x ∈ l, m < x.1 ∧ x.1 ≤ N) →
    ((l.map fun x => (f x.1).map (ext x)).flatten).length + 1 ≤ 2 ^ (N - m)
  | [], m, _, _, _ => Nat.one_le_two_pow
  | x :: r, m, hm, hp, hb => by
    obtain ⟨p1, p2⟩ := List.pairwise_cons.mp hp
    obtain ⟨b1, b2⟩ := hb x List.mem_cons_self
    have ih := pow_sum hf r x.1 b2 p2 fun y hy => ⟨p1 y hy, (hb y (List.mem_cons_of_mem _ hy)).2⟩
    rw [List.map_cons, List.flatten_cons, List.length_append, List.length_map]
    have h1 := hf x.1 b2
    have h2 : 2 ^ (N - x.1 + 1) ≤ 2 ^ (N - m) := Nat.pow_le_pow_right (by decide) (by omega)
    rw [Nat.pow_succ] at h2
    omega
theorem Bx_len {L : LN} (ok : LLok L) : ∀ i, i ≤ L.length → (Bx L i).length ≤ 2 ^ (L.length - i) := by
  intro i
  generalize hk : L.length - i = k
  induction k using Nat.strongRecOn generalizing i with
  | ind k ih =>
    intro hi
    by_cases he : i = L.length
    · rw [he, Bx_end]; exact Nat.one_le_two_pow
    · have hlt : i < L.length := by omega
      rw [Bx_step ok hlt, ← hk]
      have key : ((L.getD i []).map fun x => (Bx L x.1).map (ext x)).flatten = ((L.getD i []).map fun x => ((fun j => if i < j ∧ j ≤ L.length then Bx L j else []) x.1).map (ext x)).flatten := by
        congr 1
        refine List.map_congr_left fun x hx => ?_
        obtain ⟨h1, h2, _⟩ := (ok.at_ hlt).1 x hx
        show _ = (if _ then _ else _ : List Rb).map _
        rw [if_pos ⟨h1, h2⟩]
      rw [key]
      have := pow_sum (N := L.length) (f := fun j => if i < j ∧ j ≤ L.length then Bx L j else []) (fun j hj => by
        show (if _ then _ else _ : List Rb).length ≤ _
        split
        · rename_i h
          exact ih (L.length - j) (by omega) j rfl h.2
        · exact Nat.zero_le _) (L.getD i []) i hi (ok.at_ hlt).2 (fun x hx => ⟨((ok.at_ hlt).1 x hx).1, ((ok.at_ hlt).1 x hx).2.1⟩)
      exact Nat.le_of_lt this
theorem Bx_mem {L : LN} (ok : LLok L) {i : Nat} (h : i < L.length) {y : Rb} : y ∈ Bx L i ↔ ∃ x ∈ L.getD i [], ∃ z ∈ Bx L x.1, y = ext x z := by
  rw [Bx_step ok h, List.mem_flatten]
  constructor
  · rintro ⟨l, hl, hy⟩
    obtain ⟨x, hx, rfl⟩ := List.mem_map.mp hl
    obtain ⟨z, hz, rfl⟩ := List.mem_map.mp hy
    exact ⟨x, hx, z, hz, rfl⟩
  · rintro ⟨x, hx, z, hz, rfl⟩
    exact ⟨_, List.mem_map_of_mem hx, List.mem_map_of_mem hz⟩
theorem Bx_el {L : LN} (ok : LLok L) : ∀ i, i ≤ L.length → ∀ y ∈ Bx L i, y.1.length ≤ L.length - i := by
  intro i
  generalize hk : L.length - i = k
  induction k using Nat.strongRecOn generalizing i with
  | ind k ih =>
    intro hi y hy
    by_cases he : i = L.length
    · rw [he, Bx_end] at hy
      rw [List.mem_singleton.mp hy]; exact Nat.zero_le _
    · have hlt : i < L.length := by omega
      obtain ⟨x, hx, z, hz, rfl⟩ := (Bx_mem ok hlt).mp hy
      obtain ⟨h1, h2, _⟩ := (ok.at_ hlt).1 x hx
      have := ih (L.length - x.1) (by omega) x.1 rfl h2 z hz
      show (x.1 :: z.1).length ≤ k
      rw [List.length_cons]
      omega
theorem brkL_bel (n : Nat) (l : List Rb) : (D.lst (l.map brkD)).bel n = true := by
  show D.belL n (l.map brkD) = true
  rw [belL_iff]
  intro d hd
  obtain ⟨x, _, rfl⟩ := List.mem_map.mp hd
  have key : ∀ l : List Nat, D.belL n (l.map fun (k : Nat) => D.int k) = true := by
    intro l
    rw [belL_iff]
    intro d hd
    obtain ⟨x, _, rfl⟩ := List.mem_map.mp hd
    rfl
  show D.belL n [.tup (x.1.map fun (k : Nat) => D.int k), .int x.2] = true
  rw [belL_iff]
  intro d hd
  rcases List.mem_cons.mp hd with rfl | hd
  · exact key _
  · rcases List.mem_cons.mp hd with rfl | hd
    · rfl
    · cases hd
end K73
namespace K73
open MD L2 PySem Kit Kc
theorem linesD_ix {L : LN} {i : Nat} (h : i < L.length) : (L.map lineD)[i]? = some (lineD (L.getD i [])) := by
  rw [List.getElem?_map, List.getElem?_eq_getElem h, List.getD_eq_getElem?_getD, List.getElem?_eq_getElem h]; rfl
theorem mathr__law_breakings (i : Nat) (ds M Q E) (hM : WFM M) (hb : D.belL M.length ds = true) (h : spr__law_breakings (i + 1) ds M Q E) : rr__law_breakings i (retE M.length Q E) (startD N__law_breakings ds) M := by
  obtain ⟨L, k, rfl, ok, h12, hk, hki, q⟩ := h
  have q : Q (.lst ((Bx L k).map brkD)) M := q
  have lsq : ∀ M : MH, seqOf (linesD L) M = some (L.map lineD) := fun _ => rfl
  have lns : ∀ z : Str, linesD L ≠ .str z := fun _ => nofun
  have lns0 : ∀ (y : Str), linesD L = D.str y → y.length ≤ sizeLine := fun _ => nofun
  have hlen := Bx_len ok k hk
  have hpow : 2 ^ (L.length - k) ≤ 4096 := by
    have := Nat.pow_le_pow_right (n := 2) (by decide) (show L.length - k ≤ 12 by omega)
    exact this
  unfold rr__law_breakings
  refine seq_step fun S hS => ?_
  simp [startD]
  refine ⟨_, rfl, lns0, ?_⟩
  by_cases he : k = L.length
  · rw [if_pos (by rw [List.length_map, he])]
    refine ⟨by rw [hz]; decide, by rw [hz]; decide, ?_⟩
    rw [he, Bx_end] at q
    rw [popM_same (Nat.le_refl _)]
    exact q
  · have hlt : k < L.length := by omega
    rw [if_neg (by rw [List.length_map]; omega)]
    obtain ⟨_, hasc⟩ := ok.at_ hlt
    have hup := (ok.at_ hlt).1
    rw [Bx_step ok hlt] at q hlen
    have hix := linesD_ix hlt
    generalize L.getD k [] = l0 at q hlen hup hasc hix
    subst hS
    refine seq_step fun S hS => ?_
    simp
    subst hS
    refine seq_step fun S hS => ?_
    simp [lsq, lns, hix]
    have lq : ∀ (l : List (Nat × Int)) (M : MH), seqOf (lineD l) M = some (l.map jbD) := fun _ _ => rfl
    have ln : ∀ (l : List (Nat × Int)) (z : Str), lineD l ≠ .str z := fun _ _ => nofun
    refine ⟨lineD l0, atI_n (by omega) (by rw [Int.toNat_natCast]; exact hix), ?_⟩
    show forL _ _ _ _ _ _ _
    refine forL_ind (fun ds δ M' => ∃ (l : List (Nat × Int)) (acc : List Rb) (a b c d : Option D), ds = l.map jbD ∧ (∀ x ∈ l, k < x.1 ∧ x.1 ≤ L.length) ∧ acc ++ (l.map fun x => (Bx L x.1).map (ext x)).flatten = (l0.map fun x => (Bx L x.1).map (ext x)).flatten ∧
      δ = [some (linesD L), some (.int (k : Int)), some (.ref M.length), a, b, c, d] ∧ M' = M ++ [.lst (acc.map brkD)]) ?_ ?_ _ _ _ ⟨l0, [], _, _, _, _, rfl, fun x hx => ⟨(hup x hx).1, (hup x hx).2.1⟩, rfl, rfl, rfl⟩
    · rintro δ M' ⟨l, acc, a, b, c, d, e, _, hacc, rfl, rfl⟩
      have : l = [] := by cases l with | nil => rfl | cons => cases e
      subst this
      refine ⟨trivial, ?_⟩
      have hacc : acc ++ [] = _ := hacc
      rw [List.append_nil] at hacc
      show S _ _ _
      subst hS
      simp
      rw [hacc]
      rw [popM_last2 hM (brkL_bel _ _)]
      exact q
    · rintro d rest δ M' F ⟨l, acc, s3, s4, s5, s6, e, hk2, hacc, rfl, rfl⟩ hF
      refine ⟨trivial, ?_⟩
      obtain ⟨x, l, rfl⟩ : ∃ k js2, l = k :: js2 := by
        cases l with
        | nil => cases e
        | cons k r => exact ⟨k, r, rfl⟩
      rw [List.map_cons] at e
      cases e
      obtain ⟨k1, k2⟩ := hk2 x List.mem_cons_self
      simp [jbD]
      refine ⟨L, x.1, rfl, ok, h12, k2, by omega, ?_⟩
      show forL _ _ _ _ _ _ _
      rw [show brk L (L.length - x.1) x.1 = Bx L x.1 from rfl]
      have hacc : acc ++ ((Bx L x.1).map (ext x) ++ (l.map fun x => (Bx L x.1).map (ext x)).flatten) = (l0.map fun x => (Bx L x.1).map (ext x)).flatten := by rw [← hacc, List.map_cons, List.flatten_cons]
      generalize htail : (l.map fun x => (Bx L x.1).map (ext x)).flatten = tail at hacc
      have hys0 : ∀ y ∈ Bx L x.1, y.1.length ≤ 12 := fun y hy => by have := Bx_el ok x.1 k2 y hy; omega
      generalize Bx L x.1 = ys0 at hacc hys0
      refine forL_ind (fun ds δ M' => ∃ (ys : List Rb) (acc : List Rb) (c d : Option D), ds = ys.map brkD ∧ (∀ y ∈ ys, y.1.length ≤ 12) ∧ acc ++ (ys.map (ext x) ++ tail) = (l0.map fun x => (Bx L x.1).map (ext x)).flatten ∧
        δ = [some (linesD L), some (.int (k : Int)), some (.ref M.length), some (.int (x.1 : Int)), some (.int x.2), c, d] ∧ M' = M ++ [.lst (acc.map brkD)]) ?_ ?_ _ _ _ ⟨ys0, acc, _, _, rfl, hys0, hacc, rfl, rfl⟩
      · rintro δ M' ⟨ys, acc, c, d, e, _, hacc, rfl, rfl⟩
        have : ys = [] := by cases ys with | nil => rfl | cons => cases e
        subst this
        refine ⟨trivial, ?_⟩
        exact hF _ _ ⟨l, acc, _, _, _, _, rfl, fun y hy => hk2 y (List.mem_cons_of_mem _ hy), by rw [htail]; exact hacc, rfl, rfl⟩
      · rintro d rest δ M' F2 ⟨ys, acc, s5, s6, e, hys, hacc, rfl, rfl⟩ hF2
        refine ⟨trivial, ?_⟩
        obtain ⟨y, ys, rfl⟩ : ∃ k js2, ys = k :: js2 := by
          cases ys with
          | nil => cases e
          | cons k r => exact ⟨k, r, rfl⟩
        rw [List.map_cons] at e
        cases e
        simp [brkD]
        have hy := hys y List.mem_cons_self
        have hl := congrArg List.length hacc
        rw [List.map_cons, List.length_append, List.length_append, List.length_cons] at hl
        refine ⟨by rw [hz]; decide, by rw [hz]; omega, by rw [hz]; decide, by rw [hz]; omega, ?_⟩
        refine hF2 _ _ ⟨ys, acc ++ [ext x y], _, _, rfl, fun z hz => hys z (List.mem_cons_of_mem _ hz), ?_, rfl, by rw [List.map_append]; rfl⟩
        rw [List.append_assoc]
        exact hacc
end K73
namespace K73
open MD L2 PySem Kit Kc
/-! rows of whole numbers in order -/
theorem lexB_irr : ∀ a : List Int, lexB a a = false
  | [] => rfl
  | x :: a => by unfold lexB; rw [if_pos rfl]; exact lexB_irr a
theorem lexB_anti : ∀ a b : List Int, lexB a b = false → lexB b a = false → a = b
  | [], [], _, _ => rfl
  | [], _ :: _, h, _ => by simp [lexB] at h
  | _ :: _, [], _, h => by simp [lexB] at h
  | x :: a, y :: b, h, h2 => by
    unfold lexB at h h2
    by_cases e : x = y
    · subst e
      rw [if_pos rfl] at h h2
      rw [lexB_anti a b h h2]
    · rw [if_neg e] at h
      rw [if_neg (Ne.symm e)] at h2
      have := of_decide_eq_false h
      have := of_decide_eq_false h2
      omega
/-- not over: a up to b, b up to c -/
theorem lexB_trans : ∀ a b c : List Int, lexB b a = false → lexB c b = false → lexB c a = false
  | [], _, [], _, _ => rfl
  | [], _, _ :: _, _, _ => rfl
  | x :: a, [], c, h, _ => by simp [lexB] at h
  | x :: a, y :: b, [], _, h => by simp [lexB] at h
  | x :: a, y :: b, z :: c, h, h2 => by
    unfold lexB at h h2 ⊢
    by_cases e : y = x
    · subst e
      rw [if_pos rfl] at h
      by_cases e2 : z = y
      · rw [if_pos e2] at h2 ⊢
        exact lexB_trans a b c h h2
      · rw [if_neg e2] at h2 ⊢
        exact h2
    · rw [if_neg e] at h
      have h := of_decide_eq_false h
      by_cases e2 : z = y
      · rw [if_neg (by omega)]
        exact decide_eq_false (by omega)
      · rw [if_neg e2] at h2
        have h2 := of_decide_eq_false h2
        rw [if_neg (by omega)]
        exact decide_eq_false (by omega)
def iL (l : List Nat) : List Int := l.map fun (k : Nat) => (k : Int)
def kB (y : Rb) : List Int := y.2 :: (y.1.length : Int) :: iL y.1
def kR (r : Brk) : List Int := r.1 :: r.2.1 :: iL r.2.2
theorem ext_le {x : Nat × Int} {r : Brk} {z : Rb} (h : lexB (kB z) (kR r) = false) : lexB (kB (ext x z)) (kR (cand x r)) = false := by
  obtain ⟨b, c, es⟩ := r
  obtain ⟨zs, zb⟩ := z
  have e1 : kB (ext x (zs, zb)) = (x.2 + zb) :: ((zs.length + 1 : Nat) : Int) :: (x.1 : Int) :: iL zs := rfl
  have e2 : kR (cand x (b, c, es)) = (x.2 + b) :: (1 + c) :: (x.1 : Int) :: iL es := rfl
  have e3 : kB (zs, zb) = zb :: (zs.length : Int) :: iL zs := rfl
  have e4 : kR (b, c, es) = b :: c :: iL es := rfl
  rw [e3, e4] at h
  rw [e1, e2]
  unfold lexB at h ⊢
  by_cases hb : zb = b
  · subst hb
    rw [if_pos rfl] at h
    rw [if_pos rfl]
    unfold lexB at h ⊢
    by_cases hc : (zs.length : Int) = c
    · subst hc
      rw [if_pos rfl] at h
      rw [if_pos (by omega)]
      unfold lexB
      rw [if_pos rfl]
      exact h
    · rw [if_neg hc] at h
      rw [if_neg (by omega)]
      have h := of_decide_eq_false h
      exact decide_eq_false (by omega)
  · rw [if_neg hb] at h
    rw [if_neg (by omega)]
    have h := of_decide_eq_false h
    exact decide_eq_false (by omega)
theorem best_le {x : Nat × Int} {r r' : Brk} (h : Best r x r') (hne : r.2.2 ≠ []) : lexB (kR (cand x r')) (kR r) = false := by
  rcases h with rfl | h
  · exact lexB_irr _
  · obtain ⟨b, c, es⟩ := r
    cases es with
    | nil => exact (hne rfl).elim
    | cons e es =>
      have e1 : kR (b, c, e :: es) = b :: c :: (e : Int) :: iL es := rfl
      have e2 : kR (cand x r') = (cand x r').1 :: (cand x r').2.1 :: (x.1 : Int) :: iL r'.2.2 := rfl
      have e3 : hd (b, c, e :: es) = e := rfl
      rw [e1, e2]
      rw [e3] at h
      generalize (cand x r').1 = u at h
      generalize (cand x r').2.1 = v at h
      simp only at h
      unfold lexB
      by_cases h1 : u = b
      · rw [if_pos h1]
        unfold lexB
        by_cases h2 : v = c
        · rw [if_pos h2]
          unfold lexB
          rw [if_neg (by omega)]
          exact decide_eq_false (by omega)
        · rw [if_neg h2]
          exact decide_eq_false (by omega)
      · rw [if_neg h1]
        exact decide_eq_false (by omega)
/-- the best breaking is no more than any other -/
theorem opt_le {L : LN} (ok : LLok L) : ∀ i, i ≤ L.length → ∀ y ∈ Bx L i, ∃ r, opt L i = some r ∧ lexB (kB y) (kR r) = false := by
  intro i
  generalize hk : L.length - i = k
  induction k using Nat.strongRecOn generalizing i with
  | ind k ih =>
    intro hi y hy
    by_cases he : i = L.length
    · rw [he, Bx_end] at hy
      rw [List.mem_singleton.mp hy, he, opt_end]
      exact ⟨_, rfl, lexB_irr [0, 0]⟩
    · have hlt : i < L.length := by omega
      obtain ⟨x, hx, z, hz, rfl⟩ := (Bx_mem ok hlt).mp hy
      obtain ⟨h1, h2, _⟩ := (ok.at_ hlt).1 x hx
      obtain ⟨r', hr', hle⟩ := ih (L.length - x.1) (by omega) x.1 rfl h2 z hz
      obtain ⟨r, hr, hb⟩ := (step_least (f := opt L) (acc := none) (ok.at_ hlt).2 nofun).2 x hx r' hr'
      rw [← opt_step ok hlt] at hr
      refine ⟨r, hr, ?_⟩
      have hne : r.2.2 ≠ [] := by
        rcases opt_path ok hi hr with ⟨h, _⟩ | ⟨_, x', _, r'', _, e, _⟩
        · exact (he h).elim
        · rw [e]; exact List.cons_ne_nil _ _
      exact lexB_trans _ _ _ (best_le hb hne) (ext_le hle)
/-- the best breaking is one of all -/
theorem opt_mem {L : LN} (ok : LLok L) : ∀ i, i ≤ L.length → ∀ r, opt L i = some r → (r.2.2, r.1) ∈ Bx L i ∧ r.2.1 = (r.2.2.length : Int) := by
  intro i
  generalize hk : L.length - i = k
  induction k using Nat.strongRecOn generalizing i with
  | ind k ih =>
    intro hi r hr
    rcases opt_path ok hi hr with ⟨h, e⟩ | ⟨hlt, x, hx, r', h1, e, h2, h3⟩
    · rw [e, h, Bx_end]
      exact ⟨List.mem_singleton.mpr rfl, rfl⟩
    · obtain ⟨i1, i2⟩ := ih (L.length - x.1) (by omega) x.1 rfl h3 r' h1
      refine ⟨(Bx_mem ok hlt).mpr ⟨x, hx, _, i1, by rw [e]; rfl⟩, ?_⟩
      rw [e]
      show 1 + r'.2.1 = ((r'.2.2.length + 1 : Nat) : Int)
      rw [i2]; omega
def pickB (acc : Option Rb) (y : Rb) : Option Rb := match acc with
  | none => some y
  | some a => if lexB (kB y) (kB a) = true then some y else some a
theorem fold_some : ∀ (l : List Rb) (a : Rb), ∃ m, l.foldl pickB (some a) = some m ∧ (m = a ∨ m ∈ l) ∧ lexB (kB a) (kB m) = false ∧ ∀ y ∈ l, lexB (kB y) (kB m) = false
  | [], a => ⟨a, rfl, .inl rfl, lexB_irr _, nofun⟩
  | y :: l, a => by
    rw [List.foldl_cons]
    unfold pickB
    simp only
    split
    · rename_i h
      obtain ⟨m, h1, h2, h3, h4⟩ := fold_some l y
      refine ⟨m, h1, .inr ?_, ?_, fun z hz => ?_⟩
      · rcases h2 with rfl | h2
        · exact List.mem_cons_self
        · exact List.mem_cons_of_mem _ h2
      · refine lexB_trans _ _ _ h3 ?_
        rw [lexB_lt] at h ⊢
        have h := of_decide_eq_true h
        exact decide_eq_false fun h5 => by
          exact absurd (List.lt_trans h h5) (List.lt_irrefl _)
      · rcases List.mem_cons.mp hz with rfl | hz
        · exact h3
        · exact h4 z hz
    · rename_i h
      obtain ⟨m, h1, h2, h3, h4⟩ := fold_some l a
      refine ⟨m, h1, ?_, h3, fun z hz => ?_⟩
      · rcases h2 with rfl | h2
        · exact .inl rfl
        · exact .inr (List.mem_cons_of_mem _ h2)
      · rcases List.mem_cons.mp hz with rfl | hz
        · exact lexB_trans _ _ _ h3 (by simpa using h)
        · exact h4 z hz
theorem iL_inj {a b : List Nat} (h : iL a = iL b) : a = b := by
  induction a generalizing b with
  | nil => cases b with
    | nil => rfl
    | cons => cases h
  | cons x a ih =>
    cases b with
    | nil => cases h
    | cons y b =>
      have h : (x : Int) :: iL a = (y : Int) :: iL b := h
      have h1 : (x : Int) = y := (List.cons.inj h).1
      rw [ih (List.cons.inj h).2, show x = y by omega]
def outB : Option Rb → D
  | some y => .tup [.int y.2, .tup (y.1.map fun (k : Nat) => D.int k)]
  | none => .non
theorem fold_opt {L : LN} (ok : LLok L) {i : Nat} (hi : i ≤ L.length) : outB ((Bx L i).foldl pickB none) = resD (opt L i) := by
  cases hl : Bx L i with
  | nil =>
    cases ho : opt L i with
    | none => rfl
    | some r =>
      have := (opt_mem ok i hi r ho).1
      rw [hl] at this
      cases this
  | cons y l =>
    rw [List.foldl_cons]
    show outB (l.foldl pickB (some y)) = _
    obtain ⟨m, h1, h2, h3, h4⟩ := fold_some l y
    have hm : m ∈ Bx L i := by
      rw [hl]
      rcases h2 with rfl | h2
      · exact List.mem_cons_self
      · exact List.mem_cons_of_mem _ h2
    obtain ⟨r, hr, hle⟩ := opt_le ok i hi m hm
    obtain ⟨m1, m2⟩ := opt_mem ok i hi r hr
    have hge : lexB (kB (r.2.2, r.1)) (kB m) = false := by
      rw [hl] at m1
      rcases List.mem_cons.mp m1 with e | m1
      · rw [e]; exact h3
      · exact h4 _ m1
    have hk : kB (r.2.2, r.1) = kR r := by unfold kB kR; rw [m2]
    rw [hk] at hge
    have e := lexB_anti _ _ hle hge
    rw [h1, hr]
    obtain ⟨b, c, es⟩ := r
    obtain ⟨ms, mb⟩ := m
    have e : mb :: (ms.length : Int) :: iL ms = b :: c :: iL es := e
    injection e with e1 e
    injection e with e2 e3
    rw [show outB (some (ms, mb)) = .tup [.int mb, .tup (ms.map fun (k : Nat) => D.int k)] from rfl, e1, iL_inj e3]
    rfl
open PySem.Spec PySem.W PyProof.Rows in
theorem ked_all : ∀ ns ms : List Int, PyData.eqvAll (ns.map PyData.int) (ms.map PyData.int) = decide (ns = ms)
  | [], [] => by simp [PyData.eqvAll]
  | [], _ :: _ => by simp [PyData.eqvAll]
  | _ :: _, [] => by simp [PyData.eqvAll]
  | n :: ns, m :: ms => by
    rw [List.map_cons, List.map_cons, eqv_all_cons, ked_all ns ms]
    by_cases h : n = m <;> simp [PyData.eqv, h]
open PySem.Spec PySem.W PyProof.Rows in
/-- two breakings in order: badness, number of lines, ends -/
theorem lt_nest (a a' n n' : Int) (l l' : List Nat) (M : MH) (Q : QE) (q : Q (.bl (lexB (a :: n :: iL l) (a' :: n' :: iL l'))) M) :
    oLtD (.tup [.int a, .int n, .tup (l.map fun (k : Nat) => D.int k)]) (.tup [.int a', .int n', .tup (l'.map fun (k : Nat) => D.int k)]) M Q := by
  have e : ∀ l : List Nat, (l.map fun (k : Nat) => D.int k) = (iL l).map D.int := fun l => by unfold iL; rw [List.map_map]; rfl
  rw [e, e]
  generalize iL l = xs at q
  generalize iL l' = ys at q
  have pl : ∀ l : List Int, D.pyL (l.map D.int) = l.map PyData.int := by
    intro l
    induction l with
    | nil => rfl
    | cons a r ih => show D.py (.int a) :: D.pyL (r.map D.int) = _; rw [ih]; rfl
  have fl : ∀ l : List Int, D.flatL (l.map D.int) = true := by
    intro l
    induction l with
    | nil => rfl
    | cons a r ih => unfold D.flatL; show (D.flat (.int a) && D.flatL (r.map D.int)) = true; rw [ih]; rfl
  have al : ∀ l m : List Int, alikeAll (l.map PyData.int) (m.map PyData.int) = true := by
    intro l
    induction l with
    | nil => intro m; cases m <;> simp [alikeAll]
    | cons a r ih =>
      intro m
      cases m with
      | nil => simp [alikeAll]
      | cons b s => simp [alikeAll, alike, ih s]
  have dp : ∀ l : List Int, PyData.depthAll (l.map PyData.int) ≤ 1 := by
    intro l
    induction l with
    | nil => simp [PyData.depthAll]
    | cons a r ih => simp [PyData.depthAll, PyData.depth]; omega
  have e1 : ∀ (a n : Int) (xs : List Int), (D.tup [.int a, .int n, .tup (xs.map D.int)]).py = .tuple [.int a, .int n, .tuple (xs.map PyData.int)] := by
    intro a n xs
    show PyData.tuple [.int a, .int n, .tuple (D.pyL _)] = _
    rw [pl]
  have f1 : ∀ (a n : Int) (xs : List Int), (D.tup [.int a, .int n, .tup (xs.map D.int)]).flat = true := by
    intro a n xs
    show (true && (true && (D.flatL (xs.map D.int) && true))) = true
    rw [fl]; rfl
  refine ⟨f1 _ _ _, f1 _ _ _, ?_, ?_, ?_, ?_⟩
  · rw [e1, e1]; simp [alike, alikeAll, al]
  · rw [e1]; exact nofun
  · rw [e1]; have := dp xs; simp [PyData.depth, PyData.depthAll]; omega
  · rw [e1, e1, dataLt_tuple, dataLt_cons (by simp [alike]), dataLt_cons (by simp [alike]), dataLt_cons (by simp [alike, al]), dataLt_int, dataLt_int, dataLt_tuple]
    have hr : PyProof.Rows.lexLt itemOrd (keyToksAll (xs.map PyData.int)) (keyToksAll (ys.map PyData.int)) = decide (xs < ys) := dataLt_ints xs ys
    have hn : PyProof.Rows.lexLt itemOrd (keyToksAll []) (keyToksAll []) = false := PyProof.Rows.lex_irrefl _
    rw [hr, hn, ← lexB_lt]
    have hq : (if PyData.eqv (.tuple (xs.map PyData.int)) (.tuple (ys.map PyData.int)) = true then false else lexB xs ys) = lexB xs ys := by
      split
      · rename_i h
        simp only [PyData.eqv, ked_all, decide_eq_true_eq] at h
        rw [h, lexB_irr]
      · rfl
    rw [hq]
    simp only [PyData.eqv, beq_iff_eq]
    exact q
end K73
namespace K73
open MD L2 PySem Kit Kc
def dueB : Option Rb → D
  | some y => .tup [.int y.2, .int (y.1.length : Int), .tup (y.1.map fun (k : Nat) => D.int k)]
  | none => .non
theorem math__law_due (ds M Q E) (hM : WFM M) (hb : D.belL M.length ds = true) (h : sp__law_due ds M Q E) : r__law_due (retE M.length Q E) (startD N__law_due ds) M := by
  obtain ⟨L, rfl, ok, q⟩ := h
  have lns0 : ∀ (y : Str), linesD L = D.str y → y.length ≤ sizeLine := fun _ => nofun
  unfold r__law_due
  refine seq_step fun S hS => ?_
  simp [startD]
  refine ⟨_, rfl, lns0, ?_⟩
  rw [List.length_map]
  by_cases h12 : (12 : Int) < (L.length : Int)
  · rw [if_pos h12]
    refine ⟨L, rfl, ok, ?_⟩
    simp
    rw [popM_same (Nat.le_refl _)]
    exact q
  · rw [if_neg h12]
    subst hS
    refine seq_step fun S hS => ?_
    simp
    subst hS
    refine seq_step fun S hS => ?_
    simp
    refine ⟨L, 0, rfl, ok, by omega, by omega, ?_⟩
    show forL _ _ _ _ _ _ _
    rw [show brk L (L.length - 0) 0 = Bx L 0 from rfl]
    have hel := Bx_el ok 0 (Nat.zero_le _)
    have hfo := fold_opt ok (Nat.zero_le _)
    generalize Bx L 0 = ys0 at hel hfo
    refine forL_ind (fun ds δ M' => ∃ (ys : List Rb) (acc : Option Rb) (a b c : Option D), ds = ys.map brkD ∧ (∀ y ∈ ys, y.1.length ≤ L.length - 0) ∧ ys.foldl pickB acc = ys0.foldl pickB none ∧
      δ = [some (linesD L), some (dueB acc), a, b, c] ∧ M' = M) ?_ ?_ _ _ _ ⟨ys0, none, _, _, _, rfl, hel, rfl, rfl, rfl⟩
    · rintro δ M' ⟨ys, acc, a, b, c, e, _, hacc, rfl, rfl⟩
      have : ys = [] := by cases ys with | nil => rfl | cons => cases e
      subst this
      have hacc : acc = _ := hacc
      rw [← hacc] at hfo
      refine ⟨trivial, ?_⟩
      show S _ _ _
      subst hS
      cases acc with
      | none =>
        simp [dueB]
        rw [popM_same (Nat.le_refl _), show D.non = outB none from rfl, hfo]
        exact q
      | some y =>
        simp [dueB]
        refine ⟨by rw [hz]; decide, ?_⟩
        rw [popM_same (Nat.le_refl _), show D.tup [D.int y.2, D.tup (List.map (fun (k : Nat) => D.int k) y.1)] = outB (some y) from rfl, hfo]
        exact q
    · rintro d rest δ M' F ⟨ys, acc, a, b, c, e, hys, hacc, rfl, rfl⟩ hF
      refine ⟨trivial, ?_⟩
      obtain ⟨y, ys, rfl⟩ : ∃ k js2, ys = k :: js2 := by
        cases ys with
        | nil => cases e
        | cons k r => exact ⟨k, r, rfl⟩
      rw [List.map_cons] at e
      cases e
      rw [List.foldl_cons] at hacc
      have hmine : D.tup [D.int y.2, D.int (y.1.length : Int), D.tup (List.map (fun (k : Nat) => D.int k) y.1)] = dueB (some y) := rfl
      have done : ∀ (t : Option D) (u v : Option D) (acc2 : Option Rb), acc2 = pickB acc y → F [some (linesD L), some (dueB acc2), u, v, t] M' := fun t u v acc2 e =>
        hF _ _ ⟨ys, acc2, u, v, t, rfl, fun z hz => hys z (List.mem_cons_of_mem _ hz), by rw [e]; exact hacc, rfl, rfl⟩
      cases acc with
      | none =>
        simp [brkD, dueB]
        refine ⟨by rw [hz]; decide, ?_⟩
        rw [hmine]
        exact done _ _ _ (some y) rfl
      | some a =>
        have hlt := lt_nest y.2 a.2 y.1.length a.1.length y.1 a.1 M' (fun v _ => v = .bl (lexB (kB y) (kB a))) rfl
        simp at hlt
        obtain ⟨u1, u2, u3, u4, u5, u6⟩ := hlt
        simp [brkD, dueB]
        refine ⟨by rw [hz]; decide, u1, u2, u3, u4, u5, ?_⟩
        rw [u6]
        split
        · rename_i h
          rw [hmine]
          exact done _ _ _ (some y) (by unfold pickB; simp only; rw [if_pos h])
        · rename_i h
          exact done _ _ _ (some a) (by unfold pickB; simp only; rw [if_neg h])
end K73
namespace K73
open MD L2 PySem Kit Kc
theorem fr_cop' {n d : Int} (h : 0 < d) : Int.gcd (fr n d).1 (fr n d).2 = 1 := by
  have h2 := fr_den (n := n) (d := d) (by omega)
  have this := fr_fr (n := n) h
  generalize fr n d = p at h2 this
  rw [fr_pos h2] at this
  have e : p.2 / (Int.gcd p.1 p.2 : Int) = p.2 := congrArg Prod.snd this
  have e2 : (Int.gcd p.1 p.2 : Int) * (p.2 / (Int.gcd p.1 p.2 : Int)) = p.2 := Int.mul_ediv_cancel' (gcd_dvd_r p.1 p.2)
  rw [e] at e2
  have e3 : (Int.gcd p.1 p.2 : Int) * p.2 = 1 * p.2 := by rw [e2, Int.one_mul]
  have := Int.eq_of_mul_eq_mul_right (by omega) e3
  omega
theorem ok_fr {n d : Int} (h0 : 0 ≤ n) (h1 : n ≤ 1000000) (h2 : 0 < d) (h3 : d ≤ 1000) : okPart (fr n d) := by
  have hg : 0 < Int.gcd n d := Int.gcd_pos_of_ne_zero_right _ (by omega)
  have e1 : (fr n d).1 = n / (Int.gcd n d : Int) := by rw [fr_pos h2]
  have e2 : (fr n d).2 = d / (Int.gcd n d : Int) := by rw [fr_pos h2]
  have l1 : n / (Int.gcd n d : Int) ≤ n := Int.ediv_le_self _ h0
  have l2 : d / (Int.gcd n d : Int) ≤ d := Int.ediv_le_self _ (by omega)
  have l3 : 0 ≤ n / (Int.gcd n d : Int) := Int.ediv_nonneg h0 (by omega)
  refine ⟨fr_den (by omega), by rw [e2]; omega, by rw [e1]; exact l3, by rw [e1]; omega, ?_⟩
  exact fr_cop' h2
theorem ok_whole {n : Int} (h0 : 0 ≤ n) (h1 : n ≤ 1000000) : okPart (n, 1) := ⟨by show (0:Int) < 1; decide, by show (1:Int) ≤ 1000; decide, h0, h1, by simp⟩
theorem fr_less {m n d : Int} (h : m ≤ n) (h2 : 0 < d) : (fr m d).1 * (fr n d).2 ≤ (fr n d).1 * (fr m d).2 := by
  have e1 := fr_mul (n := m) h2
  have e2 := fr_mul (n := n) h2
  have p1 : 0 < (fr m d).2 := fr_den (by omega)
  have p2 : 0 < (fr n d).2 := fr_den (by omega)
  refine Int.le_of_mul_le_mul_right ?_ h2
  have e3 : (fr m d).1 * (fr n d).2 * d = m * ((fr m d).2 * (fr n d).2) := by
    rw [Int.mul_right_comm, e1, Int.mul_assoc]
  have e4 : (fr n d).1 * (fr m d).2 * d = n * ((fr m d).2 * (fr n d).2) := by
    rw [Int.mul_right_comm, e2, Int.mul_assoc, Int.mul_comm (fr n d).2]
  rw [e3, e4]
  exact Int.mul_le_mul_of_nonneg_right h (Int.le_of_lt (Int.mul_pos p1 p2))
theorem bg_le {x : Int} {k : Nat} (h0 : 0 ≤ x) (h : x < 2 ^ 20) (hk : 20 ≤ k := by decide) : Bg k x := by
  have : Bg 20 x := by show x.natAbs < 2 ^ 20; omega
  exact this.mono hk
theorem math__law_piece (ds M Q E) (hM : WFM M) (hb : D.belL M.length ds = true) (h : sp__law_piece ds M Q E) : r__law_piece (retE M.length Q E) (startD N__law_piece ds) M := by
  obtain ⟨p, k, rfl, hp, q⟩ := h
  have cp : CPow 10 6 := ⟨by decide, by decide, by decide⟩
  have hpl := hp.lt
  have fin : ∀ (pc : Piece) M', okPiece pc → Step p M M' → (retE M.length Q E).rt (pcD pc) M' := by
    intro pc M' h1 st
    show Q _ (popM _ _ _)
    rw [popM_same (by rw [st.length]; exact Nat.le_refl _)]
    exact q _ _ h1 st
  unfold r__law_piece
  refine seq_step fun S hS => ?_
  simp [startD]
  by_cases h0 : k = 0
  · rw [if_pos h0]
    refine ⟨p, 9, rfl, by decide, by decide, hp, fun r1 M1 a1 b1 c1 => ?_⟩
    simp
    refine ⟨by rw [hz]; decide, p, 4, rfl, by decide, by decide, c1.2, fun r2 M2 a2 b2 c2 => ?_⟩
    refine ⟨by rw [hz]; decide, p, 2, rfl, by decide, by decide, c2.2, fun r3 M3 a3 b3 c3 => ?_⟩
    have s3 := (c1.trans c2).trans c3
    by_cases h3 : r3 = 0
    · simp [h3]
      refine ⟨p, 1 + r1 + 1, rfl, by omega, by omega, c3.2, fun r4 M4 a4 b4 c4 => ?_⟩
      refine ⟨by rw [hz]; decide, by rw [hz]; decide, fin ((1 + r1, 1), (r2, 1), (r4, 1)) M4 ⟨ok_whole (by omega) (by omega), ok_whole a2 (by omega), ok_whole a4 (by omega), ?_⟩ (s3.trans c4)⟩
      show r4 * 1 ≤ (1 + r1) * 1
      omega
    · simp [h3]
      refine ⟨by rw [hz]; decide, by rw [hz]; decide, fin ((1 + r1, 1), (r2, 1), (0, 1)) M3 ⟨ok_whole (by omega) (by omega), ok_whole a2 (by omega), ok_whole (by omega) (by omega), ?_⟩ s3⟩
      show (0 : Int) * 1 ≤ (1 + r1) * 1
      omega
  · rw [if_neg h0]
    subst hS
    refine seq_step fun S hS => ?_
    simp
    by_cases h1 : k = 1
    · rw [if_pos h1]
      refine ⟨p, 12, rfl, by decide, by decide, hp, fun r1 M1 a1 b1 c1 => ?_⟩
      simp
      refine ⟨p, 40, rfl, by decide, by decide, c1.2, fun r2 M2 a2 b2 c2 => ?_⟩
      refine ⟨p, r2 + 1, rfl, by omega, by omega, c2.2, fun r3 M3 a3 b3 c3 => ?_⟩
      refine ⟨p, 20, rfl, by decide, by decide, c3.2, fun r4 M4 a4 b4 c4 => ?_⟩
      refine ⟨p, 12, rfl, by decide, by decide, c4.2, fun r5 M5 a5 b5 c5 => ?_⟩
      refine ⟨r4, 1 + r5, rfl, by omega, bg_le a4 (by omega), bg_le (by omega) (by omega), .inl (bg_le a4 (by omega)), ?_⟩
      refine ⟨r2, 1 + r1, rfl, by omega, bg_le a2 (by omega), bg_le (by omega) (by omega), .inl (bg_le a2 (by omega)), ?_⟩
      refine ⟨r3, 1 + r1, rfl, by omega, bg_le a3 (by omega), bg_le (by omega) (by omega), .inl (bg_le a3 (by omega)), ?_⟩
      refine ⟨by rw [hz]; decide, fin (fr r2 (1 + r1), fr r4 (1 + r5), fr r3 (1 + r1)) M5 ⟨ok_fr a2 (by omega) (by omega) (by omega), ok_fr a4 (by omega) (by omega) (by omega), ok_fr a3 (by omega) (by omega) (by omega), fr_less (by omega) (by omega)⟩ ((((c1.trans c2).trans c3).trans c4).trans c5)⟩
    · rw [if_neg h1]
      subst hS
      refine seq_step fun S hS => ?_
      simp
      refine ⟨p, 1000, rfl, by decide, by decide, hp, fun r1 M1 a1 b1 c1 => ?_⟩
      subst hS
      simp
      refine ⟨cp, p, 1000001, rfl, by decide, by decide, c1.2, fun r2 M2 a2 b2 c2 => ?_⟩
      simp
      refine ⟨p, r2 + 1, rfl, by omega, by omega, c2.2, fun r3 M3 a3 b3 c3 => ?_⟩
      refine ⟨r2, 1 + r1, rfl, by omega, bg_le a2 (by omega), bg_le (by omega) (by omega), .inl (bg_le a2 (by omega)), ?_⟩
      refine ⟨cp, p, 1000001, rfl, by decide, by decide, c3.2, fun r4 M4 a4 b4 c4 => ?_⟩
      refine ⟨p, 1000, rfl, by decide, by decide, c4.2, fun r5 M5 a5 b5 c5 => ?_⟩
      refine ⟨r4, 1 + r5, rfl, by omega, bg_le a4 (by omega), bg_le (by omega) (by omega), .inl (bg_le a4 (by omega)), ?_⟩
      refine ⟨r3, 1 + r1, rfl, by omega, bg_le a3 (by omega), bg_le (by omega) (by omega), .inl (bg_le a3 (by omega)), ?_⟩
      refine ⟨by rw [hz]; decide, fin (fr r2 (1 + r1), fr r4 (1 + r5), fr r3 (1 + r1)) M5 ⟨ok_fr a2 (by omega) (by omega) (by omega), ok_fr a4 (by omega) (by omega) (by omega), ok_fr a3 (by omega) (by omega) (by omega), fr_less (by omega) (by omega)⟩ ((((c1.trans c2).trans c3).trans c4).trans c5)⟩
end K73
namespace K73
open MD L2 PySem Kit Kc
theorem math__law_pieces (ds M Q E) (hM : WFM M) (hb : D.belL M.length ds = true) (h : sp__law_pieces ds M Q E) : r__law_pieces (retE M.length Q E) (startD N__law_pieces ds) M := by
  obtain ⟨p, n, rfl, hp, hn1, hn2, q⟩ := h
  have hpl := hp.lt
  unfold r__law_pieces
  refine seq_step fun S hS => ?_
  simp [startD]
  refine ⟨p, 3, rfl, by decide, by decide, hp, fun r1 M1 a1 b1 c1 => ?_⟩
  subst hS
  refine seq_step fun S hS => ?_
  simp
  refine ⟨p, 3, rfl, by decide, by decide, c1.2, fun r2 M2 a2 b2 c2 => ?_⟩
  have s2 := c1.trans c2
  subst hS
  refine seq_step fun S hS => ?_
  simp
  subst hS
  refine seq_step fun S hS => ?_
  simp
  refine ⟨by omega, ?_⟩
  refine forR_ind (fun i δ M' => Step p M M' ∧ ∃ (ps : List Piece) (a b : Option D), δ = [some (.ref p), some (.int (n : Int)), some (.int r1), some (.int r2), some (pcsD ps), a, b] ∧ ps.length = i ∧ ∀ x ∈ ps, okPiece x) ?_ ?_ ⟨s2, [], _, _, rfl, rfl, nofun⟩
  · rintro δ M' ⟨st, ps, a, b, rfl, hl, hps⟩
    refine ⟨trivial, ?_⟩
    show S _ _ _
    subst hS
    simp
    rw [popM_same (by rw [st.length]; exact Nat.le_refl _)]
    exact q ps M' hl ⟨by omega, by omega, hps⟩ st
  · rintro i δ M' F hi ⟨st, ps, a, b, rfl, hl, hps⟩ hF
    refine ⟨trivial, ?_⟩
    refine seq_step fun S2 hS2 => ?_
    simp
    refine ⟨p, r1, rfl, st.2, fun pc M3 okp c3 => ?_⟩
    have s3 := st.trans c3
    have pq : ∀ (x : Piece) (M : MH), seqOf (pcD x) M = some [MD.prD x.1, MD.prD x.2.1, MD.prD x.2.2] := fun _ _ => rfl
    have pn : ∀ (x : Piece) (z : Str), pcD x ≠ .str z := fun _ _ => nofun
    have fin : ∀ (acc : List D) (x : Piece) M4 (a : Option D), acc = ps.map pcD ++ [pcD x] → okPiece x → Step p M M4 → F [some (.ref p), some (.int (n : Int)), some (.int r1), some (.int r2), some (.tup acc), some (.int (i : Int)), a] M4 := by
      intro acc x M4 a e okx s4
      refine hF _ _ ⟨s4, ps ++ [x], _, _, by rw [e]; unfold pcsD; rw [List.map_append]; rfl, by simp [hl], fun y hy => ?_⟩
      rcases List.mem_append.mp hy with hy | hy
      · exact hps y hy
      · rw [List.mem_singleton.mp hy]; exact okx
    have okz : okPiece (pc.1, (0, 1), pc.2.2) := ⟨okp.1, ok_whole (by omega) (by omega), okp.2.2.1, okp.2.2.2⟩
    subst hS2
    refine seq_step fun S2 hS2 => ?_
    simp
    have last : ∀ (x : Piece) M4, okPiece x → Step p M M4 → S2 { nx := F, rt := (retE M.length Q E).rt, bk := S (retE M.length Q E), ct := F, ex := (retE M.length Q E).ex } [some (.ref p), some (.int (n : Int)), some (.int r1), some (.int r2), some (pcsD ps), some (.int (i : Int)), some (pcD x)] M4 := by
      intro x M4 okx s4
      subst hS2
      simp [pcsD]
      refine ⟨by rw [hz]; decide, by rw [hz]; omega, ?_⟩
      exact fin _ x M4 _ rfl okx s4
    by_cases h2 : r2 = 0
    · rw [if_pos h2]
      refine ⟨p, 2, rfl, by decide, by decide, c3.2, fun r3 M4 a3 b3 c4 => ?_⟩
      simp [pq, pn]
      by_cases h3 : r3 = 0
      · rw [if_pos h3]
        refine ⟨by rw [hz]; decide, by rw [hz]; decide, ?_⟩
        exact last _ M4 okz (s3.trans c4)
      · rw [if_neg h3]
        exact last _ M4 okp (s3.trans c4)
    · rw [if_neg h2]
      exact last _ M3 okp s3
end K73
namespace K73
open MD L2 PySem Kit Kc
theorem bg_le22 {x : Int} {k : Nat} (h0 : 0 ≤ x) (h : x < 2 ^ 22) (hk : 22 ≤ k := by decide) : Bg k x := by
  have : Bg 22 x := by show x.natAbs < 2 ^ 22; omega
  exact this.mono hk
theorem fdiv_pos {a b : Int} (h : 0 < b) : a.fdiv b = a / b := Int.fdiv_eq_ediv_of_nonneg a (Int.le_of_lt h)
def Wk (N : Int) (p : Part) : Prop := 0 < p.2 ∧ p.2 ≤ 1000 ∧ 0 ≤ p.1 ∧ p.1 ≤ N ∧ Int.gcd p.1 p.2 = 1
theorem math__law_room (ds M Q E) (hM : WFM M) (hb : D.belL M.length ds = true) (h : sp__law_room ds M Q E) : r__law_room (retE M.length Q E) (startD N__law_room ds) M := by
  obtain ⟨p, ps, m, rfl, hp, ok, hm1, hm2, q⟩ := h
  have hpl := hp.lt
  have cp : CPow 10 6 := ⟨by decide, by decide, by decide⟩
  have lps : ∀ (y : Str), pcsD ps = D.str y → y.length ≤ sizeLine := fun _ => nofun
  unfold r__law_room
  refine seq_step fun S hS => ?_
  simp [startD]
  refine ⟨_, rfl, lps, p, ps.length, by rw [List.length_map], by have := ok.1; omega, by have := ok.2.1; omega, hp, fun r1 M1 a1 b1 c1 => ?_⟩
  subst hS
  refine seq_step fun S hS => ?_
  simp
  refine ⟨by rw [hz]; decide, ?_⟩
  subst hS
  refine seq_step fun S hS => ?_
  simp
  refine ⟨p, m, rfl, by omega, by omega, c1.2, fun r2 M2 a2 b2 c2 => ?_⟩
  have s2 := c1.trans c2
  show oAdd false (D.int (r1 + 1)) (.int r2) M2 _
  simp
  show forL _ _ _ _ _ _ _
  refine forL_ind (fun ds δ M' => Step p M M' ∧ ∃ (t : Part) (a b : Option D), δ = [some (.ref p), some (pcsD ps), some (.int m), some (.int r1), some (MD.prD t), a, none, b] ∧ okPart t ∧ ∀ d ∈ ds, ∃ x : Piece, d = pcD x ∧ okPiece x) ?_ ?_ _ _ _ ⟨s2, (0, 1), _, _, rfl, ok_whole (by omega) (by omega), fun d hd => ?_⟩
  · rintro δ M3 ⟨st, t, a, b, rfl, okt, _⟩
    refine ⟨trivial, ?_⟩
    show S _ _ _
    subst hS
    refine seq_step fun S hS => ?_
    simp
    refine ⟨p, 4, rfl, by decide, by decide, st.2, fun r3 M4 a3 b3 c3 => ?_⟩
    have s4 := st.trans c3
    subst hS
    refine seq_step fun S hS => ?_
    have pq : ∀ (x : Part) (M : MH), seqOf (MD.prD x) M = some [.int x.1, .int x.2] := fun _ _ => rfl
    have pn : ∀ (x : Part) (z : Str), MD.prD x ≠ .str z := fun _ _ => nofun
    have fin : ∀ (ρ : Part) M', okRoom ρ → Step p M M' → Q (MD.prD ρ) (popM M.length (MD.prD ρ) M') := by
      intro ρ M' h1 st
      rw [popM_same (by rw [st.length]; exact Nat.le_refl _)]
      exact q _ _ h1 st
    have st2 : ∀ (t : Part) (M' : MH) (a b c : Option D), Wk 1000002 t → Step p M M' → S (retE M.length Q E) [some (.ref p), some (pcsD ps), some (.int m), some (.int r1), some (MD.prD t), a, some (.int r3), b] M' := by
      intro t M' a b c okt st
      obtain ⟨w1, w2, w3, w4, w5⟩ := okt
      subst hS
      refine seq_step fun S hS => ?_
      have st3 : ∀ (t : Part) (M' : MH) (a b : Option D), Wk 3000000 t → Step p M M' → S (retE M.length Q E) [some (.ref p), some (pcsD ps), some (.int m), some (.int r1), some (MD.prD t), a, some (.int r3), b] M' := by
        intro t M' a b okt st
        obtain ⟨w1, w2, w3, w4, w5⟩ := okt
        subst hS
        refine seq_step fun S hS => ?_
        have st4 : ∀ b, 0 < t.1 → t.1 ≤ 1000000 → S (retE M.length Q E) [some (.ref p), some (pcsD ps), some (.int m), some (.int r1), some (MD.prD t), a, some (.int r3), b] M' := by
          intro b h1 h2
          subst hS
          simp
          exact fin t M' ⟨⟨w1, w2, w3, h2, w5⟩, by omega⟩ st
        simp [pq, pn, cp]
        have one : (2 : Nat) ≤ sizeLine ∧ Q (.tup [.int 1, .int 1]) (popM M.length (.tup [.int 1, .int 1]) M') := ⟨by rw [hz]; decide, fin (1, 1) M' ⟨ok_whole (by omega) (by omega), by decide⟩ st⟩
        by_cases h1 : t.1 = 0
        · rw [if_pos h1]; exact one
        · rw [if_neg h1]
          by_cases h2 : 1000000 < t.1
          · rw [if_pos h2]; exact one
          · rw [if_neg h2]; exact st4 _ (by omega) (by omega)
      simp [pq, pn, cp]
      by_cases h3 : r3 = 1
      · rw [if_pos h3]
        by_cases h2 : t.2 = 1
        · rw [if_pos h2]
          refine ⟨mulOk_l (by omega), 2 * t.1 + 1, 2, rfl, by decide, bg_le22 (by omega) (by omega), bg_le (by omega) (by omega), .inr (bg_le (by omega) (by omega)), ?_⟩
          have hfr : (fr (2 * t.1 + 1) 2).1 ≤ 2 * t.1 + 1 ∧ 0 ≤ (fr (2 * t.1 + 1) 2).1 ∧ (fr (2 * t.1 + 1) 2).2 ≤ 2 := by
            rw [fr_pos (by decide)]
            exact ⟨Int.ediv_le_self _ (by omega), Int.ediv_nonneg (by omega) (by omega), Int.ediv_le_self _ (by omega)⟩
          exact st3 _ M' _ _ ⟨fr_den (by decide), by omega, hfr.2.1, by omega, fr_cop' (by decide)⟩ st
        · rw [if_neg h2]
          exact st3 t M' _ _ ⟨w1, w2, w3, by omega, w5⟩ st
      · rw [if_neg h3]
        exact st3 t M' _ _ ⟨w1, w2, w3, by omega, w5⟩ st
    simp [pq, pn]
    obtain ⟨o1, o2, o3, o4, o5⟩ := okt
    by_cases h3 : r3 = 0
    · rw [if_pos h3]
      refine ⟨divOk_of o1 (by omega), p, 3, rfl, by decide, by decide, c3.2, fun r4 M5 a4 b4 c4 => ?_⟩
      rw [fdiv_pos o1]
      simp
      refine ⟨by rw [hz]; decide, ?_⟩
      have l1 : t.1 / t.2 ≤ t.1 := Int.ediv_le_self _ o3
      have l2 : 0 ≤ t.1 / t.2 := Int.ediv_nonneg o3 (by omega)
      exact st2 (t.1 / t.2 + r4, 1) M5 _ _ none ⟨by show (0 : Int) < 1; decide, by show (1 : Int) ≤ 1000; decide, by show 0 ≤ t.1 / t.2 + r4; omega, by show t.1 / t.2 + r4 ≤ 1000002; omega, by simp⟩ (s4.trans c4)
    · rw [if_neg h3]
      exact st2 t M4 _ _ none ⟨o1, o2, o3, by omega, o5⟩ s4
  · rintro d rest δ M3 F ⟨st, t, a, b, rfl, okt, hds⟩ hF
    refine ⟨trivial, ?_⟩
    obtain ⟨x, rfl, okx⟩ := hds d List.mem_cons_self
    refine seq_step fun S2 hS2 => ?_
    have pq : ∀ (x : Part) (M : MH), seqOf (MD.prD x) M = some [.int x.1, .int x.2] := fun _ _ => rfl
    have pn : ∀ (x : Part) (z : Str), MD.prD x ≠ .str z := fun _ _ => nofun
    have cq : ∀ (x : Piece) (M : MH), seqOf (pcD x) M = some [MD.prD x.1, MD.prD x.2.1, MD.prD x.2.2] := fun _ _ => rfl
    have cn : ∀ (x : Piece) (z : Str), pcD x ≠ .str z := fun _ _ => nofun
    simp [cq, cn]
    refine ⟨_, _, t.1, t.2, x.1.1, x.1.2, rfl, .inl rfl, .inl rfl, okt.1, okx.1.1, ⟨20, 20, by decide, bg_le okt.2.2.1 (by have := okt.2.2.2.1; omega), bg_le (by have := okt.1; omega) (by have := okt.2.1; omega), bg_le okx.1.2.2.1 (by have := okx.1.2.2.2.1; omega), bg_le (by have := okx.1.1; omega) (by have := okx.1.2.1; omega)⟩, ?_⟩
    have hpos : 0 < t.2 * x.1.2 := Int.mul_pos okt.1 okx.1.1
    have hnn : 0 ≤ t.1 * x.1.2 + x.1.1 * t.2 := Int.add_nonneg (Int.mul_nonneg okt.2.2.1 (Int.le_of_lt okx.1.1)) (Int.mul_nonneg okx.1.2.2.1 (Int.le_of_lt okt.1))
    have hfr : 0 ≤ (fr (t.1 * x.1.2 + x.1.1 * t.2) (t.2 * x.1.2)).1 := by
      rw [fr_pos hpos]
      exact Int.ediv_nonneg hnn (by omega)
    have hco := fr_cop' (n := t.1 * x.1.2 + x.1.1 * t.2) hpos
    have hde := fr_den (n := t.1 * x.1.2 + x.1.1 * t.2) (Int.ne_of_gt hpos)
    unfold sumD
    generalize fr (t.1 * x.1.2 + x.1.1 * t.2) (t.2 * x.1.2) = u at hfr hco hde ⊢
    have keep : ∀ (t : Part) a b, okPart t → F [some (.ref p), some (pcsD ps), some (.int m), some (.int r1), some (MD.prD t), a, none, b] M3 := fun t a b okt =>
      hF _ _ ⟨st, t, a, b, rfl, okt, fun d hd => hds d (List.mem_cons_of_mem _ hd)⟩
    subst hS2
    simp [pq, pn, cp]
    by_cases u1 : u.1 ≤ 1000000
    · rw [if_pos u1]
      by_cases u2 : u.2 ≤ 1000
      · rw [if_pos u2]
        exact keep u _ _ ⟨hde, u2, hfr, u1, hco⟩
      · rw [if_neg u2]
        exact keep t _ _ okt
    · rw [if_neg u1]
      exact keep t _ _ okt
  · unfold cutD at hd
    have hd := List.mem_of_mem_drop (List.mem_of_mem_take hd)
    obtain ⟨x, hx, rfl⟩ := List.mem_map.mp hd
    exact ⟨x, rfl, ok.2.2 x hx⟩
end K73
namespace K73
open MD L2 PySem Kit Kc
theorem math__law_amounts (ds M Q E) (hM : WFM M) (hb : D.belL M.length ds = true) (h : sp__law_amounts ds M Q E) : r__law_amounts (retE M.length Q E) (startD N__law_amounts ds) M := by
  obtain ⟨p, rfl, hp, q⟩ := h
  have hpl := hp.lt
  unfold r__law_amounts
  simp [startD]
  refine ⟨p, 7, rfl, by decide, by decide, hp, fun r1 M1 a1 b1 c1 => ?_⟩
  simp
  refine ⟨by rw [hz]; decide, p, 12, rfl, by decide, by decide, c1.2, fun r2 M2 a2 b2 c2 => ?_⟩
  simp
  refine ⟨by rw [hz]; decide, p, 40, rfl, by decide, by decide, c2.2, fun r3 M3 a3 b3 c3 => ?_⟩
  simp
  refine ⟨by rw [hz]; decide, by rw [hz]; decide, ?_⟩
  refine ⟨p, _, _, rfl, c3.2, nofun, rfl, fun _ _ => rfl, nofun, by show 4 ≤ 1000000; decide, fun d M4 hd c4 => ?_⟩
  have s4 := ((c1.trans c2).trans c3).trans c4
  have fin : ∀ a b : Int, 1 ≤ a → a ≤ 400 → 1 ≤ b → b ≤ 9 → (retE M.length Q E).rt (.tup [.int a, .int b]) M4 := fun a b h1 h2 h3 h4 => by
    show Q _ (popM _ _ _)
    rw [popM_same (by rw [s4.length]; exact Nat.le_refl _)]
    have := q a.toNat b.toNat M4 (by omega) (by omega) (by omega) (by omega) s4
    rwa [Int.toNat_of_nonneg (by omega), Int.toNat_of_nonneg (by omega)] at this
  simp only [List.mem_cons, List.not_mem_nil, or_false] at hd
  rcases hd with rfl | rfl | rfl | rfl
  · exact fin _ _ (by omega) (by omega) (by omega) (by omega)
  · exact fin _ _ (by omega) (by omega) (by omega) (by omega)
  · exact fin _ _ (by omega) (by omega) (by omega) (by omega)
  · exact fin _ _ (by omega) (by omega) (by omega) (by omega)
end K73
namespace K73
open MD L2 PySem Kit Kc
theorem path_next {L : LN} (ok : LLok L) {i : Nat} {r : Brk} (hi : i < L.length) (h : opt L i = some r) : ∃ j r', opt L j = some r' ∧ r.2.2 = j :: r'.2.2 ∧ i < j ∧ j ≤ L.length ∧ hd r = j := by
  rcases opt_path ok (Nat.le_of_lt hi) h with ⟨h, _⟩ | ⟨_, x, _, r', h1, e, h2, h3⟩
  · omega
  · exact ⟨x.1, r', h1, by rw [e]; rfl, h2, h3, by rw [e]; rfl⟩
theorem path_end {L : LN} {r : Brk} (h : opt L L.length = some r) : r.2.2 = [] := by
  rw [opt_end] at h
  cases h
  rfl
/-- a best breaking with its next stop -/
def tri3 : Option Brk → D
  | some r => .tup [.int r.1, .int r.2.1, .int (hd r : Int)]
  | none => .non
def rest3 (L : LN) (i : Nat) : List D := (List.range L.length).map (fun j => if i ≤ j then tri3 (opt L j) else .non) ++ [.tup [.int 0, .int 0, .tup []]]
theorem rest3_len {L : LN} {i : Nat} : (rest3 L i).length = L.length + 1 := by unfold rest3; simp
theorem rest3_at {L : LN} {i j : Nat} (h : i ≤ j) (h2 : j < L.length) : (rest3 L i)[j]? = some (tri3 (opt L j)) := by
  unfold rest3
  rw [List.getElem?_append_left (by simpa using h2), List.getElem?_map, List.getElem?_range h2]
  show some (if i ≤ j then _ else _) = _
  rw [if_pos h]
theorem rest3_last {L : LN} {i : Nat} : (rest3 L i)[L.length]? = some (.tup [.int 0, .int 0, .tup []]) := by
  unfold rest3
  rw [List.getElem?_append_right (by simp)]
  simp
theorem rest3_top {L : LN} : rest3 L L.length = List.replicate L.length .non ++ [.tup [.int 0, .int 0, .tup []]] := by
  unfold rest3
  congr 1
  apply List.ext_getElem?
  intro j
  by_cases h : j < L.length
  · rw [List.getElem?_map, List.getElem?_range h, List.getElem?_replicate, if_pos h]
    show some (if _ then _ else _) = _
    rw [if_neg (by omega)]
  · rw [List.getElem?_eq_none (by simpa using h), List.getElem?_eq_none (by simpa using h)]
theorem rest3_set {L : LN} {i : Nat} (h : i < L.length) : (rest3 L (i + 1)).set i (tri3 (opt L i)) = rest3 L i := by
  unfold rest3
  rw [List.set_append_left _ _ (by simpa using h)]
  congr 1
  apply List.ext_getElem?
  intro j
  by_cases hj : j < L.length
  · rw [List.getElem?_set, List.getElem?_map, List.getElem?_map, List.getElem?_range hj]
    by_cases e : i = j
    · subst e
      rw [if_pos rfl, if_pos (by simpa using h)]
      show _ = some (if i ≤ i then _ else _)
      rw [if_pos (Nat.le_refl _)]
    · rw [if_neg e]
      show some (if i + 1 ≤ j then _ else _) = some (if i ≤ j then _ else _)
      by_cases h2 : i ≤ j
      · rw [if_pos h2, if_pos (by omega)]
      · rw [if_neg h2, if_neg (by omega)]
  · rw [List.getElem?_eq_none (by simpa using hj), List.getElem?_eq_none (by simpa using hj)]
theorem rest3_get {L : LN} {i j : Nat} (h : i ≤ j) (h2 : j ≤ L.length) : (opt L j = none → (rest3 L i)[j]? = some .non) ∧ ∀ r, opt L j = some r → ∃ t, (rest3 L i)[j]? = some (.tup [.int r.1, .int r.2.1, t]) := by
  by_cases e : j = L.length
  · rw [e, opt_end]
    exact ⟨nofun, fun r hr => by cases hr; exact ⟨_, rest3_last⟩⟩
  · have := rest3_at h (show j < L.length by omega)
    exact ⟨fun h => by rw [this, h]; rfl, fun r hr => ⟨_, by rw [this, hr]; rfl⟩⟩
theorem atI_nat {α : Type} {xs : List α} {j : Nat} {x : α} (h : xs[j]? = some x) : atI xs (j : Int) = some x := atI_n (by omega) (by rw [Int.toNat_natCast]; exact h)
theorem ixN_nat {n i : Nat} (h : i < n) : ixN n (i : Int) = some i := by
  rw [ixN_n (by omega) (by omega)]; simp
theorem rangeC_cons {lo c : Int} {k : Nat} : rangeC lo c (k + 1) = .int lo :: rangeC (lo + c) c k := by
  unfold rangeC
  rw [List.range_succ_eq_map, List.map_cons, List.map_map]
  congr 1
  · show D.int (lo + ((0 : Nat) : Int) * c) = _
    congr 1
    omega
  · refine List.map_congr_left fun i _ => ?_
    show D.int (lo + ((i + 1 : Nat) : Int) * c) = D.int (lo + c + (i : Int) * c)
    congr 1
    have : ((i + 1 : Nat) : Int) * c = (i : Int) * c + c := by rw [Int.natCast_add, Int.add_mul]; simp
    omega
/-- a walk from the last to the first -/
theorem down_ind {g : TG'} {tb : TS'} {DD : Ends'} (P : Nat → EnvD → MH → Prop) {n : Nat} (h0 : ∀ δ M, P 0 δ M → DD.nx δ M)
    (hs : ∀ (i : Nat) δ M (F : EnvD → MH → Prop), i < n → P (i + 1) δ M → (∀ δ' M', P i δ' M' → F δ' M') → g (.int (i : Int)) δ M (fun δ1 M1 => tb { DD with nx := F, ct := F, bk := DD.nx } δ1 M1)) {δ : EnvD} {M : MH} (h : P n δ M) :
    forL ⟨rangeC ((n : Int) - 1) (-1) n, none⟩ g tb DD (rangeC ((n : Int) - 1) (-1) n) δ M := by
  refine forL_ind (fun ds δ M => ∃ i, i ≤ n ∧ ds = rangeC ((i : Int) - 1) (-1) i ∧ P i δ M) ?_ ?_ _ _ _ ⟨n, Nat.le_refl _, rfl, h⟩
  · rintro δ M ⟨i, _, e, hp⟩
    have : i = 0 := by
      cases i with
      | zero => rfl
      | succ i => rw [rangeC_cons] at e; cases e
    subst this
    exact ⟨trivial, h0 _ _ hp⟩
  · rintro d r δ M F ⟨i, hi, e, hp⟩ hF
    obtain ⟨i, rfl⟩ : ∃ j, i = j + 1 := by
      cases i with
      | zero => cases e
      | succ i => exact ⟨i, rfl⟩
    rw [rangeC_cons] at e
    have e1 : ((i + 1 : Nat) : Int) - 1 = (i : Int) := by omega
    rw [e1] at e
    injection e with e2 e3
    subst e2 e3
    exact ⟨trivial, hs i δ M F (by omega) hp fun δ' M' hp' => hF _ _ ⟨i, by omega, rfl, hp'⟩⟩
theorem math__law_best (ds M Q E) (hM : WFM M) (hb : D.belL M.length ds = true) (h : sp__law_best ds M Q E) : r__law_best (retE M.length Q E) (startD N__law_best ds) M := by
  obtain ⟨L, rfl, ok, q⟩ := h
  have hll := ok.len
  have lns0 : ∀ (y : Str), linesD L = D.str y → y.length ≤ sizeLine := fun _ => nofun
  have lsq : ∀ M : MH, seqOf (linesD L) M = some (L.map lineD) := fun _ => rfl
  have lns : ∀ z : Str, linesD L ≠ .str z := fun _ => nofun
  unfold r__law_best
  refine seq_step fun S hS => ?_
  simp [startD]
  refine ⟨_, rfl, lns0, ?_⟩
  rw [List.length_map]
  subst hS
  refine seq_step fun S hS => ?_
  simp
  refine ⟨by rw [hz]; decide, ?_⟩
  show (_ ∧ _ ∧ _) ∧ newL false _ M _
  refine ⟨⟨by omega, by omega, by show 1 * _ ≤ sizeLine; rw [hz, Int.toNat_natCast]; omega⟩, ?_⟩
  rw [Int.toNat_natCast]
  simp
  refine ⟨by rw [hz]; decide, by rw [hz]; decide, ?_⟩
  refine ⟨by rw [hz]; omega, ?_⟩
  rw [← rest3_top]
  subst hS
  refine seq_step fun S hS => ?_
  simp
  refine ⟨_, _, _, ⟨rfl, rfl, rfl⟩, L.length, ?_, ?_⟩
  · have := RgC.neg (i := (L.length : Int) - 1) (j := -1) (by omega) (by omega) (by decide) (by decide)
    rwa [show ((L.length : Int) - 1 - -1).toNat = L.length by omega] at this
  refine down_ind (fun i δ M' => ∃ (a b c d e : Option D), δ = [some (linesD L), some (.int (L.length : Int)), some (.ref M.length), a, none, none, none, b, c, d, e] ∧ M' = M ++ [.lst (rest3 L i)]) ?_ ?_ ⟨_, _, _, _, _, rfl, rfl⟩
  · rintro δ M' ⟨a, b, c, d, e, rfl, rfl⟩
    show S _ _ _
    subst hS
    refine seq_step fun S hS => ?_
    simp
    have lo : lstOf (.ref M.length) (M ++ [Cell.lst (rest3 L 0)]) = some (rest3 L 0) := lstOf_ref (get_last M _)
    have h0 := rest3_at (L := L) (Nat.le_refl 0) (by omega)
    refine ⟨_, lo, _, atI_nat h0, ?_⟩
    cases ho : opt L 0 with
    | none =>
      rw [ho] at q
      refine ⟨nofun, ?_⟩
      simp [tri3]
      rw [popM_last2 hM rfl]
      exact q
    | some r =>
      refine ⟨nofun, ?_⟩
      simp [tri3]
      subst hS
      refine seq_step fun S hS => ?_
      simp
      subst hS
      refine seq_step fun S hS => ?_
      simp
      subst hS
      refine seq_step fun S hS => ?_
      simp
      refine ⟨by omega, ?_⟩
      refine forR_ind (fun k δ M' => ∃ (i : Nat) (r' : Brk) (es : List Nat) (a b c d e f : Option D), k ≤ i ∧ i ≤ L.length ∧ opt L i = some r' ∧ es ++ r'.2.2 = r.2.2 ∧ es.length ≤ k ∧ δ = [some (linesD L), some (.int (L.length : Int)), some (.ref M.length), a, some (.tup (es.map fun (k : Nat) => D.int k)), some (.int (i : Int)), b, c, d, e, f] ∧ M' = M ++ [.lst (rest3 L 0)]) ?_ ?_ ⟨0, r, [], _, _, _, _, _, _, Nat.le_refl _, Nat.zero_le _, ho, rfl, Nat.le_refl _, rfl, rfl⟩
      · rintro δ M' ⟨i, r', es, a, b, c, d, e, f, h1, h2, h3, h4, h5, rfl, rfl⟩
        refine ⟨trivial, ?_⟩
        show S _ _ _
        have : i = L.length := by omega
        subst this
        rw [path_end h3, List.append_nil] at h4
        subst hS
        simp
        rw [ho] at h0
        refine ⟨_, lo, _, atI_nat h0, .inl ⟨_, rfl, .int r.1, rfl, ?_⟩⟩
        refine ⟨by rw [hz]; decide, ?_⟩
        rw [ho] at q
        rw [h4]
        have hbel : (D.tup [.int r.1, .tup (r.2.2.map fun (k : Nat) => D.int k)]).bel M.length = true := by
          show D.belL M.length [.int r.1, .tup (r.2.2.map fun (k : Nat) => D.int k)] = true
          rw [belL_iff]
          intro d hd
          rcases List.mem_cons.mp hd with rfl | hd
          · rfl
          · rw [List.mem_singleton.mp hd]
            show D.belL M.length _ = true
            rw [belL_iff]
            intro d hd
            obtain ⟨x, _, rfl⟩ := List.mem_map.mp hd
            rfl
        rw [popM_last2 hM hbel]
        exact q
      · rintro k δ M' F hk ⟨i, r', es, a, b, c, d, e, f, h1, h2, h3, h4, h5, rfl, rfl⟩ hF
        refine ⟨trivial, ?_⟩
        simp
        have lo : lstOf (.ref M.length) (M ++ [Cell.lst (rest3 L 0)]) = some (rest3 L 0) := lstOf_ref (get_last M _)
        by_cases hi : i < L.length
        · rw [if_pos hi]
          obtain ⟨j, r2, n1, n2, n3, n4, n5⟩ := path_next ok hi h3
          have hj := rest3_at (L := L) (i := 0) (Nat.zero_le i) hi
          rw [h3] at hj
          refine ⟨_, lo, _, atI_nat hj, .inl ⟨_, rfl, .int (hd r' : Int), rfl, ?_⟩⟩
          rw [n5]
          refine ⟨by rw [hz]; decide, by rw [hz]; omega, ?_⟩
          refine hF _ _ ⟨j, r2, es ++ [j], a, some (.int (k : Int)), c, d, e, f, by omega, n4, n1, ?_, by simp; omega, ?_, rfl⟩
          · rw [← h4, n2, List.append_assoc]; rfl
          · rw [List.map_append]; rfl
        · rw [if_neg hi]
          exact hF _ _ ⟨i, r', es, _, _, _, _, _, _, by omega, h2, h3, h4, by omega, rfl, rfl⟩
  · rintro i δ M' F hi ⟨a, b, c, d, e, rfl, rfl⟩ hF
    obtain ⟨hup, hasc⟩ := ok.at_ hi
    have hix := linesD_ix hi
    have hos := opt_step ok hi
    generalize L.getD i [] = l0 at hup hasc hix hos
    refine seq_step fun S2 hS2 => ?_
    simp
    subst hS2
    refine seq_step fun S2 hS2 => ?_
    simp [lsq, lns]
    refine ⟨lineD l0, atI_n (by omega) (by rw [Int.toNat_natCast]; exact hix), ?_⟩
    show forL _ _ _ _ _ _ _
    refine forL_ind (fun ds δ M' => ∃ (l : List (Nat × Int)) (acc : Option Brk) (a b c : Option D), ds = l.map jbD ∧ (∀ x ∈ l, i < x.1 ∧ x.1 ≤ L.length) ∧ l.Pairwise (fun x y => x.1 < y.1) ∧ (∀ a, acc = some a → ∀ x ∈ l, hd a < x.1) ∧ step (opt L) l acc = opt L i ∧
      δ = [some (linesD L), some (.int (L.length : Int)), some (.ref M.length), some (.int (i : Int)), none, none, none, some (tri3 acc), a, b, c] ∧ M' = M ++ [.lst (rest3 L (i + 1))]) ?_ ?_ _ _ _ ⟨l0, none, _, _, _, rfl, fun x hx => ⟨(hup x hx).1, (hup x hx).2.1⟩, hasc, nofun, hos.symm, rfl, rfl⟩
    · rintro δ M' ⟨l, acc, a, b, c, e, _, _, _, hacc, rfl, rfl⟩
      have : l = [] := by cases l with | nil => rfl | cons => cases e
      subst this
      rw [step_nil] at hacc
      refine ⟨trivial, ?_⟩
      show S2 _ _ _
      subst hS2
      simp
      refine ⟨i, ixN_nat (by rw [rest3_len]; omega), ?_⟩
      rw [hacc, rest3_set hi]
      exact hF _ _ ⟨_, _, _, _, _, rfl, rfl⟩
    · rintro d rest δ M' F2 ⟨l, acc, s8, s9, s10, e, hk, hasc, hhd, hacc, rfl, rfl⟩ hF2
      refine ⟨trivial, ?_⟩
      obtain ⟨x, l, rfl⟩ : ∃ k js2, l = k :: js2 := by
        cases l with
        | nil => cases e
        | cons k r => exact ⟨k, r, rfl⟩
      rw [List.map_cons] at e
      cases e
      rw [step_cons] at hacc
      simp [jbD]
      have lo : lstOf (.ref M.length) (M ++ [Cell.lst (rest3 L (i + 1))]) = some (rest3 L (i + 1)) := lstOf_ref (get_last M _)
      obtain ⟨k1, k2⟩ := hk x List.mem_cons_self
      obtain ⟨g1, g2⟩ := rest3_get (L := L) (i := i + 1) (j := x.1) (by omega) k2
      obtain ⟨p1, p2⟩ := List.pairwise_cons.mp hasc
      have keep : ∀ (acc2 : Option Brk) (a b c : Option D), acc2 = step1 (opt L) acc x → (∀ a, acc2 = some a → ∀ y ∈ l, hd a < y.1) → F2 [some (linesD L), some (.int (L.length : Int)), some (.ref M.length), some (.int (i : Int)), none, none, none, some (tri3 acc2), a, b, c] (M ++ [.lst (rest3 L (i + 1))]) := fun acc2 a b c e hh =>
        hF2 _ _ ⟨l, acc2, a, b, c, rfl, fun y hy => hk y (List.mem_cons_of_mem _ hy), p2, hh, by rw [e]; exact hacc, rfl, rfl⟩
      cases ho : opt L x.1 with
      | none =>
        refine ⟨_, lo, _, atI_nat (g1 ho), nofun, ?_⟩
        simp
        exact keep acc _ _ _ (by unfold step1; rw [ho]) fun a e y hy => hhd a e y (List.mem_cons_of_mem _ hy)
      | some r =>
        obtain ⟨t, ht⟩ := g2 r ho
        refine ⟨_, lo, _, atI_nat ht, nofun, ?_⟩
        simp
        refine ⟨_, lo, _, atI_nat ht, .inl ⟨_, rfl, .int r.1, rfl, ?_⟩⟩
        simp
        refine ⟨_, lo, _, atI_nat ht, .inl ⟨_, rfl, .int r.2.1, rfl, ?_⟩⟩
        simp
        refine ⟨by rw [hz]; decide, ?_⟩
        have hnew : D.tup [.int (x.2 + r.1), .int (1 + r.2.1), .int (x.1 : Int)] = tri3 (some (cand x r)) := rfl
        cases acc with
        | none =>
          refine ⟨nofun, ?_⟩
          simp [tri3]
          exact keep (some (cand x r)) _ _ _ (by unfold step1 pick2; rw [ho]) fun a e y hy => by cases e; exact p1 y hy
        | some a =>
          refine ⟨nofun, ?_⟩
          have hlt := lt_ints [x.2 + r.1, 1 + r.2.1, (x.1 : Int)] [a.1, a.2.1, (hd a : Int)] M (fun v _ => v = .bl (lexB [x.2 + r.1, 1 + r.2.1, (x.1 : Int)] [a.1, a.2.1, (hd a : Int)])) rfl (by show 3 ≤ 1000000; decide)
          simp at hlt
          obtain ⟨u1, u2, u3, u4, u5, u6⟩ := hlt
          have hax := hhd a rfl x List.mem_cons_self
          have e2 : lexB [x.2 + r.1, 1 + r.2.1, (x.1 : Int)] [a.1, a.2.1, (hd a : Int)] = lt2 (x.2 + r.1, 1 + r.2.1) (a.1, a.2.1) := by
            unfold lt2
            simp only [lexB]
            by_cases h1 : x.2 + r.1 = a.1
            · rw [if_pos h1, if_pos h1]
              by_cases h2 : 1 + r.2.1 = a.2.1
              · rw [if_pos h2, if_neg (by omega), h2]
                rw [decide_eq_false (by omega), decide_eq_false (by omega)]
              · rw [if_neg h2]
            · rw [if_neg h1, if_neg h1]
          rw [e2] at u6
          rw [show tri3 (some a) = .tup [.int a.1, .int a.2.1, .int (hd a : Int)] from rfl]
          simp
          refine ⟨u1, u2, u3, u4, u5, ?_⟩
          rw [u6]
          by_cases hl : lt2 (x.2 + r.1, 1 + r.2.1) (a.1, a.2.1) = true
          · rw [if_pos hl]
            exact keep (some (cand x r)) _ _ _ (by unfold step1 pick2; rw [ho]; exact (if_pos hl).symm) fun a e y hy => by cases e; exact p1 y hy
          · rw [if_neg hl]
            exact keep (some a) _ _ _ (by unfold step1 pick2; rw [ho]; exact (if_neg hl).symm) fun b e y hy => hhd b e y (List.mem_cons_of_mem _ hy)
end K73
namespace K73
open MD L2 PySem Kit Kc
def opt2 : Option Brk → D
  | some r => .tup [.int r.1, .int r.2.1]
  | none => .non
/-- best and ends, told from a piece on -/
structure Ub (L : LN) (i : Nat) (B G : List D) : Prop where
  bl : B.length = L.length + 1
  gl : G.length = L.length + 1
  up : ∀ j, i ≤ j → j ≤ L.length → B[j]? = some (opt2 (opt L j))
  lo : ∀ j, j < i → B[j]? = some .non
  ue : ∀ j r, i ≤ j → j < L.length → opt L j = some r → G[j]? = some (.int (hd r : Int))
/-- a piece under way -/
structure Be (L : LN) (i : Nat) (acc : Option Brk) (B G : List D) : Prop where
  bl : B.length = L.length + 1
  gl : G.length = L.length + 1
  up : ∀ j, i < j → j ≤ L.length → B[j]? = some (opt2 (opt L j))
  at_ : B[i]? = some (opt2 acc)
  lo : ∀ j, j < i → B[j]? = some .non
  ue : ∀ j r, i < j → j < L.length → opt L j = some r → G[j]? = some (.int (hd r : Int))
  ae : ∀ a, acc = some a → G[i]? = some (.int (hd a : Int))
theorem Ub.be {L : LN} {i : Nat} {B G : List D} (h : Ub L (i + 1) B G) : Be L i none B G :=
  ⟨h.bl, h.gl, fun j h1 h2 => h.up j (by omega) h2, h.lo i (by omega), fun j h1 => h.lo j (by omega), fun j r h1 h2 h3 => h.ue j r (by omega) h2 h3, nofun⟩
theorem Be.ub {L : LN} {i : Nat} {B G : List D} (h : Be L i (opt L i) B G) (hi : i < L.length) : Ub L i B G :=
  ⟨h.bl, h.gl, fun j h1 h2 => by
    by_cases e : j = i
    · rw [e]; exact h.at_
    · exact h.up j (by omega) h2, h.lo, fun j r h1 h2 h3 => by
    by_cases e : j = i
    · rw [e] at h3 ⊢; exact h.ae r h3
    · exact h.ue j r (by omega) h2 h3⟩
theorem Be.set {L : LN} {i : Nat} {acc : Option Brk} {B G : List D} (h : Be L i acc B G) (hi : i < L.length) (c : Brk) : Be L i (some c) (B.set i (opt2 (some c))) (G.set i (.int (hd c : Int))) := by
  have hb := h.bl
  have hg := h.gl
  refine ⟨by simpa using hb, by simpa using hg, fun j h1 h2 => ?_, ?_, fun j h1 => ?_, fun j r h1 h2 h3 => ?_, fun a e => ?_⟩
  · rw [List.getElem?_set, if_neg (by omega)]; exact h.up j h1 h2
  · rw [List.getElem?_set, if_pos rfl, if_pos (by omega)]
  · rw [List.getElem?_set, if_neg (by omega)]; exact h.lo j h1
  · rw [List.getElem?_set, if_neg (by omega)]; exact h.ue j r h1 h2 h3
  · cases e
    rw [List.getElem?_set, if_pos rfl, if_pos (by omega)]
theorem ub_start {L : LN} : Ub L L.length (List.replicate L.length .non ++ [.tup [.int 0, .int 0]]) (List.replicate (L.length + 1) .non) := by
  refine ⟨by simp, by simp, fun j h1 h2 => ?_, fun j h1 => ?_, fun j r h1 h2 => by omega⟩
  · have : j = L.length := by omega
    subst this
    rw [opt_end, List.getElem?_append_right (by simp)]
    simp [opt2]
  · rw [List.getElem?_append_left (by simpa using h1), List.getElem?_replicate, if_pos h1]
/-- the heap with the lines, the best and the ends -/
def Hb (M : MH) (ss : List Tri) (R : Int) (B G : List D) (l : List Cell) : MH := M ++ (linesC ss R (M.length + 1) :: .lst (ss.map triD) :: .lst B :: .lst G :: l)
theorem Hb_at {M : MH} {ss : List Tri} {R : Int} {B G : List D} {l : List Cell} {k : Nat} : (Hb M ss R B G l)[M.length + k]? = (linesC ss R (M.length + 1) :: .lst (ss.map triD) :: .lst B :: .lst G :: l)[k]? := by
  unfold Hb
  rw [List.getElem?_append_right (by omega)]
  congr 1; omega
theorem Hb_lines {M : MH} {ss : List Tri} {R : Int} {B G : List D} {l : List Cell} : (Hb M ss R B G l)[M.length]? = some (linesC ss R (M.length + 1)) := Hb_at (k := 0)
theorem Hb_la {M : MH} {ss : List Tri} {R : Int} {B G : List D} {l : List Cell} : LinesAt (Hb M ss R B G l) M.length ss R := ⟨M.length + 1, Hb_lines, Hb_at (k := 1)⟩
theorem Hb_B {M : MH} {ss : List Tri} {R : Int} {B G : List D} {l : List Cell} : (Hb M ss R B G l)[M.length + 2]? = some (.lst B) := Hb_at (k := 2)
theorem Hb_G {M : MH} {ss : List Tri} {R : Int} {B G : List D} {l : List Cell} : (Hb M ss R B G l)[M.length + 3]? = some (.lst G) := Hb_at (k := 3)
theorem Hb_setB {M : MH} {ss : List Tri} {R : Int} {B G B2 : List D} {l : List Cell} : (Hb M ss R B G l).set (M.length + 2) (.lst B2) = Hb M ss R B2 G l := by
  unfold Hb
  rw [List.set_append_right _ _ (by omega), show M.length + 2 - M.length = 2 by omega]; rfl
theorem Hb_setG {M : MH} {ss : List Tri} {R : Int} {B G B2 : List D} {l : List Cell} : (Hb M ss R B G l).set (M.length + 3) (.lst B2) = Hb M ss R B B2 l := by
  unfold Hb
  rw [List.set_append_right _ _ (by omega), show M.length + 3 - M.length = 3 by omega]; rfl
def mu7 (n : Nat) (δ : EnvD) : Nat := match δ[7]? with
  | some (some (D.int z)) => n - z.toNat
  | _ => 0
theorem math_best_lines (ds M Q E) (hM : WFM M) (hb : D.belL M.length ds = true) (h : sp_best_lines ds M Q E) : r_best_lines (retE M.length Q E) (startD N_best_lines ds) M := by
  obtain ⟨d, rd, ps, ρ, rfl, hps, ok, hρ, okr, q⟩ := h
  have hss := sums_ok ok okr
  unfold dueP at q
  generalize hs : sumsP ρ ps = ss at q hss
  generalize hR : roomP ρ ps = R at q hss
  have okL := lines_ok hss
  have hll := hss.len
  have hLl : (linesF ss R).length = ss.length - 1 := by unfold linesF; simp
  unfold r_best_lines
  refine seq_step fun S hS => ?_
  simp [startD]
  refine ⟨M.length, d, rd, ps, ρ, rfl, get_last M _, hps, ok, hρ, okr, rfl, ?_⟩
  rw [hs, hR]
  rw [set_last, List.length_append, List.length_singleton]
  subst hS
  refine seq_step fun S hS => ?_
  simp
  refine ⟨by rw [hz]; decide, _, _, rfl, rfl, .int ((ss.length - 1 : Nat) : Int), rfl, ?_⟩
  rw [← hLl]
  generalize hLdef : linesF ss R = L at q okL hLl
  show (_ ∧ _ ∧ _) ∧ newL false _ _ _
  refine ⟨⟨by omega, by omega, by show 1 * _ ≤ sizeLine; rw [hz, Int.toNat_natCast]; omega⟩, ?_⟩
  rw [Int.toNat_natCast]
  simp
  refine ⟨by rw [hz]; decide, by rw [hz]; decide, ?_⟩
  refine ⟨by rw [hz]; omega, ?_⟩
  subst hS
  refine seq_step fun S hS => ?_
  simp
  refine ⟨by rw [hz]; decide, _, _, rfl, rfl, .int ((ss.length - 1 : Nat) : Int), rfl, ?_⟩
  rw [← hLl]
  simp
  show (_ ∧ _ ∧ _) ∧ newL true _ _ _
  refine ⟨⟨by omega, by omega, by show 1 * _ ≤ sizeLine; rw [hz]; omega⟩, ?_⟩
  rw [show ((L.length : Int) + 1).toNat = L.length + 1 by omega]
  simp
  have hH : M ++ [linesC ss R (M.length + 1), Cell.lst (ss.map triD), .lst (List.replicate L.length D.non ++ [D.tup [D.int 0, D.int 0]]), .lst (List.replicate (L.length + 1) .non)] = Hb M ss R (List.replicate L.length D.non ++ [D.tup [D.int 0, D.int 0]]) (List.replicate (L.length + 1) .non) [] := rfl
  try rw [hH]
  have u0 := ub_start (L := L)
  generalize List.replicate L.length D.non ++ [D.tup [D.int 0, D.int 0]] = B0 at u0
  generalize List.replicate (L.length + 1) D.non = G0 at u0
  have fmany : ∀ (B G : List D) (l : List Cell) (Q : D → Prop), Q (.int (L.length : Int)) → ∃ x x_1, (Hb M ss R B G l)[M.length]? = some (Cell.ins x x_1) ∧ x = Str.ofString "Lines" ∧ ∃ v, List.lookup (Str.ofString "many") x_1 = some v ∧ Q v := by
    intro B G l Q q
    refine ⟨_, _, Hb_lines, rfl, .int ((ss.length - 1 : Nat) : Int), rfl, ?_⟩
    rw [← hLl]; exact q
  subst hS
  refine seq_step fun S hS => ?_
  simp
  refine fmany _ _ _ _ ?_
  simp
  refine ⟨_, _, _, ⟨rfl, rfl, rfl⟩, L.length, ?_, ?_⟩
  · have := RgC.neg (i := (L.length : Int) - 1) (j := -1) (by omega) (by omega) (by decide) (by decide)
    rwa [show ((L.length : Int) - 1 - -1).toNat = L.length by omega] at this
  refine down_ind (fun i δ M' => ∃ (B G : List D) (a b c e : Option D), δ = [some d, some rd, some (.ref M.length), some (.ref (M.length + 2)), some (.ref (M.length + 3)), a, none, none, b, c, e] ∧ M' = Hb M ss R B G [] ∧ Ub L i B G) ?_ ?_ ⟨B0, G0, _, _, _, _, rfl, rfl, u0⟩
  · rintro δ M' ⟨B, G, a, b, c, e, rfl, rfl, ub⟩
    show S _ _ _
    subst hS
    refine seq_step fun S hS => ?_
    simp
    have h0 := ub.up 0 (Nat.le_refl 0) (Nat.zero_le _)
    have loB : ∀ l, lstOf (.ref (M.length + 2)) (Hb M ss R B G l) = some B := fun l => lstOf_ref Hb_B
    have loG : ∀ l, lstOf (.ref (M.length + 3)) (Hb M ss R B G l) = some G := fun l => lstOf_ref Hb_G
    refine ⟨_, loB _, _, atI_nat h0, ?_⟩
    cases ho : opt L 0 with
    | none =>
      rw [ho] at q
      refine ⟨nofun, ?_⟩
      simp [opt2]
      unfold Hb
      rw [popM_more hM rfl]
      exact q
    | some r =>
      rw [ho] at h0
      refine ⟨nofun, ?_⟩
      simp [opt2]
      subst hS
      refine seq_step fun S hS => ?_
      have hHl : (Hb M ss R B G []).length = M.length + 4 := by unfold Hb; simp
      have hHs : ∀ l c, Hb M ss R B G l ++ [c] = Hb M ss R B G (l ++ [c]) := by intro l c; unfold Hb; simp
      simp [hHl, hHs]
      subst hS
      refine seq_step fun S hS => ?_
      simp
      subst hS
      refine seq_step fun S hS => ?_
      simp
      have Hb_F : ∀ x l, (Hb M ss R B G (x :: l))[M.length + 4]? = some x := fun x l => Hb_at (k := 4)
      have Hb_setF : ∀ x y l, (Hb M ss R B G (x :: l)).set (M.length + 4) y = Hb M ss R B G (y :: l) := by
        intro x y l
        unfold Hb
        rw [List.set_append_right _ _ (by omega), show M.length + 4 - M.length = 4 by omega]; rfl
      refine while_ind (fun δ M' => ∃ (i : Nat) (r' : Brk) (es : List Nat), i ≤ L.length ∧ opt L i = some r' ∧ es ++ r'.2.2 = r.2.2 ∧ es.length ≤ i ∧ δ = [some d, some rd, some (.ref M.length), some (.ref (M.length + 2)), some (.ref (M.length + 3)), a, some (.ref (M.length + 4)), some (.int (i : Int)), b, c, e] ∧ M' = Hb M ss R B G [.lst (es.map fun (k : Nat) => D.int k)])
        (fun δ _ => mu7 L.length δ) ?_ ⟨0, r, [], Nat.zero_le _, ho, rfl, Nat.le_refl _, rfl, rfl⟩
      rintro δ M' F ⟨i, r', es, h2, h3, h4, h5, rfl, rfl⟩ hF
      simp
      refine fmany _ _ _ _ ?_
      simp
      by_cases hi : i < L.length
      · rw [if_pos hi]
        obtain ⟨j, r2, n1, n2, n3, n4, n5⟩ := path_next okL hi h3
        have hj := ub.ue i r' (Nat.zero_le i) hi h3
        rw [n5] at hj
        refine ⟨_, loG _, _, atI_nat hj, ⟨_, Hb_F _ _⟩, _, Hb_F _ _, by rw [List.length_map, hz]; omega, ?_⟩
        rw [Hb_setF]
        refine hF _ _ ⟨j, r2, es ++ [j], n4, n1, ?_, by simp; omega, rfl, ?_⟩ ?_
        · rw [← h4, n2, List.append_assoc]; rfl
        · rw [List.map_append]; rfl
        · show L.length - (j : Int).toNat < L.length - (i : Int).toNat
          rw [Int.toNat_natCast, Int.toNat_natCast]
          omega
      · rw [if_neg hi]
        have : i = L.length := by omega
        subst this
        rw [path_end h3, List.append_nil] at h4
        subst hS
        simp
        refine ⟨_, loB _, _, atI_nat h0, .inl ⟨_, rfl, .int r.1, rfl, _, lstOf_ref (Hb_F _ _), by rw [hz]; decide, ?_⟩⟩
        rw [ho] at q
        rw [h4]
        have hbel : (D.tup [.int r.1, .tup (r.2.2.map fun (k : Nat) => D.int k)]).bel M.length = true := by
          show D.belL M.length [.int r.1, .tup (r.2.2.map fun (k : Nat) => D.int k)] = true
          rw [belL_iff]
          intro d hd
          rcases List.mem_cons.mp hd with rfl | hd
          · rfl
          · rw [List.mem_singleton.mp hd]
            show D.belL M.length _ = true
            rw [belL_iff]
            intro d hd
            obtain ⟨x, _, rfl⟩ := List.mem_map.mp hd
            rfl
        unfold Hb
        rw [popM_more hM hbel]
        exact q
  · rintro i δ M' F hi ⟨B, G, a, b, c, e, rfl, rfl, ub⟩ hF
    obtain ⟨hup, hasc⟩ := okL.at_ hi
    have hos := opt_step okL hi
    have hfit : L.getD i [] = fit ss R i := by
      rw [← hLdef, List.getD_eq_getElem?_getD]
      unfold linesF
      rw [List.getElem?_map, List.getElem?_range (by omega)]; rfl
    rw [hfit] at hup hasc hos
    simp
    refine ⟨⟨_, Hb_lines, ?_⟩, M.length, i, ss, R, rfl, Hb_la, hss, by omega, ?_⟩
    · intro a b h
      simp only [List.mem_cons, List.not_mem_nil, or_false, Prod.mk.injEq] at h
      rcases h with ⟨rfl, _⟩ | ⟨rfl, _⟩ | ⟨rfl, _⟩ <;> decide
    show forL _ _ _ _ _ _ _
    generalize fit ss R i = l0 at hup hasc hos
    refine forL_ind (fun ds δ M' => ∃ (l : List (Nat × Int)) (acc : Option Brk) (B G : List D) (a b c : Option D), ds = l.map jbD ∧ (∀ x ∈ l, i < x.1 ∧ x.1 ≤ L.length) ∧ step (opt L) l acc = opt L i ∧ Be L i acc B G ∧
      δ = [some d, some rd, some (.ref M.length), some (.ref (M.length + 2)), some (.ref (M.length + 3)), some (.int (i : Int)), none, none, a, b, c] ∧ M' = Hb M ss R B G []) ?_ ?_ _ _ _ ⟨l0, none, B, G, _, _, _, rfl, fun x hx => ⟨(hup x hx).1, (hup x hx).2.1⟩, hos.symm, ub.be, rfl, rfl⟩
    · rintro δ M' ⟨l, acc, B, G, a, b, c, e, _, hacc, be, rfl, rfl⟩
      have : l = [] := by cases l with | nil => rfl | cons => cases e
      subst this
      rw [step_nil] at hacc
      subst hacc
      refine ⟨trivial, ?_⟩
      exact hF _ _ ⟨B, G, _, _, _, _, rfl, rfl, be.ub hi⟩
    · rintro d1 rest δ M' F2 ⟨l, acc, B, G, s8, s9, s10, e, hk, hacc, be, rfl, rfl⟩ hF2
      refine ⟨trivial, ?_⟩
      obtain ⟨x, l, rfl⟩ : ∃ k js2, l = k :: js2 := by
        cases l with
        | nil => cases e
        | cons k r => exact ⟨k, r, rfl⟩
      rw [List.map_cons] at e
      cases e
      rw [step_cons] at hacc
      obtain ⟨k1, k2⟩ := hk x List.mem_cons_self
      have loB : ∀ B G, lstOf (.ref (M.length + 2)) (Hb M ss R B G []) = some B := fun B G => lstOf_ref Hb_B
      have loG : ∀ B G, lstOf (.ref (M.length + 3)) (Hb M ss R B G []) = some G := fun B G => lstOf_ref Hb_G
      simp [jbD]
      have keep : ∀ (acc2 : Option Brk) (B G : List D) (a b c : Option D), acc2 = step1 (opt L) acc x → Be L i acc2 B G → F2 [some d, some rd, some (.ref M.length), some (.ref (M.length + 2)), some (.ref (M.length + 3)), some (.int (i : Int)), none, none, a, b, c] (Hb M ss R B G []) := fun acc2 B G a b c e be =>
        hF2 _ _ ⟨l, acc2, B, G, a, b, c, rfl, fun y hy => hk y (List.mem_cons_of_mem _ hy), by rw [e]; exact hacc, be, rfl, rfl⟩
      have hBx := be.up x.1 k1 k2
      have hBi := be.at_
      cases ho : opt L x.1 with
      | none =>
        rw [ho] at hBx
        refine ⟨_, loB _ _, _, atI_nat hBx, nofun, ?_⟩
        simp [opt2]
        exact keep acc B G _ _ _ (by unfold step1; rw [ho]) be
      | some r =>
        rw [ho] at hBx
        refine ⟨_, loB _ _, _, atI_nat hBx, nofun, ?_⟩
        simp [opt2]
        refine ⟨_, loB _ _, _, atI_nat hBx, .inl ⟨_, rfl, .int r.1, rfl, ?_⟩⟩
        simp
        refine ⟨_, loB _ _, _, atI_nat hBx, .inl ⟨_, rfl, .int r.2.1, rfl, ?_⟩⟩
        simp
        refine ⟨by rw [hz]; decide, _, loB _ _, _, atI_nat hBi, ?_⟩
        have hnew : D.tup [.int (x.2 + r.1), .int (1 + r.2.1)] = opt2 (some (cand x r)) := rfl
        have put : some (cand x r) = step1 (opt L) acc x → ∀ (a b c : Option D), F2 [some d, some rd, some (.ref M.length), some (.ref (M.length + 2)), some (.ref (M.length + 3)), some (.int (i : Int)), none, none, a, b, c] (Hb M ss R (B.set i (.tup [.int (x.2 + r.1), .int (1 + r.2.1)])) (G.set i (.int (x.1 : Int))) []) := fun e a b c =>
          keep _ _ _ a b c e (be.set hi (cand x r))
        cases acc with
        | none =>
          refine ⟨nofun, ?_⟩
          simp [opt2]
          refine ⟨B, Hb_B, i, ixN_nat (by rw [be.bl]; omega), G, Hb_G, i, ixN_nat (by rw [be.gl]; omega), ?_⟩
          rw [Hb_setB, Hb_setG]
          exact put (by unfold step1 pick2; rw [ho]) _ _ _
        | some a =>
          refine ⟨nofun, ?_⟩
          have hlt := lt_ints [x.2 + r.1, 1 + r.2.1] [a.1, a.2.1] M (fun v _ => v = .bl (lexB [x.2 + r.1, 1 + r.2.1] [a.1, a.2.1])) rfl (by show 2 ≤ 1000000; decide)
          simp at hlt
          obtain ⟨u1, u2, u3, u4, u5, u6⟩ := hlt
          have e2 : lexB [x.2 + r.1, 1 + r.2.1] [a.1, a.2.1] = lt2 (x.2 + r.1, 1 + r.2.1) (a.1, a.2.1) := by
            unfold lt2
            simp only [lexB]
            by_cases h1 : x.2 + r.1 = a.1
            · rw [if_pos h1, if_pos h1]
              by_cases h2 : 1 + r.2.1 = a.2.1
              · rw [if_pos h2, h2]
                rw [decide_eq_false (by omega)]
              · rw [if_neg h2]
            · rw [if_neg h1, if_neg h1]
          rw [e2] at u6
          rw [show opt2 (some a) = .tup [.int a.1, .int a.2.1] from rfl]
          simp
          have hBi2 : B[i]? = some (.tup [.int a.1, .int a.2.1]) := hBi
          refine ⟨_, loB _ _, _, atI_nat hBi2, u1, u2, u3, u4, u5, ?_⟩
          rw [u6]
          by_cases hl : lt2 (x.2 + r.1, 1 + r.2.1) (a.1, a.2.1) = true
          · rw [if_pos hl]
            refine ⟨B, Hb_B, i, ixN_nat (by rw [be.bl]; omega), G, Hb_G, i, ixN_nat (by rw [be.gl]; omega), ?_⟩
            rw [Hb_setB, Hb_setG]
            exact put (by unfold step1 pick2; rw [ho]; exact (if_pos hl).symm) _ _ _
          · rw [if_neg hl]
            exact keep (some a) B G _ _ _ (by unfold step1 pick2; rw [ho]; exact (if_neg hl).symm) be
end K73
namespace K73
open MD L2 PySem Kit Kc
/-! what the law hands over -/
theorem lisL_pcs : ∀ ps : List Piece, RelL PcL (lisL (ps.map pcD)) ps
  | [] => trivial
  | p :: ps => ⟨⟨_, _, _, .inr rfl, .inr rfl, .inr rfl, .inr rfl⟩, lisL_pcs ps⟩
theorem pcsL_lis (ps : List Piece) : PcsL (lis (pcsD ps)) ps := ⟨lisL (ps.map pcD), .inr rfl, lisL_pcs ps⟩
theorem pr_given {e : D} {ρ : Part} (h : e = MD.prD ρ ∨ e = lis (MD.prD ρ)) : Pr e ρ.1 ρ.2 := by
  rcases h with rfl | rfl
  · exact .inl rfl
  · exact .inr rfl
theorem pcs_given {e : D} {ps : List Piece} (h : e = pcsD ps ∨ e = lis (pcsD ps)) : PcsL e ps := by
  rcases h with rfl | rfl
  · exact pcsL_pcsD ps
  · exact pcsL_lis ps
theorem tup_pcs {ps : List Piece} (h : ps.length ≤ 400) : tupD 6 (pcsD ps) = true := by
  show ((decide (0 < 6) && decide ((ps.map pcD).length ≤ sizeLine)) && tupL 5 (ps.map pcD)) = true
  rw [tupL_of (ps.map pcD) fun d hd => by
    obtain ⟨c, hc, rfl⟩ := List.mem_map.mp hd
    rfl, List.length_map, decide_eq_true (show ps.length ≤ sizeLine by rw [hz]; omega)]
  rfl
theorem tup_pr (ρ : Part) : tupD 6 (MD.prD ρ) = true := rfl
theorem plain_res {L : LN} (ok : LLok L) : plainD 5 (resD (opt L 0)) = true := by
  cases h : opt L 0 with
  | none => rfl
  | some r =>
    have := Bx_el ok 0 (Nat.zero_le _) _ (opt_mem ok 0 (Nat.zero_le _) r h).1
    have hl : r.2.2.length ≤ L.length := by simpa using this
    have hll := ok.len
    show (true && (true && (((decide (0 < 4) && decide ((r.2.2.map fun (k : Nat) => D.int k).length ≤ sizeLine)) && plainL 3 (r.2.2.map fun (k : Nat) => D.int k)) && true))) = true
    rw [plainL_of _ fun d hd => by
      obtain ⟨c, hc, rfl⟩ := List.mem_map.mp hd
      rfl, List.length_map, decide_eq_true (show r.2.2.length ≤ sizeLine by rw [hz]; omega)]
    rfl
theorem sh_part {x : D} {p : Part} (h : Pr x p.1 p.2) (o : okPart p) : Sh 1 49 x := by
  refine (sh_seq (k := 0) (L := 21) (n := 2) h (fun e he => ?_) (Nat.le_refl 2)).mono (by decide) (by decide)
  simp only [List.mem_cons, List.not_mem_nil, or_false] at he
  obtain ⟨o1, o2, o3, o4, _⟩ := o
  rcases he with rfl | rfl
  · exact sh_int (bg_le o3 (by omega))
  · exact sh_int (bg_le (by omega) (by omega))
theorem sh_piece {x : D} {p : Piece} (h : PcL x p) (o : okPiece p) : Sh 2 156 x := by
  obtain ⟨a, b, c, h1, h2, h3, h4⟩ := h
  refine (sh_seq (k := 1) (L := 49) (n := 3) h4 (fun e he => ?_) (Nat.le_refl 3)).mono (by decide) (by decide)
  simp only [List.mem_cons, List.not_mem_nil, or_false] at he
  rcases he with rfl | rfl | rfl
  · exact sh_part h1 o.1
  · exact sh_part h2 o.2.1
  · exact sh_part h3 o.2.2.1
theorem rep_pcs {x : D} {ps : List Piece} (h : PcsL x ps) (ok : okPcs ps) {M : MH} {Q : QE} (q : Q (.str x.py.shown) M) : cRepr [x] M Q := by
  obtain ⟨es, h1, h2⟩ := h
  have sh := sh_seq (k := 2) (L := 156) (n := 400) h1 (fun e he => by
    obtain ⟨p, hp1, hp2⟩ := RelL.mem h2 he
    exact sh_piece hp2 (ok.2.2 p hp1)) (by rw [h2.length]; exact ok.2.1)
  exact sh.rep h1 (by decide) (by decide) q
def rowD (x : List Piece × Part) : D := .tup [pcsD x.1, MD.prD x.2, dueP x.1 x.2]
def okRow (x : List Piece × Part) : Prop := okPcs x.1 ∧ okRoom x.2
theorem math_law (ds M Q E) (hM : WFM M) (hb : D.belL M.length ds = true) (h : sp_law ds M Q E) : r_law (retE M.length Q E) (startD N_law ds) M := by
  obtain ⟨ns, rfl, hns, rfl, q⟩ := h
  have rq : ∀ (x : List Piece × Part) (M : MH), seqOf (rowD x) M = some [pcsD x.1, MD.prD x.2, dueP x.1 x.2] := fun _ _ => rfl
  have rn : ∀ (x : List Piece × Part) (z : Str), rowD x ≠ .str z := fun _ => nofun
  unfold r_law
  refine seq_step fun S hS => ?_
  simp [startD]
  refine ⟨ns, rfl, hns, fun ms hms => ?_⟩
  simp
  have hP : Pool [poolD ms 0 0 17] 0 := ⟨ms, 0, 0, 17, rfl, hms, by decide, by decide, by decide⟩
  subst hS
  refine seq_step fun S hS => ?_
  simp
  subst hS
  refine seq_step fun S hS => ?_
  simp
  refine forR_ind (fun i δ M' => ∃ (rs : List (List Piece × Part)) (c : Cell) (a b e f g : Option D), δ = [some (.scr ns), some (.ref 0), some (.ref 1), a, none, b, e, none, none, f, g, none] ∧ M' = [c, .lst (rs.map rowD)] ∧ Pool M' 0 ∧ rs.length = i ∧ ∀ x ∈ rs, okRow x) ?_ ?_ ?_
  rotate_left
  · rintro i δ M F hi ⟨rs, c, a, b, e, f, g, rfl, rfl, hp, hl, hrs⟩ hF
    refine ⟨trivial, ?_⟩
    refine seq_step fun S2 hS2 => ?_
    simp
    refine ⟨0, rfl, hp, fun n m M2 n1 n2 m1 m2 c1 => ?_⟩
    simp
    subst hS2
    refine seq_step fun S2 hS2 => ?_
    -- the heap: the pool, the rows
    have heap : ∀ M3, Step 0 [c, .lst (rs.map rowD)] M3 → ∃ c3, M3 = [c3, .lst (rs.map rowD)] := by
      intro M3 h
      obtain ⟨⟨c3, rfl⟩, _⟩ := h
      exact ⟨c3, rfl⟩
    have more : ∀ (n : Nat), 1 ≤ n → n ≤ 400 → S2 { nx := F, rt := (retE 0 Q E).rt, bk := S (retE 0 Q E), ct := F, ex := (retE 0 Q E).ex } [some (.scr ns), some (.ref 0), some (.ref 1), some (.int (i : Int)), none, b, e, none, none, some (.int (n : Int)), some (.int (m : Int)), none] M2 := by
      intro n n1 n2
      subst hS2
      refine seq_step fun S2 hS2 => ?_
      simp
      refine ⟨0, n, rfl, c1.2, n1, n2, fun ps M3 hpl okp c2 => ?_⟩
      have s2 := c1.trans c2
      subst hS2
      refine seq_step fun S2 hS2 => ?_
      have more2 : ∀ (ps : List Piece), okPcs ps → S2 { nx := F, rt := (retE 0 Q E).rt, bk := S (retE 0 Q E), ct := F, ex := (retE 0 Q E).ex } [some (.scr ns), some (.ref 0), some (.ref 1), some (.int (i : Int)), none, some (pcsD ps), e, none, none, some (.int (n : Int)), some (.int (m : Int)), none] M3 := by
        intro ps okp
        subst hS2
        refine seq_step fun S2 hS2 => ?_
        simp
        refine ⟨0, ps, m, rfl, c2.2, okp, by omega, by omega, fun ρ M4 okr c3 => ?_⟩
        have s3 := s2.trans c3
        obtain ⟨c4, rfl⟩ := heap M4 s3
        have okS := sums_ok okp okr
        subst hS2
        simp
        refine ⟨ps, ρ, rfl, okp, okr, ?_⟩
        refine ⟨_, _, rfl, okS, ?_⟩
        refine ⟨_, rfl, lines_ok okS, ?_⟩
        show (3 : Nat) ≤ sizeLine ∧ _
        refine ⟨by rw [hz]; decide, _, rfl, by rw [List.length_map, hz]; omega, ?_⟩
        refine hF _ _ ⟨rs ++ [(ps, ρ)], c4, _, _, _, _, _, rfl, ?_, s3.2, by simp [hl], fun x hx => ?_⟩
        · show [c4, Cell.lst (rs.map rowD ++ [rowD (ps, ρ)])] = _
          rw [List.map_append]; rfl
        · rcases List.mem_append.mp hx with hx | hx
          · exact hrs x hx
          · rw [List.mem_singleton.mp hx]; exact ⟨okp, okr⟩
      simp
      by_cases h3 : i = 3
      · rw [if_pos (by omega)]
        obtain ⟨c3, rfl⟩ := heap M3 s2
        obtain ⟨x2, hx2⟩ : ∃ x, rs[2]? = some x := ⟨_, List.getElem?_eq_getElem (by omega)⟩
        have hrow : (rs.map rowD)[2]? = some (rowD x2) := by rw [List.getElem?_map, hx2]; rfl
        have h2 : atI (rs.map rowD) 2 = some (rowD x2) := atI_n (by decide) hrow
        have okx := (hrs x2 (List.mem_of_getElem? hx2)).1
        have hne : x2.1 ≠ [] := fun h => by have := okx.1; rw [h] at this; exact absurd this (by decide)
        have hl1 := last_map pcD hne
        have hne2 : x2.1.map pcD ≠ [] := fun h => hne (List.map_eq_nil_iff.mp h)
        have okl := okx.2.2 _ (List.getLast_mem hne)
        have hdl : ∀ y ∈ x2.1.dropLast, okPiece y := fun y hy => okx.2.2 y ((List.dropLast_sublist _).subset hy)
        generalize x2.1.getLast hne = y2 at hl1 okl
        have lo : lstOf (.ref 1) [c3, .lst (rs.map rowD)] = some (rs.map rowD) := rfl
        refine ⟨_, lo, _, h2, .inl ⟨_, rfl, _, rfl, ?_⟩⟩
        show ∃ ds, _
        refine ⟨_, lo, _, h2, .inl ⟨_, rfl, _, rfl, .inl ⟨_, rfl, _, hl1, ?_⟩⟩⟩
        show (2 : Nat) ≤ sizeLine ∧ _
        refine ⟨by rw [hz]; decide, by rw [hz]; decide, ?_⟩
        show (_ : Nat) ≤ sizeLine ∧ _
        refine ⟨by rw [hz]; show 2 + 1 ≤ 16777216; decide, by rw [hz]; decide, ?_⟩
        rw [cut_butlast hne2]
        show (_ : Nat) ≤ sizeLine ∧ _
        have hdl2 := okx.2.1
        refine ⟨by rw [hz, List.length_dropLast, List.length_map]; simp; omega, ?_⟩
        have e1 : D.tup ((x2.1.map pcD).dropLast ++ [pcD (y2.1, y2.2.1, (0, 1))]) = pcsD (x2.1.dropLast ++ [(y2.1, y2.2.1, (0, 1))]) := by
          unfold pcsD
          rw [List.map_append, List.map_dropLast]; rfl
        have okn : okPcs (x2.1.dropLast ++ [(y2.1, y2.2.1, (0, 1))]) := by
          refine ⟨by simp, by simp; omega, fun y hy => ?_⟩
          rcases List.mem_append.mp hy with hy | hy
          · exact hdl y hy
          · rw [List.mem_singleton.mp hy]
            obtain ⟨o1, o2, o3, o4⟩ := okl
            refine ⟨o1, o2, ok_whole (by omega) (by omega), ?_⟩
            show (0 : Int) * y2.1.2 ≤ y2.1.1 * 1
            have := o1.2.2.1
            omega
        have := more2 _ okn
        rw [← e1] at this
        exact this
      · rw [if_neg (by omega)]
        exact more2 ps okp
    simp
    by_cases h0 : 0 < i
    · rw [if_pos h0]
      refine ⟨_, _, ⟨rfl, rfl⟩, ?_⟩
      by_cases h12 : (12 : Int) < (n : Int)
      · rw [if_pos h12]
        exact more 12 (by decide) (by decide)
      · rw [if_neg h12]
        exact more n n1 n2
    · rw [if_neg h0]
      exact more n n1 n2
  · exact ⟨[], _, _, _, _, _, _, rfl, rfl, ⟨ms, 0, 0, 17, rfl, hms, by decide, by decide, by decide⟩, rfl, nofun⟩
  · rintro δ M ⟨rs, c, a, b, e, f, g, rfl, rfl, hp, hl, hrs⟩
    refine ⟨trivial, ?_⟩
    show S _ _ _
    subst hS
    refine seq_step fun S hS => ?_
    simp
    refine ⟨by rw [hz]; decide, ?_⟩
    refine forL_ind (fun ds δ M' => (∀ d ∈ ds, ∃ k : Nat, d = .int (k : Int) ∧ k < 4) ∧ ∃ (c : Cell) (b e f g h j k l m : Option D), δ = [some (.scr ns), some (.ref 0), some (.ref 1), b, e, f, g, h, j, k, l, m] ∧ M' = [c, .lst (rs.map rowD)] ∧ Pool M' 0) ?_ ?_ _ _ _ ?_
    rotate_left
    · rintro d rest δ M F ⟨hds, c, b, e, f, g, h, j, k2, l, m, rfl, rfl, hp⟩ hF
      refine ⟨trivial, ?_⟩
      obtain ⟨k, rfl, hk⟩ := hds d List.mem_cons_self
      obtain ⟨x, hx⟩ : ∃ x, rs[k]? = some x := ⟨_, List.getElem?_eq_getElem (by omega)⟩
      have hrow : (rs.map rowD)[k]? = some (rowD x) := by rw [List.getElem?_map, hx]; rfl
      obtain ⟨okp, okr⟩ := hrs x (List.mem_of_getElem? hx)
      refine seq_step fun S2 hS2 => ?_
      simp
      refine ⟨_, rfl, _, atI_nat hrow, ?_⟩
      simp [rowD]
      subst hS2
      refine seq_step fun S2 hS2 => ?_
      simp
      refine ⟨0, _, rfl, hp, tup_pcs okp.2.1, fun hh M2 hhh c1 => ?_⟩
      have hL := pcs_given hhh
      obtain ⟨⟨c2, rfl⟩, p2⟩ := c1
      subst hS2
      refine seq_step fun S2 hS2 => ?_
      simp
      refine rep_pcs hL okp ?_
      subst hS2
      simp
      refine ⟨0, _, rfl, p2, tup_pr x.2, fun rd M3 hrd c3 => ?_⟩
      obtain ⟨⟨c4, rfl⟩, p3⟩ := c3
      refine ⟨hh, rd, x.1, x.2, rfl, hL, okp, pr_given hrd, okr, ?_⟩
      refine ⟨_, rfl, plain_res (lines_ok (sums_ok okp okr)), ?_⟩
      refine ⟨nofun, ?_⟩
      simp
      refine rep_pcs hL okp ?_
      simp
      exact hF _ _ ⟨fun d hd => hds d (List.mem_cons_of_mem _ hd), c4, _, _, _, _, _, _, _, _, _, rfl, rfl, p3⟩
    · refine ⟨fun d hd => ?_, c, _, _, _, _, _, _, _, _, _, rfl, rfl, hp⟩
      simp only [List.mem_cons, List.not_mem_nil, or_false] at hd
      rcases hd with rfl | rfl | rfl | rfl | rfl | rfl
      · exact ⟨0, rfl, by decide⟩
      · exact ⟨1, rfl, by decide⟩
      · exact ⟨2, rfl, by decide⟩
      · exact ⟨3, rfl, by decide⟩
      · exact ⟨1, rfl, by decide⟩
      · exact ⟨2, rfl, by decide⟩
    · rintro δ M ⟨_, c, b, e, f, g, h, j, k, l, m, rfl, rfl, _⟩
      refine ⟨trivial, ?_⟩
      show S _ _ _
      subst hS
      exact q _
end K73
namespace K73
open MD L2 PySem PySem.Spec PyProof.Rows Kit Kc
def topS (i : Nat) : Stmt := PySem.Challenge.pw_counterheld_k73_whole_best_lines.main.body.getD i (.Pass ⟨0, 0, 0, 0⟩)
abbrev sI_BadPieces : Stmt := initOf (topS 10)
abbrev s_is_fraction : Stmt := topS 4
theorem sc_is_fraction : FnScope N_is_fraction ["value"] (defScope s_is_fraction) := ⟨rfl, rfl, rfl, by decide +kernel, rfl, by decide +kernel, by decide +kernel⟩
abbrev s_is_part : Stmt := topS 12
theorem sc_is_part : FnScope N_is_part ["value"] (defScope s_is_part) := ⟨rfl, rfl, rfl, by decide +kernel, rfl, by decide +kernel, by decide +kernel⟩
abbrev s_is_piece : Stmt := topS 13
theorem sc_is_piece : FnScope N_is_piece ["value"] (defScope s_is_piece) := ⟨rfl, rfl, rfl, by decide +kernel, rfl, by decide +kernel, by decide +kernel⟩
abbrev s_check_pieces : Stmt := topS 14
theorem sc_check_pieces : FnScope N_check_pieces ["pieces"] (defScope s_check_pieces) := ⟨rfl, rfl, rfl, by decide +kernel, rfl, by decide +kernel, by decide +kernel⟩
abbrev s_Lines_init : Stmt := inClass (topS 15) 0
theorem sc_Lines_init : FnScope N_Lines_init ["self", "pieces", "room"] (defScope s_Lines_init) := ⟨rfl, rfl, rfl, by decide +kernel, rfl, by decide +kernel, by decide +kernel⟩
abbrev s_Lines_badness : Stmt := inClass (topS 15) 1
theorem sc_Lines_badness : FnScope N_Lines_badness ["self", "first", "stop"] (defScope s_Lines_badness) := ⟨rfl, rfl, rfl, by decide +kernel, rfl, by decide +kernel, by decide +kernel⟩
abbrev s_Lines_from_piece : Stmt := inClass (topS 15) 2
theorem sc_Lines_from_piece : FnScope N_Lines_from_piece ["self", "first"] (defScope s_Lines_from_piece) := ⟨rfl, rfl, rfl, by decide +kernel, rfl, by decide +kernel, by decide +kernel⟩
abbrev s_best_lines : Stmt := topS 16
theorem sc_best_lines : FnScope N_best_lines ["pieces", "room"] (defScope s_best_lines) := ⟨rfl, rfl, rfl, by decide +kernel, rfl, by decide +kernel, by decide +kernel⟩
abbrev s__law_pool : Stmt := topS 18
theorem sc__law_pool : FnScope N__law_pool ["script"] (defScope s__law_pool) := ⟨rfl, rfl, rfl, by decide +kernel, rfl, by decide +kernel, by decide +kernel⟩
abbrev s__law_take : Stmt := topS 19
theorem sc__law_take : FnScope N__law_take ["pool", "many"] (defScope s__law_take) := ⟨rfl, rfl, rfl, by decide +kernel, rfl, by decide +kernel, by decide +kernel⟩
abbrev s__law_pick : Stmt := topS 20
theorem sc__law_pick : FnScope N__law_pick ["pool", "rows"] (defScope s__law_pick) := ⟨rfl, rfl, rfl, by decide +kernel, rfl, by decide +kernel, by decide +kernel⟩
abbrev s__law_is_integer : Stmt := topS 21
theorem sc__law_is_integer : FnScope N__law_is_integer ["actual"] (defScope s__law_is_integer) := ⟨rfl, rfl, rfl, by decide +kernel, rfl, by decide +kernel, by decide +kernel⟩
abbrev s__law_same : Stmt := topS 22
theorem sc__law_same : FnScope N__law_same ["actual", "due"] (defScope s__law_same) := ⟨rfl, rfl, rfl, by decide +kernel, rfl, by decide +kernel, by decide +kernel⟩
abbrev s__law_lowest : Stmt := topS 23
theorem sc__law_lowest : FnScope N__law_lowest ["n", "d"] (defScope s__law_lowest) := ⟨rfl, rfl, rfl, by decide +kernel, rfl, by decide +kernel, by decide +kernel⟩
abbrev s__law_sum : Stmt := topS 24
theorem sc__law_sum : FnScope N__law_sum ["one", "other"] (defScope s__law_sum) := ⟨rfl, rfl, rfl, by decide +kernel, rfl, by decide +kernel, by decide +kernel⟩
abbrev s__law_listed : Stmt := topS 25
theorem sc__law_listed : FnScope N__law_listed ["thing"] (defScope s__law_listed) := ⟨rfl, rfl, rfl, by decide +kernel, rfl, by decide +kernel, by decide +kernel⟩
abbrev s__law_given : Stmt := topS 26
theorem sc__law_given : FnScope N__law_given ["pool", "thing"] (defScope s__law_given) := ⟨rfl, rfl, rfl, by decide +kernel, rfl, by decide +kernel, by decide +kernel⟩
abbrev s__law_divisor : Stmt := topS 27
theorem sc__law_divisor : FnScope N__law_divisor ["one", "other"] (defScope s__law_divisor) := ⟨rfl, rfl, rfl, by decide +kernel, rfl, by decide +kernel, by decide +kernel⟩
abbrev s__law_piece : Stmt := topS 28
theorem sc__law_piece : FnScope N__law_piece ["pool", "kind"] (defScope s__law_piece) := ⟨rfl, rfl, rfl, by decide +kernel, rfl, by decide +kernel, by decide +kernel⟩
abbrev s__law_pieces : Stmt := topS 29
theorem sc__law_pieces : FnScope N__law_pieces ["pool", "many"] (defScope s__law_pieces) := ⟨rfl, rfl, rfl, by decide +kernel, rfl, by decide +kernel, by decide +kernel⟩
abbrev s__law_room : Stmt := topS 30
theorem sc__law_room : FnScope N__law_room ["pool", "pieces", "most"] (defScope s__law_room) := ⟨rfl, rfl, rfl, by decide +kernel, rfl, by decide +kernel, by decide +kernel⟩
abbrev s__law_scaled : Stmt := topS 31
theorem sc__law_scaled : FnScope N__law_scaled ["pieces", "room"] (defScope s__law_scaled) := ⟨rfl, rfl, rfl, by decide +kernel, rfl, by decide +kernel, by decide +kernel⟩
abbrev s__law_bad : Stmt := topS 32
theorem sc__law_bad : FnScope N__law_bad ["scaled", "first", "stop"] (defScope s__law_bad) := ⟨rfl, rfl, rfl, by decide +kernel, rfl, by decide +kernel, by decide +kernel⟩
abbrev s__law_fitting : Stmt := topS 33
theorem sc__law_fitting : FnScope N__law_fitting ["scaled"] (defScope s__law_fitting) := ⟨rfl, rfl, rfl, by decide +kernel, rfl, by decide +kernel, by decide +kernel⟩
abbrev s__law_breakings : Stmt := topS 34
theorem sc__law_breakings : FnScope N__law_breakings ["lines", "first"] (defScope s__law_breakings) := ⟨rfl, rfl, rfl, by decide +kernel, rfl, by decide +kernel, by decide +kernel⟩
abbrev s__law_best : Stmt := topS 35
theorem sc__law_best : FnScope N__law_best ["lines"] (defScope s__law_best) := ⟨rfl, rfl, rfl, by decide +kernel, rfl, by decide +kernel, by decide +kernel⟩
abbrev s__law_amounts : Stmt := topS 36
theorem sc__law_amounts : FnScope N__law_amounts ["pool"] (defScope s__law_amounts) := ⟨rfl, rfl, rfl, by decide +kernel, rfl, by decide +kernel, by decide +kernel⟩
abbrev s__law_due : Stmt := topS 37
theorem sc__law_due : FnScope N__law_due ["lines"] (defScope s__law_due) := ⟨rfl, rfl, rfl, by decide +kernel, rfl, by decide +kernel, by decide +kernel⟩
abbrev s_law : Stmt := topS 38
theorem sc_law : FnScope N_law ["script"] (defScope s_law) := ⟨rfl, rfl, rfl, by decide +kernel, rfl, by decide +kernel, by decide +kernel⟩

structure Txt (P : Program) (K : PySem.W.Frag) (mg : Str → Option Value) where
  f_is_fraction : Addr
  fd_is_fraction : FuncData
  F_is_fraction : Fun K "is_fraction" "is_fraction" s_is_fraction f_is_fraction fd_is_fraction
  g_is_fraction : mg "is_fraction" = some (.ref f_is_fraction)
  f_is_part : Addr
  fd_is_part : FuncData
  F_is_part : Fun K "is_part" "is_part" s_is_part f_is_part fd_is_part
  g_is_part : mg "is_part" = some (.ref f_is_part)
  f_is_piece : Addr
  fd_is_piece : FuncData
  F_is_piece : Fun K "is_piece" "is_piece" s_is_piece f_is_piece fd_is_piece
  g_is_piece : mg "is_piece" = some (.ref f_is_piece)
  f_check_pieces : Addr
  fd_check_pieces : FuncData
  F_check_pieces : Fun K "check_pieces" "check_pieces" s_check_pieces f_check_pieces fd_check_pieces
  g_check_pieces : mg "check_pieces" = some (.ref f_check_pieces)
  f_Lines_init : Addr
  fd_Lines_init : FuncData
  F_Lines_init : Fun K "__init__" "Lines.__init__" s_Lines_init f_Lines_init fd_Lines_init
  f_Lines_badness : Addr
  fd_Lines_badness : FuncData
  F_Lines_badness : Fun K "badness" "Lines.badness" s_Lines_badness f_Lines_badness fd_Lines_badness
  f_Lines_from_piece : Addr
  fd_Lines_from_piece : FuncData
  F_Lines_from_piece : Fun K "from_piece" "Lines.from_piece" s_Lines_from_piece f_Lines_from_piece fd_Lines_from_piece
  f_best_lines : Addr
  fd_best_lines : FuncData
  F_best_lines : Fun K "best_lines" "best_lines" s_best_lines f_best_lines fd_best_lines
  g_best_lines : mg "best_lines" = some (.ref f_best_lines)
  f__law_pool : Addr
  fd__law_pool : FuncData
  F__law_pool : Fun K "_law_pool" "_law_pool" s__law_pool f__law_pool fd__law_pool
  g__law_pool : mg "_law_pool" = some (.ref f__law_pool)
  f__law_take : Addr
  fd__law_take : FuncData
  F__law_take : Fun K "_law_take" "_law_take" s__law_take f__law_take fd__law_take
  g__law_take : mg "_law_take" = some (.ref f__law_take)
  f__law_pick : Addr
  fd__law_pick : FuncData
  F__law_pick : Fun K "_law_pick" "_law_pick" s__law_pick f__law_pick fd__law_pick
  g__law_pick : mg "_law_pick" = some (.ref f__law_pick)
  f__law_is_integer : Addr
  fd__law_is_integer : FuncData
  F__law_is_integer : Fun K "_law_is_integer" "_law_is_integer" s__law_is_integer f__law_is_integer fd__law_is_integer
  g__law_is_integer : mg "_law_is_integer" = some (.ref f__law_is_integer)
  f__law_same : Addr
  fd__law_same : FuncData
  F__law_same : Fun K "_law_same" "_law_same" s__law_same f__law_same fd__law_same
  g__law_same : mg "_law_same" = some (.ref f__law_same)
  f__law_lowest : Addr
  fd__law_lowest : FuncData
  F__law_lowest : Fun K "_law_lowest" "_law_lowest" s__law_lowest f__law_lowest fd__law_lowest
  g__law_lowest : mg "_law_lowest" = some (.ref f__law_lowest)
  f__law_sum : Addr
  fd__law_sum : FuncData
  F__law_sum : Fun K "_law_sum" "_law_sum" s__law_sum f__law_sum fd__law_sum
  g__law_sum : mg "_law_sum" = some (.ref f__law_sum)
  f__law_listed : Addr
  fd__law_listed : FuncData
  F__law_listed : Fun K "_law_listed" "_law_listed" s__law_listed f__law_listed fd__law_listed
  g__law_listed : mg "_law_listed" = some (.ref f__law_listed)
  f__law_given : Addr
  fd__law_given : FuncData
  F__law_given : Fun K "_law_given" "_law_given" s__law_given f__law_given fd__law_given
  g__law_given : mg "_law_given" = some (.ref f__law_given)
  f__law_divisor : Addr
  fd__law_divisor : FuncData
  F__law_divisor : Fun K "_law_divisor" "_law_divisor" s__law_divisor f__law_divisor fd__law_divisor
  g__law_divisor : mg "_law_divisor" = some (.ref f__law_divisor)
  f__law_piece : Addr
  fd__law_piece : FuncData
  F__law_piece : Fun K "_law_piece" "_law_piece" s__law_piece f__law_piece fd__law_piece
  g__law_piece : mg "_law_piece" = some (.ref f__law_piece)
  f__law_pieces : Addr
  fd__law_pieces : FuncData
  F__law_pieces : Fun K "_law_pieces" "_law_pieces" s__law_pieces f__law_pieces fd__law_pieces
  g__law_pieces : mg "_law_pieces" = some (.ref f__law_pieces)
  f__law_room : Addr
  fd__law_room : FuncData
  F__law_room : Fun K "_law_room" "_law_room" s__law_room f__law_room fd__law_room
  g__law_room : mg "_law_room" = some (.ref f__law_room)
  f__law_scaled : Addr
  fd__law_scaled : FuncData
  F__law_scaled : Fun K "_law_scaled" "_law_scaled" s__law_scaled f__law_scaled fd__law_scaled
  g__law_scaled : mg "_law_scaled" = some (.ref f__law_scaled)
  f__law_bad : Addr
  fd__law_bad : FuncData
  F__law_bad : Fun K "_law_bad" "_law_bad" s__law_bad f__law_bad fd__law_bad
  g__law_bad : mg "_law_bad" = some (.ref f__law_bad)
  f__law_fitting : Addr
  fd__law_fitting : FuncData
  F__law_fitting : Fun K "_law_fitting" "_law_fitting" s__law_fitting f__law_fitting fd__law_fitting
  g__law_fitting : mg "_law_fitting" = some (.ref f__law_fitting)
  f__law_breakings : Addr
  fd__law_breakings : FuncData
  F__law_breakings : Fun K "_law_breakings" "_law_breakings" s__law_breakings f__law_breakings fd__law_breakings
  g__law_breakings : mg "_law_breakings" = some (.ref f__law_breakings)
  f__law_best : Addr
  fd__law_best : FuncData
  F__law_best : Fun K "_law_best" "_law_best" s__law_best f__law_best fd__law_best
  g__law_best : mg "_law_best" = some (.ref f__law_best)
  f__law_amounts : Addr
  fd__law_amounts : FuncData
  F__law_amounts : Fun K "_law_amounts" "_law_amounts" s__law_amounts f__law_amounts fd__law_amounts
  g__law_amounts : mg "_law_amounts" = some (.ref f__law_amounts)
  f__law_due : Addr
  fd__law_due : FuncData
  F__law_due : Fun K "_law_due" "_law_due" s__law_due f__law_due fd__law_due
  g__law_due : mg "_law_due" = some (.ref f__law_due)
  f_law : Addr
  fd_law : FuncData
  F_law : Fun K "law" "law" s_law f_law fd_law
  g_law : mg "law" = some (.ref f_law)
  C_Lines : Addr
  g_Lines : mg "Lines" = some (.ref C_Lines)
  n_Lines : PySem.W.nsIn K mainGlobals "Lines" = some (some (.ref C_Lines))
  cl_Lines : Cls K C_Lines
  mk_Lines : Mk K C_Lines f_Lines_init
  me_Lines_badness : Meth K C_Lines "badness" f_Lines_badness
  me_Lines_from_piece : Meth K C_Lines "from_piece" f_Lines_from_piece
  fo_Lines_many : FldOk K "Lines" "many"
  fo_Lines_room : FldOk K "Lines" "room"
  fo_Lines__sums : FldOk K "Lines" "_sums"
  z_list : mg "list" = none
  z_tuple : mg "tuple" = none
  z_isinstance : mg "isinstance" = none
  z_len : mg "len" = none
  z_bool : mg "bool" = none
  z_int : mg "int" = none
  z_any : mg "any" = none
  z_all : mg "all" = none
  z_enumerate : mg "enumerate" = none
  z_range : mg "range" = none
  z_str : mg "str" = none
  z_abs : mg "abs" = none
  z_min : mg "min" = none
  z_repr : mg "repr" = none
  m_gcd : mg "gcd" = some (.builtin "math.gcd")
  m_lcm : mg "lcm" = some (.builtin "math.lcm")
  c_MOST_PIECES : GlobD K mg "MOST_PIECES" (.int 400)
  c_MOST_TOP : GlobD K mg "MOST_TOP" (.int 1000000)
  c_MOST_BOTTOM : GlobD K mg "MOST_BOTTOM" (.int 1000)
  c_SCALE : GlobD K mg "SCALE" (.int 1000)
  C_BadPieces : Addr
  g_BadPieces : mg "BadPieces" = some (.ref C_BadPieces)
  n_BadPieces : PySem.W.nsIn K mainGlobals "BadPieces" = some (some (.ref C_BadPieces))
  C_BadRoom : Addr
  g_BadRoom : mg "BadRoom" = some (.ref C_BadRoom)
  n_BadRoom : PySem.W.nsIn K mainGlobals "BadRoom" = some (some (.ref C_BadRoom))
  x_BadRoom : OwnX K mg "BadRoom" C_BadRoom
  I_BadPieces : Addr
  id_BadPieces : FuncData
  o_BadPieces : OwnI P K mg "BadPieces" C_BadPieces I_BadPieces id_BadPieces ["number"]

section
variable {P : Program} {wd : World} {K : PySem.W.Frag} {mg : Str → Option Value} {base : Heap}
theorem bnd_is_fraction {K : PySem.W.Frag} {f : Addr} {fd : FuncData} (F : Fun K "is_fraction" "is_fraction" s_is_fraction f fd) : Binds K fd ["value"] [] := F.binds fun _ _ _ _ _ _ us hl => match us, hl with | [_], _ => rfl
theorem Txt.b_is_fraction (T : Txt P K mg) : Binds K T.fd_is_fraction ["value"] [] := bnd_is_fraction T.F_is_fraction
theorem bnd_is_part {K : PySem.W.Frag} {f : Addr} {fd : FuncData} (F : Fun K "is_part" "is_part" s_is_part f fd) : Binds K fd ["value"] [] := F.binds fun _ _ _ _ _ _ us hl => match us, hl with | [_], _ => rfl
theorem Txt.b_is_part (T : Txt P K mg) : Binds K T.fd_is_part ["value"] [] := bnd_is_part T.F_is_part
theorem bnd_is_piece {K : PySem.W.Frag} {f : Addr} {fd : FuncData} (F : Fun K "is_piece" "is_piece" s_is_piece f fd) : Binds K fd ["value"] [] := F.binds fun _ _ _ _ _ _ us hl => match us, hl with | [_], _ => rfl
theorem Txt.b_is_piece (T : Txt P K mg) : Binds K T.fd_is_piece ["value"] [] := bnd_is_piece T.F_is_piece
theorem bnd_check_pieces {K : PySem.W.Frag} {f : Addr} {fd : FuncData} (F : Fun K "check_pieces" "check_pieces" s_check_pieces f fd) : Binds K fd ["pieces"] [] := F.binds fun _ _ _ _ _ _ us hl => match us, hl with | [_], _ => rfl
theorem Txt.b_check_pieces (T : Txt P K mg) : Binds K T.fd_check_pieces ["pieces"] [] := bnd_check_pieces T.F_check_pieces
theorem bnd_Lines_init {K : PySem.W.Frag} {f : Addr} {fd : FuncData} (F : Fun K "__init__" "Lines.__init__" s_Lines_init f fd) : Binds K fd ["self", "pieces", "room"] [] := F.binds fun _ _ _ _ _ _ us hl => match us, hl with | [_, _, _], _ => rfl
theorem Txt.b_Lines_init (T : Txt P K mg) : Binds K T.fd_Lines_init ["self", "pieces", "room"] [] := bnd_Lines_init T.F_Lines_init
theorem bnd_Lines_badness {K : PySem.W.Frag} {f : Addr} {fd : FuncData} (F : Fun K "badness" "Lines.badness" s_Lines_badness f fd) : Binds K fd ["self", "first", "stop"] [] := F.binds fun _ _ _ _ _ _ us hl => match us, hl with | [_, _, _], _ => rfl
theorem Txt.b_Lines_badness (T : Txt P K mg) : Binds K T.fd_Lines_badness ["self", "first", "stop"] [] := bnd_Lines_badness T.F_Lines_badness
theorem bnd_Lines_from_piece {K : PySem.W.Frag} {f : Addr} {fd : FuncData} (F : Fun K "from_piece" "Lines.from_piece" s_Lines_from_piece f fd) : Binds K fd ["self", "first"] [] := F.binds fun _ _ _ _ _ _ us hl => match us, hl with | [_, _], _ => rfl
theorem Txt.b_Lines_from_piece (T : Txt P K mg) : Binds K T.fd_Lines_from_piece ["self", "first"] [] := bnd_Lines_from_piece T.F_Lines_from_piece
theorem bnd_best_lines {K : PySem.W.Frag} {f : Addr} {fd : FuncData} (F : Fun K "best_lines" "best_lines" s_best_lines f fd) : Binds K fd ["pieces", "room"] [] := F.binds fun _ _ _ _ _ _ us hl => match us, hl with | [_, _], _ => rfl
theorem Txt.b_best_lines (T : Txt P K mg) : Binds K T.fd_best_lines ["pieces", "room"] [] := bnd_best_lines T.F_best_lines
theorem bnd__law_pool {K : PySem.W.Frag} {f : Addr} {fd : FuncData} (F : Fun K "_law_pool" "_law_pool" s__law_pool f fd) : Binds K fd ["script"] [] := F.binds fun _ _ _ _ _ _ us hl => match us, hl with | [_], _ => rfl
theorem Txt.b__law_pool (T : Txt P K mg) : Binds K T.fd__law_pool ["script"] [] := bnd__law_pool T.F__law_pool
theorem bnd__law_take {K : PySem.W.Frag} {f : Addr} {fd : FuncData} (F : Fun K "_law_take" "_law_take" s__law_take f fd) : Binds K fd ["pool", "many"] [] := F.binds fun _ _ _ _ _ _ us hl => match us, hl with | [_, _], _ => rfl
theorem Txt.b__law_take (T : Txt P K mg) : Binds K T.fd__law_take ["pool", "many"] [] := bnd__law_take T.F__law_take
theorem bnd__law_pick {K : PySem.W.Frag} {f : Addr} {fd : FuncData} (F : Fun K "_law_pick" "_law_pick" s__law_pick f fd) : Binds K fd ["pool", "rows"] [] := F.binds fun _ _ _ _ _ _ us hl => match us, hl with | [_, _], _ => rfl
theorem Txt.b__law_pick (T : Txt P K mg) : Binds K T.fd__law_pick ["pool", "rows"] [] := bnd__law_pick T.F__law_pick
theorem bnd__law_is_integer {K : PySem.W.Frag} {f : Addr} {fd : FuncData} (F : Fun K "_law_is_integer" "_law_is_integer" s__law_is_integer f fd) : Binds K fd ["actual"] [] := F.binds fun _ _ _ _ _ _ us hl => match us, hl with | [_], _ => rfl
theorem Txt.b__law_is_integer (T : Txt P K mg) : Binds K T.fd__law_is_integer ["actual"] [] := bnd__law_is_integer T.F__law_is_integer
theorem bnd__law_same {K : PySem.W.Frag} {f : Addr} {fd : FuncData} (F : Fun K "_law_same" "_law_same" s__law_same f fd) : Binds K fd ["actual", "due"] [] := F.binds fun _ _ _ _ _ _ us hl => match us, hl with | [_, _], _ => rfl
theorem Txt.b__law_same (T : Txt P K mg) : Binds K T.fd__law_same ["actual", "due"] [] := bnd__law_same T.F__law_same
theorem bnd__law_lowest {K : PySem.W.Frag} {f : Addr} {fd : FuncData} (F : Fun K "_law_lowest" "_law_lowest" s__law_lowest f fd) : Binds K fd ["n", "d"] [] := F.binds fun _ _ _ _ _ _ us hl => match us, hl with | [_, _], _ => rfl
theorem Txt.b__law_lowest (T : Txt P K mg) : Binds K T.fd__law_lowest ["n", "d"] [] := bnd__law_lowest T.F__law_lowest
theorem bnd__law_sum {K : PySem.W.Frag} {f : Addr} {fd : FuncData} (F : Fun K "_law_sum" "_law_sum" s__law_sum f fd) : Binds K fd ["one", "other"] [] := F.binds fun _ _ _ _ _ _ us hl => match us, hl with | [_, _], _ => rfl
theorem Txt.b__law_sum (T : Txt P K mg) : Binds K T.fd__law_sum ["one", "other"] [] := bnd__law_sum T.F__law_sum
theorem bnd__law_listed {K : PySem.W.Frag} {f : Addr} {fd : FuncData} (F : Fun K "_law_listed" "_law_listed" s__law_listed f fd) : Binds K fd ["thing"] [] := F.binds fun _ _ _ _ _ _ us hl => match us, hl with | [_], _ => rfl
theorem Txt.b__law_listed (T : Txt P K mg) : Binds K T.fd__law_listed ["thing"] [] := bnd__law_listed T.F__law_listed
theorem bnd__law_given {K : PySem.W.Frag} {f : Addr} {fd : FuncData} (F : Fun K "_law_given" "_law_given" s__law_given f fd) : Binds K fd ["pool", "thing"] [] := F.binds fun _ _ _ _ _ _ us hl => match us, hl with | [_, _], _ => rfl
theorem Txt.b__law_given (T : Txt P K mg) : Binds K T.fd__law_given ["pool", "thing"] [] := bnd__law_given T.F__law_given
theorem bnd__law_divisor {K : PySem.W.Frag} {f : Addr} {fd : FuncData} (F : Fun K "_law_divisor" "_law_divisor" s__law_divisor f fd) : Binds K fd ["one", "other"] [] := F.binds fun _ _ _ _ _ _ us hl => match us, hl with | [_, _], _ => rfl
theorem Txt.b__law_divisor (T : Txt P K mg) : Binds K T.fd__law_divisor ["one", "other"] [] := bnd__law_divisor T.F__law_divisor
theorem bnd__law_piece {K : PySem.W.Frag} {f : Addr} {fd : FuncData} (F : Fun K "_law_piece" "_law_piece" s__law_piece f fd) : Binds K fd ["pool", "kind"] [] := F.binds fun _ _ _ _ _ _ us hl => match us, hl with | [_, _], _ => rfl
theorem Txt.b__law_piece (T : Txt P K mg) : Binds K T.fd__law_piece ["pool", "kind"] [] := bnd__law_piece T.F__law_piece
theorem bnd__law_pieces {K : PySem.W.Frag} {f : Addr} {fd : FuncData} (F : Fun K "_law_pieces" "_law_pieces" s__law_pieces f fd) : Binds K fd ["pool", "many"] [] := F.binds fun _ _ _ _ _ _ us hl => match us, hl with | [_, _], _ => rfl
theorem Txt.b__law_pieces (T : Txt P K mg) : Binds K T.fd__law_pieces ["pool", "many"] [] := bnd__law_pieces T.F__law_pieces
theorem bnd__law_room {K : PySem.W.Frag} {f : Addr} {fd : FuncData} (F : Fun K "_law_room" "_law_room" s__law_room f fd) : Binds K fd ["pool", "pieces", "most"] [] := F.binds fun _ _ _ _ _ _ us hl => match us, hl with | [_, _, _], _ => rfl
theorem Txt.b__law_room (T : Txt P K mg) : Binds K T.fd__law_room ["pool", "pieces", "most"] [] := bnd__law_room T.F__law_room
theorem bnd__law_scaled {K : PySem.W.Frag} {f : Addr} {fd : FuncData} (F : Fun K "_law_scaled" "_law_scaled" s__law_scaled f fd) : Binds K fd ["pieces", "room"] [] := F.binds fun _ _ _ _ _ _ us hl => match us, hl with | [_, _], _ => rfl
theorem Txt.b__law_scaled (T : Txt P K mg) : Binds K T.fd__law_scaled ["pieces", "room"] [] := bnd__law_scaled T.F__law_scaled
theorem bnd__law_bad {K : PySem.W.Frag} {f : Addr} {fd : FuncData} (F : Fun K "_law_bad" "_law_bad" s__law_bad f fd) : Binds K fd ["scaled", "first", "stop"] [] := F.binds fun _ _ _ _ _ _ us hl => match us, hl with | [_, _, _], _ => rfl
theorem Txt.b__law_bad (T : Txt P K mg) : Binds K T.fd__law_bad ["scaled", "first", "stop"] [] := bnd__law_bad T.F__law_bad
theorem bnd__law_fitting {K : PySem.W.Frag} {f : Addr} {fd : FuncData} (F : Fun K "_law_fitting" "_law_fitting" s__law_fitting f fd) : Binds K fd ["scaled"] [] := F.binds fun _ _ _ _ _ _ us hl => match us, hl with | [_], _ => rfl
theorem Txt.b__law_fitting (T : Txt P K mg) : Binds K T.fd__law_fitting ["scaled"] [] := bnd__law_fitting T.F__law_fitting
theorem bnd__law_breakings {K : PySem.W.Frag} {f : Addr} {fd : FuncData} (F : Fun K "_law_breakings" "_law_breakings" s__law_breakings f fd) : Binds K fd ["lines", "first"] [] := F.binds fun _ _ _ _ _ _ us hl => match us, hl with | [_, _], _ => rfl
theorem Txt.b__law_breakings (T : Txt P K mg) : Binds K T.fd__law_breakings ["lines", "first"] [] := bnd__law_breakings T.F__law_breakings
theorem bnd__law_best {K : PySem.W.Frag} {f : Addr} {fd : FuncData} (F : Fun K "_law_best" "_law_best" s__law_best f fd) : Binds K fd ["lines"] [] := F.binds fun _ _ _ _ _ _ us hl => match us, hl with | [_], _ => rfl
theorem Txt.b__law_best (T : Txt P K mg) : Binds K T.fd__law_best ["lines"] [] := bnd__law_best T.F__law_best
theorem bnd__law_amounts {K : PySem.W.Frag} {f : Addr} {fd : FuncData} (F : Fun K "_law_amounts" "_law_amounts" s__law_amounts f fd) : Binds K fd ["pool"] [] := F.binds fun _ _ _ _ _ _ us hl => match us, hl with | [_], _ => rfl
theorem Txt.b__law_amounts (T : Txt P K mg) : Binds K T.fd__law_amounts ["pool"] [] := bnd__law_amounts T.F__law_amounts
theorem bnd__law_due {K : PySem.W.Frag} {f : Addr} {fd : FuncData} (F : Fun K "_law_due" "_law_due" s__law_due f fd) : Binds K fd ["lines"] [] := F.binds fun _ _ _ _ _ _ us hl => match us, hl with | [_], _ => rfl
theorem Txt.b__law_due (T : Txt P K mg) : Binds K T.fd__law_due ["lines"] [] := bnd__law_due T.F__law_due
theorem bnd_law {K : PySem.W.Frag} {f : Addr} {fd : FuncData} (F : Fun K "law" "law" s_law f fd) : Binds K fd ["script"] [] := F.binds fun _ _ _ _ _ _ us hl => match us, hl with | [_], _ => rfl
theorem Txt.b_law (T : Txt P K mg) : Binds K T.fd_law ["script"] [] := bnd_law T.F_law
theorem ok_is_fraction (T : Txt P K mg) : FnOk P wd K mg base (L2.CX P wd) 1 T.f_is_fraction T.fd_is_fraction ["value"] (upP K sp_is_fraction) :=
  okM T.F_is_fraction sc_is_fraction len_is_fraction fun cdv A outer s H E hr => by
    have hu := hr.units
    exact ⟨r_is_fraction, (mss_cons (ms_if (MW.mt (mw_or (mt_not (mt_tru (me_callB call_isiT2 la_isiT mr_isiT (by rfl) T.z_isinstance (by decide +kernel) (ma_cons (mv 0) (ma_cons (me_tup (ma_cons (me_ty (by rfl) T.z_tuple (by decide +kernel)) (ma_cons (me_ty (by rfl) T.z_list (by decide +kernel)) ma_nil))) ma_nil))))) (mw_or1 (mt_cmp (op_neAll hu) lf_ne mn_eq (me_callB call_len la_len mr_len (by rfl) T.z_len (by decide +kernel) (ma_cons (mv 0) ma_nil)) me_int (nomark _))))) (mss_one (ms_ret me_bl)) mss_nil)
      (mss_cons (ms_if (mt_tru (me_callB (cr_any rfl) la_any mr_bls (by rfl) T.z_any (by decide +kernel) (ma_cons (me_lc (own := [("part", 1)]) false rfl sc_is_fraction.nd (mi_seq (mv 0)) (blkOk_by (N := N_is_fraction) (sc := defScope s_is_fraction) (by decide +kernel)) (fun _ _ _ _ _ => pg_name (i := 1) sc_is_fraction.nd (by rfl) (.inl rfl)) cg_name (fun _ _ _ _ _ => mts_nil) (fun _ _ _ _ _ => (me_or (me_callB call_isi la_isi mr_isi (by rfl) T.z_isinstance (by decide +kernel) (ma_cons (mv 1) (ma_cons (me_ty (by rfl) T.z_bool (by decide +kernel)) ma_nil))) (me_one (me_not (me_callB call_isi la_isi mr_isi (by rfl) T.z_isinstance (by decide +kernel) (ma_cons (mv 1) (ma_cons (me_ty (by rfl) T.z_int (by decide +kernel)) ma_nil)))))))) ma_nil))) (mss_one (ms_ret me_bl)) mss_nil)
      (mss_one (ms_ret (me_and (me_cmp op_gt lf_B0 mn_I0 (me_ix ix_seq lf_ix mn_ix (mv 0) me_int (fun _ _ => rfl)) me_int (nomark _)) (me_one (me_cmp (op_eqAll hu) lf_eq mn_eq (me_callBfun cr_gcd la_gcd mr_I2 (by rfl) T.m_gcd (ma_cons (me_ix ix_seq lf_ix mn_ix (mv 0) me_int (fun _ _ => rfl)) (ma_cons (me_ix ix_seq lf_ix mn_ix (mv 0) me_int (fun _ _ => rfl)) ma_nil))) me_int (nomark _)))))))), math_is_fraction⟩
theorem ok_is_part (T : Txt P K mg) : FnOk P wd K mg base (L2.CX P wd) 2 T.f_is_part T.fd_is_part ["value"] (upP K sp_is_part) :=
  okM T.F_is_part sc_is_part len_is_part fun cdv A outer s H E hr => by
    have hu := hr.units
    exact ⟨r_is_part, (mss_one (ms_ret (me_and (me_call (ok_is_fraction T) mono_is_fraction (hr.mono (by decide)) (takes_of rfl rfl rfl rfl) (by rfl) T.g_is_fraction T.F_is_fraction.kp T.b_is_fraction (ma_cons (mv 0) ma_nil)) (me_and (me_chain op_le op_le lf_B0 lf_B0 mn_I0 mn_I0 me_int (me_ix ix_seq lf_ix mn_ix (mv 0) me_int (fun _ _ => rfl)) (me_globD (by rfl) T.c_MOST_TOP)) (me_one (me_cmp op_le lf_B0 mn_I0 (me_ix ix_seq lf_ix mn_ix (mv 0) me_int (fun _ _ => rfl)) (me_globD (by rfl) T.c_MOST_BOTTOM) (nomark _))))))), math_is_part⟩
theorem ok_is_piece (T : Txt P K mg) : FnOk P wd K mg base (L2.CX P wd) 3 T.f_is_piece T.fd_is_piece ["value"] (upP K sp_is_piece) :=
  okM T.F_is_piece sc_is_piece len_is_piece fun cdv A outer s H E hr => by
    have hu := hr.units
    exact ⟨r_is_piece, (mss_cons (ms_if (MW.mt (mw_or (mt_not (mt_tru (me_callB call_isiT2 la_isiT mr_isiT (by rfl) T.z_isinstance (by decide +kernel) (ma_cons (mv 0) (ma_cons (me_tup (ma_cons (me_ty (by rfl) T.z_tuple (by decide +kernel)) (ma_cons (me_ty (by rfl) T.z_list (by decide +kernel)) ma_nil))) ma_nil))))) (mw_or (mt_cmp (op_neAll hu) lf_ne mn_eq (me_callB call_len la_len mr_len (by rfl) T.z_len (by decide +kernel) (ma_cons (mv 0) ma_nil)) me_int (nomark _)) (mw_or1 (mt_not (mt_tru (me_callB (cr_all rfl) la_all mr_bls (by rfl) T.z_all (by decide +kernel) (ma_cons (me_lc (own := [("part", 1)]) false rfl sc_is_piece.nd (mi_seq (mv 0)) (blkOk_by (N := N_is_piece) (sc := defScope s_is_piece) (by decide +kernel)) (fun _ _ _ _ _ => pg_name (i := 1) sc_is_piece.nd (by rfl) (.inl rfl)) cg_name (fun _ _ _ _ _ => mts_nil) (fun _ _ _ _ _ => (me_call (ok_is_part T) mono_is_part (hr.mono (by decide)) takes0 (by rfl) T.g_is_part T.F_is_part.kp T.b_is_part (ma_cons (mv 1) ma_nil)))) ma_nil)))))))) (mss_one (ms_ret me_bl)) mss_nil)
      (mss_one (ms_ret (me_cmp op_le lf_B0 mn_I0 (me_op op_mulAll (lf_mul (cell := false)) mn_mul (me_ix ix_seq lf_ix mn_ix (me_ix ix_seq lf_ix mn_ix (mv 0) me_int (fun _ _ => rfl)) me_int (fun _ _ => rfl)) (me_ix ix_seq lf_ix mn_ix (me_ix ix_seq lf_ix mn_ix (mv 0) me_int (fun _ _ => rfl)) me_int (fun _ _ => rfl))) (me_op op_mulAll (lf_mul (cell := false)) mn_mul (me_ix ix_seq lf_ix mn_ix (me_ix ix_seq lf_ix mn_ix (mv 0) me_int (fun _ _ => rfl)) me_int (fun _ _ => rfl)) (me_ix ix_seq lf_ix mn_ix (me_ix ix_seq lf_ix mn_ix (mv 0) me_int (fun _ _ => rfl)) me_int (fun _ _ => rfl))) (nomark _))))), math_is_piece⟩
theorem ok_check_pieces (T : Txt P K mg) : FnOk P wd K mg base (L2.CX P wd) 4 T.f_check_pieces T.fd_check_pieces ["pieces"] (upP K sp_check_pieces) :=
  okM T.F_check_pieces sc_check_pieces len_check_pieces fun cdv A outer s H E hr => by
    have hu := hr.units
    exact ⟨r_check_pieces, (mss_cons (ms_if (MW.mt (mw_or (mt_not (mt_tru (me_callB call_isiT2 la_isiT mr_isiT (by rfl) T.z_isinstance (by decide +kernel) (ma_cons (mv 0) (ma_cons (me_tup (ma_cons (me_ty (by rfl) T.z_tuple (by decide +kernel)) (ma_cons (me_ty (by rfl) T.z_list (by decide +kernel)) ma_nil))) ma_nil))))) (mw_or1 (mt_not (mt_chain op_le op_le lf_B0 lf_B0 mn_I0 mn_I0 me_int (me_callB call_len la_len mr_len (by rfl) T.z_len (by decide +kernel) (ma_cons (mv 0) ma_nil)) (me_globD (by rfl) T.c_MOST_PIECES)))))) (mss_one (ms_raise rfl (takes_of rfl rfl rfl rfl) (mmk_init T.o_BadPieces (hr.mono (by decide)) (by rfl) (ma_cons me_non ma_nil)))) mss_nil)
      (mss_one (ms_for (passes_of rfl) rfl (mi_enum2 (by rfl) T.z_enumerate (ma_cons (mv 0) ma_nil)) (mg_tup rfl (mgs_cons (mg_name (i := 1) sc_check_pieces.nd (by rfl) (.inl rfl)) (mgs_cons (mg_name (i := 2) sc_check_pieces.nd (by rfl) (.inl rfl)) mgs_nil))) (mss_one (ms_if (mt_not (mt_tru (me_call (ok_is_piece T) mono_is_piece (hr.mono (by decide)) (takes_of rfl rfl rfl rfl) (by rfl) T.g_is_piece T.F_is_piece.kp T.b_is_piece (ma_cons (mv 2) ma_nil)))) (mss_one (ms_raise rfl (takes_of rfl rfl rfl rfl) (mmk_init T.o_BadPieces (hr.mono (by decide)) (by rfl) (ma_cons (mv 1) ma_nil)))) mss_nil))))), math_check_pieces⟩
theorem ok_Lines_init (T : Txt P K mg) : FnOk P wd K mg base (L2.CX P wd) 5 T.f_Lines_init T.fd_Lines_init ["self", "pieces", "room"] (upP K sp_Lines_init) :=
  okM T.F_Lines_init sc_Lines_init len_Lines_init fun cdv A outer s H E hr => by
    have hu := hr.units
    exact ⟨r_Lines_init, (mss_cons (ms_expr (me_call (ok_check_pieces T) mono_check_pieces (hr.mono (by decide)) (takes_of rfl rfl rfl rfl) (by rfl) T.g_check_pieces T.F_check_pieces.kp T.b_check_pieces (ma_cons (mv 1) ma_nil)))
      (mss_cons (ms_if (MW.mt (mw_or (mt_not (mt_tru (me_call (ok_is_part T) mono_is_part (hr.mono (by decide)) (takes_of rfl rfl rfl rfl) (by rfl) T.g_is_part T.F_is_part.kp T.b_is_part (ma_cons (mv 2) ma_nil)))) (mw_or1 (mt_cmp (op_eqAll hu) lf_eq mn_eq (me_ix ix_seq lf_ix mn_ix (mv 2) me_int (fun _ _ => rfl)) me_int (nomark _))))) (mss_one (ms_raise rfl (takes_of rfl rfl rfl rfl) (mmk_own T.x_BadRoom (by rfl) (ma_cons me_str ma_nil)))) mss_nil)
      (mss_cons (ms_set (i := 3) sc_Lines_init.nd (by rfl) (.inr rfl) (me_ix ix_seq lf_ix mn_ix (mv 2) me_int (fun _ _ => rfl)))
      (mss_cons (ms_for (passes_of rfl) rfl (mi_seq (mv 1)) (mg_name (i := 4) sc_Lines_init.nd (by rfl) (.inl rfl)) (mss_one (ms_for (passes_of rfl) rfl (mi_seq (mv 4)) (mg_name (i := 5) sc_Lines_init.nd (by rfl) (.inl rfl)) (mss_one (ms_set (i := 3) sc_Lines_init.nd (by rfl) (.inr rfl) (me_callBfun cr_lcm la_lcm mr_lcm (by rfl) T.m_lcm (ma_cons (mv 3) (ma_cons (me_ix ix_seq lf_ix mn_ix (mv 5) me_int (fun _ _ => rfl)) ma_nil))))))))
      (mss_cons (ms_fld (fld1 T.fo_Lines_many) (mv 0) (me_callB call_len la_len mr_len (by rfl) T.z_len (by decide +kernel) (ma_cons (mv 1) ma_nil)))
      (mss_cons (ms_fld (fld1 T.fo_Lines_room) (mv 0) (me_op op_mulAll (lf_mul (cell := false)) mn_mul (me_ix ix_seq lf_ix mn_ix (mv 2) me_int (fun _ _ => rfl)) (me_op op_fdivA lf_I mn_I (mv 3) (me_ix ix_seq lf_ix mn_ix (mv 2) me_int (fun _ _ => rfl)))))
      (mss_cons (ms_fld (fld1 T.fo_Lines__sums) (mv 0) (me_lst true (ma_cons (me_tup (ma_cons me_int (ma_cons me_int (ma_cons me_int ma_nil)))) ma_nil)))
      (mss_one (ms_for (passes_of rfl) rfl (mi_seq (mv 1)) (mg_name (i := 4) sc_Lines_init.nd (by rfl) (.inl rfl)) (mss_cons (ms_asg (me_lc (own := [("part", 5)]) false rfl sc_Lines_init.nd (mi_seq (mv 4)) (blkOk_by (N := N_Lines_init) (sc := defScope s_Lines_init) (by decide +kernel)) (fun _ _ _ _ _ => pg_name (i := 5) sc_Lines_init.nd (by rfl) (.inl rfl)) cg_name (fun _ _ _ _ _ => mts_nil) (fun _ _ _ _ _ => (me_op op_mulAll (lf_mul (cell := false)) mn_mul (me_ix ix_seq lf_ix mn_ix (mv 5) me_int (fun _ _ => rfl)) (me_op op_fdivA lf_I mn_I (mv 3) (me_ix ix_seq lf_ix mn_ix (mv 5) me_int (fun _ _ => rfl)))))) (mg_tup rfl (mgs_cons (mg_name (i := 7) sc_Lines_init.nd (by rfl) (.inl rfl)) (mgs_cons (mg_name (i := 8) sc_Lines_init.nd (by rfl) (.inl rfl)) (mgs_cons (mg_name (i := 9) sc_Lines_init.nd (by rfl) (.inl rfl)) mgs_nil)))))
      (mss_cons (ms_set (i := 6) sc_Lines_init.nd (by rfl) (.inl rfl) (me_ix ix_seq lf_ix mn_ix (me_fld (fld1 T.fo_Lines__sums) (mv 0)) (me_un un_neg lf_neg mn_neg me_int) (fun _ _ => rfl)))
      (mss_one (ms_expr (me_bm PySem.F.plainAttrs_list PySem.F.slot_list_append PySem.F.type_list_append mt_append lm_append mm_append (me_fld (fld1 T.fo_Lines__sums) (mv 0)) (ma_cons (me_tup (ma_cons (me_op op_addAll (lf_add (cell := false)) mn_add (me_ix ix_seq lf_ix mn_ix (mv 6) me_int (fun _ _ => rfl)) (mv 7)) (ma_cons (me_op op_addAll (lf_add (cell := false)) mn_add (me_ix ix_seq lf_ix mn_ix (mv 6) me_int (fun _ _ => rfl)) (mv 8)) (ma_cons (me_op op_addAll (lf_add (cell := false)) mn_add (me_ix ix_seq lf_ix mn_ix (mv 6) me_int (fun _ _ => rfl)) (mv 9)) ma_nil)))) ma_nil))))))))))))))), math_Lines_init⟩
theorem ok_Lines_badness (T : Txt P K mg) : FnOk P wd K mg base (L2.CX P wd) 1 T.f_Lines_badness T.fd_Lines_badness ["self", "first", "stop"] (upP K sp_Lines_badness) :=
  okM T.F_Lines_badness sc_Lines_badness len_Lines_badness fun cdv A outer s H E hr => by
    have hu := hr.units
    exact ⟨r_Lines_badness, (mss_cons (ms_asg (me_lc (own := [("k", 7)]) false rfl sc_Lines_badness.nd (mi_range1 (by rfl) T.z_range (ma_cons me_int ma_nil)) (blkOk_by (N := N_Lines_badness) (sc := defScope s_Lines_badness) (by decide +kernel)) (fun _ _ _ _ _ => pg_name (i := 7) sc_Lines_badness.nd (by rfl) (.inl rfl)) cg_name (fun _ _ _ _ _ => mts_nil) (fun _ _ _ _ _ => (me_op op_sub lf_I0 mn_I0 (me_ix ix_seq lf_ix mn_ix (me_ix ix_seq lf_ix mn_ix (me_fld (fld1 T.fo_Lines__sums) (mv 0)) (mv 2) (fun _ _ => rfl)) (mv 7) (fun _ _ => rfl)) (me_ix ix_seq lf_ix mn_ix (me_ix ix_seq lf_ix mn_ix (me_fld (fld1 T.fo_Lines__sums) (mv 0)) (mv 1) (fun _ _ => rfl)) (mv 7) (fun _ _ => rfl))))) (mg_tup rfl (mgs_cons (mg_name (i := 4) sc_Lines_badness.nd (by rfl) (.inl rfl)) (mgs_cons (mg_name (i := 5) sc_Lines_badness.nd (by rfl) (.inl rfl)) (mgs_cons (mg_name (i := 6) sc_Lines_badness.nd (by rfl) (.inl rfl)) mgs_nil)))))
      (mss_cons (ms_set (i := 3) sc_Lines_badness.nd (by rfl) (.inl rfl) (me_op op_sub lf_I0 mn_I0 (me_fld (fld1 T.fo_Lines_room) (mv 0)) (mv 4)))
      (mss_cons (ms_if (MW.mt (mw_or (mt_cmp (op_eqAll hu) lf_eq mn_eq (mv 3) me_int (nomark _)) (mw_or1 (MW.mt (mw_and (mt_cmp op_gt lf_B0 mn_I0 (mv 3) me_int (nomark _)) (mw_and1 (mt_cmp (op_eqAll hu) lf_eq mn_eq (mv 2) (me_fld (fld1 T.fo_Lines_many) (mv 0)) (nomark _)))))))) (mss_one (ms_ret me_int)) mss_nil)
      (mss_cons (ms_if (mt_cmp op_gt lf_B0 mn_I0 (mv 3) me_int (nomark _)) (mss_one (ms_ret (me_if (mt_cmp op_gt lf_B0 mn_I0 (mv 5) me_int (nomark _)) (me_op op_fdivA lf_I mn_I (me_op op_mulAll (lf_mul (cell := false)) mn_mul (me_op op_mulAll (lf_mul (cell := false)) mn_mul (me_globD (by rfl) T.c_SCALE) (mv 3)) (mv 3)) (me_op op_mulAll (lf_mul (cell := false)) mn_mul (mv 5) (mv 5))) me_non))) mss_nil)
      (mss_one (ms_ret (me_if (mt_cmp op_ge lf_B0 mn_I0 (me_op op_addAll (lf_add (cell := false)) mn_add (mv 6) (mv 3)) me_int (nomark _)) (me_op op_fdivA lf_I mn_I (me_op op_mulAll (lf_mul (cell := false)) mn_mul (me_op op_mulAll (lf_mul (cell := false)) mn_mul (me_globD (by rfl) T.c_SCALE) (mv 3)) (mv 3)) (me_op op_mulAll (lf_mul (cell := false)) mn_mul (mv 6) (mv 6))) me_non))))))), math_Lines_badness⟩
theorem ok_Lines_from_piece (T : Txt P K mg) : FnOk P wd K mg base (L2.CX P wd) 2 T.f_Lines_from_piece T.fd_Lines_from_piece ["self", "first"] (upP K sp_Lines_from_piece) :=
  okM T.F_Lines_from_piece sc_Lines_from_piece len_Lines_from_piece fun cdv A outer s H E hr => by
    have hu := hr.units
    exact ⟨r_Lines_from_piece, (mss_cons (ms_set (i := 2) sc_Lines_from_piece.nd (by rfl) (.inl rfl) (me_lst true ma_nil))
      (mss_cons (ms_set (i := 3) sc_Lines_from_piece.nd (by rfl) (.inl rfl) (me_ix ix_seq lf_ix mn_ix (me_fld (fld1 T.fo_Lines__sums) (mv 0)) (mv 1) (fun _ _ => rfl)))
      (mss_cons (ms_for (passes_of rfl) rfl (mi_range2 (by rfl) T.z_range (ma_cons (me_op op_addAll (lf_add (cell := false)) mn_add (mv 1) me_int) (ma_cons (me_op op_addAll (lf_add (cell := false)) mn_add (me_fld (fld1 T.fo_Lines_many) (mv 0)) me_int) ma_nil))) (mg_name (i := 4) sc_Lines_from_piece.nd (by rfl) (.inl rfl)) (mss_cons (ms_set (i := 5) sc_Lines_from_piece.nd (by rfl) (.inl rfl) (me_ix ix_seq lf_ix mn_ix (me_fld (fld1 T.fo_Lines__sums) (mv 0)) (mv 4) (fun _ _ => rfl)))
      (mss_cons (ms_if (mt_cmp op_gt lf_B0 mn_I0 (me_op op_sub lf_I0 mn_I0 (me_op op_sub lf_I0 mn_I0 (me_ix ix_seq lf_ix mn_ix (mv 5) me_int (fun _ _ => rfl)) (me_ix ix_seq lf_ix mn_ix (mv 3) me_int (fun _ _ => rfl))) (me_op op_sub lf_I0 mn_I0 (me_ix ix_seq lf_ix mn_ix (mv 5) me_int (fun _ _ => rfl)) (me_ix ix_seq lf_ix mn_ix (mv 3) me_int (fun _ _ => rfl)))) (me_fld (fld1 T.fo_Lines_room) (mv 0)) (nomark _)) (mss_one ms_break) mss_nil)
      (mss_cons (ms_set (i := 6) sc_Lines_from_piece.nd (by rfl) (.inl rfl) (me_meth T.n_Lines (mv 0) T.cl_Lines T.me_Lines_badness (ok_Lines_badness T) mono_Lines_badness (hr.mono (by decide)) (takes_of rfl rfl rfl rfl) T.b_Lines_badness (ma_cons (mv 1) (ma_cons (mv 4) ma_nil))))
      (mss_one (ms_if (mt_cmp op_notN1 lf_notN mn_isN (mv 6) me_non (nomark _)) (mss_one (ms_expr (me_bm PySem.F.plainAttrs_list PySem.F.slot_list_append PySem.F.type_list_append mt_append lm_append mm_append (mv 2) (ma_cons (me_tup (ma_cons (mv 4) (ma_cons (mv 6) ma_nil))) ma_nil)))) mss_nil))))))
      (mss_one (ms_ret (me_frz (mv 2))))))), math_Lines_from_piece⟩
theorem ok_best_lines (T : Txt P K mg) : FnOk P wd K mg base (L2.CX P wd) 7 T.f_best_lines T.fd_best_lines ["pieces", "room"] (upP K sp_best_lines) :=
  okM T.F_best_lines sc_best_lines len_best_lines fun cdv A outer s H E hr => by
    have hu := hr.units
    exact ⟨r_best_lines, (mss_cons (ms_set (i := 2) sc_best_lines.nd (by rfl) (.inl rfl) (me_make T.n_Lines T.mk_Lines (ok_Lines_init T) mono_Lines_init (hr.mono (by decide)) (takes_of rfl rfl rfl rfl) (by rfl) T.g_Lines T.b_Lines_init (ma_cons (mv 0) (ma_cons (mv 1) ma_nil))))
      (mss_cons (ms_set (i := 3) sc_best_lines.nd (by rfl) (.inl rfl) (me_op op_addAll (lf_add (cell := true)) mn_add (me_op op_mulAll (lf_mul (cell := false)) mn_mul (me_lst false (ma_cons me_non ma_nil)) (me_fld (fld1 T.fo_Lines_many) (mv 2))) (me_lst false (ma_cons (me_tup (ma_cons me_int (ma_cons me_int ma_nil))) ma_nil))))
      (mss_cons (ms_set (i := 4) sc_best_lines.nd (by rfl) (.inl rfl) (me_op op_mulAll (lf_mul (cell := true)) mn_mul (me_lst false (ma_cons me_non ma_nil)) (me_op op_addAll (lf_add (cell := false)) mn_add (me_fld (fld1 T.fo_Lines_many) (mv 2)) me_int)))
      (mss_cons (ms_for (passes_of rfl) rfl (mi_range3 (by rfl) T.z_range (ma_cons (me_op op_sub lf_I0 mn_I0 (me_fld (fld1 T.fo_Lines_many) (mv 2)) me_int) (ma_cons (me_un un_neg lf_neg mn_neg me_int) (ma_cons (me_un un_neg lf_neg mn_neg me_int) ma_nil)))) (mg_name (i := 5) sc_best_lines.nd (by rfl) (.inl rfl)) (mss_one (ms_for (passes_of rfl) rfl (mi_seq (me_meth T.n_Lines (mv 2) T.cl_Lines T.me_Lines_from_piece (ok_Lines_from_piece T) mono_Lines_from_piece (hr.mono (by decide)) (takes_of rfl rfl rfl rfl) T.b_Lines_from_piece (ma_cons (mv 5) ma_nil))) (mg_tup rfl (mgs_cons (mg_name (i := 8) sc_best_lines.nd (by rfl) (.inl rfl)) (mgs_cons (mg_name (i := 9) sc_best_lines.nd (by rfl) (.inl rfl)) mgs_nil))) (mss_one (ms_if (mt_cmp op_notN1 lf_notN mn_isN (me_ix ix_seq lf_ix mn_ix (mv 3) (mv 8) (fun _ _ => rfl)) me_non (nomark _)) (mss_cons (ms_set (i := 10) sc_best_lines.nd (by rfl) (.inl rfl) (me_tup (ma_cons (me_op op_addAll (lf_add (cell := false)) mn_add (mv 9) (me_ix ix_seq lf_ix mn_ix (me_ix ix_seq lf_ix mn_ix (mv 3) (mv 8) (fun _ _ => rfl)) me_int (fun _ _ => rfl))) (ma_cons (me_op op_addAll (lf_add (cell := false)) mn_add me_int (me_ix ix_seq lf_ix mn_ix (me_ix ix_seq lf_ix mn_ix (mv 3) (mv 8) (fun _ _ => rfl)) me_int (fun _ _ => rfl))) ma_nil))))
      (mss_one (ms_if (MW.mt (mw_or (mt_cmp op_isN1 lf_isN mn_isN (me_ix ix_seq lf_ix mn_ix (mv 3) (mv 5) (fun _ _ => rfl)) me_non (nomark _)) (mw_or1 (mt_cmp (op_ltD hu) lf_ltD mn_ltD (mv 10) (me_ix ix_seq lf_ix mn_ix (mv 3) (mv 5) (fun _ _ => rfl)) (nomark _))))) (mss_cons (ms_asg (mv 10) (mg_sub (mv 3) (mv 5) set_list ls_list ms_list))
      (mss_one (ms_asg (mv 8) (mg_sub (mv 4) (mv 5) set_list ls_list ms_list)))) mss_nil))) mss_nil)))))
      (mss_cons (ms_if (mt_cmp op_isN1 lf_isN mn_isN (me_ix ix_seq lf_ix mn_ix (mv 3) me_int (fun _ _ => rfl)) me_non (nomark _)) (mss_one (ms_ret me_non)) mss_nil)
      (mss_cons (ms_set (i := 6) sc_best_lines.nd (by rfl) (.inl rfl) (me_lst true ma_nil))
      (mss_cons (ms_set (i := 7) sc_best_lines.nd (by rfl) (.inl rfl) me_int)
      (mss_cons (ms_while (passes_of rfl) (mt_cmp op_lt lf_B0 mn_I0 (mv 7) (me_fld (fld1 T.fo_Lines_many) (mv 2)) (nomark _)) (mss_cons (ms_set (i := 7) sc_best_lines.nd (by rfl) (.inl rfl) (me_ix ix_seq lf_ix mn_ix (mv 4) (mv 7) (fun _ _ => rfl)))
      (mss_one (ms_expr (me_bm PySem.F.plainAttrs_list PySem.F.slot_list_append PySem.F.type_list_append mt_append lm_append mm_append (mv 6) (ma_cons (mv 7) ma_nil))))))
      (mss_one (ms_ret (me_tup (ma_cons (me_ix ix_seq lf_ix mn_ix (me_ix ix_seq lf_ix mn_ix (mv 3) me_int (fun _ _ => rfl)) me_int (fun _ _ => rfl)) (ma_cons (me_callTy call_tuple_of la_tuple mr_tuple (by rfl) T.z_tuple (by decide +kernel) (ma_cons (mv 6) ma_nil)) ma_nil))))))))))))), math_best_lines⟩
theorem ok__law_pool (T : Txt P K mg) : FnOk P wd K mg base (L2.CX P wd) 1 T.f__law_pool T.fd__law_pool ["script"] (upP K sp__law_pool) :=
  okM T.F__law_pool sc__law_pool len__law_pool fun cdv A outer s H E hr => by
    have hu := hr.units
    exact ⟨r__law_pool, (mss_one (ms_ret (me_lst true (ma_cons (me_lc (own := [("cell", 1)]) false rfl sc__law_pool.nd (mi_seq (mv 0)) (blkOk_by (N := N__law_pool) (sc := defScope s__law_pool) (by decide +kernel)) (fun _ _ _ _ _ => pg_name (i := 1) sc__law_pool.nd (by rfl) (.inl rfl)) cg_name (fun _ _ _ _ _ => mts_nil) (fun _ _ _ _ _ => (me_if (mt_cmp op_ge lf_B0 mn_I0 (mv 1) me_int (nomark _)) (me_op op_mulAll (lf_mul (cell := false)) mn_mul me_int (mv 1)) (me_op op_sub lf_I0 mn_I0 (me_op op_mulAll (lf_mul (cell := false)) mn_mul (me_un un_neg lf_neg mn_neg me_int) (mv 1)) me_int)))) (ma_cons me_int (ma_cons me_int (ma_cons me_int ma_nil))))))), math__law_pool⟩
theorem okr__law_take (T : Txt P K mg) : ∀ i : Nat, FnOk P wd K mg base (L2.CX P wd) (1 + i) T.f__law_take T.fd__law_take ["pool", "many"] (upP K (spr__law_take i))
  | 0 => okM T.F__law_take sc__law_take (fun ds M Q E h => (lenr__law_take 0 ds M Q E h)) fun cdv A outer s H E hr => ⟨_, mss_never, fun ds M Q' E' _ _ h => (zero__law_take ds M Q' E' h).elim⟩
  | i + 1 => okM T.F__law_take sc__law_take (fun ds M Q E h => (lenr__law_take (i + 1) ds M Q E h)) fun cdv A outer s H E hr => by
    have hu := hr.units
    exact ⟨rr__law_take i, (mss_cons (ms_if (mt_cmp op_gt lf_B0 mn_I0 (me_ix ix_seq lf_ix mn_ix (mv 0) me_int (fun _ _ => rfl)) me_int (nomark _)) (mss_cons (ms_set (i := 4) sc__law_take.nd (by rfl) (.inl rfl) (me_op op_modN lf_I mn_I (me_callTy call_intAll la_int mr_int (by rfl) T.z_int (by decide +kernel) (ma_cons (me_ix ix_seq lf_ix mn_ix (mv 0) me_int (fun _ _ => rfl)) ma_nil)) (mv 1)))
      (mss_cons (ms_asg (me_op op_fdivA lf_I mn_I (me_ix ix_seq lf_ix mn_ix (mv 0) me_int (fun _ _ => rfl)) (mv 1)) (mg_sub (mv 0) me_int set_list ls_list ms_list))
      (mss_one (ms_ret (mv 4))))) mss_nil)
      (mss_cons (ms_set (i := 2) sc__law_take.nd (by rfl) (.inl rfl) me_int)
      (mss_cons (ms_if (mt_cmp op_lt lf_B0 mn_I0 (me_ix ix_seq lf_ix mn_ix (mv 0) me_int (fun _ _ => rfl)) (me_callB call_len la_len mr_len (by rfl) T.z_len (by decide +kernel) (ma_cons (me_ix ix_seq lf_ix mn_ix (mv 0) me_int (fun _ _ => rfl)) ma_nil)) (nomark _)) (mss_one (ms_set (i := 2) sc__law_take.nd (by rfl) (.inl rfl) (me_ix ix_seq lf_ix mn_ix (me_ix ix_seq lf_ix mn_ix (mv 0) me_int (fun _ _ => rfl)) (me_ix ix_seq lf_ix mn_ix (mv 0) me_int (fun _ _ => rfl)) (fun _ _ => rfl)))) mss_nil)
      (mss_cons (ms_asg (me_op op_addAll (lf_add (cell := false)) mn_add (me_ix ix_seq lf_ix mn_ix (mv 0) me_int (fun _ _ => rfl)) me_int) (mg_sub (mv 0) me_int set_list ls_list ms_list))
      (mss_cons (ms_if (mt_cmp op_ge lf_B0 mn_I0 (mv 2) (me_op op_pow lf_I mn_I me_int me_int) (nomark _)) (mss_cons (ms_asg (me_op op_fdivA lf_I mn_I (mv 2) me_int) (mg_sub (mv 0) me_int set_list ls_list ms_list))
      (mss_one (ms_ret (me_call (okr__law_take T i) (monor__law_take i) hr (takes_of rfl rfl rfl rfl) (by rfl) T.g__law_take T.F__law_take.kp T.b__law_take (ma_cons (mv 0) (ma_cons (mv 1) ma_nil)))))) mss_nil)
      (mss_cons (ms_asg (me_op op_modN lf_I mn_I (me_callTy call_intAll la_int mr_int (by rfl) T.z_int (by decide +kernel) (ma_cons (me_op op_addAll (lf_add (cell := false)) mn_add (me_op op_addAll (lf_add (cell := false)) mn_add (me_op op_mulAll (lf_mul (cell := false)) mn_mul (me_ix ix_seq lf_ix mn_ix (mv 0) me_int (fun _ _ => rfl)) me_int) (me_op op_mulAll (lf_mul (cell := false)) mn_mul (mv 2) me_int)) (me_op op_mulAll (lf_mul (cell := false)) mn_mul (me_ix ix_seq lf_ix mn_ix (mv 0) me_int (fun _ _ => rfl)) me_int)) ma_nil)) me_int) (mg_sub (mv 0) me_int set_list ls_list ms_list))
      (mss_cons (ms_set (i := 3) sc__law_take.nd (by rfl) (.inl rfl) (me_op op_modN lf_I mn_I (me_callTy call_intAll la_int mr_int (by rfl) T.z_int (by decide +kernel) (ma_cons (me_op op_addAll (lf_add (cell := false)) mn_add (me_op op_addAll (lf_add (cell := false)) mn_add (me_op op_mulAll (lf_mul (cell := false)) mn_mul (me_ix ix_seq lf_ix mn_ix (mv 0) me_int (fun _ _ => rfl)) (me_ix ix_seq lf_ix mn_ix (mv 0) me_int (fun _ _ => rfl))) (me_op op_mulAll (lf_mul (cell := false)) mn_mul (me_ix ix_seq lf_ix mn_ix (mv 0) me_int (fun _ _ => rfl)) me_int)) me_int) ma_nil)) me_int))
      (mss_one (ms_ret (me_op op_modN lf_I mn_I (me_callTy call_intAll la_int mr_int (by rfl) T.z_int (by decide +kernel) (ma_cons (me_op op_fdivA lf_I mn_I (mv 3) me_int) ma_nil)) (mv 1))))))))))), mathr__law_take i⟩
theorem ok__law_take (T : Txt P K mg) : FnOk P wd K mg base (L2.CX P wd) 3 T.f__law_take T.fd__law_take ["pool", "many"] (upP K sp__law_take) := (okr__law_take T 2).imp fun vs H Q E => upP_imp (fun ds M Q E => sub__law_take)
theorem ok__law_pick (T : Txt P K mg) : FnOk P wd K mg base (L2.CX P wd) 4 T.f__law_pick T.fd__law_pick ["pool", "rows"] (upP K sp__law_pick) :=
  okM T.F__law_pick sc__law_pick len__law_pick fun cdv A outer s H E hr => by
    have hu := hr.units
    exact ⟨r__law_pick, (mss_one (ms_ret (me_ix ix_seq lf_ix mn_ix (mv 1) (me_call (ok__law_take T) mono__law_take (hr.mono (by decide)) (takes_of rfl rfl rfl rfl) (by rfl) T.g__law_take T.F__law_take.kp T.b__law_take (ma_cons (mv 0) (ma_cons (me_callB call_len la_len mr_len (by rfl) T.z_len (by decide +kernel) (ma_cons (mv 1) ma_nil)) ma_nil))) (fun _ _ => rfl)))), math__law_pick⟩
theorem ok__law_is_integer (T : Txt P K mg) : FnOk P wd K mg base (L2.CX P wd) 1 T.f__law_is_integer T.fd__law_is_integer ["actual"] (upP K sp__law_is_integer) :=
  okM T.F__law_is_integer sc__law_is_integer len__law_is_integer fun cdv A outer s H E hr => by
    have hu := hr.units
    exact ⟨r__law_is_integer, (mss_one (ms_ret (me_and (me_callB call_isi la_isi mr_isi (by rfl) T.z_isinstance (by decide +kernel) (ma_cons (mv 0) (ma_cons (me_ty (by rfl) T.z_int (by decide +kernel)) ma_nil))) (me_one (me_not (me_callB call_isi la_isi mr_isi (by rfl) T.z_isinstance (by decide +kernel) (ma_cons (mv 0) (ma_cons (me_ty (by rfl) T.z_bool (by decide +kernel)) ma_nil)))))))), math__law_is_integer⟩
theorem okr__law_same (T : Txt P K mg) : ∀ i : Nat, FnOk P wd K mg base (L2.CX P wd) (2 + i) T.f__law_same T.fd__law_same ["actual", "due"] (upP K (spr__law_same i))
  | 0 => okM T.F__law_same sc__law_same (fun ds M Q E h => (lenr__law_same 0 ds M Q E h)) fun cdv A outer s H E hr => ⟨_, mss_never, fun ds M Q' E' _ _ h => (zero__law_same ds M Q' E' h).elim⟩
  | i + 1 => okM T.F__law_same sc__law_same (fun ds M Q E h => (lenr__law_same (i + 1) ds M Q E h)) fun cdv A outer s H E hr => by
    have hu := hr.units
    exact ⟨rr__law_same i, (mss_cons (ms_if (mt_tru (me_callB call_isi la_isi mr_isi (by rfl) T.z_isinstance (by decide +kernel) (ma_cons (mv 1) (ma_cons (me_ty (by rfl) T.z_tuple (by decide +kernel)) ma_nil)))) (mss_cons (ms_if (MW.mt (mw_or (mt_not (mt_tru (me_callB call_isi la_isi mr_isi (by rfl) T.z_isinstance (by decide +kernel) (ma_cons (mv 0) (ma_cons (me_ty (by rfl) T.z_tuple (by decide +kernel)) ma_nil))))) (mw_or1 (mt_cmp (op_neAll hu) lf_ne mn_eq (me_callB call_len la_len mr_len (by rfl) T.z_len (by decide +kernel) (ma_cons (mv 0) ma_nil)) (me_callB call_len la_len mr_len (by rfl) T.z_len (by decide +kernel) (ma_cons (mv 1) ma_nil)) (nomark _))))) (mss_one (ms_ret me_bl)) mss_nil)
      (mss_one (ms_ret (me_callB (cr_all rfl) la_all mr_bls (by rfl) T.z_all (by decide +kernel) (ma_cons (me_lc (own := [("k", 2)]) false rfl sc__law_same.nd (mi_range1 (by rfl) T.z_range (ma_cons (me_callB call_len la_len mr_len (by rfl) T.z_len (by decide +kernel) (ma_cons (mv 1) ma_nil)) ma_nil)) (blkOk_by (N := N__law_same) (sc := defScope s__law_same) (by decide +kernel)) (fun _ _ _ _ _ => pg_name (i := 2) sc__law_same.nd (by rfl) (.inl rfl)) cg_name (fun _ _ _ _ _ => mts_nil) (fun _ _ _ _ _ => (me_call (okr__law_same T i) (monor__law_same i) hr takes0 (by rfl) T.g__law_same T.F__law_same.kp T.b__law_same (ma_cons (me_ix ix_seq lf_ix mn_ix (mv 0) (mv 2) (fun _ _ => rfl)) (ma_cons (me_ix ix_seq lf_ix mn_ix (mv 1) (mv 2) (fun _ _ => rfl)) ma_nil))))) ma_nil))))) mss_nil)
      (mss_cons (ms_if (mt_tru (me_callB call_isi la_isi mr_isi (by rfl) T.z_isinstance (by decide +kernel) (ma_cons (mv 1) (ma_cons (me_ty (by rfl) T.z_list (by decide +kernel)) ma_nil)))) (mss_cons (ms_if (MW.mt (mw_or (mt_not (mt_tru (me_callB call_isi la_isi mr_isi (by rfl) T.z_isinstance (by decide +kernel) (ma_cons (mv 0) (ma_cons (me_ty (by rfl) T.z_list (by decide +kernel)) ma_nil))))) (mw_or1 (mt_cmp (op_neAll hu) lf_ne mn_eq (me_callB call_len la_len mr_len (by rfl) T.z_len (by decide +kernel) (ma_cons (mv 0) ma_nil)) (me_callB call_len la_len mr_len (by rfl) T.z_len (by decide +kernel) (ma_cons (mv 1) ma_nil)) (nomark _))))) (mss_one (ms_ret me_bl)) mss_nil)
      (mss_one (ms_ret (me_callB (cr_all rfl) la_all mr_bls (by rfl) T.z_all (by decide +kernel) (ma_cons (me_lc (own := [("k", 2)]) false rfl sc__law_same.nd (mi_range1 (by rfl) T.z_range (ma_cons (me_callB call_len la_len mr_len (by rfl) T.z_len (by decide +kernel) (ma_cons (mv 1) ma_nil)) ma_nil)) (blkOk_by (N := N__law_same) (sc := defScope s__law_same) (by decide +kernel)) (fun _ _ _ _ _ => pg_name (i := 2) sc__law_same.nd (by rfl) (.inl rfl)) cg_name (fun _ _ _ _ _ => mts_nil) (fun _ _ _ _ _ => (me_call (okr__law_same T i) (monor__law_same i) hr takes0 (by rfl) T.g__law_same T.F__law_same.kp T.b__law_same (ma_cons (me_ix ix_seq lf_ix mn_ix (mv 0) (mv 2) (fun _ _ => rfl)) (ma_cons (me_ix ix_seq lf_ix mn_ix (mv 1) (mv 2) (fun _ _ => rfl)) ma_nil))))) ma_nil))))) mss_nil)
      (mss_cons (ms_if (mt_cmp op_isN1 lf_isN mn_isN (mv 1) me_non (nomark _)) (mss_one (ms_ret (me_cmp op_isN1 lf_isN mn_isN (mv 0) me_non (nomark _)))) mss_nil)
      (mss_cons (ms_if (mt_tru (me_callB call_isi la_isi mr_isi (by rfl) T.z_isinstance (by decide +kernel) (ma_cons (mv 1) (ma_cons (me_ty (by rfl) T.z_bool (by decide +kernel)) ma_nil)))) (mss_one (ms_ret (me_and (me_callB call_isi la_isi mr_isi (by rfl) T.z_isinstance (by decide +kernel) (ma_cons (mv 0) (ma_cons (me_ty (by rfl) T.z_bool (by decide +kernel)) ma_nil))) (me_one (me_cmp (op_eqAll hu) lf_eq mn_eq (mv 0) (mv 1) (nomark _)))))) mss_nil)
      (mss_cons (ms_if (mt_tru (me_callB call_isi la_isi mr_isi (by rfl) T.z_isinstance (by decide +kernel) (ma_cons (mv 1) (ma_cons (me_ty (by rfl) T.z_str (by decide +kernel)) ma_nil)))) (mss_one (ms_ret (me_and (me_callB call_isi la_isi mr_isi (by rfl) T.z_isinstance (by decide +kernel) (ma_cons (mv 0) (ma_cons (me_ty (by rfl) T.z_str (by decide +kernel)) ma_nil))) (me_one (me_cmp (op_eqAll hu) lf_eq mn_eq (mv 0) (mv 1) (nomark _)))))) mss_nil)
      (mss_one (ms_ret (me_and (me_call (ok__law_is_integer T) mono__law_is_integer (hr.mono (by show 1 ≤ 2 + i; omega)) (takes_of rfl rfl rfl rfl) (by rfl) T.g__law_is_integer T.F__law_is_integer.kp T.b__law_is_integer (ma_cons (mv 0) ma_nil)) (me_one (me_cmp (op_eqAll hu) lf_eq mn_eq (mv 0) (mv 1) (nomark _))))))))))), mathr__law_same i⟩
theorem ok__law_same (T : Txt P K mg) : FnOk P wd K mg base (L2.CX P wd) 8 T.f__law_same T.fd__law_same ["actual", "due"] (upP K sp__law_same) := (okr__law_same T 6).imp fun vs H Q E => upP_imp (fun ds M Q E => sub__law_same)
theorem ok__law_lowest (T : Txt P K mg) : FnOk P wd K mg base (L2.CX P wd) 1 T.f__law_lowest T.fd__law_lowest ["n", "d"] (upP K sp__law_lowest) :=
  okM T.F__law_lowest sc__law_lowest len__law_lowest fun cdv A outer s H E hr => by
    have hu := hr.units
    exact ⟨r__law_lowest, (mss_cons (ms_par (i := 3) (j := 4) rfl sc__law_lowest.nd (by rfl) (by rfl) (by decide) (by rfl) (by rfl) (ma_cons (me_callB call_abs la_abs mr_I1 (by rfl) T.z_abs (by decide +kernel) (ma_cons (mv 0) ma_nil)) (ma_cons (mv 1) ma_nil)) (by rfl))
      (mss_cons (ms_for (passes_of rfl) rfl (mi_range1 (by rfl) T.z_range (ma_cons me_int ma_nil)) (mg_name (i := 2) sc__law_lowest.nd (by rfl) (.inl rfl)) (mss_cons (ms_if (mt_cmp (op_eqAll hu) lf_eq mn_eq (mv 4) me_int (nomark _)) (mss_one ms_break) mss_nil)
      (mss_one (ms_par (i := 3) (j := 4) rfl sc__law_lowest.nd (by rfl) (by rfl) (by decide) (by rfl) (by rfl) (ma_cons (mv 4) (ma_cons (me_op op_sub lf_I0 mn_I0 (mv 3) (me_op op_mulAll (lf_mul (cell := false)) mn_mul (mv 4) (me_callTy call_intAll la_int mr_int (by rfl) T.z_int (by decide +kernel) (ma_cons (me_op op_fdivA lf_I mn_I (mv 3) (mv 4)) ma_nil)))) ma_nil)) (by rfl)))))
      (mss_one (ms_ret (me_tup (ma_cons (me_op op_fdivA lf_I mn_I (mv 0) (mv 3)) (ma_cons (me_op op_fdivA lf_I mn_I (mv 1) (mv 3)) ma_nil))))))), math__law_lowest⟩
theorem ok__law_sum (T : Txt P K mg) : FnOk P wd K mg base (L2.CX P wd) 2 T.f__law_sum T.fd__law_sum ["one", "other"] (upP K sp__law_sum) :=
  okM T.F__law_sum sc__law_sum len__law_sum fun cdv A outer s H E hr => by
    have hu := hr.units
    exact ⟨r__law_sum, (mss_one (ms_ret (me_call (ok__law_lowest T) mono__law_lowest (hr.mono (by decide)) (takes_of rfl rfl rfl rfl) (by rfl) T.g__law_lowest T.F__law_lowest.kp T.b__law_lowest (ma_cons (me_op op_addAll (lf_add (cell := false)) mn_add (me_op op_mulAll (lf_mul (cell := false)) mn_mul (me_ix ix_seq lf_ix mn_ix (mv 0) me_int (fun _ _ => rfl)) (me_ix ix_seq lf_ix mn_ix (mv 1) me_int (fun _ _ => rfl))) (me_op op_mulAll (lf_mul (cell := false)) mn_mul (me_ix ix_seq lf_ix mn_ix (mv 1) me_int (fun _ _ => rfl)) (me_ix ix_seq lf_ix mn_ix (mv 0) me_int (fun _ _ => rfl)))) (ma_cons (me_op op_mulAll (lf_mul (cell := false)) mn_mul (me_ix ix_seq lf_ix mn_ix (mv 0) me_int (fun _ _ => rfl)) (me_ix ix_seq lf_ix mn_ix (mv 1) me_int (fun _ _ => rfl))) ma_nil))))), math__law_sum⟩
theorem okr__law_listed (T : Txt P K mg) : ∀ i : Nat, FnOk P wd K mg base (L2.CX P wd) (1 + i) T.f__law_listed T.fd__law_listed ["thing"] (upP K (spr__law_listed i))
  | 0 => okM T.F__law_listed sc__law_listed (fun ds M Q E h => (lenr__law_listed 0 ds M Q E h)) fun cdv A outer s H E hr => ⟨_, mss_never, fun ds M Q' E' _ _ h => (zero__law_listed ds M Q' E' h).elim⟩
  | i + 1 => okM T.F__law_listed sc__law_listed (fun ds M Q E h => (lenr__law_listed (i + 1) ds M Q E h)) fun cdv A outer s H E hr => by
    have hu := hr.units
    exact ⟨rr__law_listed i, (mss_cons (ms_if (mt_tru (me_callB call_isi la_isi mr_isi (by rfl) T.z_isinstance (by decide +kernel) (ma_cons (mv 0) (ma_cons (me_ty (by rfl) T.z_tuple (by decide +kernel)) ma_nil)))) (mss_one (ms_ret (me_lc (own := [("part", 1)]) false rfl sc__law_listed.nd (mi_seq (mv 0)) (blkOk_by (N := N__law_listed) (sc := defScope s__law_listed) (by decide +kernel)) (fun _ _ _ _ _ => pg_name (i := 1) sc__law_listed.nd (by rfl) (.inl rfl)) cg_name (fun _ _ _ _ _ => mts_nil) (fun _ _ _ _ _ => (me_call (okr__law_listed T i) (monor__law_listed i) hr takes0 (by rfl) T.g__law_listed T.F__law_listed.kp T.b__law_listed (ma_cons (mv 1) ma_nil)))))) mss_nil)
      (mss_one (ms_ret (mv 0)))), mathr__law_listed i⟩
theorem ok__law_listed (T : Txt P K mg) : FnOk P wd K mg base (L2.CX P wd) 8 T.f__law_listed T.fd__law_listed ["thing"] (upP K sp__law_listed) := (okr__law_listed T 7).imp fun vs H Q E => upP_imp (fun ds M Q E => sub__law_listed)
theorem ok__law_given (T : Txt P K mg) : FnOk P wd K mg base (L2.CX P wd) 9 T.f__law_given T.fd__law_given ["pool", "thing"] (upP K sp__law_given) :=
  okM T.F__law_given sc__law_given len__law_given fun cdv A outer s H E hr => by
    have hu := hr.units
    exact ⟨r__law_given, (mss_one (ms_ret (me_if (mt_cmp (op_eqAll hu) lf_eq mn_eq (me_call (ok__law_take T) mono__law_take (hr.mono (by decide)) (takes_of rfl rfl rfl rfl) (by rfl) T.g__law_take T.F__law_take.kp T.b__law_take (ma_cons (mv 0) (ma_cons me_int ma_nil))) me_int (nomark _)) (me_call (ok__law_listed T) mono__law_listed (hr.mono (by decide)) (takes_of rfl rfl rfl rfl) (by rfl) T.g__law_listed T.F__law_listed.kp T.b__law_listed (ma_cons (mv 1) ma_nil)) (mv 1)))), math__law_given⟩
theorem ok__law_divisor (T : Txt P K mg) : FnOk P wd K mg base (L2.CX P wd) 2 T.f__law_divisor T.fd__law_divisor ["one", "other"] (upP K sp__law_divisor) :=
  okM T.F__law_divisor sc__law_divisor len__law_divisor fun cdv A outer s H E hr => by
    have hu := hr.units
    exact ⟨r__law_divisor, (mss_one (ms_ret (me_if (mt_cmp op_gt lf_B0 mn_I0 (mv 0) me_int (nomark _)) (me_op op_fdivA lf_I mn_I (mv 0) (me_ix ix_seq lf_ix mn_ix (me_call (ok__law_lowest T) mono__law_lowest (hr.mono (by decide)) (takes_of rfl rfl rfl rfl) (by rfl) T.g__law_lowest T.F__law_lowest.kp T.b__law_lowest (ma_cons (mv 0) (ma_cons (mv 1) ma_nil))) me_int (fun _ _ => rfl))) (mv 1)))), math__law_divisor⟩
theorem ok__law_piece (T : Txt P K mg) : FnOk P wd K mg base (L2.CX P wd) 4 T.f__law_piece T.fd__law_piece ["pool", "kind"] (upP K sp__law_piece) :=
  okM T.F__law_piece sc__law_piece len__law_piece fun cdv A outer s H E hr => by
    have hu := hr.units
    exact ⟨r__law_piece, (mss_cons (ms_if (mt_cmp (op_eqAll hu) lf_eq mn_eq (mv 1) me_int (nomark _)) (mss_cons (ms_set (i := 3) sc__law_piece.nd (by rfl) (.inl rfl) (me_op op_addAll (lf_add (cell := false)) mn_add me_int (me_call (ok__law_take T) mono__law_take (hr.mono (by decide)) (takes_of rfl rfl rfl rfl) (by rfl) T.g__law_take T.F__law_take.kp T.b__law_take (ma_cons (mv 0) (ma_cons me_int ma_nil)))))
      (mss_one (ms_ret (me_tup (ma_cons (me_tup (ma_cons (mv 3) (ma_cons me_int ma_nil))) (ma_cons (me_tup (ma_cons (me_call (ok__law_take T) mono__law_take (hr.mono (by decide)) (takes_of rfl rfl rfl rfl) (by rfl) T.g__law_take T.F__law_take.kp T.b__law_take (ma_cons (mv 0) (ma_cons me_int ma_nil))) (ma_cons me_int ma_nil))) (ma_cons (me_tup (ma_cons (me_if (mt_cmp (op_eqAll hu) lf_eq mn_eq (me_call (ok__law_take T) mono__law_take (hr.mono (by decide)) (takes_of rfl rfl rfl rfl) (by rfl) T.g__law_take T.F__law_take.kp T.b__law_take (ma_cons (mv 0) (ma_cons me_int ma_nil))) me_int (nomark _)) (me_call (ok__law_take T) mono__law_take (hr.mono (by decide)) (takes_of rfl rfl rfl rfl) (by rfl) T.g__law_take T.F__law_take.kp T.b__law_take (ma_cons (mv 0) (ma_cons (me_op op_addAll (lf_add (cell := false)) mn_add (mv 3) me_int) ma_nil))) me_int) (ma_cons me_int ma_nil))) ma_nil))))))) mss_nil)
      (mss_cons (ms_if (mt_cmp (op_eqAll hu) lf_eq mn_eq (mv 1) me_int (nomark _)) (mss_cons (ms_set (i := 2) sc__law_piece.nd (by rfl) (.inl rfl) (me_op op_addAll (lf_add (cell := false)) mn_add me_int (me_call (ok__law_take T) mono__law_take (hr.mono (by decide)) (takes_of rfl rfl rfl rfl) (by rfl) T.g__law_take T.F__law_take.kp T.b__law_take (ma_cons (mv 0) (ma_cons me_int ma_nil)))))
      (mss_cons (ms_set (i := 3) sc__law_piece.nd (by rfl) (.inl rfl) (me_call (ok__law_take T) mono__law_take (hr.mono (by decide)) (takes_of rfl rfl rfl rfl) (by rfl) T.g__law_take T.F__law_take.kp T.b__law_take (ma_cons (mv 0) (ma_cons me_int ma_nil))))
      (mss_cons (ms_set (i := 4) sc__law_piece.nd (by rfl) (.inl rfl) (me_call (ok__law_take T) mono__law_take (hr.mono (by decide)) (takes_of rfl rfl rfl rfl) (by rfl) T.g__law_take T.F__law_take.kp T.b__law_take (ma_cons (mv 0) (ma_cons (me_op op_addAll (lf_add (cell := false)) mn_add (mv 3) me_int) ma_nil))))
      (mss_cons (ms_set (i := 5) sc__law_piece.nd (by rfl) (.inl rfl) (me_call (ok__law_lowest T) mono__law_lowest (hr.mono (by decide)) (takes_of rfl rfl rfl rfl) (by rfl) T.g__law_lowest T.F__law_lowest.kp T.b__law_lowest (ma_cons (me_call (ok__law_take T) mono__law_take (hr.mono (by decide)) (takes_of rfl rfl rfl rfl) (by rfl) T.g__law_take T.F__law_take.kp T.b__law_take (ma_cons (mv 0) (ma_cons me_int ma_nil))) (ma_cons (me_op op_addAll (lf_add (cell := false)) mn_add me_int (me_call (ok__law_take T) mono__law_take (hr.mono (by decide)) (takes_of rfl rfl rfl rfl) (by rfl) T.g__law_take T.F__law_take.kp T.b__law_take (ma_cons (mv 0) (ma_cons me_int ma_nil)))) ma_nil))))
      (mss_one (ms_ret (me_tup (ma_cons (me_call (ok__law_lowest T) mono__law_lowest (hr.mono (by decide)) (takes_of rfl rfl rfl rfl) (by rfl) T.g__law_lowest T.F__law_lowest.kp T.b__law_lowest (ma_cons (mv 3) (ma_cons (mv 2) ma_nil))) (ma_cons (mv 5) (ma_cons (me_call (ok__law_lowest T) mono__law_lowest (hr.mono (by decide)) (takes_of rfl rfl rfl rfl) (by rfl) T.g__law_lowest T.F__law_lowest.kp T.b__law_lowest (ma_cons (mv 4) (ma_cons (mv 2) ma_nil))) ma_nil)))))))))) mss_nil)
      (mss_cons (ms_set (i := 2) sc__law_piece.nd (by rfl) (.inl rfl) (me_op op_addAll (lf_add (cell := false)) mn_add me_int (me_call (ok__law_take T) mono__law_take (hr.mono (by decide)) (takes_of rfl rfl rfl rfl) (by rfl) T.g__law_take T.F__law_take.kp T.b__law_take (ma_cons (mv 0) (ma_cons me_int ma_nil)))))
      (mss_cons (ms_set (i := 3) sc__law_piece.nd (by rfl) (.inl rfl) (me_call (ok__law_take T) mono__law_take (hr.mono (by decide)) (takes_of rfl rfl rfl rfl) (by rfl) T.g__law_take T.F__law_take.kp T.b__law_take (ma_cons (mv 0) (ma_cons (me_op op_addAll (lf_add (cell := false)) mn_add (me_op op_pow lf_I mn_I me_int me_int) me_int) ma_nil))))
      (mss_cons (ms_set (i := 4) sc__law_piece.nd (by rfl) (.inl rfl) (me_call (ok__law_take T) mono__law_take (hr.mono (by decide)) (takes_of rfl rfl rfl rfl) (by rfl) T.g__law_take T.F__law_take.kp T.b__law_take (ma_cons (mv 0) (ma_cons (me_op op_addAll (lf_add (cell := false)) mn_add (mv 3) me_int) ma_nil))))
      (mss_one (ms_ret (me_tup (ma_cons (me_call (ok__law_lowest T) mono__law_lowest (hr.mono (by decide)) (takes_of rfl rfl rfl rfl) (by rfl) T.g__law_lowest T.F__law_lowest.kp T.b__law_lowest (ma_cons (mv 3) (ma_cons (mv 2) ma_nil))) (ma_cons (me_call (ok__law_lowest T) mono__law_lowest (hr.mono (by decide)) (takes_of rfl rfl rfl rfl) (by rfl) T.g__law_lowest T.F__law_lowest.kp T.b__law_lowest (ma_cons (me_call (ok__law_take T) mono__law_take (hr.mono (by decide)) (takes_of rfl rfl rfl rfl) (by rfl) T.g__law_take T.F__law_take.kp T.b__law_take (ma_cons (mv 0) (ma_cons (me_op op_addAll (lf_add (cell := false)) mn_add (me_op op_pow lf_I mn_I me_int me_int) me_int) ma_nil))) (ma_cons (me_op op_addAll (lf_add (cell := false)) mn_add me_int (me_call (ok__law_take T) mono__law_take (hr.mono (by decide)) (takes_of rfl rfl rfl rfl) (by rfl) T.g__law_take T.F__law_take.kp T.b__law_take (ma_cons (mv 0) (ma_cons me_int ma_nil)))) ma_nil))) (ma_cons (me_call (ok__law_lowest T) mono__law_lowest (hr.mono (by decide)) (takes_of rfl rfl rfl rfl) (by rfl) T.g__law_lowest T.F__law_lowest.kp T.b__law_lowest (ma_cons (mv 4) (ma_cons (mv 2) ma_nil))) ma_nil))))))))))), math__law_piece⟩
theorem ok__law_pieces (T : Txt P K mg) : FnOk P wd K mg base (L2.CX P wd) 5 T.f__law_pieces T.fd__law_pieces ["pool", "many"] (upP K sp__law_pieces) :=
  okM T.F__law_pieces sc__law_pieces len__law_pieces fun cdv A outer s H E hr => by
    have hu := hr.units
    exact ⟨r__law_pieces, (mss_cons (ms_set (i := 2) sc__law_pieces.nd (by rfl) (.inl rfl) (me_call (ok__law_take T) mono__law_take (hr.mono (by decide)) (takes_of rfl rfl rfl rfl) (by rfl) T.g__law_take T.F__law_take.kp T.b__law_take (ma_cons (mv 0) (ma_cons me_int ma_nil))))
      (mss_cons (ms_set (i := 3) sc__law_pieces.nd (by rfl) (.inl rfl) (me_call (ok__law_take T) mono__law_take (hr.mono (by decide)) (takes_of rfl rfl rfl rfl) (by rfl) T.g__law_take T.F__law_take.kp T.b__law_take (ma_cons (mv 0) (ma_cons me_int ma_nil))))
      (mss_cons (ms_set (i := 4) sc__law_pieces.nd (by rfl) (.inl rfl) (me_tup ma_nil))
      (mss_cons (ms_for (passes_of rfl) rfl (mi_range1 (by rfl) T.z_range (ma_cons (mv 1) ma_nil)) (mg_name (i := 5) sc__law_pieces.nd (by rfl) (.inl rfl)) (mss_cons (ms_set (i := 6) sc__law_pieces.nd (by rfl) (.inl rfl) (me_call (ok__law_piece T) mono__law_piece (hr.mono (by decide)) (takes_of rfl rfl rfl rfl) (by rfl) T.g__law_piece T.F__law_piece.kp T.b__law_piece (ma_cons (mv 0) (ma_cons (mv 2) ma_nil))))
      (mss_cons (ms_if (MW.mt (mw_and (mt_cmp (op_eqAll hu) lf_eq mn_eq (mv 3) me_int (nomark _)) (mw_and1 (mt_cmp (op_eqAll hu) lf_eq mn_eq (me_call (ok__law_take T) mono__law_take (hr.mono (by decide)) (takes_of rfl rfl rfl rfl) (by rfl) T.g__law_take T.F__law_take.kp T.b__law_take (ma_cons (mv 0) (ma_cons me_int ma_nil))) me_int (nomark _))))) (mss_one (ms_set (i := 6) sc__law_pieces.nd (by rfl) (.inl rfl) (me_tup (ma_cons (me_ix ix_seq lf_ix mn_ix (mv 6) me_int (fun _ _ => rfl)) (ma_cons (me_tup (ma_cons me_int (ma_cons me_int ma_nil))) (ma_cons (me_ix ix_seq lf_ix mn_ix (mv 6) me_int (fun _ _ => rfl)) ma_nil)))))) mss_nil)
      (mss_one (ms_set (i := 4) sc__law_pieces.nd (by rfl) (.inl rfl) (me_op op_addAll (lf_add (cell := false)) mn_add (mv 4) (me_tup (ma_cons (mv 6) ma_nil))))))))
      (mss_one (ms_ret (mv 4))))))), math__law_pieces⟩
theorem ok__law_room (T : Txt P K mg) : FnOk P wd K mg base (L2.CX P wd) 4 T.f__law_room T.fd__law_room ["pool", "pieces", "most"] (upP K sp__law_room) :=
  okM T.F__law_room sc__law_room len__law_room fun cdv A outer s H E hr => by
    have hu := hr.units
    exact ⟨r__law_room, (mss_cons (ms_set (i := 3) sc__law_room.nd (by rfl) (.inl rfl) (me_call (ok__law_take T) mono__law_take (hr.mono (by decide)) (takes_of rfl rfl rfl rfl) (by rfl) T.g__law_take T.F__law_take.kp T.b__law_take (ma_cons (mv 0) (ma_cons (me_callB call_len la_len mr_len (by rfl) T.z_len (by decide +kernel) (ma_cons (mv 1) ma_nil)) ma_nil))))
      (mss_cons (ms_set (i := 4) sc__law_room.nd (by rfl) (.inl rfl) (me_tup (ma_cons me_int (ma_cons me_int ma_nil))))
      (mss_cons (ms_for (passes_of rfl) rfl (mi_seq (me_slice sl_all (lsl_all (cell := false)) msl_all (mv 1) (mo_some (mv 3)) (mo_some (me_op op_addAll (lf_add (cell := false)) mn_add (me_op op_addAll (lf_add (cell := false)) mn_add (mv 3) me_int) (me_call (ok__law_take T) mono__law_take (hr.mono (by decide)) (takes_of rfl rfl rfl rfl) (by rfl) T.g__law_take T.F__law_take.kp T.b__law_take (ma_cons (mv 0) (ma_cons (mv 2) ma_nil))))))) (mg_name (i := 5) sc__law_room.nd (by rfl) (.inl rfl)) (mss_cons (ms_set (i := 7) sc__law_room.nd (by rfl) (.inl rfl) (me_call (ok__law_sum T) mono__law_sum (hr.mono (by decide)) (takes_of rfl rfl rfl rfl) (by rfl) T.g__law_sum T.F__law_sum.kp T.b__law_sum (ma_cons (mv 4) (ma_cons (me_ix ix_seq lf_ix mn_ix (mv 5) me_int (fun _ _ => rfl)) ma_nil))))
      (mss_one (ms_if (MW.mt (mw_and (mt_cmp op_le lf_B0 mn_I0 (me_ix ix_seq lf_ix mn_ix (mv 7) me_int (fun _ _ => rfl)) (me_op op_pow lf_I mn_I me_int me_int) (nomark _)) (mw_and1 (mt_cmp op_le lf_B0 mn_I0 (me_ix ix_seq lf_ix mn_ix (mv 7) me_int (fun _ _ => rfl)) me_int (nomark _))))) (mss_one (ms_set (i := 4) sc__law_room.nd (by rfl) (.inl rfl) (mv 7))) mss_nil))))
      (mss_cons (ms_set (i := 6) sc__law_room.nd (by rfl) (.inl rfl) (me_call (ok__law_take T) mono__law_take (hr.mono (by decide)) (takes_of rfl rfl rfl rfl) (by rfl) T.g__law_take T.F__law_take.kp T.b__law_take (ma_cons (mv 0) (ma_cons me_int ma_nil))))
      (mss_cons (ms_if (mt_cmp (op_eqAll hu) lf_eq mn_eq (mv 6) me_int (nomark _)) (mss_one (ms_set (i := 4) sc__law_room.nd (by rfl) (.inl rfl) (me_tup (ma_cons (me_op op_addAll (lf_add (cell := false)) mn_add (me_op op_fdivA lf_I mn_I (me_ix ix_seq lf_ix mn_ix (mv 4) me_int (fun _ _ => rfl)) (me_ix ix_seq lf_ix mn_ix (mv 4) me_int (fun _ _ => rfl))) (me_call (ok__law_take T) mono__law_take (hr.mono (by decide)) (takes_of rfl rfl rfl rfl) (by rfl) T.g__law_take T.F__law_take.kp T.b__law_take (ma_cons (mv 0) (ma_cons me_int ma_nil)))) (ma_cons me_int ma_nil))))) mss_nil)
      (mss_cons (ms_if (MW.mt (mw_and (mt_cmp (op_eqAll hu) lf_eq mn_eq (mv 6) me_int (nomark _)) (mw_and1 (mt_cmp (op_eqAll hu) lf_eq mn_eq (me_ix ix_seq lf_ix mn_ix (mv 4) me_int (fun _ _ => rfl)) me_int (nomark _))))) (mss_one (ms_set (i := 4) sc__law_room.nd (by rfl) (.inl rfl) (me_call (ok__law_lowest T) mono__law_lowest (hr.mono (by decide)) (takes_of rfl rfl rfl rfl) (by rfl) T.g__law_lowest T.F__law_lowest.kp T.b__law_lowest (ma_cons (me_op op_addAll (lf_add (cell := false)) mn_add (me_op op_mulAll (lf_mul (cell := false)) mn_mul me_int (me_ix ix_seq lf_ix mn_ix (mv 4) me_int (fun _ _ => rfl))) me_int) (ma_cons me_int ma_nil))))) mss_nil)
      (mss_cons (ms_if (MW.mt (mw_or (mt_cmp (op_eqAll hu) lf_eq mn_eq (me_ix ix_seq lf_ix mn_ix (mv 4) me_int (fun _ _ => rfl)) me_int (nomark _)) (mw_or1 (mt_cmp op_gt lf_B0 mn_I0 (me_ix ix_seq lf_ix mn_ix (mv 4) me_int (fun _ _ => rfl)) (me_op op_pow lf_I mn_I me_int me_int) (nomark _))))) (mss_one (ms_ret (me_tup (ma_cons me_int (ma_cons me_int ma_nil))))) mss_nil)
      (mss_one (ms_ret (mv 4)))))))))), math__law_room⟩
theorem ok__law_scaled (T : Txt P K mg) : FnOk P wd K mg base (L2.CX P wd) 3 T.f__law_scaled T.fd__law_scaled ["pieces", "room"] (upP K sp__law_scaled) :=
  okM T.F__law_scaled sc__law_scaled len__law_scaled fun cdv A outer s H E hr => by
    have hu := hr.units
    exact ⟨r__law_scaled, (mss_cons (ms_set (i := 2) sc__law_scaled.nd (by rfl) (.inr rfl) (me_ix ix_seq lf_ix mn_ix (mv 1) me_int (fun _ _ => rfl)))
      (mss_cons (ms_for (passes_of rfl) rfl (mi_seq (mv 0)) (mg_name (i := 3) sc__law_scaled.nd (by rfl) (.inl rfl)) (mss_one (ms_for (passes_of rfl) rfl (mi_seq (mv 3)) (mg_name (i := 5) sc__law_scaled.nd (by rfl) (.inl rfl)) (mss_one (ms_set (i := 2) sc__law_scaled.nd (by rfl) (.inr rfl) (me_op op_mulAll (lf_mul (cell := false)) mn_mul (mv 2) (me_op op_fdivA lf_I mn_I (me_ix ix_seq lf_ix mn_ix (mv 5) me_int (fun _ _ => rfl)) (me_call (ok__law_divisor T) mono__law_divisor (hr.mono (by decide)) (takes_of rfl rfl rfl rfl) (by rfl) T.g__law_divisor T.F__law_divisor.kp T.b__law_divisor (ma_cons (me_ix ix_seq lf_ix mn_ix (mv 5) me_int (fun _ _ => rfl)) (ma_cons (mv 2) ma_nil))))))))))
      (mss_cons (ms_set (i := 4) sc__law_scaled.nd (by rfl) (.inl rfl) (me_lst true (ma_cons (me_tup (ma_cons me_int (ma_cons me_int (ma_cons me_int ma_nil)))) ma_nil)))
      (mss_cons (ms_for (passes_of rfl) rfl (mi_seq (mv 0)) (mg_name (i := 3) sc__law_scaled.nd (by rfl) (.inl rfl)) (mss_cons (ms_setLc (i := 6) (own := [("part", 5)]) false rfl sc__law_scaled.nd (by rfl) (by rfl) (by rfl) (mi_seq (mv 3)) (blkOk_by (N := N__law_scaled) (sc := defScope s__law_scaled) (by decide +kernel)) (fun _ _ _ _ _ => pg_name (i := 5) sc__law_scaled.nd (by rfl) (.inl rfl)) cg_name (fun _ _ _ _ _ => mts_nil) (fun _ _ _ _ _ => (me_op op_mulAll (lf_mul (cell := false)) mn_mul (me_ix ix_seq lf_ix mn_ix (mv 5) me_int (fun _ _ => rfl)) (me_op op_fdivA lf_I mn_I (mv 2) (me_ix ix_seq lf_ix mn_ix (mv 5) me_int (fun _ _ => rfl))))))
      (mss_one (ms_expr (me_bm PySem.F.plainAttrs_list PySem.F.slot_list_append PySem.F.type_list_append mt_append lm_append mm_append (mv 4) (ma_cons (me_tup (ma_cons (me_op op_addAll (lf_add (cell := false)) mn_add (me_ix ix_seq lf_ix mn_ix (me_ix ix_seq lf_ix mn_ix (mv 4) (me_un un_neg lf_neg mn_neg me_int) (fun _ _ => rfl)) me_int (fun _ _ => rfl)) (me_ix ix_seq lf_ix mn_ix (mv 6) me_int (fun _ _ => rfl))) (ma_cons (me_op op_addAll (lf_add (cell := false)) mn_add (me_ix ix_seq lf_ix mn_ix (me_ix ix_seq lf_ix mn_ix (mv 4) (me_un un_neg lf_neg mn_neg me_int) (fun _ _ => rfl)) me_int (fun _ _ => rfl)) (me_ix ix_seq lf_ix mn_ix (mv 6) me_int (fun _ _ => rfl))) (ma_cons (me_op op_addAll (lf_add (cell := false)) mn_add (me_ix ix_seq lf_ix mn_ix (me_ix ix_seq lf_ix mn_ix (mv 4) (me_un un_neg lf_neg mn_neg me_int) (fun _ _ => rfl)) me_int (fun _ _ => rfl)) (me_ix ix_seq lf_ix mn_ix (mv 6) me_int (fun _ _ => rfl))) ma_nil)))) ma_nil))))))
      (mss_one (ms_ret (me_tup (ma_cons (me_frz (mv 4)) (ma_cons (me_op op_mulAll (lf_mul (cell := false)) mn_mul (me_ix ix_seq lf_ix mn_ix (mv 1) me_int (fun _ _ => rfl)) (me_op op_fdivA lf_I mn_I (mv 2) (me_ix ix_seq lf_ix mn_ix (mv 1) me_int (fun _ _ => rfl)))) ma_nil))))))))), math__law_scaled⟩
theorem ok__law_bad (T : Txt P K mg) : FnOk P wd K mg base (L2.CX P wd) 1 T.f__law_bad T.fd__law_bad ["scaled", "first", "stop"] (upP K sp__law_bad) :=
  okM T.F__law_bad sc__law_bad len__law_bad fun cdv A outer s H E hr => by
    have hu := hr.units
    exact ⟨r__law_bad, (mss_cons (ms_asg (mv 0) (mg_tup rfl (mgs_cons (mg_name (i := 5) sc__law_bad.nd (by rfl) (.inl rfl)) (mgs_cons (mg_name (i := 6) sc__law_bad.nd (by rfl) (.inl rfl)) mgs_nil))))
      (mss_cons (ms_set (i := 3) sc__law_bad.nd (by rfl) (.inl rfl) (me_op op_sub lf_I0 mn_I0 (me_ix ix_seq lf_ix mn_ix (me_ix ix_seq lf_ix mn_ix (mv 5) (mv 2) (fun _ _ => rfl)) me_int (fun _ _ => rfl)) (me_ix ix_seq lf_ix mn_ix (me_ix ix_seq lf_ix mn_ix (mv 5) (mv 1) (fun _ _ => rfl)) me_int (fun _ _ => rfl))))
      (mss_cons (ms_if (MW.mt (mw_or (mt_cmp (op_eqAll hu) lf_eq mn_eq (mv 3) (mv 6) (nomark _)) (mw_or1 (MW.mt (mw_and (mt_cmp op_lt lf_B0 mn_I0 (mv 3) (mv 6) (nomark _)) (mw_and1 (mt_cmp (op_eqAll hu) lf_eq mn_eq (mv 2) (me_op op_sub lf_I0 mn_I0 (me_callB call_len la_len mr_len (by rfl) T.z_len (by decide +kernel) (ma_cons (mv 5) ma_nil)) me_int) (nomark _)))))))) (mss_one (ms_ret me_int)) mss_nil)
      (mss_cons (ms_set (i := 4) sc__law_bad.nd (by rfl) (.inl rfl) (me_op op_sub lf_I0 mn_I0 (me_ix ix_seq lf_ix mn_ix (me_ix ix_seq lf_ix mn_ix (mv 5) (mv 2) (fun _ _ => rfl)) me_int (fun _ _ => rfl)) (me_ix ix_seq lf_ix mn_ix (me_ix ix_seq lf_ix mn_ix (mv 5) (mv 1) (fun _ _ => rfl)) me_int (fun _ _ => rfl))))
      (mss_cons (ms_if (mt_cmp op_gt lf_B0 mn_I0 (mv 3) (mv 6) (nomark _)) (mss_cons (ms_set (i := 4) sc__law_bad.nd (by rfl) (.inl rfl) (me_op op_sub lf_I0 mn_I0 (me_ix ix_seq lf_ix mn_ix (me_ix ix_seq lf_ix mn_ix (mv 5) (mv 2) (fun _ _ => rfl)) me_int (fun _ _ => rfl)) (me_ix ix_seq lf_ix mn_ix (me_ix ix_seq lf_ix mn_ix (mv 5) (mv 1) (fun _ _ => rfl)) me_int (fun _ _ => rfl))))
      (mss_one (ms_if (mt_cmp op_gt lf_B0 mn_I0 (me_op op_sub lf_I0 mn_I0 (mv 3) (mv 4)) (mv 6) (nomark _)) (mss_one (ms_ret me_non)) mss_nil))) mss_nil)
      (mss_cons (ms_if (mt_cmp (op_eqAll hu) lf_eq mn_eq (mv 4) me_int (nomark _)) (mss_one (ms_ret me_non)) mss_nil)
      (mss_one (ms_ret (me_op op_fdivA lf_I mn_I (me_op op_mulAll (lf_mul (cell := false)) mn_mul (me_op op_mulAll (lf_mul (cell := false)) mn_mul me_int (me_op op_sub lf_I0 mn_I0 (mv 3) (mv 6))) (me_op op_sub lf_I0 mn_I0 (mv 3) (mv 6))) (me_op op_mulAll (lf_mul (cell := false)) mn_mul (mv 4) (mv 4))))))))))), math__law_bad⟩
theorem ok__law_fitting (T : Txt P K mg) : FnOk P wd K mg base (L2.CX P wd) 2 T.f__law_fitting T.fd__law_fitting ["scaled"] (upP K sp__law_fitting) :=
  okM T.F__law_fitting sc__law_fitting len__law_fitting fun cdv A outer s H E hr => by
    have hu := hr.units
    exact ⟨r__law_fitting, (mss_cons (ms_set (i := 1) sc__law_fitting.nd (by rfl) (.inl rfl) (me_lst true ma_nil))
      (mss_cons (ms_set (i := 2) sc__law_fitting.nd (by rfl) (.inl rfl) (me_op op_sub lf_I0 mn_I0 (me_callB call_len la_len mr_len (by rfl) T.z_len (by decide +kernel) (ma_cons (me_ix ix_seq lf_ix mn_ix (mv 0) me_int (fun _ _ => rfl)) ma_nil)) me_int))
      (mss_cons (ms_for (passes_of rfl) rfl (mi_range1 (by rfl) T.z_range (ma_cons (mv 2) ma_nil)) (mg_name (i := 3) sc__law_fitting.nd (by rfl) (.inl rfl)) (mss_cons (ms_set (i := 4) sc__law_fitting.nd (by rfl) (.inl rfl) (me_lst true ma_nil))
      (mss_cons (ms_for (passes_of rfl) rfl (mi_range2 (by rfl) T.z_range (ma_cons (me_op op_addAll (lf_add (cell := false)) mn_add (mv 3) me_int) (ma_cons (me_op op_addAll (lf_add (cell := false)) mn_add (mv 2) me_int) ma_nil))) (mg_name (i := 5) sc__law_fitting.nd (by rfl) (.inl rfl)) (mss_cons (ms_if (mt_cmp op_gt lf_B0 mn_I0 (me_op op_addAll (lf_add (cell := false)) mn_add (me_op op_sub lf_I0 mn_I0 (me_op op_sub lf_I0 mn_I0 (me_ix ix_seq lf_ix mn_ix (me_ix ix_seq lf_ix mn_ix (me_ix ix_seq lf_ix mn_ix (mv 0) me_int (fun _ _ => rfl)) (mv 5) (fun _ _ => rfl)) me_int (fun _ _ => rfl)) (me_ix ix_seq lf_ix mn_ix (me_ix ix_seq lf_ix mn_ix (me_ix ix_seq lf_ix mn_ix (mv 0) me_int (fun _ _ => rfl)) (mv 3) (fun _ _ => rfl)) me_int (fun _ _ => rfl))) (me_ix ix_seq lf_ix mn_ix (me_ix ix_seq lf_ix mn_ix (me_ix ix_seq lf_ix mn_ix (mv 0) me_int (fun _ _ => rfl)) (mv 5) (fun _ _ => rfl)) me_int (fun _ _ => rfl))) (me_ix ix_seq lf_ix mn_ix (me_ix ix_seq lf_ix mn_ix (me_ix ix_seq lf_ix mn_ix (mv 0) me_int (fun _ _ => rfl)) (mv 3) (fun _ _ => rfl)) me_int (fun _ _ => rfl))) (me_ix ix_seq lf_ix mn_ix (mv 0) me_int (fun _ _ => rfl)) (nomark _)) (mss_one ms_break) mss_nil)
      (mss_cons (ms_set (i := 6) sc__law_fitting.nd (by rfl) (.inl rfl) (me_call (ok__law_bad T) mono__law_bad (hr.mono (by decide)) (takes_of rfl rfl rfl rfl) (by rfl) T.g__law_bad T.F__law_bad.kp T.b__law_bad (ma_cons (mv 0) (ma_cons (mv 3) (ma_cons (mv 5) ma_nil)))))
      (mss_one (ms_if (mt_cmp op_notN1 lf_notN mn_isN (mv 6) me_non (nomark _)) (mss_one (ms_expr (me_bm PySem.F.plainAttrs_list PySem.F.slot_list_append PySem.F.type_list_append mt_append lm_append mm_append (mv 4) (ma_cons (me_tup (ma_cons (mv 5) (ma_cons (mv 6) ma_nil))) ma_nil)))) mss_nil)))))
      (mss_one (ms_expr (me_bm PySem.F.plainAttrs_list PySem.F.slot_list_append PySem.F.type_list_append mt_append lm_append mm_append (mv 1) (ma_cons (me_frz (mv 4)) ma_nil)))))))
      (mss_one (ms_ret (me_frz (mv 1))))))), math__law_fitting⟩
theorem okr__law_breakings (T : Txt P K mg) : ∀ i : Nat, FnOk P wd K mg base (L2.CX P wd) (1 + i) T.f__law_breakings T.fd__law_breakings ["lines", "first"] (upP K (spr__law_breakings i))
  | 0 => okM T.F__law_breakings sc__law_breakings (fun ds M Q E h => (lenr__law_breakings 0 ds M Q E h)) fun cdv A outer s H E hr => ⟨_, mss_never, fun ds M Q' E' _ _ h => (zero__law_breakings ds M Q' E' h).elim⟩
  | i + 1 => okM T.F__law_breakings sc__law_breakings (fun ds M Q E h => (lenr__law_breakings (i + 1) ds M Q E h)) fun cdv A outer s H E hr => by
    have hu := hr.units
    exact ⟨rr__law_breakings i, (mss_cons (ms_if (mt_cmp (op_eqAll hu) lf_eq mn_eq (mv 1) (me_callB call_len la_len mr_len (by rfl) T.z_len (by decide +kernel) (ma_cons (mv 0) ma_nil)) (nomark _)) (mss_one (ms_ret (me_lst false (ma_cons (me_tup (ma_cons (me_tup ma_nil) (ma_cons me_int ma_nil))) ma_nil)))) mss_nil)
      (mss_cons (ms_set (i := 2) sc__law_breakings.nd (by rfl) (.inl rfl) (me_lst true ma_nil))
      (mss_cons (ms_for (passes_of rfl) rfl (mi_seq (me_ix ix_seq lf_ix mn_ix (mv 0) (mv 1) (fun _ _ => rfl))) (mg_tup rfl (mgs_cons (mg_name (i := 3) sc__law_breakings.nd (by rfl) (.inl rfl)) (mgs_cons (mg_name (i := 4) sc__law_breakings.nd (by rfl) (.inl rfl)) mgs_nil))) (mss_one (ms_for (passes_of rfl) rfl (mi_seq (me_call (okr__law_breakings T i) (monor__law_breakings i) hr (takes_of rfl rfl rfl rfl) (by rfl) T.g__law_breakings T.F__law_breakings.kp T.b__law_breakings (ma_cons (mv 0) (ma_cons (mv 3) ma_nil)))) (mg_tup rfl (mgs_cons (mg_name (i := 5) sc__law_breakings.nd (by rfl) (.inl rfl)) (mgs_cons (mg_name (i := 6) sc__law_breakings.nd (by rfl) (.inl rfl)) mgs_nil))) (mss_one (ms_expr (me_bm PySem.F.plainAttrs_list PySem.F.slot_list_append PySem.F.type_list_append mt_append lm_append mm_append (mv 2) (ma_cons (me_tup (ma_cons (me_op op_addAll (lf_add (cell := false)) mn_add (me_tup (ma_cons (mv 3) ma_nil)) (mv 5)) (ma_cons (me_op op_addAll (lf_add (cell := false)) mn_add (mv 4) (mv 6)) ma_nil))) ma_nil)))))))
      (mss_one (ms_ret (me_frz (mv 2))))))), mathr__law_breakings i⟩
theorem ok__law_breakings (T : Txt P K mg) : FnOk P wd K mg base (L2.CX P wd) 15 T.f__law_breakings T.fd__law_breakings ["lines", "first"] (upP K sp__law_breakings) := (okr__law_breakings T 14).imp fun vs H Q E => upP_imp (fun ds M Q E => sub__law_breakings)
theorem ok__law_best (T : Txt P K mg) : FnOk P wd K mg base (L2.CX P wd) 1 T.f__law_best T.fd__law_best ["lines"] (upP K sp__law_best) :=
  okM T.F__law_best sc__law_best len__law_best fun cdv A outer s H E hr => by
    have hu := hr.units
    exact ⟨r__law_best, (mss_cons (ms_set (i := 1) sc__law_best.nd (by rfl) (.inl rfl) (me_callB call_len la_len mr_len (by rfl) T.z_len (by decide +kernel) (ma_cons (mv 0) ma_nil)))
      (mss_cons (ms_set (i := 2) sc__law_best.nd (by rfl) (.inl rfl) (me_op op_addAll (lf_add (cell := true)) mn_add (me_op op_mulAll (lf_mul (cell := false)) mn_mul (me_lst false (ma_cons me_non ma_nil)) (mv 1)) (me_lst false (ma_cons (me_tup (ma_cons me_int (ma_cons me_int (ma_cons (me_tup ma_nil) ma_nil)))) ma_nil))))
      (mss_cons (ms_for (passes_of rfl) rfl (mi_range3 (by rfl) T.z_range (ma_cons (me_op op_sub lf_I0 mn_I0 (mv 1) me_int) (ma_cons (me_un un_neg lf_neg mn_neg me_int) (ma_cons (me_un un_neg lf_neg mn_neg me_int) ma_nil)))) (mg_name (i := 3) sc__law_best.nd (by rfl) (.inl rfl)) (mss_cons (ms_set (i := 7) sc__law_best.nd (by rfl) (.inl rfl) me_non)
      (mss_cons (ms_for (passes_of rfl) rfl (mi_seq (me_ix ix_seq lf_ix mn_ix (mv 0) (mv 3) (fun _ _ => rfl))) (mg_tup rfl (mgs_cons (mg_name (i := 8) sc__law_best.nd (by rfl) (.inl rfl)) (mgs_cons (mg_name (i := 9) sc__law_best.nd (by rfl) (.inl rfl)) mgs_nil))) (mss_one (ms_if (mt_cmp op_notN1 lf_notN mn_isN (me_ix ix_seq lf_ix mn_ix (mv 2) (mv 8) (fun _ _ => rfl)) me_non (nomark _)) (mss_cons (ms_set (i := 10) sc__law_best.nd (by rfl) (.inl rfl) (me_tup (ma_cons (me_op op_addAll (lf_add (cell := false)) mn_add (mv 9) (me_ix ix_seq lf_ix mn_ix (me_ix ix_seq lf_ix mn_ix (mv 2) (mv 8) (fun _ _ => rfl)) me_int (fun _ _ => rfl))) (ma_cons (me_op op_addAll (lf_add (cell := false)) mn_add me_int (me_ix ix_seq lf_ix mn_ix (me_ix ix_seq lf_ix mn_ix (mv 2) (mv 8) (fun _ _ => rfl)) me_int (fun _ _ => rfl))) (ma_cons (mv 8) ma_nil)))))
      (mss_one (ms_if (MW.mt (mw_or (mt_cmp op_isN1 lf_isN mn_isN (mv 7) me_non (nomark _)) (mw_or1 (mt_cmp (op_ltD hu) lf_ltD mn_ltD (mv 10) (mv 7) (nomark _))))) (mss_one (ms_set (i := 7) sc__law_best.nd (by rfl) (.inl rfl) (mv 10))) mss_nil))) mss_nil)))
      (mss_one (ms_asg (mv 7) (mg_sub (mv 2) (mv 3) set_list ls_list ms_list))))))
      (mss_cons (ms_if (mt_cmp op_isN1 lf_isN mn_isN (me_ix ix_seq lf_ix mn_ix (mv 2) me_int (fun _ _ => rfl)) me_non (nomark _)) (mss_one (ms_ret me_non)) mss_nil)
      (mss_cons (ms_set (i := 4) sc__law_best.nd (by rfl) (.inl rfl) (me_tup ma_nil))
      (mss_cons (ms_set (i := 5) sc__law_best.nd (by rfl) (.inl rfl) me_int)
      (mss_cons (ms_for (passes_of rfl) rfl (mi_range1 (by rfl) T.z_range (ma_cons (mv 1) ma_nil)) (mg_name (i := 6) sc__law_best.nd (by rfl) (.inl rfl)) (mss_one (ms_if (mt_cmp op_lt lf_B0 mn_I0 (mv 5) (mv 1) (nomark _)) (mss_cons (ms_set (i := 5) sc__law_best.nd (by rfl) (.inl rfl) (me_ix ix_seq lf_ix mn_ix (me_ix ix_seq lf_ix mn_ix (mv 2) (mv 5) (fun _ _ => rfl)) me_int (fun _ _ => rfl)))
      (mss_one (ms_set (i := 4) sc__law_best.nd (by rfl) (.inl rfl) (me_op op_addAll (lf_add (cell := false)) mn_add (mv 4) (me_tup (ma_cons (mv 5) ma_nil)))))) mss_nil)))
      (mss_one (ms_ret (me_tup (ma_cons (me_ix ix_seq lf_ix mn_ix (me_ix ix_seq lf_ix mn_ix (mv 2) me_int (fun _ _ => rfl)) me_int (fun _ _ => rfl)) (ma_cons (mv 4) ma_nil)))))))))))), math__law_best⟩
theorem ok__law_amounts (T : Txt P K mg) : FnOk P wd K mg base (L2.CX P wd) 5 T.f__law_amounts T.fd__law_amounts ["pool"] (upP K sp__law_amounts) :=
  okM T.F__law_amounts sc__law_amounts len__law_amounts fun cdv A outer s H E hr => by
    have hu := hr.units
    exact ⟨r__law_amounts, (mss_one (ms_ret (me_call (ok__law_pick T) mono__law_pick (hr.mono (by decide)) (takes_of rfl rfl rfl rfl) (by rfl) T.g__law_pick T.F__law_pick.kp T.b__law_pick (ma_cons (mv 0) (ma_cons (me_lst false (ma_cons (me_tup (ma_cons (me_op op_addAll (lf_add (cell := false)) mn_add me_int (me_call (ok__law_take T) mono__law_take (hr.mono (by decide)) (takes_of rfl rfl rfl rfl) (by rfl) T.g__law_take T.F__law_take.kp T.b__law_take (ma_cons (mv 0) (ma_cons me_int ma_nil)))) (ma_cons me_int ma_nil))) (ma_cons (me_tup (ma_cons (me_op op_addAll (lf_add (cell := false)) mn_add me_int (me_call (ok__law_take T) mono__law_take (hr.mono (by decide)) (takes_of rfl rfl rfl rfl) (by rfl) T.g__law_take T.F__law_take.kp T.b__law_take (ma_cons (mv 0) (ma_cons me_int ma_nil)))) (ma_cons me_int ma_nil))) (ma_cons (me_tup (ma_cons (me_op op_addAll (lf_add (cell := false)) mn_add me_int (me_call (ok__law_take T) mono__law_take (hr.mono (by decide)) (takes_of rfl rfl rfl rfl) (by rfl) T.g__law_take T.F__law_take.kp T.b__law_take (ma_cons (mv 0) (ma_cons me_int ma_nil)))) (ma_cons me_int ma_nil))) (ma_cons (me_tup (ma_cons me_int (ma_cons me_int ma_nil))) ma_nil))))) ma_nil))))), math__law_amounts⟩
theorem ok__law_due (T : Txt P K mg) : FnOk P wd K mg base (L2.CX P wd) 16 T.f__law_due T.fd__law_due ["lines"] (upP K sp__law_due) :=
  okM T.F__law_due sc__law_due len__law_due fun cdv A outer s H E hr => by
    have hu := hr.units
    exact ⟨r__law_due, (mss_cons (ms_if (mt_cmp op_gt lf_B0 mn_I0 (me_callB call_len la_len mr_len (by rfl) T.z_len (by decide +kernel) (ma_cons (mv 0) ma_nil)) me_int (nomark _)) (mss_one (ms_ret (me_call (ok__law_best T) mono__law_best (hr.mono (by decide)) (takes_of rfl rfl rfl rfl) (by rfl) T.g__law_best T.F__law_best.kp T.b__law_best (ma_cons (mv 0) ma_nil)))) mss_nil)
      (mss_cons (ms_set (i := 1) sc__law_due.nd (by rfl) (.inl rfl) me_non)
      (mss_cons (ms_for (passes_of rfl) rfl (mi_seq (me_call (ok__law_breakings T) mono__law_breakings (hr.mono (by decide)) (takes_of rfl rfl rfl rfl) (by rfl) T.g__law_breakings T.F__law_breakings.kp T.b__law_breakings (ma_cons (mv 0) (ma_cons me_int ma_nil)))) (mg_tup rfl (mgs_cons (mg_name (i := 2) sc__law_due.nd (by rfl) (.inl rfl)) (mgs_cons (mg_name (i := 3) sc__law_due.nd (by rfl) (.inl rfl)) mgs_nil))) (mss_cons (ms_set (i := 4) sc__law_due.nd (by rfl) (.inl rfl) (me_tup (ma_cons (mv 3) (ma_cons (me_callB call_len la_len mr_len (by rfl) T.z_len (by decide +kernel) (ma_cons (mv 2) ma_nil)) (ma_cons (mv 2) ma_nil)))))
      (mss_one (ms_if (MW.mt (mw_or (mt_cmp op_isN1 lf_isN mn_isN (mv 1) me_non (nomark _)) (mw_or1 (mt_cmp (op_ltD hu) lf_ltD mn_ltD (mv 4) (mv 1) (nomark _))))) (mss_one (ms_set (i := 1) sc__law_due.nd (by rfl) (.inl rfl) (mv 4))) mss_nil))))
      (mss_one (ms_ret (me_if (mt_cmp op_isN1 lf_isN mn_isN (mv 1) me_non (nomark _)) me_non (me_tup (ma_cons (me_ix ix_seq lf_ix mn_ix (mv 1) me_int (fun _ _ => rfl)) (ma_cons (me_ix ix_seq lf_ix mn_ix (mv 1) me_int (fun _ _ => rfl)) ma_nil))))))))), math__law_due⟩
theorem ok_law (T : Txt P K mg) : FnG P wd K mg base 17 T.f_law T.fd_law ["script"] (upP K sp_law) :=
  okMG T.F_law sc_law len_law fun cdv A outer s H E gd hr => by
    have hu := hr.units
    exact ⟨r_law, (mss_cons (ms_set (i := 1) sc_law.nd (by rfl) (.inl rfl) (me_call (ok__law_pool T) mono__law_pool (hr.mono (by decide)) (takes_of rfl rfl rfl rfl) (by rfl) T.g__law_pool T.F__law_pool.kp T.b__law_pool (ma_cons (mv 0) ma_nil)))
      (mss_cons (ms_set (i := 2) sc_law.nd (by rfl) (.inl rfl) (me_lst true ma_nil))
      (mss_cons (ms_for (passes_of rfl) rfl (mi_range1 (by rfl) T.z_range (ma_cons me_int ma_nil)) (mg_name (i := 3) sc_law.nd (by rfl) (.inl rfl)) (mss_cons (ms_asg (me_call (ok__law_amounts T) mono__law_amounts (hr.mono (by decide)) (takes_of rfl rfl rfl rfl) (by rfl) T.g__law_amounts T.F__law_amounts.kp T.b__law_amounts (ma_cons (mv 1) ma_nil)) (mg_tup rfl (mgs_cons (mg_name (i := 9) sc_law.nd (by rfl) (.inl rfl)) (mgs_cons (mg_name (i := 10) sc_law.nd (by rfl) (.inl rfl)) mgs_nil))))
      (mss_cons (ms_if (mt_cmp op_gt lf_B0 mn_I0 (mv 3) me_int (nomark _)) (mss_one (ms_set (i := 9) sc_law.nd (by rfl) (.inl rfl) (me_callB (call_min2 rfl) la_min2 mr_I2 (by rfl) T.z_min (by decide +kernel) (ma_cons (mv 9) (ma_cons me_int ma_nil))))) mss_nil)
      (mss_cons (ms_set (i := 5) sc_law.nd (by rfl) (.inl rfl) (me_call (ok__law_pieces T) mono__law_pieces (hr.mono (by decide)) (takes_of rfl rfl rfl rfl) (by rfl) T.g__law_pieces T.F__law_pieces.kp T.b__law_pieces (ma_cons (mv 1) (ma_cons (mv 9) ma_nil))))
      (mss_cons (ms_if (mt_cmp (op_eqAll hu) lf_eq mn_eq (mv 3) me_int (nomark _)) (mss_one (ms_set (i := 5) sc_law.nd (by rfl) (.inl rfl) (me_op op_addAll (lf_add (cell := false)) mn_add (me_slice sl_all (lsl_all (cell := false)) msl_all (me_ix ix_seq lf_ix mn_ix (me_ix ix_seq lf_ix mn_ix (mv 2) me_int (fun _ _ => rfl)) me_int (fun _ _ => rfl)) mo_none (mo_some (me_un un_neg lf_neg mn_neg me_int))) (me_tup (ma_cons (me_op op_addAll (lf_add (cell := false)) mn_add (me_slice sl_all (lsl_all (cell := false)) msl_all (me_ix ix_seq lf_ix mn_ix (me_ix ix_seq lf_ix mn_ix (me_ix ix_seq lf_ix mn_ix (mv 2) me_int (fun _ _ => rfl)) me_int (fun _ _ => rfl)) (me_un un_neg lf_neg mn_neg me_int) (fun _ _ => rfl)) mo_none (mo_some me_int)) (me_tup (ma_cons (me_tup (ma_cons me_int (ma_cons me_int ma_nil))) ma_nil))) ma_nil))))) mss_nil)
      (mss_cons (ms_set (i := 6) sc_law.nd (by rfl) (.inl rfl) (me_call (ok__law_room T) mono__law_room (hr.mono (by decide)) (takes_of rfl rfl rfl rfl) (by rfl) T.g__law_room T.F__law_room.kp T.b__law_room (ma_cons (mv 1) (ma_cons (mv 5) (ma_cons (mv 10) ma_nil)))))
      (mss_one (ms_expr (me_bm PySem.F.plainAttrs_list PySem.F.slot_list_append PySem.F.type_list_append mt_append lm_append mm_append (mv 2) (ma_cons (me_tup (ma_cons (mv 5) (ma_cons (mv 6) (ma_cons (me_call (ok__law_due T) mono__law_due (hr.mono (by decide)) (takes_of rfl rfl rfl rfl) (by rfl) T.g__law_due T.F__law_due.kp T.b__law_due (ma_cons (me_call (ok__law_fitting T) mono__law_fitting (hr.mono (by decide)) (takes_of rfl rfl rfl rfl) (by rfl) T.g__law_fitting T.F__law_fitting.kp T.b__law_fitting (ma_cons (me_call (ok__law_scaled T) mono__law_scaled (hr.mono (by decide)) (takes_of rfl rfl rfl rfl) (by rfl) T.g__law_scaled T.F__law_scaled.kp T.b__law_scaled (ma_cons (mv 5) (ma_cons (mv 6) ma_nil))) ma_nil)) ma_nil)) ma_nil)))) ma_nil))))))))))
      (mss_cons (ms_for (passes_of rfl) rfl (mi_seq (me_tup (ma_cons me_int (ma_cons me_int (ma_cons me_int (ma_cons me_int (ma_cons me_int (ma_cons me_int ma_nil)))))))) (mg_name (i := 4) sc_law.nd (by rfl) (.inl rfl)) (mss_cons (ms_asg (me_ix ix_seq lf_ix mn_ix (mv 2) (mv 4) (fun _ _ => rfl)) (mg_tup rfl (mgs_cons (mg_name (i := 5) sc_law.nd (by rfl) (.inl rfl)) (mgs_cons (mg_name (i := 6) sc_law.nd (by rfl) (.inl rfl)) (mgs_cons (mg_name (i := 11) sc_law.nd (by rfl) (.inl rfl)) mgs_nil)))))
      (mss_cons (ms_set (i := 7) sc_law.nd (by rfl) (.inl rfl) (me_call (ok__law_given T) mono__law_given (hr.mono (by decide)) (takes_of rfl rfl rfl rfl) (by rfl) T.g__law_given T.F__law_given.kp T.b__law_given (ma_cons (mv 1) (ma_cons (mv 5) ma_nil))))
      (mss_cons (ms_set (i := 8) sc_law.nd (by rfl) (.inl rfl) (me_callB (cr_repr gd (room66 hr)) la_repr mr_repr (by rfl) T.z_repr (by decide +kernel) (ma_cons (mv 7) ma_nil)))
      (mss_one (ms_if (MW.mt (mw_or (mt_not (mt_tru (me_call (ok__law_same T) mono__law_same (hr.mono (by decide)) (takes_of rfl rfl rfl rfl) (by rfl) T.g__law_same T.F__law_same.kp T.b__law_same (ma_cons (me_call (ok_best_lines T) mono_best_lines (hr.mono (by decide)) (takes_of rfl rfl rfl rfl) (by rfl) T.g_best_lines T.F_best_lines.kp T.b_best_lines (ma_cons (mv 7) (ma_cons (me_call (ok__law_given T) mono__law_given (hr.mono (by decide)) (takes_of rfl rfl rfl rfl) (by rfl) T.g__law_given T.F__law_given.kp T.b__law_given (ma_cons (mv 1) (ma_cons (mv 6) ma_nil))) ma_nil))) (ma_cons (mv 11) ma_nil))))) (mw_or1 (mt_cmp (op_neAll hu) lf_ne mn_eq (me_callB (cr_repr gd (room66 hr)) la_repr mr_repr (by rfl) T.z_repr (by decide +kernel) (ma_cons (mv 7) ma_nil)) (mv 8) (nomark _))))) (mss_one (ms_ret me_bl)) mss_nil))))))
      (mss_one (ms_ret me_bl)))))), math_law⟩
end

noncomputable def txt_mk {P : Program} {K : PySem.W.Frag} {h : Heap} {mg : Str → Option Value} (X : K.In h) (G : h.Ns mainGlobals mg)
    {oc_is_fraction kV_is_fraction dc_is_fraction pm_is_fraction cd_is_fraction ct_is_fraction : Value} {od_is_fraction an_is_fraction : Option Addr} {sl_is_fraction : Array (Option Value)} {f_is_fraction : Addr}
    {oc_is_part kV_is_part dc_is_part pm_is_part cd_is_part ct_is_part : Value} {od_is_part an_is_part : Option Addr} {sl_is_part : Array (Option Value)} {f_is_part : Addr}
    {oc_is_piece kV_is_piece dc_is_piece pm_is_piece cd_is_piece ct_is_piece : Value} {od_is_piece an_is_piece : Option Addr} {sl_is_piece : Array (Option Value)} {f_is_piece : Addr}
    {oc_check_pieces kV_check_pieces dc_check_pieces pm_check_pieces cd_check_pieces ct_check_pieces : Value} {od_check_pieces an_check_pieces : Option Addr} {sl_check_pieces : Array (Option Value)} {f_check_pieces : Addr}
    {oc_Lines_init kV_Lines_init dc_Lines_init pm_Lines_init cd_Lines_init ct_Lines_init : Value} {od_Lines_init an_Lines_init : Option Addr} {sl_Lines_init : Array (Option Value)} {f_Lines_init : Addr}
    {oc_Lines_badness kV_Lines_badness dc_Lines_badness pm_Lines_badness cd_Lines_badness ct_Lines_badness : Value} {od_Lines_badness an_Lines_badness : Option Addr} {sl_Lines_badness : Array (Option Value)} {f_Lines_badness : Addr}
    {oc_Lines_from_piece kV_Lines_from_piece dc_Lines_from_piece pm_Lines_from_piece cd_Lines_from_piece ct_Lines_from_piece : Value} {od_Lines_from_piece an_Lines_from_piece : Option Addr} {sl_Lines_from_piece : Array (Option Value)} {f_Lines_from_piece : Addr}
    {oc_best_lines kV_best_lines dc_best_lines pm_best_lines cd_best_lines ct_best_lines : Value} {od_best_lines an_best_lines : Option Addr} {sl_best_lines : Array (Option Value)} {f_best_lines : Addr}
    {oc__law_pool kV__law_pool dc__law_pool pm__law_pool cd__law_pool ct__law_pool : Value} {od__law_pool an__law_pool : Option Addr} {sl__law_pool : Array (Option Value)} {f__law_pool : Addr}
    {oc__law_take kV__law_take dc__law_take pm__law_take cd__law_take ct__law_take : Value} {od__law_take an__law_take : Option Addr} {sl__law_take : Array (Option Value)} {f__law_take : Addr}
    {oc__law_pick kV__law_pick dc__law_pick pm__law_pick cd__law_pick ct__law_pick : Value} {od__law_pick an__law_pick : Option Addr} {sl__law_pick : Array (Option Value)} {f__law_pick : Addr}
    {oc__law_is_integer kV__law_is_integer dc__law_is_integer pm__law_is_integer cd__law_is_integer ct__law_is_integer : Value} {od__law_is_integer an__law_is_integer : Option Addr} {sl__law_is_integer : Array (Option Value)} {f__law_is_integer : Addr}
    {oc__law_same kV__law_same dc__law_same pm__law_same cd__law_same ct__law_same : Value} {od__law_same an__law_same : Option Addr} {sl__law_same : Array (Option Value)} {f__law_same : Addr}
    {oc__law_lowest kV__law_lowest dc__law_lowest pm__law_lowest cd__law_lowest ct__law_lowest : Value} {od__law_lowest an__law_lowest : Option Addr} {sl__law_lowest : Array (Option Value)} {f__law_lowest : Addr}
    {oc__law_sum kV__law_sum dc__law_sum pm__law_sum cd__law_sum ct__law_sum : Value} {od__law_sum an__law_sum : Option Addr} {sl__law_sum : Array (Option Value)} {f__law_sum : Addr}
    {oc__law_listed kV__law_listed dc__law_listed pm__law_listed cd__law_listed ct__law_listed : Value} {od__law_listed an__law_listed : Option Addr} {sl__law_listed : Array (Option Value)} {f__law_listed : Addr}
    {oc__law_given kV__law_given dc__law_given pm__law_given cd__law_given ct__law_given : Value} {od__law_given an__law_given : Option Addr} {sl__law_given : Array (Option Value)} {f__law_given : Addr}
    {oc__law_divisor kV__law_divisor dc__law_divisor pm__law_divisor cd__law_divisor ct__law_divisor : Value} {od__law_divisor an__law_divisor : Option Addr} {sl__law_divisor : Array (Option Value)} {f__law_divisor : Addr}
    {oc__law_piece kV__law_piece dc__law_piece pm__law_piece cd__law_piece ct__law_piece : Value} {od__law_piece an__law_piece : Option Addr} {sl__law_piece : Array (Option Value)} {f__law_piece : Addr}
    {oc__law_pieces kV__law_pieces dc__law_pieces pm__law_pieces cd__law_pieces ct__law_pieces : Value} {od__law_pieces an__law_pieces : Option Addr} {sl__law_pieces : Array (Option Value)} {f__law_pieces : Addr}
    {oc__law_room kV__law_room dc__law_room pm__law_room cd__law_room ct__law_room : Value} {od__law_room an__law_room : Option Addr} {sl__law_room : Array (Option Value)} {f__law_room : Addr}
    {oc__law_scaled kV__law_scaled dc__law_scaled pm__law_scaled cd__law_scaled ct__law_scaled : Value} {od__law_scaled an__law_scaled : Option Addr} {sl__law_scaled : Array (Option Value)} {f__law_scaled : Addr}
    {oc__law_bad kV__law_bad dc__law_bad pm__law_bad cd__law_bad ct__law_bad : Value} {od__law_bad an__law_bad : Option Addr} {sl__law_bad : Array (Option Value)} {f__law_bad : Addr}
    {oc__law_fitting kV__law_fitting dc__law_fitting pm__law_fitting cd__law_fitting ct__law_fitting : Value} {od__law_fitting an__law_fitting : Option Addr} {sl__law_fitting : Array (Option Value)} {f__law_fitting : Addr}
    {oc__law_breakings kV__law_breakings dc__law_breakings pm__law_breakings cd__law_breakings ct__law_breakings : Value} {od__law_breakings an__law_breakings : Option Addr} {sl__law_breakings : Array (Option Value)} {f__law_breakings : Addr}
    {oc__law_best kV__law_best dc__law_best pm__law_best cd__law_best ct__law_best : Value} {od__law_best an__law_best : Option Addr} {sl__law_best : Array (Option Value)} {f__law_best : Addr}
    {oc__law_amounts kV__law_amounts dc__law_amounts pm__law_amounts cd__law_amounts ct__law_amounts : Value} {od__law_amounts an__law_amounts : Option Addr} {sl__law_amounts : Array (Option Value)} {f__law_amounts : Addr}
    {oc__law_due kV__law_due dc__law_due pm__law_due cd__law_due ct__law_due : Value} {od__law_due an__law_due : Option Addr} {sl__law_due : Array (Option Value)} {f__law_due : Addr}
    {oc_law kV_law dc_law pm_law cd_law ct_law : Value} {od_law an_law : Option Addr} {sl_law : Array (Option Value)} {f_law : Addr}
    {C_Lines : Addr} (n_Lines : PySem.W.nsIn K mainGlobals "Lines" = some (some (.ref C_Lines)))
    (pg_Lines : PySem.W.plainGet K C_Lines Str.empty = true) (hp_Lines : PySem.W.hasDictIn K C_Lines = true) (po_Lines : PySem.W.plainOver K C_Lines = true) (sa_Lines : PySem.W.findIn K (.ref C_Lines) "__setattr__" = some (some (.builtin "object.__setattr__")))
    (mi_Lines : PySem.W.makesIn K C_Lines = true) (kc_Lines : PySem.W.keepIn K (.ref C_Lines) = true)
    (no_Lines_many : PySem.W.findIn K (.ref C_Lines) "many" = some none)
    (no_Lines_room : PySem.W.findIn K (.ref C_Lines) "room" = some none)
    (no_Lines__sums : PySem.W.findIn K (.ref C_Lines) "_sums" = some none)
    (a_is_fraction : PySem.W.nsIn K mainGlobals "is_fraction" = some (some (.ref f_is_fraction))) (l_is_fraction : K.lookup f_is_fraction = some ⟨oc_is_fraction, od_is_fraction, .func (PySem.W.fnOf "is_fraction" "is_fraction" (defArgs s_is_fraction) (defBody s_is_fraction) (defScope s_is_fraction) .none kV_is_fraction dc_is_fraction pm_is_fraction an_is_fraction cd_is_fraction ct_is_fraction), sl_is_fraction⟩) (c_is_fraction : PySem.W.codeIn K cd_is_fraction "is_fraction" = true) (k_is_fraction : PySem.W.keepIn K (.ref f_is_fraction) = true)
    (a_is_part : PySem.W.nsIn K mainGlobals "is_part" = some (some (.ref f_is_part))) (l_is_part : K.lookup f_is_part = some ⟨oc_is_part, od_is_part, .func (PySem.W.fnOf "is_part" "is_part" (defArgs s_is_part) (defBody s_is_part) (defScope s_is_part) .none kV_is_part dc_is_part pm_is_part an_is_part cd_is_part ct_is_part), sl_is_part⟩) (c_is_part : PySem.W.codeIn K cd_is_part "is_part" = true) (k_is_part : PySem.W.keepIn K (.ref f_is_part) = true)
    (a_is_piece : PySem.W.nsIn K mainGlobals "is_piece" = some (some (.ref f_is_piece))) (l_is_piece : K.lookup f_is_piece = some ⟨oc_is_piece, od_is_piece, .func (PySem.W.fnOf "is_piece" "is_piece" (defArgs s_is_piece) (defBody s_is_piece) (defScope s_is_piece) .none kV_is_piece dc_is_piece pm_is_piece an_is_piece cd_is_piece ct_is_piece), sl_is_piece⟩) (c_is_piece : PySem.W.codeIn K cd_is_piece "is_piece" = true) (k_is_piece : PySem.W.keepIn K (.ref f_is_piece) = true)
    (a_check_pieces : PySem.W.nsIn K mainGlobals "check_pieces" = some (some (.ref f_check_pieces))) (l_check_pieces : K.lookup f_check_pieces = some ⟨oc_check_pieces, od_check_pieces, .func (PySem.W.fnOf "check_pieces" "check_pieces" (defArgs s_check_pieces) (defBody s_check_pieces) (defScope s_check_pieces) .none kV_check_pieces dc_check_pieces pm_check_pieces an_check_pieces cd_check_pieces ct_check_pieces), sl_check_pieces⟩) (c_check_pieces : PySem.W.codeIn K cd_check_pieces "check_pieces" = true) (k_check_pieces : PySem.W.keepIn K (.ref f_check_pieces) = true)
    (a_Lines_init : PySem.W.findIn K (.ref C_Lines) "__init__" = some (some (.ref f_Lines_init))) (i_Lines_init : PySem.W.isFn K (.ref f_Lines_init) = true) (l_Lines_init : K.lookup f_Lines_init = some ⟨oc_Lines_init, od_Lines_init, .func (PySem.W.fnOf "__init__" "Lines.__init__" (defArgs s_Lines_init) (defBody s_Lines_init) (defScope s_Lines_init) .none kV_Lines_init dc_Lines_init pm_Lines_init an_Lines_init cd_Lines_init ct_Lines_init), sl_Lines_init⟩) (c_Lines_init : PySem.W.codeIn K cd_Lines_init "Lines.__init__" = true) (k_Lines_init : PySem.W.keepIn K (.ref f_Lines_init) = true)
    (a_Lines_badness : PySem.W.findIn K (.ref C_Lines) "badness" = some (some (.ref f_Lines_badness))) (i_Lines_badness : PySem.W.isFn K (.ref f_Lines_badness) = true) (l_Lines_badness : K.lookup f_Lines_badness = some ⟨oc_Lines_badness, od_Lines_badness, .func (PySem.W.fnOf "badness" "Lines.badness" (defArgs s_Lines_badness) (defBody s_Lines_badness) (defScope s_Lines_badness) .none kV_Lines_badness dc_Lines_badness pm_Lines_badness an_Lines_badness cd_Lines_badness ct_Lines_badness), sl_Lines_badness⟩) (c_Lines_badness : PySem.W.codeIn K cd_Lines_badness "Lines.badness" = true) (k_Lines_badness : PySem.W.keepIn K (.ref f_Lines_badness) = true)
    (a_Lines_from_piece : PySem.W.findIn K (.ref C_Lines) "from_piece" = some (some (.ref f_Lines_from_piece))) (i_Lines_from_piece : PySem.W.isFn K (.ref f_Lines_from_piece) = true) (l_Lines_from_piece : K.lookup f_Lines_from_piece = some ⟨oc_Lines_from_piece, od_Lines_from_piece, .func (PySem.W.fnOf "from_piece" "Lines.from_piece" (defArgs s_Lines_from_piece) (defBody s_Lines_from_piece) (defScope s_Lines_from_piece) .none kV_Lines_from_piece dc_Lines_from_piece pm_Lines_from_piece an_Lines_from_piece cd_Lines_from_piece ct_Lines_from_piece), sl_Lines_from_piece⟩) (c_Lines_from_piece : PySem.W.codeIn K cd_Lines_from_piece "Lines.from_piece" = true) (k_Lines_from_piece : PySem.W.keepIn K (.ref f_Lines_from_piece) = true)
    (a_best_lines : PySem.W.nsIn K mainGlobals "best_lines" = some (some (.ref f_best_lines))) (l_best_lines : K.lookup f_best_lines = some ⟨oc_best_lines, od_best_lines, .func (PySem.W.fnOf "best_lines" "best_lines" (defArgs s_best_lines) (defBody s_best_lines) (defScope s_best_lines) .none kV_best_lines dc_best_lines pm_best_lines an_best_lines cd_best_lines ct_best_lines), sl_best_lines⟩) (c_best_lines : PySem.W.codeIn K cd_best_lines "best_lines" = true) (k_best_lines : PySem.W.keepIn K (.ref f_best_lines) = true)
    (a__law_pool : PySem.W.nsIn K mainGlobals "_law_pool" = some (some (.ref f__law_pool))) (l__law_pool : K.lookup f__law_pool = some ⟨oc__law_pool, od__law_pool, .func (PySem.W.fnOf "_law_pool" "_law_pool" (defArgs s__law_pool) (defBody s__law_pool) (defScope s__law_pool) .none kV__law_pool dc__law_pool pm__law_pool an__law_pool cd__law_pool ct__law_pool), sl__law_pool⟩) (c__law_pool : PySem.W.codeIn K cd__law_pool "_law_pool" = true) (k__law_pool : PySem.W.keepIn K (.ref f__law_pool) = true)
    (a__law_take : PySem.W.nsIn K mainGlobals "_law_take" = some (some (.ref f__law_take))) (l__law_take : K.lookup f__law_take = some ⟨oc__law_take, od__law_take, .func (PySem.W.fnOf "_law_take" "_law_take" (defArgs s__law_take) (defBody s__law_take) (defScope s__law_take) .none kV__law_take dc__law_take pm__law_take an__law_take cd__law_take ct__law_take), sl__law_take⟩) (c__law_take : PySem.W.codeIn K cd__law_take "_law_take" = true) (k__law_take : PySem.W.keepIn K (.ref f__law_take) = true)
    (a__law_pick : PySem.W.nsIn K mainGlobals "_law_pick" = some (some (.ref f__law_pick))) (l__law_pick : K.lookup f__law_pick = some ⟨oc__law_pick, od__law_pick, .func (PySem.W.fnOf "_law_pick" "_law_pick" (defArgs s__law_pick) (defBody s__law_pick) (defScope s__law_pick) .none kV__law_pick dc__law_pick pm__law_pick an__law_pick cd__law_pick ct__law_pick), sl__law_pick⟩) (c__law_pick : PySem.W.codeIn K cd__law_pick "_law_pick" = true) (k__law_pick : PySem.W.keepIn K (.ref f__law_pick) = true)
    (a__law_is_integer : PySem.W.nsIn K mainGlobals "_law_is_integer" = some (some (.ref f__law_is_integer))) (l__law_is_integer : K.lookup f__law_is_integer = some ⟨oc__law_is_integer, od__law_is_integer, .func (PySem.W.fnOf "_law_is_integer" "_law_is_integer" (defArgs s__law_is_integer) (defBody s__law_is_integer) (defScope s__law_is_integer) .none kV__law_is_integer dc__law_is_integer pm__law_is_integer an__law_is_integer cd__law_is_integer ct__law_is_integer), sl__law_is_integer⟩) (c__law_is_integer : PySem.W.codeIn K cd__law_is_integer "_law_is_integer" = true) (k__law_is_integer : PySem.W.keepIn K (.ref f__law_is_integer) = true)
    (a__law_same : PySem.W.nsIn K mainGlobals "_law_same" = some (some (.ref f__law_same))) (l__law_same : K.lookup f__law_same = some ⟨oc__law_same, od__law_same, .func (PySem.W.fnOf "_law_same" "_law_same" (defArgs s__law_same) (defBody s__law_same) (defScope s__law_same) .none kV__law_same dc__law_same pm__law_same an__law_same cd__law_same ct__law_same), sl__law_same⟩) (c__law_same : PySem.W.codeIn K cd__law_same "_law_same" = true) (k__law_same : PySem.W.keepIn K (.ref f__law_same) = true)
    (a__law_lowest : PySem.W.nsIn K mainGlobals "_law_lowest" = some (some (.ref f__law_lowest))) (l__law_lowest : K.lookup f__law_lowest = some ⟨oc__law_lowest, od__law_lowest, .func (PySem.W.fnOf "_law_lowest" "_law_lowest" (defArgs s__law_lowest) (defBody s__law_lowest) (defScope s__law_lowest) .none kV__law_lowest dc__law_lowest pm__law_lowest an__law_lowest cd__law_lowest ct__law_lowest), sl__law_lowest⟩) (c__law_lowest : PySem.W.codeIn K cd__law_lowest "_law_lowest" = true) (k__law_lowest : PySem.W.keepIn K (.ref f__law_lowest) = true)
    (a__law_sum : PySem.W.nsIn K mainGlobals "_law_sum" = some (some (.ref f__law_sum))) (l__law_sum : K.lookup f__law_sum = some ⟨oc__law_sum, od__law_sum, .func (PySem.W.fnOf "_law_sum" "_law_sum" (defArgs s__law_sum) (defBody s__law_sum) (defScope s__law_sum) .none kV__law_sum dc__law_sum pm__law_sum an__law_sum cd__law_sum ct__law_sum), sl__law_sum⟩) (c__law_sum : PySem.W.codeIn K cd__law_sum "_law_sum" = true) (k__law_sum : PySem.W.keepIn K (.ref f__law_sum) = true)
    (a__law_listed : PySem.W.nsIn K mainGlobals "_law_listed" = some (some (.ref f__law_listed))) (l__law_listed : K.lookup f__law_listed = some ⟨oc__law_listed, od__law_listed, .func (PySem.W.fnOf "_law_listed" "_law_listed" (defArgs s__law_listed) (defBody s__law_listed) (defScope s__law_listed) .none kV__law_listed dc__law_listed pm__law_listed an__law_listed cd__law_listed ct__law_listed), sl__law_listed⟩) (c__law_listed : PySem.W.codeIn K cd__law_listed "_law_listed" = true) (k__law_listed : PySem.W.keepIn K (.ref f__law_listed) = true)
    (a__law_given : PySem.W.nsIn K mainGlobals "_law_given" = some (some (.ref f__law_given))) (l__law_given : K.lookup f__law_given = some ⟨oc__law_given, od__law_given, .func (PySem.W.fnOf "_law_given" "_law_given" (defArgs s__law_given) (defBody s__law_given) (defScope s__law_given) .none kV__law_given dc__law_given pm__law_given an__law_given cd__law_given ct__law_given), sl__law_given⟩) (c__law_given : PySem.W.codeIn K cd__law_given "_law_given" = true) (k__law_given : PySem.W.keepIn K (.ref f__law_given) = true)
    (a__law_divisor : PySem.W.nsIn K mainGlobals "_law_divisor" = some (some (.ref f__law_divisor))) (l__law_divisor : K.lookup f__law_divisor = some ⟨oc__law_divisor, od__law_divisor, .func (PySem.W.fnOf "_law_divisor" "_law_divisor" (defArgs s__law_divisor) (defBody s__law_divisor) (defScope s__law_divisor) .none kV__law_divisor dc__law_divisor pm__law_divisor an__law_divisor cd__law_divisor ct__law_divisor), sl__law_divisor⟩) (c__law_divisor : PySem.W.codeIn K cd__law_divisor "_law_divisor" = true) (k__law_divisor : PySem.W.keepIn K (.ref f__law_divisor) = true)
    (a__law_piece : PySem.W.nsIn K mainGlobals "_law_piece" = some (some (.ref f__law_piece))) (l__law_piece : K.lookup f__law_piece = some ⟨oc__law_piece, od__law_piece, .func (PySem.W.fnOf "_law_piece" "_law_piece" (defArgs s__law_piece) (defBody s__law_piece) (defScope s__law_piece) .none kV__law_piece dc__law_piece pm__law_piece an__law_piece cd__law_piece ct__law_piece), sl__law_piece⟩) (c__law_piece : PySem.W.codeIn K cd__law_piece "_law_piece" = true) (k__law_piece : PySem.W.keepIn K (.ref f__law_piece) = true)
    (a__law_pieces : PySem.W.nsIn K mainGlobals "_law_pieces" = some (some (.ref f__law_pieces))) (l__law_pieces : K.lookup f__law_pieces = some ⟨oc__law_pieces, od__law_pieces, .func (PySem.W.fnOf "_law_pieces" "_law_pieces" (defArgs s__law_pieces) (defBody s__law_pieces) (defScope s__law_pieces) .none kV__law_pieces dc__law_pieces pm__law_pieces an__law_pieces cd__law_pieces ct__law_pieces), sl__law_pieces⟩) (c__law_pieces : PySem.W.codeIn K cd__law_pieces "_law_pieces" = true) (k__law_pieces : PySem.W.keepIn K (.ref f__law_pieces) = true)
    (a__law_room : PySem.W.nsIn K mainGlobals "_law_room" = some (some (.ref f__law_room))) (l__law_room : K.lookup f__law_room = some ⟨oc__law_room, od__law_room, .func (PySem.W.fnOf "_law_room" "_law_room" (defArgs s__law_room) (defBody s__law_room) (defScope s__law_room) .none kV__law_room dc__law_room pm__law_room an__law_room cd__law_room ct__law_room), sl__law_room⟩) (c__law_room : PySem.W.codeIn K cd__law_room "_law_room" = true) (k__law_room : PySem.W.keepIn K (.ref f__law_room) = true)
    (a__law_scaled : PySem.W.nsIn K mainGlobals "_law_scaled" = some (some (.ref f__law_scaled))) (l__law_scaled : K.lookup f__law_scaled = some ⟨oc__law_scaled, od__law_scaled, .func (PySem.W.fnOf "_law_scaled" "_law_scaled" (defArgs s__law_scaled) (defBody s__law_scaled) (defScope s__law_scaled) .none kV__law_scaled dc__law_scaled pm__law_scaled an__law_scaled cd__law_scaled ct__law_scaled), sl__law_scaled⟩) (c__law_scaled : PySem.W.codeIn K cd__law_scaled "_law_scaled" = true) (k__law_scaled : PySem.W.keepIn K (.ref f__law_scaled) = true)
    (a__law_bad : PySem.W.nsIn K mainGlobals "_law_bad" = some (some (.ref f__law_bad))) (l__law_bad : K.lookup f__law_bad = some ⟨oc__law_bad, od__law_bad, .func (PySem.W.fnOf "_law_bad" "_law_bad" (defArgs s__law_bad) (defBody s__law_bad) (defScope s__law_bad) .none kV__law_bad dc__law_bad pm__law_bad an__law_bad cd__law_bad ct__law_bad), sl__law_bad⟩) (c__law_bad : PySem.W.codeIn K cd__law_bad "_law_bad" = true) (k__law_bad : PySem.W.keepIn K (.ref f__law_bad) = true)
    (a__law_fitting : PySem.W.nsIn K mainGlobals "_law_fitting" = some (some (.ref f__law_fitting))) (l__law_fitting : K.lookup f__law_fitting = some ⟨oc__law_fitting, od__law_fitting, .func (PySem.W.fnOf "_law_fitting" "_law_fitting" (defArgs s__law_fitting) (defBody s__law_fitting) (defScope s__law_fitting) .none kV__law_fitting dc__law_fitting pm__law_fitting an__law_fitting cd__law_fitting ct__law_fitting), sl__law_fitting⟩) (c__law_fitting : PySem.W.codeIn K cd__law_fitting "_law_fitting" = true) (k__law_fitting : PySem.W.keepIn K (.ref f__law_fitting) = true)
    (a__law_breakings : PySem.W.nsIn K mainGlobals "_law_breakings" = some (some (.ref f__law_breakings))) (l__law_breakings : K.lookup f__law_breakings = some ⟨oc__law_breakings, od__law_breakings, .func (PySem.W.fnOf "_law_breakings" "_law_breakings" (defArgs s__law_breakings) (defBody s__law_breakings) (defScope s__law_breakings) .none kV__law_breakings dc__law_breakings pm__law_breakings an__law_breakings cd__law_breakings ct__law_breakings), sl__law_breakings⟩) (c__law_breakings : PySem.W.codeIn K cd__law_breakings "_law_breakings" = true) (k__law_breakings : PySem.W.keepIn K (.ref f__law_breakings) = true)
    (a__law_best : PySem.W.nsIn K mainGlobals "_law_best" = some (some (.ref f__law_best))) (l__law_best : K.lookup f__law_best = some ⟨oc__law_best, od__law_best, .func (PySem.W.fnOf "_law_best" "_law_best" (defArgs s__law_best) (defBody s__law_best) (defScope s__law_best) .none kV__law_best dc__law_best pm__law_best an__law_best cd__law_best ct__law_best), sl__law_best⟩) (c__law_best : PySem.W.codeIn K cd__law_best "_law_best" = true) (k__law_best : PySem.W.keepIn K (.ref f__law_best) = true)
    (a__law_amounts : PySem.W.nsIn K mainGlobals "_law_amounts" = some (some (.ref f__law_amounts))) (l__law_amounts : K.lookup f__law_amounts = some ⟨oc__law_amounts, od__law_amounts, .func (PySem.W.fnOf "_law_amounts" "_law_amounts" (defArgs s__law_amounts) (defBody s__law_amounts) (defScope s__law_amounts) .none kV__law_amounts dc__law_amounts pm__law_amounts an__law_amounts cd__law_amounts ct__law_amounts), sl__law_amounts⟩) (c__law_amounts : PySem.W.codeIn K cd__law_amounts "_law_amounts" = true) (k__law_amounts : PySem.W.keepIn K (.ref f__law_amounts) = true)
    (a__law_due : PySem.W.nsIn K mainGlobals "_law_due" = some (some (.ref f__law_due))) (l__law_due : K.lookup f__law_due = some ⟨oc__law_due, od__law_due, .func (PySem.W.fnOf "_law_due" "_law_due" (defArgs s__law_due) (defBody s__law_due) (defScope s__law_due) .none kV__law_due dc__law_due pm__law_due an__law_due cd__law_due ct__law_due), sl__law_due⟩) (c__law_due : PySem.W.codeIn K cd__law_due "_law_due" = true) (k__law_due : PySem.W.keepIn K (.ref f__law_due) = true)
    (a_law : PySem.W.nsIn K mainGlobals "law" = some (some (.ref f_law))) (l_law : K.lookup f_law = some ⟨oc_law, od_law, .func (PySem.W.fnOf "law" "law" (defArgs s_law) (defBody s_law) (defScope s_law) .none kV_law dc_law pm_law an_law cd_law ct_law), sl_law⟩) (c_law : PySem.W.codeIn K cd_law "law" = true) (k_law : PySem.W.keepIn K (.ref f_law) = true)
    (z_list : PySem.W.nsIn K mainGlobals "list" = some none)
    (z_tuple : PySem.W.nsIn K mainGlobals "tuple" = some none)
    (z_isinstance : PySem.W.nsIn K mainGlobals "isinstance" = some none)
    (z_len : PySem.W.nsIn K mainGlobals "len" = some none)
    (z_bool : PySem.W.nsIn K mainGlobals "bool" = some none)
    (z_int : PySem.W.nsIn K mainGlobals "int" = some none)
    (z_any : PySem.W.nsIn K mainGlobals "any" = some none)
    (z_all : PySem.W.nsIn K mainGlobals "all" = some none)
    (z_enumerate : PySem.W.nsIn K mainGlobals "enumerate" = some none)
    (z_range : PySem.W.nsIn K mainGlobals "range" = some none)
    (z_str : PySem.W.nsIn K mainGlobals "str" = some none)
    (z_abs : PySem.W.nsIn K mainGlobals "abs" = some none)
    (z_min : PySem.W.nsIn K mainGlobals "min" = some none)
    (z_repr : PySem.W.nsIn K mainGlobals "repr" = some none)
    (m_gcd : PySem.W.nsIn K mainGlobals "gcd" = some (some (.builtin "math.gcd")))
    (m_lcm : PySem.W.nsIn K mainGlobals "lcm" = some (some (.builtin "math.lcm")))
    {C_BadPieces : Addr} (n_BadPieces : PySem.W.nsIn K mainGlobals "BadPieces" = some (some (.ref C_BadPieces)))
    {C_BadRoom : Addr} (n_BadRoom : PySem.W.nsIn K mainGlobals "BadRoom" = some (some (.ref C_BadRoom)))
    (sb_BadPieces : PySem.W.subIn K (.ref C_BadPieces) (.type "BaseException") = some true) (ty_BadPieces : PySem.W.typeIn K (.ref C_BadPieces) = some (.type "type")) (hd_BadPieces : PySem.W.hasDictIn K C_BadPieces = true)
    (sb_BadRoom : PySem.W.subIn K (.ref C_BadRoom) (.type "BaseException") = some true) (ty_BadRoom : PySem.W.typeIn K (.ref C_BadRoom) = some (.type "type")) (hd_BadRoom : PySem.W.hasDictIn K C_BadRoom = true)
    (ex_BadRoom : PySem.W.excIn K C_BadRoom [.type "ValueError", .type "Exception", .type "BaseException", .type "object"] "ValueError.__new__" = true) (kp_BadRoom : PySem.W.keepIn K (.ref C_BadRoom) = true)
    (an_ : PySem.W.nsIn K PySem.cStatics "thirdparty.any" = some none) (su_ : PySem.W.nsIn K mainGlobals "super" = some none) (to_ : (P.main.scope.names.lookup ("super" : Str)).isSome = false)
    {I_BadPieces cda_BadPieces cc_BadPieces : Addr} {ioc_BadPieces : Value} {iod_BadPieces : Option Addr} {ikV_BadPieces idoc_BadPieces ipm_BadPieces : Value} {ian_BadPieces : Option Addr} {ict_BadPieces : Value} {iosl_BadPieces : Array (Option Value)} {iccl_BadPieces : Value} {icdd_BadPieces : Option Addr} {ivs_BadPieces : Array Value} {iccs_BadPieces : Array (Option Value)} {ifile_BadPieces : Str} {itf_BadPieces : Tok} {icl_BadPieces : Value} {icld_BadPieces : Option Addr} {icsl_BadPieces : Array (Option Value)} {inm_BadPieces iq_BadPieces : Str} {iN_BadPieces : Addr} {ibs_BadPieces ibm_BadPieces : List Value} {isn_BadPieces : List Str} {isub_BadPieces : List Value} {iab_BadPieces : Bool} {icol_BadPieces : Option Bool} {idd_BadPieces : Option Addr} {ik0_BadPieces ik1_BadPieces ik2_BadPieces ik3_BadPieces ik5_BadPieces : Option Value}
    (icx_BadPieces : K.lookup C_BadPieces = some (excClassObj inm_BadPieces iq_BadPieces C_BadPieces iN_BadPieces ibs_BadPieces ibm_BadPieces true isn_BadPieces isub_BadPieces iab_BadPieces icol_BadPieces idd_BadPieces ik0_BadPieces ik1_BadPieces ik2_BadPieces ik3_BadPieces ik5_BadPieces "ValueError.__new__")) (irv_BadPieces : PySem.HandSPX.refsVE ibm_BadPieces = true) (isa_BadPieces : PySem.W.findIn K (.ref C_BadPieces) "__setattr__" = some (some (.builtin "object.__setattr__"))) (ikp_BadPieces : PySem.W.keepIn K (.ref C_BadPieces) = true) (ifi_BadPieces : PySem.W.findIn K (.ref C_BadPieces) "__init__" = some (some (.ref I_BadPieces))) (iti_BadPieces : PySem.W.typeIn K (.ref I_BadPieces) = some (.type "function")) (ial_BadPieces : PySem.W.alongIn K "__init__" (((Value.ref C_BadPieces :: ibm_BadPieces).dropWhile (· != .ref C_BadPieces)).drop 1) = some (some (.builtin "ValueError.__init__"))) (isv_BadPieces : PySem.W.subIn K (.ref C_BadPieces) (.type "ValueError") = some true) (ims_BadPieces : PySem.W.mroIn K C_BadPieces (.ref C_BadPieces) = some true) (ilk_BadPieces : K.lookup I_BadPieces = some ⟨ioc_BadPieces, iod_BadPieces, .func (fdI "BadPieces.__init__" sI_BadPieces cc_BadPieces ikV_BadPieces idoc_BadPieces ipm_BadPieces ian_BadPieces cda_BadPieces ict_BadPieces), iosl_BadPieces⟩) (icd_BadPieces : PySem.W.codeIn K (.ref cda_BadPieces) "BadPieces.__init__" = true) (ilc_BadPieces : K.lookup cda_BadPieces = some ⟨iccl_BadPieces, icdd_BadPieces, .fields ivs_BadPieces, iccs_BadPieces⟩) (ivs_BadPieces : ivs_BadPieces[2]? = some (.str ifile_BadPieces itf_BadPieces)) (ifl_BadPieces : ((P.main.file : Str) == ifile_BadPieces) = true) (ice_BadPieces : K.lookup cc_BadPieces = some ⟨icl_BadPieces, icld_BadPieces, .cell (some (.ref C_BadPieces)), icsl_BadPieces⟩) (ino0_BadPieces : PySem.W.findIn K (.ref C_BadPieces) "number" = some none)
    (gc_MOST_PIECES : GlobK K "MOST_PIECES" (.int 400))
    (gc_MOST_TOP : GlobK K "MOST_TOP" (.int 1000000))
    (gc_MOST_BOTTOM : GlobK K "MOST_BOTTOM" (.int 1000))
    (gc_SCALE : GlobK K "SCALE" (.int 1000)) : Txt P K mg :=
  { f_is_fraction := f_is_fraction, fd_is_fraction := _, F_is_fraction := fun_mk (st := s_is_fraction) l_is_fraction c_is_fraction k_is_fraction,
    g_is_fraction := PySem.W.mg_of X G a_is_fraction,
    f_is_part := f_is_part, fd_is_part := _, F_is_part := fun_mk (st := s_is_part) l_is_part c_is_part k_is_part,
    g_is_part := PySem.W.mg_of X G a_is_part,
    f_is_piece := f_is_piece, fd_is_piece := _, F_is_piece := fun_mk (st := s_is_piece) l_is_piece c_is_piece k_is_piece,
    g_is_piece := PySem.W.mg_of X G a_is_piece,
    f_check_pieces := f_check_pieces, fd_check_pieces := _, F_check_pieces := fun_mk (st := s_check_pieces) l_check_pieces c_check_pieces k_check_pieces,
    g_check_pieces := PySem.W.mg_of X G a_check_pieces,
    f_Lines_init := f_Lines_init, fd_Lines_init := _, F_Lines_init := fun_mk (st := s_Lines_init) l_Lines_init c_Lines_init k_Lines_init,
    f_Lines_badness := f_Lines_badness, fd_Lines_badness := _, F_Lines_badness := fun_mk (st := s_Lines_badness) l_Lines_badness c_Lines_badness k_Lines_badness,
    me_Lines_badness := ⟨a_Lines_badness, i_Lines_badness, k_Lines_badness⟩,
    f_Lines_from_piece := f_Lines_from_piece, fd_Lines_from_piece := _, F_Lines_from_piece := fun_mk (st := s_Lines_from_piece) l_Lines_from_piece c_Lines_from_piece k_Lines_from_piece,
    me_Lines_from_piece := ⟨a_Lines_from_piece, i_Lines_from_piece, k_Lines_from_piece⟩,
    f_best_lines := f_best_lines, fd_best_lines := _, F_best_lines := fun_mk (st := s_best_lines) l_best_lines c_best_lines k_best_lines,
    g_best_lines := PySem.W.mg_of X G a_best_lines,
    f__law_pool := f__law_pool, fd__law_pool := _, F__law_pool := fun_mk (st := s__law_pool) l__law_pool c__law_pool k__law_pool,
    g__law_pool := PySem.W.mg_of X G a__law_pool,
    f__law_take := f__law_take, fd__law_take := _, F__law_take := fun_mk (st := s__law_take) l__law_take c__law_take k__law_take,
    g__law_take := PySem.W.mg_of X G a__law_take,
    f__law_pick := f__law_pick, fd__law_pick := _, F__law_pick := fun_mk (st := s__law_pick) l__law_pick c__law_pick k__law_pick,
    g__law_pick := PySem.W.mg_of X G a__law_pick,
    f__law_is_integer := f__law_is_integer, fd__law_is_integer := _, F__law_is_integer := fun_mk (st := s__law_is_integer) l__law_is_integer c__law_is_integer k__law_is_integer,
    g__law_is_integer := PySem.W.mg_of X G a__law_is_integer,
    f__law_same := f__law_same, fd__law_same := _, F__law_same := fun_mk (st := s__law_same) l__law_same c__law_same k__law_same,
    g__law_same := PySem.W.mg_of X G a__law_same,
    f__law_lowest := f__law_lowest, fd__law_lowest := _, F__law_lowest := fun_mk (st := s__law_lowest) l__law_lowest c__law_lowest k__law_lowest,
    g__law_lowest := PySem.W.mg_of X G a__law_lowest,
    f__law_sum := f__law_sum, fd__law_sum := _, F__law_sum := fun_mk (st := s__law_sum) l__law_sum c__law_sum k__law_sum,
    g__law_sum := PySem.W.mg_of X G a__law_sum,
    f__law_listed := f__law_listed, fd__law_listed := _, F__law_listed := fun_mk (st := s__law_listed) l__law_listed c__law_listed k__law_listed,
    g__law_listed := PySem.W.mg_of X G a__law_listed,
    f__law_given := f__law_given, fd__law_given := _, F__law_given := fun_mk (st := s__law_given) l__law_given c__law_given k__law_given,
    g__law_given := PySem.W.mg_of X G a__law_given,
    f__law_divisor := f__law_divisor, fd__law_divisor := _, F__law_divisor := fun_mk (st := s__law_divisor) l__law_divisor c__law_divisor k__law_divisor,
    g__law_divisor := PySem.W.mg_of X G a__law_divisor,
    f__law_piece := f__law_piece, fd__law_piece := _, F__law_piece := fun_mk (st := s__law_piece) l__law_piece c__law_piece k__law_piece,
    g__law_piece := PySem.W.mg_of X G a__law_piece,
    f__law_pieces := f__law_pieces, fd__law_pieces := _, F__law_pieces := fun_mk (st := s__law_pieces) l__law_pieces c__law_pieces k__law_pieces,
    g__law_pieces := PySem.W.mg_of X G a__law_pieces,
    f__law_room := f__law_room, fd__law_room := _, F__law_room := fun_mk (st := s__law_room) l__law_room c__law_room k__law_room,
    g__law_room := PySem.W.mg_of X G a__law_room,
    f__law_scaled := f__law_scaled, fd__law_scaled := _, F__law_scaled := fun_mk (st := s__law_scaled) l__law_scaled c__law_scaled k__law_scaled,
    g__law_scaled := PySem.W.mg_of X G a__law_scaled,
    f__law_bad := f__law_bad, fd__law_bad := _, F__law_bad := fun_mk (st := s__law_bad) l__law_bad c__law_bad k__law_bad,
    g__law_bad := PySem.W.mg_of X G a__law_bad,
    f__law_fitting := f__law_fitting, fd__law_fitting := _, F__law_fitting := fun_mk (st := s__law_fitting) l__law_fitting c__law_fitting k__law_fitting,
    g__law_fitting := PySem.W.mg_of X G a__law_fitting,
    f__law_breakings := f__law_breakings, fd__law_breakings := _, F__law_breakings := fun_mk (st := s__law_breakings) l__law_breakings c__law_breakings k__law_breakings,
    g__law_breakings := PySem.W.mg_of X G a__law_breakings,
    f__law_best := f__law_best, fd__law_best := _, F__law_best := fun_mk (st := s__law_best) l__law_best c__law_best k__law_best,
    g__law_best := PySem.W.mg_of X G a__law_best,
    f__law_amounts := f__law_amounts, fd__law_amounts := _, F__law_amounts := fun_mk (st := s__law_amounts) l__law_amounts c__law_amounts k__law_amounts,
    g__law_amounts := PySem.W.mg_of X G a__law_amounts,
    f__law_due := f__law_due, fd__law_due := _, F__law_due := fun_mk (st := s__law_due) l__law_due c__law_due k__law_due,
    g__law_due := PySem.W.mg_of X G a__law_due,
    f_law := f_law, fd_law := _, F_law := fun_mk (st := s_law) l_law c_law k_law,
    g_law := PySem.W.mg_of X G a_law,
    C_Lines := C_Lines, g_Lines := PySem.W.mg_of X G n_Lines, n_Lines := n_Lines, cl_Lines := ⟨pg_Lines, hp_Lines, po_Lines, sa_Lines⟩,
    mk_Lines := ⟨mi_Lines, a_Lines_init, i_Lines_init, kc_Lines⟩,
    fo_Lines_many := fld_ok n_Lines ⟨pg_Lines, hp_Lines, po_Lines, sa_Lines⟩ no_Lines_many,
    fo_Lines_room := fld_ok n_Lines ⟨pg_Lines, hp_Lines, po_Lines, sa_Lines⟩ no_Lines_room,
    fo_Lines__sums := fld_ok n_Lines ⟨pg_Lines, hp_Lines, po_Lines, sa_Lines⟩ no_Lines__sums,
    z_list := PySem.W.mg_none_of X G z_list,
    z_tuple := PySem.W.mg_none_of X G z_tuple,
    z_isinstance := PySem.W.mg_none_of X G z_isinstance,
    z_len := PySem.W.mg_none_of X G z_len,
    z_bool := PySem.W.mg_none_of X G z_bool,
    z_int := PySem.W.mg_none_of X G z_int,
    z_any := PySem.W.mg_none_of X G z_any,
    z_all := PySem.W.mg_none_of X G z_all,
    z_enumerate := PySem.W.mg_none_of X G z_enumerate,
    z_range := PySem.W.mg_none_of X G z_range,
    z_str := PySem.W.mg_none_of X G z_str,
    z_abs := PySem.W.mg_none_of X G z_abs,
    z_min := PySem.W.mg_none_of X G z_min,
    z_repr := PySem.W.mg_none_of X G z_repr,
    m_gcd := PySem.W.mg_of X G m_gcd,
    m_lcm := PySem.W.mg_of X G m_lcm,
    C_BadPieces := C_BadPieces, g_BadPieces := PySem.W.mg_of X G n_BadPieces, n_BadPieces := n_BadPieces,
    C_BadRoom := C_BadRoom, g_BadRoom := PySem.W.mg_of X G n_BadRoom, n_BadRoom := n_BadRoom,
    x_BadRoom := ⟨PySem.W.mg_of X G n_BadRoom, n_BadRoom, ex_BadRoom, kp_BadRoom, sb_BadRoom, ty_BadRoom⟩,
    I_BadPieces := I_BadPieces, id_BadPieces := (fdI "BadPieces.__init__" sI_BadPieces cc_BadPieces ikV_BadPieces idoc_BadPieces ipm_BadPieces ian_BadPieces cda_BadPieces ict_BadPieces), o_BadPieces := ⟨PySem.W.mg_of X G n_BadPieces, n_BadPieces, (clsI_mk icx_BadPieces irv_BadPieces isa_BadPieces sb_BadPieces ty_BadPieces ikp_BadPieces ifi_BadPieces iti_BadPieces ial_BadPieces isv_BadPieces ims_BadPieces an_ su_ to_), fun _ _ => initx1 (st := sI_BadPieces) (funI_mk (st := sI_BadPieces) ilk_BadPieces icd_BadPieces ilc_BadPieces ivs_BadPieces ifl_BadPieces ice_BadPieces) (clsI_mk icx_BadPieces irv_BadPieces isa_BadPieces sb_BadPieces ty_BadPieces ikp_BadPieces ifi_BadPieces iti_BadPieces ial_BadPieces isv_BadPieces ims_BadPieces an_ su_ to_) rfl (NdefX.nscope_by (N := ["self", "number", "__class__"]) (ps := ["self", "number"]) (fr := ["__class__"]) (by decide)) (by decide) (by decide) rfl rfl ino0_BadPieces rfl rfl rfl, .all (fun us hl => match us, hl with | [_, _], _ => rfl)⟩,
    c_MOST_PIECES := globD_of X G gc_MOST_PIECES,
    c_MOST_TOP := globD_of X G gc_MOST_TOP,
    c_MOST_BOTTOM := globD_of X G gc_MOST_BOTTOM,
    c_SCALE := globD_of X G gc_SCALE }
theorem fin {K : PySem.W.Frag} {mg : Str → Option Value} {fa : Addr} {P : Program} {wd : World} (T : Txt P K mg) (hmg : mg "law" = some (.ref fa)) : ∃ fd : FuncData, (∀ (s : Shared) (u : Value), BindsTo s fd ⟨[u], []⟩ [("script", u)]) ∧ ∀ base : Heap, K.In base → base.Ns mainGlobals mg → FnG P wd K mg base 17 fa fd ["script"] (upP K sp_law) := by
  have e := hmg.symm.trans T.g_law
  cases e
  exact ⟨T.fd_law, fun s v => MD.law_binds T.F_law s v (fun _ _ _ _ _ _ => rfl), fun base _ _ => ok_law T⟩
end K73
open PySem PySem.W PyProof.Rows
set_option maxHeartbeats 0 in
theorem PySem.Challenge.cw_counterheld_k73_whole_best_lines_holds : PySem.Challenge.rw_counterheld_k73_whole_best_lines.Holds := by
  w_on; o_law; k_head; (case hw => w_witness2)
  k_fill
  refine MD.walkG (l := PySem.Challenge.rw_counterheld_k73_whole_best_lines) (n := 63) (k := 17) (x := "script") (sp := fun w => MD.upP _ K73.sp_law) rfl (by decide) rfl ⟨rfl, by decide, by decide⟩ (fun w h Y => PySem.W.kIn_of Y) ?F (fun w H a ns hl hb hO hS => MD.law_start hO hS (K73.law_start ns hl hb))
  case F =>
    intro w mg fa h KX G hmg
    refine' K73.fin (K73.txt_mk KX G ?n_Lines ?pg_Lines ?hp_Lines ?po_Lines ?sa_Lines ?mi_Lines ?kc_Lines ?no_Lines_many ?no_Lines_room ?no_Lines__sums ?a_is_fraction ?l_is_fraction ?c_is_fraction ?k_is_fraction ?a_is_part ?l_is_part ?c_is_part ?k_is_part ?a_is_piece ?l_is_piece ?c_is_piece ?k_is_piece ?a_check_pieces ?l_check_pieces ?c_check_pieces ?k_check_pieces ?a_Lines_init ?i_Lines_init ?l_Lines_init ?c_Lines_init ?k_Lines_init ?a_Lines_badness ?i_Lines_badness ?l_Lines_badness ?c_Lines_badness ?k_Lines_badness ?a_Lines_from_piece ?i_Lines_from_piece ?l_Lines_from_piece ?c_Lines_from_piece ?k_Lines_from_piece ?a_best_lines ?l_best_lines ?c_best_lines ?k_best_lines ?a__law_pool ?l__law_pool ?c__law_pool ?k__law_pool ?a__law_take ?l__law_take ?c__law_take ?k__law_take ?a__law_pick ?l__law_pick ?c__law_pick ?k__law_pick ?a__law_is_integer ?l__law_is_integer ?c__law_is_integer ?k__law_is_integer ?a__law_same ?l__law_same ?c__law_same ?k__law_same ?a__law_lowest ?l__law_lowest ?c__law_lowest ?k__law_lowest ?a__law_sum ?l__law_sum ?c__law_sum ?k__law_sum ?a__law_listed ?l__law_listed ?c__law_listed ?k__law_listed ?a__law_given ?l__law_given ?c__law_given ?k__law_given ?a__law_divisor ?l__law_divisor ?c__law_divisor ?k__law_divisor ?a__law_piece ?l__law_piece ?c__law_piece ?k__law_piece ?a__law_pieces ?l__law_pieces ?c__law_pieces ?k__law_pieces ?a__law_room ?l__law_room ?c__law_room ?k__law_room ?a__law_scaled ?l__law_scaled ?c__law_scaled ?k__law_scaled ?a__law_bad ?l__law_bad ?c__law_bad ?k__law_bad ?a__law_fitting ?l__law_fitting ?c__law_fitting ?k__law_fitting ?a__law_breakings ?l__law_breakings ?c__law_breakings ?k__law_breakings ?a__law_best ?l__law_best ?c__law_best ?k__law_best ?a__law_amounts ?l__law_amounts ?c__law_amounts ?k__law_amounts ?a__law_due ?l__law_due ?c__law_due ?k__law_due ?a_law ?l_law ?c_law ?k_law ?z_list ?z_tuple ?z_isinstance ?z_len ?z_bool ?z_int ?z_any ?z_all ?z_enumerate ?z_range ?z_str ?z_abs ?z_min ?z_repr ?m_gcd ?m_lcm ?n_BadPieces ?n_BadRoom ?sb_BadPieces ?ty_BadPieces ?hd_BadPieces ?sb_BadRoom ?ty_BadRoom ?hd_BadRoom ?ex_BadRoom ?kp_BadRoom ?an_ ?su_ ?to_ ?icx_BadPieces ?irv_BadPieces ?isa_BadPieces ?ikp_BadPieces ?ifi_BadPieces ?iti_BadPieces ?ial_BadPieces ?isv_BadPieces ?ims_BadPieces ?ilk_BadPieces ?icd_BadPieces ?ilc_BadPieces ?ivs_BadPieces ?ifl_BadPieces ?ice_BadPieces ?ino0_BadPieces ?gc_MOST_PIECES ?gc_MOST_TOP ?gc_MOST_BOTTOM ?gc_SCALE) hmg
    (case n_Lines => k_is)
    (case pg_Lines => k_is)
    (case hp_Lines => k_is)
    (case po_Lines => k_is)
    (case sa_Lines => k_is)
    (case mi_Lines => k_is)
    (case kc_Lines => k_is)
    (case no_Lines_many => k_is)
    (case no_Lines_room => k_is)
    (case no_Lines__sums => k_is)
    (case a_is_fraction => k_is)
    (case l_is_fraction => k_is)
    (case c_is_fraction => k_is)
    (case k_is_fraction => k_is)
    (case a_is_part => k_is)
    (case l_is_part => k_is)
    (case c_is_part => k_is)
    (case k_is_part => k_is)
    (case a_is_piece => k_is)
    (case l_is_piece => k_is)
    (case c_is_piece => k_is)
    (case k_is_piece => k_is)
    (case a_check_pieces => k_is)
    (case l_check_pieces => k_is)
    (case c_check_pieces => k_is)
    (case k_check_pieces => k_is)
    (case a_Lines_init => k_is)
    (case i_Lines_init => k_is)
    (case l_Lines_init => k_is)
    (case c_Lines_init => k_is)
    (case k_Lines_init => k_is)
    (case a_Lines_badness => k_is)
    (case i_Lines_badness => k_is)
    (case l_Lines_badness => k_is)
    (case c_Lines_badness => k_is)
    (case k_Lines_badness => k_is)
    (case a_Lines_from_piece => k_is)
    (case i_Lines_from_piece => k_is)
    (case l_Lines_from_piece => k_is)
    (case c_Lines_from_piece => k_is)
    (case k_Lines_from_piece => k_is)
    (case a_best_lines => k_is)
    (case l_best_lines => k_is)
    (case c_best_lines => k_is)
    (case k_best_lines => k_is)
    (case a__law_pool => k_is)
    (case l__law_pool => k_is)
    (case c__law_pool => k_is)
    (case k__law_pool => k_is)
    (case a__law_take => k_is)
    (case l__law_take => k_is)
    (case c__law_take => k_is)
    (case k__law_take => k_is)
    (case a__law_pick => k_is)
    (case l__law_pick => k_is)
    (case c__law_pick => k_is)
    (case k__law_pick => k_is)
    (case a__law_is_integer => k_is)
    (case l__law_is_integer => k_is)
    (case c__law_is_integer => k_is)
    (case k__law_is_integer => k_is)
    (case a__law_same => k_is)
    (case l__law_same => k_is)
    (case c__law_same => k_is)
    (case k__law_same => k_is)
    (case a__law_lowest => k_is)
    (case l__law_lowest => k_is)
    (case c__law_lowest => k_is)
    (case k__law_lowest => k_is)
    (case a__law_sum => k_is)
    (case l__law_sum => k_is)
    (case c__law_sum => k_is)
    (case k__law_sum => k_is)
    (case a__law_listed => k_is)
    (case l__law_listed => k_is)
    (case c__law_listed => k_is)
    (case k__law_listed => k_is)
    (case a__law_given => k_is)
    (case l__law_given => k_is)
    (case c__law_given => k_is)
    (case k__law_given => k_is)
    (case a__law_divisor => k_is)
    (case l__law_divisor => k_is)
    (case c__law_divisor => k_is)
    (case k__law_divisor => k_is)
    (case a__law_piece => k_is)
    (case l__law_piece => k_is)
    (case c__law_piece => k_is)
    (case k__law_piece => k_is)
    (case a__law_pieces => k_is)
    (case l__law_pieces => k_is)
    (case c__law_pieces => k_is)
    (case k__law_pieces => k_is)
    (case a__law_room => k_is)
    (case l__law_room => k_is)
    (case c__law_room => k_is)
    (case k__law_room => k_is)
    (case a__law_scaled => k_is)
    (case l__law_scaled => k_is)
    (case c__law_scaled => k_is)
    (case k__law_scaled => k_is)
    (case a__law_bad => k_is)
    (case l__law_bad => k_is)
    (case c__law_bad => k_is)
    (case k__law_bad => k_is)
    (case a__law_fitting => k_is)
    (case l__law_fitting => k_is)
    (case c__law_fitting => k_is)
    (case k__law_fitting => k_is)
    (case a__law_breakings => k_is)
    (case l__law_breakings => k_is)
    (case c__law_breakings => k_is)
    (case k__law_breakings => k_is)
    (case a__law_best => k_is)
    (case l__law_best => k_is)
    (case c__law_best => k_is)
    (case k__law_best => k_is)
    (case a__law_amounts => k_is)
    (case l__law_amounts => k_is)
    (case c__law_amounts => k_is)
    (case k__law_amounts => k_is)
    (case a__law_due => k_is)
    (case l__law_due => k_is)
    (case c__law_due => k_is)
    (case k__law_due => k_is)
    (case a_law => k_is)
    (case l_law => k_is)
    (case c_law => k_is)
    (case k_law => k_is)
    (case z_list => k_is)
    (case z_tuple => k_is)
    (case z_isinstance => k_is)
    (case z_len => k_is)
    (case z_bool => k_is)
    (case z_int => k_is)
    (case z_any => k_is)
    (case z_all => k_is)
    (case z_enumerate => k_is)
    (case z_range => k_is)
    (case z_str => k_is)
    (case z_abs => k_is)
    (case z_min => k_is)
    (case z_repr => k_is)
    (case m_gcd => k_is)
    (case m_lcm => k_is)
    (case n_BadPieces => k_is)
    (case n_BadRoom => k_is)
    (case sb_BadPieces => k_is)
    (case ty_BadPieces => k_is)
    (case hd_BadPieces => k_is)
    (case sb_BadRoom => k_is)
    (case ty_BadRoom => k_is)
    (case hd_BadRoom => k_is)
    (case ex_BadRoom => first | k_exc | k_is)
    (case kp_BadRoom => k_is)
    (case an_ => k_is)
    (case su_ => k_is)
    (case to_ => first | rfl | decide +kernel)
    (case icx_BadPieces => k_is)
    (case irv_BadPieces => first | rfl | decide +kernel)
    (case isa_BadPieces => k_is)
    (case ikp_BadPieces => k_is)
    (case ifi_BadPieces => k_is)
    (case iti_BadPieces => k_is)
    (case ial_BadPieces => first | kernel_rfl | rfl)
    (case isv_BadPieces => k_is)
    (case ims_BadPieces => k_is)
    (case ilk_BadPieces => k_is)
    (case icd_BadPieces => k_is)
    (case ilc_BadPieces => k_is)
    (case ivs_BadPieces => first | rfl | decide +kernel)
    (case ifl_BadPieces => first | rfl | decide +kernel)
    (case ice_BadPieces => k_is)
    (case ino0_BadPieces => k_is)
    (case gc_MOST_PIECES => refine' MD.globK_int ?hm0; (case hm0 => k_is))
    (case gc_MOST_TOP => refine' MD.globK_int ?hm1; (case hm1 => k_is))
    (case gc_MOST_BOTTOM => refine' MD.globK_int ?hm2; (case hm2 => k_is))
    (case gc_SCALE => refine' MD.globK_int ?hm3; (case hm3 => k_is))
