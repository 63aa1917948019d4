import PyProof.Rows.All
import Wide.All
import OpenK.AllK
import Wide.FinOn
import HandS.ForMost
import HandS.Deep
import HandS.Style
import HandS.TupAny
import HandS.ForExc
import HandS.Walk
import HandS.IsInst
import KE.DataCmp
import KE.DataMinMax
import KE.DatumOrd
import HandS.SortInts
import PyProof.Rows.SortShellAny
import PySem.Challenge.RW_runonwords_k33_words_in_texts
set_option Elab.async false
set_option linter.all false
set_option maxRecDepth 100000
/-! Plain data, what represents it, the steps of the heap. -/
namespace Py
open PySem PySem.Spec PyProof.Rows L2

/-- plain data: texts are lists of codes -/
inductive D where
  | non | bl (b : Bool) | int (i : Int) | str (s : List Nat)
  | lst (xs : List D) | tup (xs : List D) | dct (kvs : List (D × D)) | box (ms : List Int)

abbrev LIM : Nat := 1000000
def mkS (s : List Nat) : Str := ⟨s.toArray⟩
theorem mkS_len (s : List Nat) : (mkS s).length = s.length := by simp [mkS, Str.length]
theorem mkS_app (s t : List Nat) : mkS s ++ mkS t = mkS (s ++ t) := by
  show Str.append (mkS s) (mkS t) = _
  simp [mkS, Str.append]
theorem mkS_inj {s t : List Nat} (h : mkS s = mkS t) : s = t := by
  have := congrArg (fun x : Str => x.cps.toList) h
  simpa [mkS] using this
theorem mkS_tl (s : List Nat) : (mkS s).cps.toList = s := by simp [mkS]

mutual
def D.toP : D → PyData
  | .non => .none
  | .bl b => .bool b
  | .int i => .int i
  | .str s => .str (mkS s)
  | .lst xs => .list (D.toPs xs)
  | .tup xs => .tuple (D.toPs xs)
  | .dct _ => .none
  | .box _ => .none
def D.toPs : List D → List PyData
  | [] => []
  | x :: r => D.toP x :: D.toPs r
end
/-- no dict within, at most n deep -/
def D.fits : Nat → D → Bool
  | _, .non => true
  | _, .bl _ => true
  | _, .int _ => true
  | _, .str _ => true
  | n + 1, .lst xs => xs.all (D.fits n)
  | n + 1, .tup xs => xs.all (D.fits n)
  | _, _ => false
mutual
def D.eq : D → D → Bool
  | .non, .non => true
  | .bl a, .bl b => a == b
  | .bl a, .int j => (if a then 1 else 0) == j
  | .int i, .bl b => i == (if b then 1 else 0)
  | .int i, .int j => i == j
  | .str x, .str y => decide (x = y)
  | .lst xs, .lst ys => D.eqs xs ys
  | .tup xs, .tup ys => D.eqs xs ys
  | _, _ => false
def D.eqs : List D → List D → Bool
  | [], [] => true
  | x :: xs, y :: ys => D.eq x y && D.eqs xs ys
  | _, _ => false
end
theorem fits_mono : ∀ {n m : Nat} {d : D}, n ≤ m → D.fits n d = true → D.fits m d = true
  | _, _, .non, _, _ => by unfold D.fits; rfl
  | _, _, .bl _, _, _ => by unfold D.fits; rfl
  | _, _, .int _, _, _ => by unfold D.fits; rfl
  | _, _, .str _, _, _ => by unfold D.fits; rfl
  | n + 1, m + 1, .lst xs, hm, h => by
    unfold D.fits at h ⊢
    rw [List.all_eq_true] at h ⊢
    exact fun x hx => fits_mono (Nat.le_of_succ_le_succ hm) (h x hx)
  | n + 1, m + 1, .tup xs, hm, h => by
    unfold D.fits at h ⊢
    rw [List.all_eq_true] at h ⊢
    exact fun x hx => fits_mono (Nat.le_of_succ_le_succ hm) (h x hx)
  | 0, _, .lst xs, _, h => by unfold D.fits at h; cases h
  | 0, _, .tup xs, _, h => by unfold D.fits at h; cases h
  | _, _, .dct _, _, h => by unfold D.fits at h; cases h
  | _, _, .box _, _, h => by unfold D.fits at h; cases h

theorem toP_eqv : ∀ (n : Nat) (d e : D), D.fits n d = true → D.fits n e = true → PyData.eqv d.toP e.toP = D.eq d e := by
  intro n
  induction n with
  | zero =>
    intro d e hd he
    cases d <;> first | (exfalso; unfold D.fits at hd; cases hd; done) | skip
    all_goals (cases e <;> first | (exfalso; unfold D.fits at he; cases he; done) | skip)
    all_goals (simp only [D.toP, PyData.eqv, D.eq])
    rename_i s t
    by_cases h : s = t
    · subst h; simp
    · rw [decide_eq_false h]
      exact beq_eq_false_iff_ne.mpr fun q => h (mkS_inj q)
  | succ n ih =>
    have ihs : ∀ (xs ys : List D), xs.all (D.fits n) = true → ys.all (D.fits n) = true → PyData.eqvAll (D.toPs xs) (D.toPs ys) = D.eqs xs ys := by
      intro xs
      induction xs with
      | nil => intro ys _ _; cases ys <;> simp [D.toPs, PyData.eqvAll, D.eqs]
      | cons x r ihx =>
        intro ys hx hy
        cases ys with
        | nil => simp [D.toPs, PyData.eqvAll, D.eqs]
        | cons y q =>
          rw [List.all_cons, Bool.and_eq_true] at hx hy
          simp only [D.toPs, PyData.eqvAll, D.eqs]
          rw [ih x y hx.1 hy.1, ihx q hx.2 hy.2]
    intro d e hd he
    cases d <;> first | (exfalso; unfold D.fits at hd; cases hd; done) | skip
    all_goals (cases e <;> first | (exfalso; unfold D.fits at he; cases he; done) | skip)
    all_goals (simp only [D.toP, PyData.eqv, D.eq])
    · rename_i s t
      by_cases h : s = t
      · subst h; simp
      · rw [decide_eq_false h]
        exact beq_eq_false_iff_ne.mpr fun q => h (mkS_inj q)
    · unfold D.fits at hd he
      exact ihs _ _ hd he
    · unfold D.fits at hd he
      exact ihs _ _ hd he

/-! ### order -/
def ltS : List Nat → List Nat → Bool
  | [], [] => false
  | [], _ :: _ => true
  | _ :: _, [] => false
  | a :: r, b :: q => decide (a < b) || (decide (a = b) && ltS r q)
def D.isNon : D → Bool
  | .non => true
  | _ => false
mutual
/-- the two can be compared -/
def D.alike : D → D → Bool
  | .non, .non => true
  | .bl _, .bl _ => true
  | .int _, .int _ => true
  | .str _, .str _ => true
  | .lst xs, .lst ys => D.alikes xs ys
  | .tup xs, .tup ys => D.alikes xs ys
  | _, _ => false
def D.alikes : List D → List D → Bool
  | x :: xs, y :: ys => D.alike x y && D.alikes xs ys
  | [], _ => true
  | _ :: _, [] => true
end
mutual
def D.lt : D → D → Bool
  | .bl a, .bl b => !a && b
  | .int i, .int j => decide (i < j)
  | .str s, .str t => ltS s t
  | .lst xs, .lst ys => D.lts xs ys
  | .tup xs, .tup ys => D.lts xs ys
  | _, _ => false
def D.lts : List D → List D → Bool
  | [], [] => false
  | [], _ :: _ => true
  | _ :: _, [] => false
  | x :: xs, y :: ys => match D.eq x y with
    | true => D.lts xs ys
    | false => D.lt x y
end
theorem ltS_iff : ∀ {a b : List Nat}, ltS a b = true ↔ a < b
  | [], [] => by simp [ltS]
  | [], _ :: _ => by simp [ltS]
  | _ :: _, [] => by simp [ltS]
  | a :: r, b :: q => by
    simp only [ltS, Bool.or_eq_true, Bool.and_eq_true, decide_eq_true_eq, List.cons_lt_cons_iff]
    rw [ltS_iff]
theorem ltS_dec (a b : List Nat) : decide (a < b) = ltS a b := by
  by_cases h : a < b
  · rw [decide_eq_true h, ltS_iff.mpr h]
  · rw [decide_eq_false h]
    cases e : ltS a b with
    | false => rfl
    | true => exact absurd (ltS_iff.mp e) h
mutual
theorem toP_alike : ∀ d e : D, D.alike d e = true → PySem.W.alike d.toP e.toP = true
  | .non, e, h => by cases e <;> simp [D.alike] at h <;> simp [D.toP, PySem.W.alike]
  | .bl _, e, h => by cases e <;> simp [D.alike] at h <;> simp [D.toP, PySem.W.alike]
  | .int _, e, h => by cases e <;> simp [D.alike] at h <;> simp [D.toP, PySem.W.alike]
  | .str _, e, h => by cases e <;> simp [D.alike] at h <;> simp [D.toP, PySem.W.alike]
  | .lst xs, e, h => by
    cases e <;> simp [D.alike] at h
    simp only [D.toP, PySem.W.alike]
    exact toPs_alike _ _ h
  | .tup xs, e, h => by
    cases e <;> simp [D.alike] at h
    simp only [D.toP, PySem.W.alike]
    exact toPs_alike _ _ h
  | .dct _, e, h => by cases e <;> simp [D.alike] at h
  | .box _, e, h => by cases e <;> simp [D.alike] at h
theorem toPs_alike : ∀ d e : List D, D.alikes d e = true → PySem.W.alikeAll (D.toPs d) (D.toPs e) = true
  | [], e, _ => by cases e <;> simp [D.toPs, PySem.W.alikeAll]
  | _ :: _, [], _ => by simp [D.toPs, PySem.W.alikeAll]
  | x :: xs, y :: ys, h => by
    simp only [D.alikes, Bool.and_eq_true] at h
    simp only [D.toPs, PySem.W.alikeAll, Bool.and_eq_true]
    exact ⟨toP_alike x y h.1, toPs_alike xs ys h.2⟩
end
mutual
theorem alike_symm : ∀ d e : D, D.alike d e = true → D.alike e d = true
  | .non, e, h => by cases e <;> simp [D.alike] at h ⊢
  | .bl _, e, h => by cases e <;> simp [D.alike] at h ⊢
  | .int _, e, h => by cases e <;> simp [D.alike] at h ⊢
  | .str _, e, h => by cases e <;> simp [D.alike] at h ⊢
  | .lst xs, e, h => by
    cases e <;> simp [D.alike] at h ⊢
    exact alikes_symm _ _ h
  | .tup xs, e, h => by
    cases e <;> simp [D.alike] at h ⊢
    exact alikes_symm _ _ h
  | .dct _, e, h => by cases e <;> simp [D.alike] at h
  | .box _, e, h => by cases e <;> simp [D.alike] at h
theorem alikes_symm : ∀ d e : List D, D.alikes d e = true → D.alikes e d = true
  | [], e, _ => by cases e <;> simp [D.alikes]
  | _ :: _, [], _ => by simp [D.alikes]
  | x :: xs, y :: ys, h => by
    simp only [D.alikes, Bool.and_eq_true] at h ⊢
    exact ⟨alike_symm x y h.1, alikes_symm xs ys h.2⟩
end
theorem toP_lt : ∀ (n : Nat) (d e : D), D.fits n d = true → D.fits n e = true → D.alike d e = true → PySem.W.dataLt d.toP e.toP = D.lt d e := by
  intro n
  induction n with
  | zero =>
    intro d e hd he ha
    cases d <;> cases e <;> simp only [D.alike, Bool.false_eq_true] at ha <;> first | (exfalso; unfold D.fits at hd; cases hd; done) | skip
    all_goals (simp only [D.toP, D.lt])
    · exact PySem.W.dataLt_self _
    · rename_i a b; rw [PySem.W.dataLt_bool]; cases a <;> cases b <;> rfl
    · rw [PySem.W.dataLt_int]
    · rw [PySem.W.dataLt_str, mkS_tl, mkS_tl, ltS_dec]
  | succ n ih =>
    have ihs : ∀ (xs ys : List D), xs.all (D.fits n) = true → ys.all (D.fits n) = true → D.alikes xs ys = true → PyProof.Rows.lexLt PyProof.Rows.itemOrd (PySem.W.keyToksAll (D.toPs xs)) (PySem.W.keyToksAll (D.toPs ys)) = D.lts xs ys := by
      intro xs
      induction xs with
      | nil =>
        intro ys _ _ _
        cases ys with
        | nil => simp only [D.toPs, D.lts]; exact PyProof.Rows.lex_irrefl _
        | cons y q =>
          simp only [D.toPs, D.lts]
          rw [PySem.W.toks_all_cons]
          simp only [PySem.W.keyToksAll]
          rw [PyProof.Rows.lex_diff (O := PyProof.Rows.itemOrd) (by simp)]
          rfl
      | cons x r ihx =>
        intro ys hx hy ha
        cases ys with
        | nil =>
          simp only [D.toPs, D.lts]
          rw [PySem.W.toks_all_cons]
          simp only [PySem.W.keyToksAll]
          rw [PyProof.Rows.lex_diff (O := PyProof.Rows.itemOrd) (by simp)]
          rfl
        | cons y q =>
          rw [List.all_cons, Bool.and_eq_true] at hx hy
          simp only [D.alikes, Bool.and_eq_true] at ha
          have e1 := toP_eqv n x y hx.1 hy.1
          simp only [D.toPs, D.lts]
          cases e : D.eq x y with
          | true =>
            rw [PySem.W.dataLt_all_yes (toP_alike x y ha.1) (e1.trans e)]
            exact ihx q hx.2 hy.2 ha.2
          | false =>
            rw [PySem.W.dataLt_all_no (toP_alike x y ha.1) (e1.trans e)]
            exact ih x y hx.1 hy.1 ha.1
    intro d e hd he ha
    cases d <;> cases e <;> simp only [D.alike, Bool.false_eq_true] at ha
    · simp only [D.toP, D.lt]; exact PySem.W.dataLt_self _
    · rename_i a b; simp only [D.toP, D.lt]; rw [PySem.W.dataLt_bool]; cases a <;> cases b <;> rfl
    · simp only [D.toP, D.lt]; rw [PySem.W.dataLt_int]
    · simp only [D.toP, D.lt]; rw [PySem.W.dataLt_str, mkS_tl, mkS_tl, ltS_dec]
    · unfold D.fits at hd he
      simp only [D.toP, D.lt]
      rw [PySem.W.dataLt_list]
      exact ihs _ _ hd he ha
    · unfold D.fits at hd he
      simp only [D.toP, D.lt]
      rw [PySem.W.dataLt_tuple]
      exact ihs _ _ hd he ha

mutual
/-- neither a list nor a dict within -/
def D.pur : D → Bool
  | .non => true
  | .bl _ => true
  | .int _ => true
  | .str _ => true
  | .tup l => D.purs l
  | _ => false
def D.purs : List D → Bool
  | [] => true
  | x :: r => D.pur x && D.purs r
end

/-! ### keys -/
def keyD : D → Option Key
  | .int i => some (.inl i)
  | .str s => some (.inr (mkS s))
  | _ => none

/-! ### what represents it -/
def okS (s : List Nat) : Prop := s.length ≤ LIM ∧ ∀ c ∈ s, c < 0x110000
mutual
def Rep (bx : Option (Addr × Addr)) (F : Hp) : D → V → Prop
  | .non, v => v = .non
  | .bl b, v => v = .bl b
  | .int i, v => v = .int i
  | .str s, v => v = .str (mkS s) ∧ okS s
  | .lst ds, v => ∃ (a : Addr) (xs : List V), v = .ref a ∧ F a = some (.lst xs) ∧ ds.length ≤ LIM ∧ RepL bx F ds xs
  | .tup ds, v => ∃ (a : Addr) (xs : List V), v = .ref a ∧ F a = some (.tup xs) ∧ ds.length ≤ LIM ∧ RepL bx F ds xs
  | .dct kvs, v => ∃ (a : Addr) (ks : List (Key × V)), v = .ref a ∧ F a = some (.dK ks) ∧ kvs.length ≤ LIM ∧ RepK bx F kvs ks
  | .box ms, v => ∃ b r, bx = some (b, r) ∧ v = .ref b ∧ F r = some (.lst (ms.map V.int))
def RepL (bx : Option (Addr × Addr)) (F : Hp) : List D → List V → Prop
  | [], xs => xs = []
  | d :: ds, xs => ∃ x r, xs = x :: r ∧ Rep bx F d x ∧ RepL bx F ds r
def RepK (bx : Option (Addr × Addr)) (F : Hp) : List (D × D) → List (Key × V) → Prop
  | [], ks => ks = []
  | (k, d) :: r, ks => ∃ k' x q, ks = (k', x) :: q ∧ keyD k = some k' ∧ (∀ s, k = .str s → okS s) ∧ Rep bx F d x ∧ RepK bx F r q
end
section
variable {bx : Option (Addr × Addr)} {F F' H H' : Hp}
/-- what stood stands -/
def Ex (H H' : Hp) : Prop := ∀ a o, H a = some o → H' a = some o
theorem Ex.refl (H : Hp) : Ex H H := fun _ _ h => h
theorem Ex.trans {H1 H2 H3 : Hp} (a : Ex H1 H2) (b : Ex H2 H3) : Ex H1 H3 := fun x o h => b x o (a x o h)
theorem Ex.new {H : Hp} {p : Addr} {o : HO} (h : H p = none) : Ex H (upd H p o) := fun a u e => by
  rw [upd_ne (ne_of_none e h)]
  exact e
mutual
theorem Rep.mono (e : Ex F F') : ∀ (d : D) (v : V), Rep bx F d v → Rep bx F' d v
  | .non, _, h => h
  | .bl _, _, h => h
  | .int _, _, h => h
  | .str _, _, h => h
  | .lst ds, _, h => by
    simp only [Rep] at h ⊢
    obtain ⟨a, xs, h1, h2, h3, h4⟩ := h
    exact ⟨a, xs, h1, e _ _ h2, h3, RepL.mono e ds xs h4⟩
  | .tup ds, _, h => by
    simp only [Rep] at h ⊢
    obtain ⟨a, xs, h1, h2, h3, h4⟩ := h
    exact ⟨a, xs, h1, e _ _ h2, h3, RepL.mono e ds xs h4⟩
  | .dct kvs, _, h => by
    simp only [Rep] at h ⊢
    obtain ⟨a, xs, h1, h2, h3, h4⟩ := h
    exact ⟨a, xs, h1, e _ _ h2, h3, RepK.mono e kvs xs h4⟩
  | .box ms, _, h => by
    simp only [Rep] at h ⊢
    obtain ⟨b, r, h1, h2, h3⟩ := h
    exact ⟨b, r, h1, h2, e _ _ h3⟩
theorem RepL.mono (e : Ex F F') : ∀ (ds : List D) (xs : List V), RepL bx F ds xs → RepL bx F' ds xs
  | [], _, h => h
  | d :: ds, _, h => by
    simp only [RepL] at h ⊢
    obtain ⟨x, r, h1, h2, h3⟩ := h
    exact ⟨x, r, h1, Rep.mono e d x h2, RepL.mono e ds r h3⟩
theorem RepK.mono (e : Ex F F') : ∀ (kvs : List (D × D)) (ks : List (Key × V)), RepK bx F kvs ks → RepK bx F' kvs ks
  | [], _, h => h
  | (k, d) :: r, _, h => by
    simp only [RepK] at h ⊢
    obtain ⟨k', x, q, h1, h2, h3, h4, h5⟩ := h
    exact ⟨k', x, q, h1, h2, h3, Rep.mono e d x h4, RepK.mono e r q h5⟩
end
theorem RepL.length : ∀ {ds : List D} {xs : List V}, RepL bx F ds xs → xs.length = ds.length
  | [], _, h => by simp only [RepL] at h; subst h; rfl
  | d :: ds, _, h => by
    simp only [RepL] at h
    obtain ⟨x, r, rfl, _, h3⟩ := h
    simp [RepL.length h3]
theorem RepL.get : ∀ {ds : List D} {xs : List V} {i : Nat} {d : D}, RepL bx F ds xs → ds[i]? = some d → ∃ x, xs[i]? = some x ∧ Rep bx F d x
  | [], _, _, _, _, e => by simp at e
  | d :: ds, _, 0, _, h, e => by
    simp only [RepL] at h
    obtain ⟨x, r, rfl, h2, h3⟩ := h
    simp at e; subst e
    exact ⟨x, rfl, h2⟩
  | d :: ds, _, i + 1, _, h, e => by
    simp only [RepL] at h
    obtain ⟨x, r, rfl, h2, h3⟩ := h
    obtain ⟨y, h4, h5⟩ := RepL.get (i := i) h3 (by simpa using e)
    exact ⟨y, by simpa using h4, h5⟩
theorem RepL.getV : ∀ {ds : List D} {xs : List V} {i : Nat} {x : V}, RepL bx F ds xs → xs[i]? = some x → ∃ d, ds[i]? = some d ∧ Rep bx F d x
  | [], _, _, _, h, e => by simp only [RepL] at h; subst h; simp at e
  | d :: ds, _, 0, _, h, e => by
    simp only [RepL] at h
    obtain ⟨x, r, rfl, h2, h3⟩ := h
    simp at e; subst e
    exact ⟨d, rfl, h2⟩
  | d :: ds, _, i + 1, _, h, e => by
    simp only [RepL] at h
    obtain ⟨x, r, rfl, h2, h3⟩ := h
    obtain ⟨y, h4, h5⟩ := RepL.getV (i := i) h3 (by simpa using e)
    exact ⟨y, by simpa using h4, h5⟩
theorem RepL.app : ∀ {ds es : List D} {xs ys : List V}, RepL bx F ds xs → RepL bx F es ys → RepL bx F (ds ++ es) (xs ++ ys)
  | [], _, _, _, h, g => by simp only [RepL] at h; subst h; exact g
  | d :: ds, es, _, ys, h, g => by
    simp only [RepL] at h
    obtain ⟨x, r, rfl, h2, h3⟩ := h
    show RepL bx F (d :: (ds ++ es)) _
    simp only [RepL]
    exact ⟨x, r ++ ys, rfl, h2, RepL.app h3 g⟩
theorem RepL.one {d : D} {x : V} (h : Rep bx F d x) : RepL bx F [d] [x] := by
  simp only [RepL]; exact ⟨x, [], rfl, h, rfl⟩
theorem RepL.take : ∀ {ds : List D} {xs : List V} (n : Nat), RepL bx F ds xs → RepL bx F (ds.take n) (xs.take n)
  | _, _, 0, _ => by simp [RepL]
  | [], _, n + 1, h => by simp only [RepL] at h; subst h; simp [RepL]
  | d :: ds, _, n + 1, h => by
    simp only [RepL] at h
    obtain ⟨x, r, rfl, h2, h3⟩ := h
    simp only [List.take_succ_cons, RepL]
    exact ⟨x, r.take n, rfl, h2, RepL.take n h3⟩
theorem RepL.drop : ∀ {ds : List D} {xs : List V} (n : Nat), RepL bx F ds xs → RepL bx F (ds.drop n) (xs.drop n)
  | _, _, 0, h => h
  | [], _, n + 1, h => by simp only [RepL] at h; subst h; simp [RepL]
  | d :: ds, _, n + 1, h => by
    simp only [RepL] at h
    obtain ⟨x, r, rfl, h2, h3⟩ := h
    simpa using RepL.drop n h3
theorem RepL.set : ∀ {ds : List D} {xs : List V} {d : D} {x : V} (n : Nat), RepL bx F ds xs → Rep bx F d x → RepL bx F (ds.set n d) (xs.set n x)
  | [], _, _, _, _, h, _ => by simp only [RepL] at h; subst h; simp [RepL]
  | d :: ds, _, _, _, 0, h, g => by
    simp only [RepL] at h
    obtain ⟨x, r, rfl, h2, h3⟩ := h
    simp only [List.set_cons_zero, RepL]
    exact ⟨_, r, rfl, g, h3⟩
  | d :: ds, _, _, _, n + 1, h, g => by
    simp only [RepL] at h
    obtain ⟨x, r, rfl, h2, h3⟩ := h
    simp only [List.set_cons_succ, RepL]
    exact ⟨x, _, rfl, h2, RepL.set n h3 g⟩
theorem RepL.all {Pd : D → Bool} {Pv : V → Bool} (k : ∀ d x, Rep bx F d x → Pd d = true → Pv x = true) : ∀ {ds : List D} {xs : List V}, RepL bx F ds xs → ds.all Pd = true → xs.all Pv = true
  | [], _, h, _ => by simp only [RepL] at h; subst h; rfl
  | d :: ds, _, h, e => by
    simp only [RepL] at h
    obtain ⟨x, r, rfl, h2, h3⟩ := h
    rw [List.all_cons, Bool.and_eq_true] at e ⊢
    exact ⟨k _ _ h2 e.1, RepL.all k h3 e.2⟩

mutual
/-- a value without containers hangs on the tuples alone -/
theorem Rep.pure (e : ∀ a xs, F a = some (.tup xs) → F' a = some (.tup xs)) : ∀ (d : D) (v : V), D.pur d = true → Rep bx F d v → Rep bx F' d v
  | .non, _, _, h => h
  | .bl _, _, _, h => h
  | .int _, _, _, h => h
  | .str _, _, _, h => h
  | .tup ds, _, p, h => by
    simp only [Rep] at h ⊢
    simp only [D.pur] at p
    obtain ⟨a, xs, h1, h2, h3, h4⟩ := h
    exact ⟨a, xs, h1, e _ _ h2, h3, RepL.pure e ds xs p h4⟩
  | .lst _, _, p, _ => by simp [D.pur] at p
  | .dct _, _, p, _ => by simp [D.pur] at p
  | .box _, _, p, _ => by simp [D.pur] at p
theorem RepL.pure (e : ∀ a xs, F a = some (.tup xs) → F' a = some (.tup xs)) : ∀ (ds : List D) (xs : List V), D.purs ds = true → RepL bx F ds xs → RepL bx F' ds xs
  | [], _, _, h => h
  | d :: ds, _, p, h => by
    simp only [RepL] at h ⊢
    simp only [D.purs, Bool.and_eq_true] at p
    obtain ⟨x, r, h1, h2, h3⟩ := h
    exact ⟨x, r, h1, Rep.pure e d x p.1 h2, RepL.pure e ds r p.2 h3⟩
end
theorem sq_of {K : PySem.W.Frag} {a : Addr} {xs : List V} (h : H a = some (.lst xs)) : SqL K H a xs := .inl (.inl h)
theorem st_of {K : PySem.W.Frag} {a : Addr} {xs : List V} (h : H a = some (.tup xs)) : SqT K H a xs := .inl (.inl h)
/-- as the library's own data -/
theorem rep_dp {K : PySem.W.Frag} : ∀ (n : Nat) (d : D) (v : V), D.fits n d = true → Rep bx F d v → Dp K F v d.toP := by
  intro n
  induction n with
  | zero =>
    intro d v hd h
    cases d <;> first | (exfalso; unfold D.fits at hd; cases hd; done) | skip
    all_goals (simp only [Rep] at h; simp only [D.toP])
    · subst h; exact .non
    · subst h; exact .bl _
    · subst h; exact .int _
    · obtain ⟨rfl, _⟩ := h; exact .str _
  | succ n ih =>
    have ihs : ∀ (ds : List D) (xs : List V), ds.all (D.fits n) = true → RepL bx F ds xs → DpAll K F xs (D.toPs ds) := by
      intro ds
      induction ds with
      | nil => intro xs _ h; simp only [RepL] at h; subst h; exact .nil
      | cons d r ihr =>
        intro xs hd h
        simp only [RepL] at h
        obtain ⟨x, q, rfl, h2, h3⟩ := h
        rw [List.all_cons, Bool.and_eq_true] at hd
        exact .cons (ih d x hd.1 h2) (ihr q hd.2 h3)
    intro d v hd h
    cases d <;> first | (exfalso; unfold D.fits at hd; cases hd; done) | skip
    all_goals (simp only [Rep] at h; simp only [D.toP])
    · subst h; exact .non
    · subst h; exact .bl _
    · subst h; exact .int _
    · obtain ⟨rfl, _⟩ := h; exact .str _
    · obtain ⟨a, xs, rfl, h2, _, h3⟩ := h
      unfold D.fits at hd
      exact .lst (sq_of h2) (ihs _ _ hd h3)
    · obtain ⟨a, xs, rfl, h2, _, h3⟩ := h
      unfold D.fits at hd
      exact .tup (st_of h2) (ihs _ _ hd h3)
theorem strOk_mk {s : List Nat} (h : okS s) : PyData.strOk (mkS s) = true := by
  unfold PyData.strOk mkS
  simpa using h.2
theorem rep_lay : ∀ (n : Nat) (d : D) (v : V), D.fits n d = true → Rep bx F d v → d.toP.canLay0 = true ∧ d.toP.depth ≤ n + 1 := by
  intro n
  have base : ∀ (m : Nat) (d : D) (v : V), (∀ xs, d ≠ .lst xs) → (∀ xs, d ≠ .tup xs) → D.fits m d = true → Rep bx F d v → d.toP.canLay0 = true ∧ d.toP.depth ≤ m + 1 := by
    intro m d v h1 h2 hd h
    cases d with
    | non => simp only [D.toP, PyData.canLay0, PyData.depth]; exact ⟨trivial, by omega⟩
    | bl b => simp only [D.toP, PyData.canLay0, PyData.depth]; exact ⟨trivial, by omega⟩
    | int i => simp only [D.toP, PyData.canLay0, PyData.depth]; exact ⟨trivial, by omega⟩
    | str s =>
      simp only [Rep] at h
      simp only [D.toP, PyData.canLay0, PyData.depth]
      exact ⟨strOk_mk h.2, by omega⟩
    | lst xs => exact absurd rfl (h1 xs)
    | tup xs => exact absurd rfl (h2 xs)
    | dct _ => unfold D.fits at hd; cases hd
    | box _ => unfold D.fits at hd; cases hd
  induction n with
  | zero =>
    intro d v hd h
    refine base 0 d v (fun xs e => ?_) (fun xs e => ?_) hd h
    · subst e; unfold D.fits at hd; cases hd
    · subst e; unfold D.fits at hd; cases hd
  | succ n ih =>
    have ihs : ∀ (ds : List D) (xs : List V), ds.all (D.fits n) = true → RepL bx F ds xs → PyData.canLayAll0 (D.toPs ds) = true ∧ PyData.depthAll (D.toPs ds) ≤ n + 1 := by
      intro ds
      induction ds with
      | nil => intro xs _ h; exact ⟨by simp [D.toPs, PyData.canLayAll0], by simp [D.toPs, PyData.depthAll]⟩
      | cons d r ihr =>
        intro xs hd h
        simp only [RepL] at h
        obtain ⟨x, q, rfl, h2, h3⟩ := h
        rw [List.all_cons, Bool.and_eq_true] at hd
        obtain ⟨a1, a2⟩ := ih d x hd.1 h2
        obtain ⟨b1, b2⟩ := ihr q hd.2 h3
        refine ⟨by simp [D.toPs, PyData.canLayAll0, a1, b1], ?_⟩
        simp only [D.toPs, PyData.depthAll]
        omega
    intro d v hd h
    by_cases e1 : ∃ xs, d = .lst xs
    · obtain ⟨ds, rfl⟩ := e1
      simp only [Rep] at h
      obtain ⟨a, xs, rfl, h2, _, h3⟩ := h
      unfold D.fits at hd
      obtain ⟨b1, b2⟩ := ihs _ _ hd h3
      simp only [D.toP, PyData.canLay0, PyData.depth]
      exact ⟨b1, by omega⟩
    · by_cases e2 : ∃ xs, d = .tup xs
      · obtain ⟨ds, rfl⟩ := e2
        simp only [Rep] at h
        obtain ⟨a, xs, rfl, h2, _, h3⟩ := h
        unfold D.fits at hd
        obtain ⟨b1, b2⟩ := ihs _ _ hd h3
        simp only [D.toP, PyData.canLay0, PyData.depth]
        exact ⟨b1, by omega⟩
      · exact base _ d v (fun xs e => e1 ⟨xs, e⟩) (fun xs e => e2 ⟨xs, e⟩) hd h
theorem rep_shaped {d : D} {v : V} (hd : D.fits 60 d = true) (h : Rep bx F d v) : SeqAt.shaped d.toP = true := by
  obtain ⟨h1, h2⟩ := rep_lay 60 d v hd h
  unfold SeqAt.shaped
  rw [h1, decide_eq_true (show d.toP.depth ≤ 64 by omega)]
  rfl
end
end Py
/-! The evaluators over plain data: weakest preconditions, structural in their fuel. -/
namespace Py
open PySem PySem.Spec PyProof.Rows L2

/-- a def, an own function: its arguments, what is wanted of its value, of an error by its class's name -/
abbrev Fn := List D → (D → Prop) → (Str → Prop) → Prop
structure Ctx where
  N : List Str
  sc : Scope
  ost : Scope
  fns : List (Str × Nat × Fn)
  con : List (Str × D)
  blt : List Str
  muts : List Str
inductive Sl where
  | no | im (d : D) | ow (d : D)
abbrev Sls := List Sl
def ixF : List Str → Str → Nat → Option Nat
  | [], _, _ => none
  | y :: r, x, i => match decide (y = x) with
    | true => some i
    | false => ixF r x (i + 1)
def ixOf (N : List Str) (x : Str) : Option Nat := ixF N x 0
def visB (sc : Scope) (x : Str) : Bool := match sc.names.lookup x with
  | some .local => true
  | some .cell => true
  | some .free => true
  | _ => false
def locB (sc : Scope) (x : Str) : Bool := match sc.names.lookup x with
  | some .local => true
  | some .cell => true
  | _ => false
def plainB (sc : Scope) (x : Str) : Bool := match sc.names.lookup x with
  | some .local => true
  | _ => false
def globB (sc : Scope) (x : Str) : Bool := match sc.names.lookup x with
  | some .globalImplicit => true
  | _ => false
def inB (l : List Str) (x : Str) : Bool := match ixF l x 0 with
  | some _ => true
  | none => false
/-- a guard that is known -/
def ifB (b : Bool) (P : Prop) : Prop := match b with
  | true => P
  | false => False

/-! ### values -/
def D.scal : D → Bool
  | .non => true
  | .bl _ => true
  | .int _ => true
  | .str _ => true
  | _ => false
def truD : D → Option Bool
  | .non => some false
  | .bl b => some b
  | .int i => some (i != 0)
  | .str s => some (!s.isEmpty)
  | .lst xs => some (!xs.isEmpty)
  | .tup xs => some (!xs.isEmpty)
  | .dct xs => some (!xs.isEmpty)
  | .box _ => none
def rep {α : Type} (n : Nat) (s : List α) : List α := (List.replicate n s).flatten
def cutL {α : Type} (xs : List α) (lo hi : Option Int) : List α := (xs.drop (HT.sIx xs.length 0 lo)).take (HT.sIx xs.length xs.length hi - HT.sIx xs.length 0 lo)
def mulOk (i j : Int) : Prop := CMul i j
def dBin : Operator → D → D → (D → Prop) → Prop
  | .Add, .int i, .int j, Q => Q (.int (i + j))
  | .Add, .str a, .str b, Q => a.length + b.length ≤ LIM ∧ Q (.str (a ++ b))
  | .Add, .lst a, .lst b, Q => a.length + b.length ≤ LIM ∧ Q (.lst (a ++ b))
  | .Add, .tup a, .tup b, Q => a.length + b.length ≤ LIM ∧ Q (.tup (a ++ b))
  | .Sub, .int i, .int j, Q => Q (.int (i - j))
  | .Mult, .int i, .int j, Q => mulOk i j ∧ Q (.int (i * j))
  | .Mult, .str a, .int n, Q => (n ≤ LIM ∧ 0 ≤ n ∧ a.length * n.toNat ≤ LIM) ∧ Q (.str (rep n.toNat a))
  | .FloorDiv, .int i, .int j, Q => (0 < j ∧ j < 1073741824) ∧ Q (.int (i / j))
  | .Mod, .int i, .int j, Q => 0 < j ∧ Q (.int (i % j))
  | .Pow, .int i, .int j, Q => CPow i j ∧ Q (.int (i ^ j.toNat))
  | _, _, _, _ => False
def inD (x : D) (xs : List D) : Bool := xs.any fun z => D.eq z x
/-- a text within a text: at some place -/
def subS (a b : List Nat) : Bool := (List.range (b.length + 1)).any fun i => decide ((b.drop i).take a.length = a)
def D.cmpOk (d e : D) : Bool := D.alike d e && D.fits 50 d && D.fits 50 e
def D.seq : D → Bool
  | .lst _ => true
  | .dct _ => true
  | _ => false
/-- all can be compared with one another; none is a container that may change -/
def D.allCmp (l : List D) : Bool := (l.all fun a => l.all fun b => D.alike a b) && (l.all fun a => !D.isNon a) && (l.all fun a => D.fits 49 a) && (l.all fun a => !D.seq a)
def minL (x : D) (xs : List D) : D := xs.foldl (fun a y => if D.lt y a = true then y else a) x
def maxL (x : D) (xs : List D) : D := xs.foldl (fun a y => if D.lt a y = true then y else a) x
def isNonD : D → Bool
  | .non => true
  | _ => false
def dCmp : CmpOp → D → D → (D → Prop) → Prop
  | .Eq, d, e, Q => (D.fits 50 d = true ∧ D.fits 50 e = true) ∧ Q (.bl (D.eq d e))
  | .NotEq, d, e, Q => (D.fits 50 d = true ∧ D.fits 50 e = true) ∧ Q (.bl (!D.eq d e))
  | .Lt, .int i, .int j, Q => Q (.bl (decide (i < j)))
  | .LtE, .int i, .int j, Q => Q (.bl (decide (i ≤ j)))
  | .Gt, .int i, .int j, Q => Q (.bl (decide (j < i)))
  | .GtE, .int i, .int j, Q => Q (.bl (decide (j ≤ i)))
  | .Lt, .str a, .str b, Q => Q (.bl (ltS a b))
  | .LtE, .str a, .str b, Q => Q (.bl (!ltS b a))
  | .Gt, .str a, .str b, Q => Q (.bl (ltS b a))
  | .GtE, .str a, .str b, Q => Q (.bl (!ltS a b))
  | .Lt, .tup a, .tup b, Q => (D.cmpOk (.tup a) (.tup b) = true) ∧ Q (.bl (D.lts a b))
  | .LtE, .tup a, .tup b, Q => (D.cmpOk (.tup a) (.tup b) = true) ∧ Q (.bl (!D.lts b a))
  | .Gt, .tup a, .tup b, Q => (D.cmpOk (.tup a) (.tup b) = true) ∧ Q (.bl (D.lts b a))
  | .GtE, .tup a, .tup b, Q => (D.cmpOk (.tup a) (.tup b) = true) ∧ Q (.bl (!D.lts a b))
  | .In, x, .lst xs, Q => (D.fits 50 x = true ∧ D.fits 50 (.lst xs) = true) ∧ Q (.bl (inD x xs))
  | .NotIn, x, .lst xs, Q => (D.fits 50 x = true ∧ D.fits 50 (.lst xs) = true) ∧ Q (.bl (!inD x xs))
  | .In, x, .tup xs, Q => (D.fits 50 x = true ∧ D.fits 50 (.tup xs) = true) ∧ Q (.bl (inD x xs))
  | .NotIn, x, .tup xs, Q => (D.fits 50 x = true ∧ D.fits 50 (.tup xs) = true) ∧ Q (.bl (!inD x xs))
  | .In, .str a, .str b, Q => Q (.bl (subS a b))
  | .NotIn, .str a, .str b, Q => Q (.bl (!subS a b))
  | .Is, .bl a, .bl b, Q => Q (.bl (decide (a = b)))
  | .IsNot, .bl a, .bl b, Q => Q (.bl (!decide (a = b)))
  | .Is, d, .non, Q => Q (.bl (isNonD d))
  | .IsNot, d, .non, Q => Q (.bl (!isNonD d))
  | _, _, _, _ => False
def asB (d : D) (Q : Bool → Prop) : Prop := match d with
  | .bl b => Q b
  | _ => False
def asI (d : D) (Q : Int → Prop) : Prop := match d with
  | .int i => Q i
  | _ => False
def asT2 (d : D) (Q : D → D → Prop) : Prop := match d with
  | .tup [a, b] => Q a b
  | _ => False
def asT3 (d : D) (Q : D → D → D → Prop) : Prop := match d with
  | .tup [a, b, c] => Q a b c
  | _ => False
def ite2 (b : Bool) (A B : Prop) : Prop := match b with
  | true => A
  | false => B
def getO {α : Type} (o : Option α) (Q : α → Prop) : Prop := match o with
  | some d => Q d
  | none => False
def dIx : D → D → (D → Prop) → Prop
  | .lst xs, .int i, Q => getO (atI xs i) Q
  | .tup xs, .int i, Q => getO (atI xs i) Q
  | .str s, .int i, Q => getO (atI s i) fun c => Q (.str [c])
  | .box ms, .str s, Q => (match decide (s = [114, 111, 119]) with
    | true => Q (.lst (ms.map .int))
    | false => (match decide (s = [97, 116]) with
      | true => ∀ k : Int, 0 ≤ k → Q (.int k)
      | false => False))
  | _, _, _ => False
def dSl : D → Option Int → Option Int → (D → Prop) → Prop
  | .str s, lo, hi, Q => Q (.str (cutL s lo hi))
  | .lst s, lo, hi, Q => Q (.lst (cutL s lo hi))
  | _, _, _, _ => False
def rng (lo : Int) (n : Nat) : List D := (List.range n).map fun (i : Nat) => .int (lo + i)
def itemsD : D → (List D → Prop) → Prop
  | .lst xs, K => K xs
  | .tup xs, K => K xs
  | .str s, K => K (s.map fun c => .str [c])
  | _, _ => False
/-- .. but a text -/
def seqD : D → (List D → Prop) → Prop
  | .lst xs, K => K xs
  | .tup xs, K => K xs
  | _, _ => False
def intsOf : List D → Option (List Int)
  | [] => some []
  | .int i :: r => match intsOf r with
    | some l => some (i :: l)
    | none => none
  | _ :: _ => none
def strsOf : List D → Option (List (List Nat))
  | [] => some []
  | .str i :: r => match strsOf r with
    | some l => some (i :: l)
    | none => none
  | _ :: _ => none
def blsOf : List D → Option (List Bool)
  | [] => some []
  | .bl i :: r => match blsOf r with
    | some l => some (i :: l)
    | none => none
  | _ :: _ => none
def joinD (s : List Nat) : List (List Nat) → List Nat
  | [] => []
  | [x] => x
  | x :: y :: r => x ++ (s ++ joinD s (y :: r))
/-- sorting, by insertion -/
def insB {α : Type} (le : α → α → Bool) (x : α) : List α → List α
  | [] => [x]
  | y :: r => match le x y with
    | true => x :: y :: r
    | false => y :: insB le x r
def isort {α : Type} (le : α → α → Bool) : List α → List α
  | [] => []
  | x :: r => insB le x (isort le r)
def leI (i j : Int) : Bool := decide (i ≤ j)
def leS (a b : List Nat) : Bool := !ltS b a
/-- a built-in function on values -/
def dBlt (f : Str) (ds : List D) (Q : D → Prop) : Prop :=
  match decide (f = ("len" : Str)) with
  | true => (match ds with
    | [.str s] => Q (.int (s.length : Nat))
    | [.lst s] => Q (.int (s.length : Nat))
    | [.tup s] => Q (.int (s.length : Nat))
    | _ => False)
  | false =>
  match decide (f = ("all" : Str)) with
  | true => (match ds with
    | [.lst s] => getO (blsOf s) fun l => Q (.bl (l.all id))
    | _ => False)
  | false =>
  match decide (f = ("any" : Str)) with
  | true => (match ds with
    | [.lst s] => getO (blsOf s) fun l => Q (.bl (l.any id))
    | _ => False)
  | false =>
  match decide (f = ("sum" : Str)) with
  | true => (match ds with
    | [.lst s] => getO (intsOf s) fun l => Q (.int l.sum)
    | _ => False)
  | false =>
  match decide (f = ("int" : Str)) with
  | true => (match ds with
    | [.int i] => Q (.int i)
    | [.bl b] => Q (.int (if b then 1 else 0))
    | _ => False)
  | false =>
  match decide (f = ("max" : Str)) with
  | true => (match ds with
    | [.int i, .int j] => Q (.int (if j > i then j else i))
    | [.lst (x :: xs)] => D.allCmp (x :: xs) = true ∧ Q (maxL x xs)
    | _ => False)
  | false =>
  match decide (f = ("min" : Str)) with
  | true => (match ds with
    | [.int i, .int j] => Q (.int (if j < i then j else i))
    | [.lst (x :: xs)] => D.allCmp (x :: xs) = true ∧ Q (minL x xs)
    | _ => False)
  | false =>
  match decide (f = ("tuple" : Str)) with
  | true => (match ds with
    | [.lst s] => Q (.tup s)
    | [.tup s] => Q (.tup s)
    | _ => False)
  | false =>
  match decide (f = ("sorted" : Str)) with
  | true => (match ds with
    | [.lst s] => (match intsOf s with
      | some l => Q (.lst ((isort leI l).map .int))
      | none => (match strsOf s with
        | some l => Q (.lst ((isort leS l).map .str))
        | none => False))
    | _ => False)
  | false =>
  match decide (f = ("list" : Str)) with
  | true => (match ds with
    | [.lst s] => Q (.lst s)
    | [.tup s] => Q (.lst s)
    | _ => False)
  | false => False

def knownB : List Str := ["len", "all", "any", "sum", "int", "max", "min", "tuple", "sorted", "list"]
/-- a value's class, by name -/
def tagD : D → Str
  | .non => "NoneType"
  | .bl _ => "bool"
  | .int _ => "int"
  | .str _ => "str"
  | .lst _ => "list"
  | .tup _ => "tuple"
  | .dct _ => "dict"
  | .box _ => "dict"
def isTyT (T t : Str) : Bool := decide (t = T) || (decide (T = ("int" : Str)) && decide (t = ("bool" : Str)))
def isTy (T : Str) (d : D) : Bool := isTyT T (tagD d)
def tyNames : List Str := ["str", "int", "bool", "tuple", "list", "dict"]

/-! ### the evaluators -/
structure Evs where
  E : Ctx → Expr → Sls → (D → Prop) → (Str → Prop) → Prop
  T : Ctx → Expr → Sls → (Bool → Prop) → (Str → Prop) → Prop
def slotIm (C : Ctx) (x : Str) (σ : Sls) (Q : D → Prop) : Prop :=
  match visB C.sc x with
  | true => (match ixOf C.N x with
    | some i => (match σ[i]? with
      | some (.im d) => Q d
      | _ => False)
    | none => False)
  | false => (match globB C.sc x, C.con.lookup x with
    | true, some d => Q d
    | _, _ => False)
/-- a container may be an owned one -/
def slotAny (C : Ctx) (x : Str) (σ : Sls) (Q : D → Prop) : Prop :=
  match visB C.sc x with
  | true => (match ixOf C.N x with
    | some i => (match σ[i]? with
      | some (.im d) => Q d
      | some (.ow d) => Q d
      | _ => False)
    | none => False)
  | false => (match globB C.sc x, C.con.lookup x with
    | true, some d => Q d
    | _, _ => False)
def isOw (C : Ctx) (σ : Sls) : Expr → Bool
  | .Name x _ => (match ixOf C.N x with
    | some i => (match σ[i]? with
      | some (.ow _) => true
      | _ => false)
    | none => false)
  | _ => false
def evC (r : Evs) (C : Ctx) (e : Expr) (σ : Sls) (Q : D → Prop) (X : Str → Prop) : Prop :=
  match e with
  | .Name x _ => slotAny C x σ Q
  | e => r.E C e σ Q X
def notStar : Expr → Bool
  | .Starred .. => false
  | _ => true
def evAs (r : Evs) (C : Ctx) (σ : Sls) (X : Str → Prop) : List Expr → (List D → Prop) → Prop
  | [], Q => Q []
  | e :: es, Q => ifB (notStar e) (r.E C e σ (fun d => evAs r C σ X es fun ds => Q (d :: ds)) X)
def evCs (r : Evs) (C : Ctx) (σ : Sls) (X : Str → Prop) : List Expr → (List D → Prop) → Prop
  | [], Q => Q []
  | e :: es, Q => ifB (notStar e) (evC r C e σ (fun d => evCs r C σ X es fun ds => Q (d :: ds)) X)
def evO (r : Evs) (C : Ctx) (σ : Sls) (X : Str → Prop) : Option Expr → (Option Int → Prop) → Prop
  | none, Q => Q none
  | some e, Q => r.E C e σ (fun d => asI d fun i => Q (some i)) X
/-- a target's names -/
def tgNames : Expr → List Str
  | .Name x _ => [x]
  | .Tuple [.Name x _, .Name y _] _ _ => [x, y]
  | .Tuple [.Name x _, .Name y _, .Name z _] _ _ => [x, y, z]
  | _ => []
def bindT (C : Ctx) (tg : Expr) (d : D) (σ : Sls) (K : Sls → Prop) : Prop :=
  match tgNames tg with
  | [x] => ifB (locB C.ost x) (getO (ixOf C.N x) fun i => K (σ.set i (.im d)))
  | [x, y] => ifB (locB C.ost x && locB C.ost y) (getO (ixOf C.N x) fun i => getO (ixOf C.N y) fun j => asT2 d fun a b => K ((σ.set i (.im a)).set j (.im b)))
  | [x, y, z] => ifB (locB C.ost x && locB C.ost y && locB C.ost z) (getO (ixOf C.N x) fun i => getO (ixOf C.N y) fun j => getO (ixOf C.N z) fun k => asT3 d fun a b c => K (((σ.set i (.im a)).set j (.im b)).set k (.im c)))
  | _ => False
def evTs (r : Evs) (C : Ctx) (σ : Sls) (X : Str → Prop) : List Expr → (Bool → Prop) → Prop
  | [], Q => Q true
  | [e], Q => r.T C e σ Q X
  | _, _ => False
def compL (f : D → (Option D → Prop) → Prop) : List D → List D → (List D → Prop) → Prop
  | [], acc, Q => Q acc
  | x :: r, acc, Q => f x fun o => compL f r (match o with
    | none => acc
    | some d => acc ++ [d]) Q
def ownOf (N : List Str) : List (Str × NameKind) → List (Str × Nat)
  | [] => []
  | (n, k) :: r => match k with
    | .local => (match ixOf N n with
      | some i => (n, i) :: ownOf N r
      | none => ownOf N r)
    | .cell => (match ixOf N n with
      | some i => (n, i) :: ownOf N r
      | none => ownOf N r)
    | _ => ownOf N r
def wipeE (σ : Sls) : List Nat → Sls
  | [] => σ
  | v :: vs => (wipeE σ vs).set v .no
def isSetE : Expr → Bool
  | .Set .. => true
  | _ => false
def rngW (ds : List D) (K : List D → Prop) : Prop := match ds with
  | [.int n] => (n ≤ LIM ∧ -LIM ≤ n) ∧ K (rng 0 n.toNat)
  | [.int a, .int b] => (a ≤ LIM ∧ -LIM ≤ a ∧ b ≤ LIM ∧ -LIM ≤ b ∧ b - a ≤ LIM) ∧ K (rng a (b - a).toNat)
  | _ => False
/-- range(..), its arguments -/
def isRange (C : Ctx) : Expr → Option (List Expr)
  | .Call (.Name f _) args [] _ => (match decide (f = ("range" : Str)) && inB C.blt f && globB C.sc f && args.all notStar && decide (args.length ≤ 2) with
    | true => some args
    | false => none)
  | _ => none
/-- what a loop walks; own: the container may be an owned one -/
def evIt (r : Evs) (own : Bool) (C : Ctx) (σ : Sls) (e : Expr) (K : List D → Prop) (X : Str → Prop) : Prop :=
  match isRange C e with
  | some args => evAs r C σ X args fun ds => rngW ds K
  | none => (match own with
    | true => evC r C e σ (fun d => itemsD d K) X
    | false => r.E C e σ (fun d => itemsD d K) X)
def noX : Str → Prop := fun _ => False
def evCmp (r : Evs) (C : Ctx) (σ : Sls) (X : Str → Prop) (a : Expr) (op : CmpOp) (b : Expr) (Q : D → Prop) : Prop :=
  ifB (!isSetE b) (evC r C a σ (fun x => evC r C b σ (fun y => dCmp op x y Q) X) X)
def evCmp2 (r : Evs) (C : Ctx) (σ : Sls) (X : Str → Prop) (a : Expr) (op : CmpOp) (b : Expr) (op' : CmpOp) (c : Expr) (Q : D → Prop) : Prop :=
  ifB (!isSetE b && !isSetE c) (evC r C a σ (fun x => evC r C b σ (fun y => dCmp op x y fun z => asB z fun k => ite2 k (evC r C c σ (fun w => dCmp op' y w Q) X) (Q (.bl false))) X) X)
/-- isinstance(e, T) -/
def isIsi (C : Ctx) (f : Str) (args : List Expr) : Option (Expr × Str) := match args with
  | [e, .Name T _] => (match decide (f = ("isinstance" : Str)) && inB C.blt f && globB C.sc f && inB C.blt T && inB tyNames T && globB C.sc T && notStar e with
    | true => some (e, T)
    | false => none)
  | _ => none
def stepE (r : Evs) (C : Ctx) (e : Expr) (σ : Sls) (Q : D → Prop) (X : Str → Prop) : Prop :=
  match e with
  | .Name x _ => slotIm C x σ Q
  | .Constant (.int i) _ _ => Q (.int i)
  | .Constant (.str s) _ _ => okS s.cps.toList ∧ Q (.str s.cps.toList)
  | .Constant (.bool b) _ _ => Q (.bl b)
  | .Constant .none _ _ => Q .non
  | .BinOp a op b _ => evC r C a σ (fun x => evC r C b σ (fun y => dBin op x y Q) X) X
  | .Compare a [op] [b] _ => evCmp r C σ X a op b Q
  | .Compare a [op, op'] [b, c] _ => evCmp2 r C σ X a op b op' c Q
  | .BoolOp .And [a] _ => r.E C a σ Q X
  | .BoolOp .Or [a] _ => r.E C a σ Q X
  | .BoolOp .And (a :: b :: l) p => r.E C a σ (fun x => asB x fun c => ite2 c (r.E C (.BoolOp .And (b :: l) p) σ Q X) (Q (.bl false))) X
  | .BoolOp .Or (a :: b :: l) p => r.E C a σ (fun x => asB x fun c => ite2 c (Q (.bl true)) (r.E C (.BoolOp .Or (b :: l) p) σ Q X)) X
  | .UnaryOp .Not a _ => r.E C a σ (fun x => asB x fun b => Q (.bl (!b))) X
  | .UnaryOp .USub a _ => r.E C a σ (fun x => asI x fun i => Q (.int (-i))) X
  | .IfExp t a b _ => r.T C t σ (fun c => ite2 c (r.E C a σ Q X) (r.E C b σ Q X)) X
  | .Tuple es _ _ => ifB (decide (es.length ≤ 1000)) (evAs r C σ X es fun ds => Q (.tup ds))
  | .List es _ => ifB (decide (es.length ≤ 1000)) (evAs r C σ X es fun ds => Q (.lst ds))
  | .Subscript a (.Slice lo hi none _) _ => evC r C a σ (fun x => evO r C σ X lo fun l => evO r C σ X hi fun h => dSl x l h Q) X
  | .Subscript _ (.Slice _ _ (some _) _) _ => False
  | .Subscript a b _ => evC r C a σ (fun x => r.E C b σ (fun y => dIx x y Q) X) X
  | .Call (.Name f _) args [] _ =>
    (match isIsi C f args with
    | some (e, T) => evC r C e σ (fun d => Q (.bl (isTy T d))) X
    | none =>
    (match globB C.sc f && args.all notStar && !args.isEmpty with
    | true => (match C.fns.lookup f with
      | some (k, φ) => ifB (args.length == k) (match args.any (isOw C σ) with
        | true => evCs r C σ X args fun ds => φ ds (fun d => d.pur = true ∧ Q d) X
        | false => evAs r C σ X args fun ds => φ ds Q X)
      | none => ifB (inB C.blt f && inB knownB f) (evCs r C σ X args fun ds => dBlt f ds Q))
    | false => False))
  | .Call (.Attribute (.Constant (.str s) _ _) m ap) [a] [] pos =>
    ifB (decide (m = ("join" : Str)) && (ap.endLine == pos.line) && notStar a) (evC r C a σ (fun d => seqD d fun l => getO (strsOf l) fun ss => (okS s.cps.toList ∧ (joinD s.cps.toList ss).length ≤ LIM) ∧ Q (.str (joinD s.cps.toList ss))) X)
  | .ListComp elt [⟨tg, it, ifs, 0⟩] scope _ =>
    (match blkC C.N C.sc scope (ownOf C.N scope.names) && (tgNames tg).all (fun x => inB ((ownOf C.N scope.names).map (·.1)) x) && !isSetE it with
    | true => evIt r true C σ it (fun items => compL (fun x k => bindT { C with sc := relS scope C.sc, ost := scope } tg x (wipeE σ ((ownOf C.N scope.names).map (·.2))) fun σ' =>
        evTs r { C with sc := relS scope C.sc, ost := scope } σ' noX ifs fun b => ite2 b (r.E { C with sc := relS scope C.sc, ost := scope } elt σ' (fun d => k (some d)) noX) (k none)) items [] fun l => Q (.lst l)) X
    | false => False)
  | _ => False
def stepT (r : Evs) (C : Ctx) (e : Expr) (σ : Sls) (Q : Bool → Prop) (X : Str → Prop) : Prop :=
  match e with
  | .UnaryOp .Not a _ => r.T C a σ (fun b => Q (!b)) X
  | .BoolOp .And [a] _ => r.T C a σ Q X
  | .BoolOp .Or [a] _ => r.T C a σ Q X
  | .BoolOp .And (a :: b :: l) p => r.T C a σ (fun c => ite2 c (r.T C (.BoolOp .And (b :: l) p) σ Q X) (Q false)) X
  | .BoolOp .Or (a :: b :: l) p => r.T C a σ (fun c => ite2 c (Q true) (r.T C (.BoolOp .Or (b :: l) p) σ Q X)) X
  | .BoolOp _ [] _ => False
  | .IfExp t a b _ => r.T C t σ (fun c => ite2 c (r.T C a σ Q X) (r.T C b σ Q X)) X
  | .Compare a [op] [b] _ => evCmp r C σ X a op b fun d => asB d Q
  | .Compare a [op, op'] [b, c] _ => evCmp2 r C σ X a op b op' c fun d => asB d Q
  | .Compare .. => False
  | e => evC r C e σ (fun d => getO (truD d) Q) X
def evs : Nat → Evs
  | 0 => ⟨fun _ _ _ _ _ => False, fun _ _ _ _ _ => False⟩
  | n + 1 => ⟨stepE (evs n), stepT (evs n)⟩

/-! ### statements -/
structure Pst where
  nx : Sls → Prop
  rt : D → Prop
  bk : Sls → Prop
  ct : Sls → Prop
  ex : Str → Prop
def isComp : Expr → Bool
  | .ListComp .. => true
  | .SetComp .. => true
  | .DictComp .. => true
  | _ => false
def plainIxE : Expr → Bool
  | .Slice .. => false
  | _ => true
def isTupE : Expr → Bool
  | .Tuple .. => true
  | _ => false
/-- no variable of the comprehension's own -/
def compFree (x : Str) : Expr → Bool
  | .ListComp _ _ sc _ => !(sc.names.any fun (n, k) => n == x && (k == .local || k == .cell))
  | _ => false
/-- an operator that stands in place -/
def augOk : Operator → D → D → Bool
  | .Add, .int _, .int _ => true
  | .Sub, .int _, .int _ => true
  | .Mult, .int _, .int _ => true
  | .FloorDiv, .int _, .int _ => true
  | .Mod, .int _, .int _ => true
  | .Add, .str _, .str _ => true
  | _, _, _ => false
/-- an expression whose list or dict is a new one -/
def isNew : Expr → Bool
  | .ListComp .. => true
  | .List .. => true
  | .BinOp .. => true
  | _ => false
/-- a new container is owned -/
def newSl (d : D) : Sl := match d with
  | .lst l => .ow (.lst l)
  | .dct l => .ow (.dct l)
  | d => .im d
def forL (f : D → Sls → Pst → Prop) : List D → Sls → Pst → Prop
  | [], σ, P => P.nx σ
  | x :: r, σ, P => f x σ { P with nx := fun σ' => forL f r σ' P, ct := fun σ' => forL f r σ' P, bk := P.nx }
def whileL (t : Sls → (Bool → Prop) → Prop) (b : Sls → Pst → Prop) (σ : Sls) (P : Pst) : Prop :=
  ∃ I : Nat → Sls → Prop, (∃ m, I m σ) ∧ ∀ m σ, I m σ → t σ fun c => ite2 c (b σ { P with nx := fun σ' => ∃ m', m' < m ∧ I m' σ', ct := fun σ' => ∃ m', m' < m ∧ I m' σ', bk := P.nx }) (P.nx σ)
def evB (S : Ctx → Stmt → Sls → Pst → Prop) (C : Ctx) : List Stmt → Sls → Pst → Prop
  | [], σ, P => P.nx σ
  | s :: r, σ, P => S C s σ { P with nx := fun σ' => evB S C r σ' P }
def boxPut (k d : D) (Q : Prop) : Prop := match k, d with
  | .str s, .int m => ifB (decide (s = [97, 116])) (0 ≤ m ∧ Q)
  | _, _ => False
def stepS (n : Nat) (S : Ctx → Stmt → Sls → Pst → Prop) (C : Ctx) (s : Stmt) (σ : Sls) (P : Pst) : Prop :=
  match s with
  | .Pass _ => P.nx σ
  | .Break _ => P.bk σ
  | .Continue _ => P.ct σ
  | .Return none _ => P.rt .non
  | .Return (some e) _ => evC (evs n) C e σ P.rt P.ex
  | .Expr (.Constant (.str _) _ _) _ => P.nx σ
  | .Expr (.Call (.Attribute (.Name x _) m ap) [e] [] cp) _ =>
    (match decide (m = ("append" : Str)) && visB C.sc x && notStar e && (ap.endLine == cp.line) with
    | true => (match ixOf C.N x with
      | some i => (match σ[i]? with
        | some (.ow (.lst l)) => (evs n).E C e σ (fun d => l.length < LIM ∧ P.nx (σ.set i (.ow (.lst (l ++ [d]))))) P.ex
        | _ => False)
      | none => False)
    | false => False)
  | .Assign [.Name x xp] e pos =>
    (match locB C.ost x && (!isComp e || (plainB C.sc x && (xp.line == e.pos.line) && compFree x e)) with
    | true => (match ixOf C.N x with
      | some i => (match inB C.muts x && isNew e with
        | true => (evs n).E C e σ (fun d => P.nx (σ.set i (newSl d))) P.ex
        | false => (evs n).E C e σ (fun d => P.nx (σ.set i (.im d))) P.ex)
      | none => False)
    | false => False)
  | .Assign [.Tuple [.Name x xp, .Name y yp] _ _] (.Tuple [a, b] _ _) _ =>
    (match plainB C.sc x && plainB C.sc y && (xp.line == yp.line) && !decide (x = y) && locB C.ost x && locB C.ost y && notStar a && notStar b with
    | true => (match (foldedForSure 8 a && foldedForSure 8 b) || (constantsAlone 8 a && constantsAlone 8 b) with
      | false => (match ixOf C.N x, ixOf C.N y with
        | some i, some j => (evs n).E C a σ (fun d => (evs n).E C b σ (fun e => P.nx ((σ.set i (.im d)).set j (.im e))) P.ex) P.ex
        | _, _ => False)
      | true => False)
    | false => False)
  | .Assign [.Tuple ts tk tp] e _ =>
    ifB (!isTupE e) ((evs n).E C e σ (fun d => bindT C (.Tuple ts tk tp) d σ P.nx) P.ex)
  | .Assign [.Subscript (.Name x _) i _] e _ =>
    (match visB C.sc x && plainIxE i with
    | true => (match ixOf C.N x with
      | some q => (match σ[q]? with
        | some (.im (.box _)) => (evs n).E C e σ (fun d => (evs n).E C i σ (fun k => boxPut k d (P.nx σ)) P.ex) P.ex
        | some (.ow (.lst l)) => (evs n).E C e σ (fun d => (evs n).E C i σ (fun k => asI k fun j => getO (ixN l.length j) fun p => P.nx (σ.set q (.ow (.lst (l.set p d))))) P.ex) P.ex
        | _ => False)
      | none => False)
    | false => False)
  | .AugAssign (.Name x _) op e _ =>
    (match locB C.ost x with
    | true => (match ixOf C.N x with
      | some i => (match σ[i]? with
        | some (.im a) => (evs n).E C e σ (fun b => ifB (augOk op a b) (dBin op a b fun c => P.nx (σ.set i (.im c)))) P.ex
        | _ => False)
      | none => False)
    | false => False)
  | .If t a b _ => (evs n).T C t σ (fun c => ite2 c (evB S C a σ P) (evB S C b σ P)) P.ex
  | .For tg it body [] _ => ifB (!isSetE it) (evIt (evs n) false C σ it (fun items => forL (fun x σ P => bindT C tg x σ fun σ' => evB S C body σ' P) items σ P) P.ex)
  | .While t body [] _ => whileL (fun σ Q => (evs n).T C t σ Q P.ex) (fun σ P => evB S C body σ P) σ P
  | _ => False
def evS : Nat → Ctx → Stmt → Sls → Pst → Prop
  | 0 => fun _ _ _ _ => False
  | n + 1 => stepS n (evS n)
/-- a def's body called -/
def startE (N : List Str) (ds : List D) : Sls := ds.map .im ++ List.replicate (N.length - ds.length) .no
def evF (n : Nat) (C : Ctx) (st : Stmt) (ds : List D) (Q : D → Prop) (X : Str → Prop) : Prop :=
  evB (evS n) C (defBody st) (startE C.N ds) { nx := fun _ => Q .non, rt := Q, bk := fun _ => False, ct := fun _ => False, ex := X }
end Py
/-! The canonical readings; the steps of the heap; how a context fits. -/
namespace Py
open PySem PySem.Spec PyProof.Rows L2

section
variable (X : Cx)
/-! ### what the model itself asks: readings that always stand -/
def wE (e : Expr) : TE := fun σ H Q => ∀ pins s, Inv X pins σ H s → wpAny (model X.prog X.w) X.A (eval e X.env) (EP X pins σ Q) X.xe s
def wT (e : Expr) : TT := fun σ H Q => ∀ pins s, Inv X pins σ H s → wpAny (model X.prog X.w) X.A (isTrue e X.env (eval e X.env)) (TP X pins σ Q) X.xe s
def wA (es : List Expr) : TA := fun σ H Q => ∀ pos pins s, Inv X pins σ H s → wpAny (model X.prog X.w) X.A (spliced (backTo pos (starEach es X.env))) (AP X pins σ Q) X.xe s
def wO (e : Option Expr) : TO := fun σ H Q => ∀ pins s, Inv X pins σ H s → wpAny (model X.prog X.w) X.A (evalPart e X.env) (fun u s' => ∃ o H', Inv X pins σ H' s' ∧ IsPart u o ∧ Q o H') X.xe s
def wS (st : Stmt) : TS := fun D σ H => ∀ pins s, Inv X pins σ H s → wpAny (model X.prog X.w) X.A (exec st X.env) (SP X pins D) X.xe s
def wSs (st : List Stmt) : TS := fun D σ H => ∀ pins s, Inv X pins σ H s → wpAny (model X.prog X.w) X.A (execs st X.env) (SP X pins D) X.xe s
def wG (tg : Expr) : TG := fun v σ H Q => ∀ pins s u, Inv X pins σ H s → RelV v u → wpAny (model X.prog X.w) X.A (assign tg X.env u) (fun _ s' => ∃ σ' H', Inv X pins σ' H' s' ∧ Q σ' H') X.xe s
def wI (tg iter : Expr) : TI := fun σ H R => ∀ pins s, Inv X pins σ H s →
  wpAny (model X.prog X.w) X.A (eval iter X.env) (fun v s1 => wpAny (model X.prog X.w) X.A (pyIter v) (PIE X pins σ tg R) X.xe s1) X.xe s
def wTs (ifs : List Expr) : TT := fun σ H Q => ∀ pins s, Inv X pins σ H s →
  wpAny (model X.prog X.w) X.A (forIn ifs true fun c r => if r = true then do let ok ← isTrue c X.env (eval c X.env); pure (ForInStep.yield ok) else pure (ForInStep.yield r)) (TP X pins σ Q) X.xe s
def wOp (f : Value → Value → Sem Value) : R2 := fun x y H Q => ∀ pins s σ v u, Inv X pins σ H s → RelV x v → RelV y u → wpAny (model X.prog X.w) X.A (f v u) (EP X pins σ Q) X.xe s
def wUn (f : Value → Sem Value) : V → Hp → VK → Prop := fun x H Q => ∀ pins s σ v, Inv X pins σ H s → RelV x v → wpAny (model X.prog X.w) X.A (f v) (EP X pins σ Q) X.xe s
def wCall (f : Value) : List V → Hp → VK → Prop := fun xs H Q => ∀ pins s σ us, Inv X pins σ H s → Vals xs us → wpAny (model X.prog X.w) X.A (call f us) (EP X pins σ Q) X.xe s
def wMt (id : String) : V → List V → Hp → VK → Prop := fun x xs H Q => ∀ pins s σ v us, Inv X pins σ H s → RelV x v → Vals xs us → wpAny (model X.prog X.w) X.A (call (.builtin id) (v :: us)) (EP X pins σ Q) X.xe s
def wIx : R2 := fun x y H Q => ∀ value slice pins s σ v u, Inv X pins σ H s → RelV x v → RelV y u → subscripted slice false v u = operate [v, u] (getItem v u) → wpAny (model X.prog X.w) X.A (subscriptTail value slice v u) (EP X pins σ Q) X.xe s
def wSl : V → Option Int → Option Int → Hp → VK → Prop := fun x lo hi H Q => ∀ pins s σ v vl vu sl, Inv X pins σ H s → RelV x v → s.heap.IsSliceOf sl vl vu .none → IsPart vl lo → IsPart vu hi →
  ∃ T id, typeLookup (.type T) "__getitem__" = pure (some (.builtin id)) ∧ s.TypeIs v T ∧ wpAny (model X.prog X.w) X.A (getItem v (.ref sl)) (EP X pins σ Q) X.xe s
def wSet : TSet := fun o i v H Q => ∀ pins s σ ov iv u, Inv X pins σ H s → RelV o ov → RelV i iv → RelV v u → wpAny (model X.prog X.w) X.A (setItem ov iv u) (fun _ s' => ∃ H', Inv X pins σ H' s' ∧ Q H') X.xe s
def wIp (op : Operator) : TIp := fun x y H Q => ∀ pins s σ v u, Inv X pins σ H s → RelV x v → RelV y u → wpAny (model X.prog X.w) X.A (inplaceOp op v u) (EP X pins σ Q) X.xe s
end
section
variable {X : Cx} {σ : L2.St} {H : Hp}
theorem pe_w {e : Expr} : PE X e (wE X e) := ⟨fun pins s _ _ _ I h => h pins s I⟩
theorem pt_w {e : Expr} : PT X e (wT X e) := ⟨fun pins s _ _ _ I h => h pins s I⟩
theorem pa_w {es : List Expr} : PA X es (wA X es) := ⟨fun pos pins s _ _ _ I h => h pos pins s I⟩
theorem po_w {e : Option Expr} : PO X e (wO X e) := ⟨fun pins s _ _ _ I h => h pins s I⟩
theorem ps_w {st : Stmt} : PS X st (wS X st) := ⟨fun pins s _ _ _ I h => h pins s I⟩
theorem pss_w {st : List Stmt} : PSs X st (wSs X st) := ⟨fun pins s _ _ _ I h => h pins s I⟩
theorem pg_w {tg : Expr} : PG X tg (wG X tg) := ⟨fun pins s _ _ _ u _ I r h => h pins s u I r⟩
theorem pi_w {tg iter : Expr} : PI X tg iter (wI X tg iter) := ⟨fun pins s _ _ _ I h => h pins s I⟩
theorem pts_w {ifs : List Expr} : PTs X ifs (wTs X ifs) := ⟨fun pins s _ _ _ I h => h pins s I⟩
theorem op_w {f : Value → Value → Sem Value} : OpR X f (wOp X f) := fun pins s σ _ _ _ v u _ I r1 r2 h => h pins s σ v u I r1 r2
theorem un_w {f : Value → Sem Value} : UnR X f (wUn X f) := fun pins s σ _ _ v _ I r1 h => h pins s σ v I r1
theorem call_w {f : Value} : CallR X f (wCall X f) := fun pins s σ _ _ us _ I r h => h pins s σ us I r
theorem mt_w {id : String} : MtR X id (wMt X id) := fun pins s σ _ _ _ v us _ I r rs h => h pins s σ v us I r rs
theorem ix_w : IxR X (wIx X) := fun value slice pins s σ _ _ _ v u _ I r1 r2 h hs => h value slice pins s σ v u I r1 r2 hs
theorem sl_w : SlR X (wSl X) := fun pins s σ _ _ v vl vu _ _ sl _ I r hs pl pu h => h pins s σ v vl vu sl I r hs pl pu
theorem set_w : PSet X (wSet X) := fun pins s σ _ _ _ _ ov iv u _ I r1 r2 r3 h => h pins s σ ov iv u I r1 r2 r3
theorem ip_w {op : Operator} : PIp X op (wIp X op) := fun pins s σ _ _ _ v u _ I r1 r2 h => h pins s σ v u I r1 r2
theorem wE_of {e : Expr} {t : TE} {Q : VK} (h : PE X e t) (q : t σ H Q) : wE X e σ H Q := fun pins s I => h.run pins s σ H Q I q
theorem wT_of {e : Expr} {t : TT} {Q : Bool → Hp → Prop} (h : PT X e t) (q : t σ H Q) : wT X e σ H Q := fun pins s I => h.run pins s σ H Q I q
theorem wA_of {es : List Expr} {t : TA} {Q : List V → Hp → Prop} (h : PA X es t) (q : t σ H Q) : wA X es σ H Q := fun pos pins s I => h.run pos pins s σ H Q I q
theorem wO_of {e : Option Expr} {t : TO} {Q : Option Int → Hp → Prop} (h : PO X e t) (q : t σ H Q) : wO X e σ H Q := fun pins s I => h.run pins s σ H Q I q
theorem wS_of {st : Stmt} {t : TS} {D : Ends} (h : PS X st t) (q : t D σ H) : wS X st D σ H := fun pins s I => h.run pins s σ H D I q
theorem wSs_of {st : List Stmt} {t : TS} {D : Ends} (h : PSs X st t) (q : t D σ H) : wSs X st D σ H := fun pins s I => h.run pins s σ H D I q
theorem wG_of {tg : Expr} {t : TG} {v : V} {Q : L2.St → Hp → Prop} (h : PG X tg t) (q : t v σ H Q) : wG X tg v σ H Q := fun pins s u I r => h.run pins s σ H v u Q I r q
theorem wI_of {tg it : Expr} {t : TI} {R : It → Hp → Prop} (h : PI X tg it t) (q : t σ H R) : wI X tg it σ H R := fun pins s I => h.run pins s σ H R I q
theorem wTs_of {ifs : List Expr} {t : TT} {Q : Bool → Hp → Prop} (h : PTs X ifs t) (q : t σ H Q) : wTs X ifs σ H Q := fun pins s I => h.run pins s σ H Q I q
theorem wOp_of {f : Value → Value → Sem Value} {r : R2} {x y : V} {Q : VK} (h : OpR X f r) (q : r x y H Q) : wOp X f x y H Q := fun pins s σ v u I r1 r2 => h pins s σ H x y v u Q I r1 r2 q
theorem wUn_of {f : Value → Sem Value} {r : V → Hp → VK → Prop} {x : V} {Q : VK} (h : UnR X f r) (q : r x H Q) : wUn X f x H Q := fun pins s σ v I r1 => h pins s σ H x v Q I r1 q
theorem wCall_of {f : Value} {r : List V → Hp → VK → Prop} {xs : List V} {Q : VK} (h : CallR X f r) (q : r xs H Q) : wCall X f xs H Q := fun pins s σ us I r1 => h pins s σ H xs us Q I r1 q
theorem wMt_of {id : String} {r : V → List V → Hp → VK → Prop} {x : V} {xs : List V} {Q : VK} (h : MtR X id r) (q : r x xs H Q) : wMt X id x xs H Q := fun pins s σ v us I r1 r2 => h pins s σ H x xs v us Q I r1 r2 q
theorem wIx_of {r : R2} {x y : V} {Q : VK} (h : IxR X r) (q : r x y H Q) : wIx X x y H Q := fun value slice pins s σ v u I r1 r2 hs => h value slice pins s σ H x y v u Q I r1 r2 q hs
theorem wSl_of {r : V → Option Int → Option Int → Hp → VK → Prop} {x : V} {lo hi : Option Int} {Q : VK} (h : SlR X r) (q : r x lo hi H Q) : wSl X x lo hi H Q := fun pins s σ v vl vu sl I r1 hs pl pu => h pins s σ H x v vl vu lo hi sl Q I r1 hs pl pu q
theorem wSet_of {t : TSet} {o i v : V} {Q : Hp → Prop} (h : PSet X t) (q : t o i v H Q) : wSet X o i v H Q := fun pins s σ ov iv u I r1 r2 r3 => h pins s σ H o i v ov iv u Q I r1 r2 r3 q
theorem wIp_of {op : Operator} {r : TIp} {x y : V} {Q : VK} (h : PIp X op r) (q : r x y H Q) : wIp X op x y H Q := fun pins s σ v u I r1 r2 => h pins s σ H x y v u Q I r1 r2 q
end

/-! ### the steps of the heap -/
/-- the law's box: the numbers drawn, how many were taken -/
def BoxAt (F H : Hp) (b r : Addr) : Prop := ∃ (ns : List Int) (k : Int), H b = some (.dK [(Sum.inr ("row" : Str), .ref r), (Sum.inr ("at" : Str), .int k)]) ∧ F r = some (.lst (ns.map V.int)) ∧ ns ≠ [] ∧ ns.length ≤ LIM ∧ 0 ≤ k
/-- not the box -/
def NB (bx : Option (Addr × Addr)) (a : Addr) : Prop := ∀ r, bx ≠ some (a, r)
structure Bas (bx : Option (Addr × Addr)) (F H : Hp) : Prop where
  sub : Ex F H
  box : ∀ b r, bx = some (b, r) → F b = none ∧ BoxAt F H b r
structure Nxt (bx : Option (Addr × Addr)) (F H F' H' : Hp) : Prop where
  ex : Ex F F'
  keep : ∀ a o, NB bx a → H a = some o → H' a = some o
  new : ∀ a, F' a ≠ none → F a ≠ none ∨ H a = none
  bas : Bas bx F' H'
section
variable {bx : Option (Addr × Addr)} {F H F' H' F2 H2 : Hp}
theorem Nxt.refl (b : Bas bx F H) : Nxt bx F H F H := ⟨Ex.refl F, fun _ _ _ h => h, fun _ h => .inl h, b⟩
theorem Nxt.trans (a : Nxt bx F H F' H') (b : Nxt bx F' H' F2 H2) : Nxt bx F H F2 H2 := by
  refine ⟨a.ex.trans b.ex, fun p o hp h => b.keep p o hp (a.keep p o hp h), fun p hp => ?_, b.bas⟩
  rcases b.new p hp with h | h
  · exact a.new p h
  · by_cases e : ∃ r, bx = some (p, r)
    · obtain ⟨r, e⟩ := e
      exact absurd (b.bas.box p r e).1 hp
    · cases q : H p with
      | none => exact .inr rfl
      | some o => rw [a.keep p o (fun r z => e ⟨r, z⟩) q] at h; cases h
/-- what is not frozen and stands stays unfrozen -/
theorem Nxt.out (a : Nxt bx F H F' H') {p : Addr} {o : HO} (h1 : F p = none) (h2 : H p = some o) : F' p = none := by
  cases q : F' p with
  | none => rfl
  | some u =>
    rcases a.new p (by rw [q]; exact fun z => nomatch z) with z | z
    · exact absurd h1 z
    · rw [h2] at z; cases z
theorem Bas.ne {p : Addr} (b : Bas bx F H) (h : H p = none) : NB bx p := fun r e => by
  obtain ⟨_, ns, k, h2, _⟩ := b.box p r e
  rw [h] at h2; cases h2
theorem Bas.neF {p : Addr} {o : HO} (b : Bas bx F H) (h : F p = some o) : NB bx p := fun r e => by
  rw [(b.box p r e).1] at h; cases h
/-- a new object, frozen at once -/
theorem Nxt.laid {p : Addr} {o : HO} (b : Bas bx F H) (h : H p = none) : Nxt bx F H (upd F p o) (upd H p o) := by
  have hF : F p = none := by
    cases q : F p with
    | none => rfl
    | some u => rw [b.sub _ _ q] at h; cases h
  refine ⟨Ex.new hF, fun a u _ e => by rw [upd_ne (ne_of_none e h)]; exact e, fun a ha => ?_, ?_, fun q r e => ?_⟩
  · by_cases z : a = p
    · exact .inr (z ▸ h)
    · rw [upd_ne z] at ha; exact .inl ha
  · intro a u e
    by_cases z : a = p
    · subst z; rw [upd_same] at e ⊢; exact e
    · rw [upd_ne z] at e ⊢; exact b.sub a u e
  · obtain ⟨h1, ns, k, h2, h3, h4⟩ := b.box q r e
    have nq : q ≠ p := ne_of_none h2 h
    refine ⟨by rw [upd_ne nq]; exact h1, ns, k, by rw [upd_ne nq]; exact h2, ?_, h4⟩
    rw [upd_ne (ne_of_none h3 hF)]; exact h3
/-- a new object, not frozen -/
theorem Nxt.made {p : Addr} {o : HO} (b : Bas bx F H) (h : H p = none) : Nxt bx F H F (upd H p o) := by
  refine ⟨Ex.refl F, fun a u _ e => by rw [upd_ne (ne_of_none e h)]; exact e, fun a ha => .inl ha, ?_, fun q r e => ?_⟩
  · intro a u e
    have := b.sub a u e
    rw [upd_ne (ne_of_none this h)]; exact this
  · obtain ⟨h1, ns, k, h2, h3, h4⟩ := b.box q r e
    exact ⟨h1, ns, k, by rw [upd_ne (ne_of_none h2 h)]; exact h2, h3, h4⟩
/-- an object that stands unfrozen is frozen -/
theorem Nxt.freeze {p : Addr} {o : HO} (a : Nxt bx F H F' H') (hH : H p = none) (h1 : F' p = none) (h2 : H' p = some o) (nb : NB bx p) : Nxt bx F H (upd F' p o) H' := by
  refine ⟨fun q u e => ?_, a.keep, fun q hq => ?_, ?_, fun q r e => ?_⟩
  · have := a.ex q u e
    rw [upd_ne (ne_of_none this h1)]; exact this
  · by_cases z : q = p
    · exact .inr (z ▸ hH)
    · rw [upd_ne z] at hq; exact a.new q hq
  · intro q u e
    by_cases z : q = p
    · subst z; rw [upd_same] at e; cases e; exact h2
    · rw [upd_ne z] at e; exact a.bas.sub q u e
  · obtain ⟨g1, ns, k, g2, g3, g4⟩ := a.bas.box q r e
    have nq : q ≠ p := fun z => nb r (z ▸ e)
    exact ⟨by rw [upd_ne nq]; exact g1, ns, k, g2, by rw [upd_ne (ne_of_none g3 h1)]; exact g3, g4⟩
/-- an unfrozen object is changed -/
theorem Bas.write {p : Addr} {u : HO} (b : Bas bx F H) (h1 : F p = none) (nb : NB bx p) : Bas bx F (upd H p u) := by
  refine ⟨fun q w e => ?_, fun q r e => ?_⟩
  · rw [upd_ne (ne_of_none e h1)]; exact b.sub q w e
  · obtain ⟨g1, ns, k, g2, g3, g4⟩ := b.box q r e
    have nq : q ≠ p := fun z => nb r (z ▸ e)
    exact ⟨g1, ns, k, by rw [upd_ne nq]; exact g2, g3, g4⟩
end

/-! ### slots -/
/-- an owned list or dict at a -/
def OwnR (bx : Option (Addr × Addr)) (F H : Hp) (d : D) (a : Addr) : Prop := match d with
  | .lst ds => ∃ xs, H a = some (.lst xs) ∧ ds.length ≤ LIM ∧ RepL bx F ds xs
  | .dct kvs => ∃ ks, H a = some (.dK ks) ∧ kvs.length ≤ LIM ∧ RepK bx F kvs ks
  | _ => False
def SlE (bx : Option (Addr × Addr)) (F H : Hp) (e : Sl) (o : Option V) : Prop := match e with
  | .no => True
  | .im d => ∃ v, o = some v ∧ Rep bx F d v
  | .ow d => ∃ a, o = some (.ref a) ∧ NB bx a ∧ F a = none ∧ OwnR bx F H d a
def SlsE (bx : Option (Addr × Addr)) (F H : Hp) (es : Sls) (σ : L2.St) : Prop := es.length = σ.length ∧ ∀ (i : Nat) e, es[i]? = some e → ∃ o, σ[i]? = some o ∧ SlE bx F H e o
section
variable {bx : Option (Addr × Addr)} {F H F' H' : Hp}
theorem OwnR.nxt {d : D} {a : Addr} (n : Nxt bx F H F' H') (nb : NB bx a) (h : OwnR bx F H d a) : OwnR bx F' H' d a := by
  cases d <;> simp only [OwnR] at h ⊢
  · obtain ⟨xs, h1, h2, h3⟩ := h
    exact ⟨xs, n.keep _ _ nb h1, h2, RepL.mono n.ex _ _ h3⟩
  · obtain ⟨xs, h1, h2, h3⟩ := h
    exact ⟨xs, n.keep _ _ nb h1, h2, RepK.mono n.ex _ _ h3⟩
theorem OwnR.there {d : D} {a : Addr} (h : OwnR bx F H d a) : ∃ o, H a = some o := by
  cases d <;> simp only [OwnR] at h
  · exact ⟨_, h.choose_spec.1⟩
  · exact ⟨_, h.choose_spec.1⟩
theorem SlE.nxt {e : Sl} {o : Option V} (n : Nxt bx F H F' H') (h : SlE bx F H e o) : SlE bx F' H' e o := by
  cases e with
  | no => trivial
  | im d =>
    obtain ⟨v, h1, h2⟩ := h
    exact ⟨v, h1, Rep.mono n.ex _ _ h2⟩
  | ow d =>
    obtain ⟨a, h1, nb, h2, h3⟩ := h
    obtain ⟨o', h4⟩ := h3.there
    exact ⟨a, h1, nb, n.out h2 h4, h3.nxt n nb⟩
theorem SlsE.nxt {es : Sls} {σ : L2.St} (n : Nxt bx F H F' H') (h : SlsE bx F H es σ) : SlsE bx F' H' es σ := ⟨h.1, fun i e he => by
  obtain ⟨o, h1, h2⟩ := h.2 i e he
  exact ⟨o, h1, h2.nxt n⟩⟩
theorem SlsE.set {es : Sls} {σ : L2.St} {i : Nat} {e : Sl} {o : Option V} (h : SlsE bx F H es σ) (g : SlE bx F H e o) : SlsE bx F H (es.set i e) (σ.set i o) := by
  refine ⟨by simp [h.1], fun j u hu => ?_⟩
  by_cases hj : i = j
  · subst hj
    have hl : i < es.length := by
      have := (List.getElem?_eq_some_iff.mp hu).1
      simpa using this
    rw [List.getElem?_set_self hl] at hu
    cases hu
    exact ⟨o, List.getElem?_set_self (by rw [← h.1]; exact hl), g⟩
  · rw [List.getElem?_set_ne hj] at hu ⊢
    exact h.2 j u hu
theorem SlsE.wipe {es : Sls} {σ : L2.St} (h : SlsE bx F H es σ) : ∀ vs : List Nat, SlsE bx F H (wipeE es vs) (L2.wipe σ vs)
  | [] => h
  | v :: vs => by
    show SlsE bx F H ((wipeE es vs).set v .no) ((L2.wipe σ vs).set v none)
    exact (SlsE.wipe h vs).set trivial
end

/-! ### promises -/
def FnMono (φ : Fn) : Prop := ∀ ds (Q Q' : D → Prop) (X X' : Str → Prop), (∀ d, Q d → Q' d) → (∀ x, X x → X' x) → φ ds Q X → φ ds Q' X'
/-- the promise of a def: what φ says, at every heap that bears the arguments -/
def spW (mg : Str → Option Value) (n : Nat) (φ : Fn) : Sp := fun vs H Q E => ∃ bx F ds, Bas bx F H ∧ RepL bx F ds vs ∧ ds.length = n ∧
  φ ds (fun d => ∀ v F' H', Nxt bx F H F' H' → Rep bx F' d v → Q v H') (fun x => ∀ cls F' H', mg x = some cls → Nxt bx F H F' H' → E cls none H')
def FnIn (X : Cx) (x : Str) (n : Nat) (φ : Fn) : Prop := FnMono φ ∧ (x == ("__debug__" : Str)) = false ∧ ∃ k f fd ps, FnOk X.prog X.w X.K X.mg X.base (L2.CX X.prog X.w) k f fd ps (spW X.mg n φ) ∧ Room k X.A ∧ X.mg x = some (.ref f) ∧
  PySem.W.keepIn X.K (.ref f) = true ∧ Binds X.K fd ps []
/-- the context is one of C: W is what is wished of an error -/
structure Conf (C : Ctx) (X : Cx) (W : WX) : Prop where
  N : X.N = C.N
  nd : C.N.Nodup
  sc : X.env.scope = C.sc
  calm : X.calm = true
  kind : X.env.scope.kind = .function
  sto : ∀ x, locB C.ost x = true → Loc X.env.scope x ∧ (X.fn x = true ∨ X.env.scope.names.lookup x = some .local)
  nodb : ∀ x ∈ C.N, (x == ("__debug__" : Str)) = false ∧ (x == ("__classdict__" : Str)) = false
  blt : ∀ x, inB C.blt x = true → X.mg x = none ∧ x ≠ "__name__" ∧ (x == ("__debug__" : Str)) = false
  con : ∀ x d, C.con.lookup x = some d → (x == ("__debug__" : Str)) = false ∧ ∃ u v, X.mg x = some u ∧ RelV v u ∧ ∀ bx F, Rep bx F d v
  hu : X.A.units + 65 < cLine
  takes : Takes X W
  fns : ∀ x n φ, C.fns.lookup x = some (n, φ) → FnIn X x n φ
def Wish (X : Cx) (bx : Option (Addr × Addr)) (W : WX) (F H : Hp) (Z : Str → Prop) : Prop := ∀ x cls F' H' σ, Z x → X.mg x = some cls → Nxt bx F H F' H' → W cls none σ H'
theorem Wish.nxt {X : Cx} {bx : Option (Addr × Addr)} {W : WX} {F H F' H' : Hp} {Z : Str → Prop} (h : Wish X bx W F H Z) (n : Nxt bx F H F' H') : Wish X bx W F' H' Z :=
  fun x cls F2 H2 σ z hm n2 => h x cls F2 H2 σ z hm (n.trans n2)
theorem wish_no {X : Cx} {bx : Option (Addr × Addr)} {W : WX} {F H : Hp} : Wish X bx W F H noX := fun _ _ _ _ _ z => z.elim
end Py
set_option maxHeartbeats 1000000
/-! The operations on values are sound. -/
namespace Py
open PySem PySem.Spec PyProof.Rows L2

/-- a container whose items are frozen; anything else is frozen itself -/
def RepC (bx : Option (Addr × Addr)) (F H : Hp) (d : D) (v : V) : Prop := match d with
  | .lst ds => ∃ (a : Addr) (xs : List V), v = .ref a ∧ NB bx a ∧ H a = some (.lst xs) ∧ ds.length ≤ LIM ∧ RepL bx F ds xs
  | .dct kvs => ∃ (a : Addr) (ks : List (Key × V)), v = .ref a ∧ NB bx a ∧ H a = some (.dK ks) ∧ kvs.length ≤ LIM ∧ RepK bx F kvs ks
  | d => Rep bx F d v
/-- a new container; anything else is frozen -/
def RepN (bx : Option (Addr × Addr)) (H0 F H : Hp) (d : D) (v : V) : Prop := match d with
  | .lst ds => ∃ (a : Addr) (xs : List V), v = .ref a ∧ NB bx a ∧ H0 a = none ∧ F a = none ∧ H a = some (.lst xs) ∧ ds.length ≤ LIM ∧ RepL bx F ds xs
  | .dct kvs => ∃ (a : Addr) (ks : List (Key × V)), v = .ref a ∧ NB bx a ∧ H0 a = none ∧ F a = none ∧ H a = some (.dK ks) ∧ kvs.length ≤ LIM ∧ RepK bx F kvs ks
  | d => Rep bx F d v
section
variable {bx : Option (Addr × Addr)} {F H F' H' H0 : Hp} {K : PySem.W.Frag}
theorem Rep.c {d : D} {v : V} (b : Bas bx F H) (h : Rep bx F d v) : RepC bx F H d v := by
  cases d with
  | lst ds =>
    simp only [Rep] at h
    obtain ⟨a, xs, h1, h2, h3, h4⟩ := h
    exact ⟨a, xs, h1, b.neF h2, b.sub _ _ h2, h3, h4⟩
  | dct ds =>
    simp only [Rep] at h
    obtain ⟨a, xs, h1, h2, h3, h4⟩ := h
    exact ⟨a, xs, h1, b.neF h2, b.sub _ _ h2, h3, h4⟩
  | _ => exact h
theorem RepC.nxt {d : D} {v : V} (n : Nxt bx F H F' H') (h : RepC bx F H d v) : RepC bx F' H' d v := by
  cases d with
  | lst ds =>
    obtain ⟨a, xs, h1, nb, h2, h3, h4⟩ := h
    exact ⟨a, xs, h1, nb, n.keep _ _ nb h2, h3, RepL.mono n.ex _ _ h4⟩
  | dct ds =>
    obtain ⟨a, xs, h1, nb, h2, h3, h4⟩ := h
    exact ⟨a, xs, h1, nb, n.keep _ _ nb h2, h3, RepK.mono n.ex _ _ h4⟩
  | _ => exact Rep.mono n.ex _ _ h
/-- frozen: a heap in which the container is frozen, too -/
theorem RepC.frozT {d : D} {v : V} (b : Bas bx F H) (h : RepC bx F H d v) : ∃ F2, Ex F F2 ∧ Bas bx F2 H ∧ Rep bx F2 d v ∧ ∀ a xs, F2 a = some (.tup xs) → F a = some (.tup xs) := by
  have fr : ∀ (a : Addr) (o : HO), (∀ xs, o ≠ .tup xs) → NB bx a → H a = some o → ∃ F2, Ex F F2 ∧ Bas bx F2 H ∧ F2 a = some o ∧ ∀ a xs, F2 a = some (.tup xs) → F a = some (.tup xs) := fun a o nt nb ho => by
    cases q : F a with
    | some u =>
      have := b.sub _ _ q
      rw [ho] at this; cases this
      exact ⟨F, Ex.refl F, b, q, fun _ _ e => e⟩
    | none =>
      refine ⟨upd F a o, Ex.new q, ⟨fun c u e => ?_, fun c r e => ?_⟩, upd_same, fun c xs e => ?_⟩
      · by_cases z : c = a
        · subst z; rw [upd_same] at e; cases e; exact ho
        · rw [upd_ne z] at e; exact b.sub c u e
      · obtain ⟨g1, ns, k, g2, g3, g4⟩ := b.box c r e
        have nq : c ≠ a := fun z => nb r (z ▸ e)
        exact ⟨by rw [upd_ne nq]; exact g1, ns, k, g2, by rw [upd_ne (ne_of_none g3 q)]; exact g3, g4⟩
      · by_cases z : c = a
        · subst z; rw [upd_same] at e; cases e; exact absurd rfl (nt xs)
        · rw [upd_ne z] at e; exact e
  cases d with
  | lst ds =>
    obtain ⟨a, xs, h1, nb, h2, h3, h4⟩ := h
    obtain ⟨F2, e, b2, g, t⟩ := fr a _ (fun _ z => HO.noConfusion z) nb h2
    exact ⟨F2, e, b2, by simp only [Rep]; exact ⟨a, xs, h1, g, h3, RepL.mono e _ _ h4⟩, t⟩
  | dct ds =>
    obtain ⟨a, xs, h1, nb, h2, h3, h4⟩ := h
    obtain ⟨F2, e, b2, g, t⟩ := fr a _ (fun _ z => HO.noConfusion z) nb h2
    exact ⟨F2, e, b2, by simp only [Rep]; exact ⟨a, xs, h1, g, h3, RepK.mono e _ _ h4⟩, t⟩
  | _ => exact ⟨F, Ex.refl F, b, h, fun _ _ e => e⟩
theorem RepC.froz {d : D} {v : V} (b : Bas bx F H) (h : RepC bx F H d v) : ∃ F2, Ex F F2 ∧ Bas bx F2 H ∧ Rep bx F2 d v := by
  obtain ⟨F2, h1, h2, h3, _⟩ := h.frozT b
  exact ⟨F2, h1, h2, h3⟩
/-- a new thing, frozen -/
theorem RepN.froz {d : D} {v : V} (n : Nxt bx F H F' H') (h : RepN bx H F' H' d v) : ∃ F2, Nxt bx F H F2 H' ∧ Rep bx F2 d v := by
  cases d with
  | lst ds =>
    obtain ⟨a, xs, h1, nb, h2, h3, h4, h5, h6⟩ := h
    exact ⟨_, n.freeze h2 h3 h4 nb, by simp only [Rep]; exact ⟨a, xs, h1, upd_same, h5, RepL.mono (Ex.new h3) _ _ h6⟩⟩
  | dct ds =>
    obtain ⟨a, xs, h1, nb, h2, h3, h4, h5, h6⟩ := h
    exact ⟨_, n.freeze h2 h3 h4 nb, by simp only [Rep]; exact ⟨a, xs, h1, upd_same, h5, RepK.mono (Ex.new h3) _ _ h6⟩⟩
  | _ => exact ⟨_, n, h⟩
theorem fresh_back (n : Nxt bx F H F' H') {p : Addr} (h : H' p = none) : H p = none := by
  cases q : H p with
  | none => rfl
  | some o =>
    by_cases e : ∃ r, bx = some (p, r)
    · obtain ⟨r, e⟩ := e
      obtain ⟨_, ns, k, h2, _⟩ := n.bas.box p r e
      rw [h] at h2; cases h2
    · rw [n.keep p o (fun r z => e ⟨r, z⟩) q] at h; cases h
theorem Bas.freshF (b : Bas bx F H) {p : Addr} (h : H p = none) : F p = none := by
  cases q : F p with
  | none => rfl
  | some o => rw [b.sub _ _ q] at h; cases h
/-- a new list laid -/
theorem new_lst {p : Addr} {ds : List D} {xs : List V} (n : Nxt bx F H F' H') (hp : H' p = none) (hl : ds.length ≤ LIM) (h : RepL bx F' ds xs) :
    Nxt bx F H F' (upd H' p (.lst xs)) ∧ RepN bx H F' (upd H' p (.lst xs)) (.lst ds) (.ref p) :=
  ⟨n.trans (Nxt.made n.bas hp), p, xs, rfl, n.bas.ne hp, fresh_back n hp, n.bas.freshF hp, upd_same, hl, h⟩
theorem new_tup {p : Addr} {ds : List D} {xs : List V} (n : Nxt bx F H F' H') (hp : H' p = none) (hl : ds.length ≤ LIM) (h : RepL bx F' ds xs) :
    Nxt bx F H (upd F' p (.tup xs)) (upd H' p (.tup xs)) ∧ Rep bx (upd F' p (.tup xs)) (.tup ds) (.ref p) := by
  refine ⟨n.trans (Nxt.laid n.bas hp), ?_⟩
  simp only [Rep]
  exact ⟨p, xs, rfl, upd_same, hl, RepL.mono (Ex.new (n.bas.freshF hp)) _ _ h⟩
theorem lim_line {n : Nat} (h : n ≤ LIM) : n ≤ sizeLine := Nat.le_trans h (by decide)
theorem lim_lt {n : Nat} (h : n < LIM) : n < sizeLine := Nat.lt_of_lt_of_le h (by decide)
theorem okS_app {a b : List Nat} (ha : okS a) (hb : okS b) (h : a.length + b.length ≤ LIM) : okS (a ++ b) :=
  ⟨by rw [List.length_append]; exact h, fun c hc => (List.mem_append.mp hc).elim (ha.2 c) (hb.2 c)⟩
theorem okS_sub {a b : List Nat} (ha : okS a) (h : ∀ c ∈ b, c ∈ a) (hl : b.length ≤ LIM) : okS b := ⟨hl, fun c hc => ha.2 c (h c hc)⟩
theorem mem_rep {α : Type} {c : α} {a : List α} {n : Nat} (h : c ∈ rep n a) : c ∈ a := by
  unfold rep at h
  rw [List.mem_flatten] at h
  obtain ⟨l, h1, h2⟩ := h
  rw [(List.mem_replicate.mp h1).2] at h2
  exact h2
theorem rep_len {α : Type} (n : Nat) (a : List α) : (rep n a).length = n * a.length := by
  unfold rep
  rw [List.length_flatten]
  simp
theorem rep_succ {α : Type} (n : Nat) (a : List α) : rep (n + 1) a = a ++ rep n a := by
  unfold rep; rw [List.replicate_succ, List.flatten_cons]
theorem fold_app (l : List (Array Nat)) : ∀ acc : Array Nat, (l.foldl (· ++ ·) acc).toList = acc.toList ++ (l.map Array.toList).flatten := by
  induction l with
  | nil => intro acc; simp
  | cons x r ih => intro acc; rw [List.foldl_cons, ih]; simp
theorem mul_mk {a : List Nat} {n : Int} (h0 : 0 ≤ n) : PySem.Txt.mul (mkS a) n = mkS (rep n.toNat a) := by
  unfold PySem.Txt.mul
  by_cases h1 : n < 1
  · rw [if_pos h1]
    have : n.toNat = 0 := by omega
    rw [this]; rfl
  · rw [if_neg h1]
    by_cases h2 : (n == 1 || (mkS a).length == 0) = true
    · rw [if_pos h2]
      rw [Bool.or_eq_true] at h2
      rcases h2 with h2 | h2
      · have : n = 1 := by simpa using h2
        subst this
        show mkS a = mkS (rep 1 a)
        rw [rep_succ]; simp [rep]
      · rw [mkS_len] at h2
        have : a = [] := by cases a with
          | nil => rfl
          | cons x r => simp at h2
        subst this
        have : rep n.toNat ([] : List Nat) = [] := by
          have := rep_len n.toNat ([] : List Nat)
          simp only [List.length_nil, Nat.mul_zero] at this
          exact List.length_eq_zero_iff.mp this
        rw [this]
    · rw [if_neg h2]
      show _ = (⟨(rep n.toNat a).toArray⟩ : Str)
      congr 1
      have := fold_app (List.replicate n.toNat (mkS a).cps) #[]
      apply Array.toList_inj.mp
      rw [this]
      unfold rep mkS
      simp
theorem mulOk_mk {a : List Nat} {n : Int} (h1 : n ≤ LIM) (h0 : 0 ≤ n) (h2 : a.length * n.toNat ≤ LIM) : PySem.MulOk (mkS a) n := by
  have hL : (LIM : Int) = 1000000 := rfl
  have hN : LIM = 1000000 := rfl
  refine ⟨?_, fun h _ => ?_, fun _ _ => ?_⟩
  · have e1 : ¬ n < -(2 ^ 63 : Int) := by omega
    have e2 : ¬ n ≥ 2 ^ 63 := by omega
    rw [decide_eq_false e1, decide_eq_false e2]; rfl
  · rw [mkS_len]
    have h3 : a.length ≤ 1000000 := by
      have : 1 ≤ n.toNat := by omega
      exact Nat.le_trans (Nat.le_mul_of_pos_right _ this) h2
    have h4 : (1000000 : Int) ≤ (2 ^ 63 - 1) / n := by
      apply Int.le_ediv_of_mul_le (by omega)
      have : (1000000 : Int) * n ≤ 1000000 * 1000000 := Int.mul_le_mul_of_nonneg_left (by omega) (by decide)
      omega
    omega
  · rw [mkS_len]
    have h5 : a.length * n.toNat ≤ sizeLine := lim_line h2
    unfold Builtin.Str.tooLong
    rw [sizeLine_eq] at h5 ⊢
    simp only [decide_eq_false_iff_not]
    omega

variable {X : Cx}
theorem op_mul_str : OpR X (binaryOp .Mult) (fun x y H Q => ∃ (a : List Nat) (n : Int), x = .str (mkS a) ∧ y = .int n ∧ (n ≤ LIM ∧ 0 ≤ n ∧ a.length * n.toNat ≤ LIM) ∧ Q (.str (mkS (rep n.toNat a))) H) := by
  intro pins s σ H x y v u Q I rx ry h
  obtain ⟨a, n, rfl, rfl, ⟨h1, h2, h3⟩, q⟩ := h
  obtain ⟨t, rfl⟩ := rx
  obtain ⟨t', rfl⟩ := ry
  refine PySem.SB.mul (mulOk_mk h1 h2 h3) fun t2 k => ?_
  rw [mul_mk h2]
  exact ⟨.str (mkS (rep n.toNat a)), H, I.tok k, ⟨t2, rfl⟩, q⟩

theorem ltS_le (a b : List Nat) : decide (a ≤ b) = !ltS b a := by
  rw [← ltS_dec]
  by_cases h : b < a
  · rw [decide_eq_true h, decide_eq_false (fun z => absurd h (List.not_lt.mpr z))]; rfl
  · rw [decide_eq_false h, decide_eq_true (List.not_lt.mp h)]; rfl
/-- two operands, an operator -/
theorem ok_bin {op : Operator} {x y : D} {v u : V} {Q : D → Prop} {Q' : VK} (b : Bas bx F H) (h : dBin op x y Q) (rx : RepC bx F H x v) (ry : RepC bx F H y u)
    (k : ∀ d w F' H', Q d → Nxt bx F H F' H' → RepN bx H F' H' d w → Q' w H') : wOp X (binaryOp op) v u H Q' := by
  cases op <;> cases x <;> cases y <;> first | (exfalso; exact h) | skip
  · -- int + int
    rename_i i j
    cases rx; cases ry
    exact wOp_of op_add ⟨i, j, rfl, rfl, k _ _ _ _ h (Nxt.refl b) rfl⟩
  · rename_i s t
    obtain ⟨hl, h⟩ := h
    obtain ⟨rfl, ox⟩ := rx
    obtain ⟨rfl, oy⟩ := ry
    exact wOp_of op_add_str ⟨mkS s, mkS t, rfl, rfl, by rw [mkS_len, mkS_len]; exact lim_line hl, by rw [mkS_app]; exact k _ _ _ _ h (Nxt.refl b) ⟨rfl, okS_app ox oy hl⟩⟩
  · rename_i s t
    obtain ⟨hl, h⟩ := h
    obtain ⟨a, xs, rfl, nb, h1, h2, h3⟩ := rx
    obtain ⟨a', ys, rfl, nb', g1, g2, g3⟩ := ry
    refine wOp_of op_cat ⟨a, a', xs, ys, rfl, rfl, h1, g1, ?_, fun p hp => ?_⟩
    · rw [h3.length, g3.length]; exact lim_line hl
    · obtain ⟨n, r⟩ := new_lst (Nxt.refl b) hp (ds := s ++ t) (by rw [List.length_append]; exact hl) (h3.app g3)
      exact k _ _ _ _ h n r
  · rename_i s t
    obtain ⟨hl, h⟩ := h
    simp only [RepC, Rep] at rx ry
    obtain ⟨a, xs, rfl, h1, h2, h3⟩ := rx
    obtain ⟨a', ys, rfl, g1, g2, g3⟩ := ry
    refine wOp_of op_catA ⟨a, a', xs, ys, rfl, rfl, st_of (b.sub _ _ h1), st_of (b.sub _ _ g1), ?_, fun e => ?_, fun _ e => ?_, fun _ _ p hp => ?_⟩
    · rw [h3.length, g3.length]; exact lim_line hl
    · have : s = [] := by
        have := h3.length
        rw [e] at this
        exact List.length_eq_zero_iff.mp this.symm
      subst this
      exact k _ _ _ _ h (Nxt.refl b) (by simp only [RepN, Rep]; exact ⟨a', ys, rfl, g1, g2, g3⟩)
    · have : t = [] := by
        have := g3.length
        rw [e] at this
        exact List.length_eq_zero_iff.mp this.symm
      subst this
      rw [List.append_nil] at h
      exact k _ _ _ _ h (Nxt.refl b) (by simp only [RepN, Rep]; exact ⟨a, xs, rfl, h1, h2, h3⟩)
    · obtain ⟨n, r⟩ := new_tup (Nxt.refl b) hp (ds := s ++ t) (by rw [List.length_append]; exact hl) (h3.app g3)
      exact k _ _ _ _ h n r
  · rename_i i j
    cases rx; cases ry
    exact wOp_of op_sub ⟨i, j, rfl, rfl, k _ _ _ _ h (Nxt.refl b) rfl⟩
  · rename_i i j
    cases rx; cases ry
    exact wOp_of op_mul ⟨i, j, rfl, rfl, h.1, k _ _ _ _ h.2 (Nxt.refl b) rfl⟩
  · rename_i s n
    obtain ⟨rfl, ox⟩ := rx
    cases ry
    obtain ⟨hl, h⟩ := h
    refine wOp_of op_mul_str ⟨s, n, rfl, rfl, hl, k _ _ _ _ h (Nxt.refl b) ⟨rfl, okS_sub ox (fun c hc => mem_rep hc) ?_⟩⟩
    rw [rep_len, Nat.mul_comm]; exact hl.2.2
  · rename_i i j
    cases rx; cases ry
    exact wOp_of op_mod ⟨i, j, rfl, rfl, h.1, k _ _ _ _ h.2 (Nxt.refl b) rfl⟩
  · rename_i i j
    cases rx; cases ry
    exact wOp_of op_pow ⟨i, j, rfl, rfl, h.1, k _ _ _ _ h.2 (Nxt.refl b) rfl⟩
  · rename_i i j
    cases rx; cases ry
    exact wOp_of op_fdiv ⟨i, j, rfl, rfl, h.1, k _ _ _ _ h.2 (Nxt.refl b) rfl⟩

/-- as the library's data, a container too -/
theorem repC_dp {d : D} {v : V} (b : Bas bx F H) (hd : D.fits 50 d = true) (h : RepC bx F H d v) : Dp K H v d.toP ∧ SeqAt.shaped d.toP = true := by
  obtain ⟨F2, e, b2, r⟩ := h.froz b
  have := rep_dp (K := K) (F := H) (bx := bx) 50 d v hd (Rep.mono b2.sub _ _ r)
  exact ⟨this, rep_shaped (fits_mono (by decide) hd) r⟩
theorem any_eqv {ds : List D} {d : D} (hs : ds.all (D.fits 49) = true) (hd : D.fits 50 d = true) : ((D.toPs ds).any fun z => PyData.eqv z d.toP) = inD d ds := by
  induction ds with
  | nil => rfl
  | cons x r ih =>
    rw [List.all_cons, Bool.and_eq_true] at hs
    show (PyData.eqv x.toP d.toP || (D.toPs r).any fun z => PyData.eqv z d.toP) = (D.eq x d || inD d r)
    rw [ih hs.2, toP_eqv 50 x d (fits_mono (by decide) hs.1) hd]
/-! ### the order of data; within -/
theorem toP_depth : ∀ (n : Nat) (d : D), D.fits n d = true → d.toP.depth ≤ n := by
  intro n
  induction n with
  | zero =>
    intro d hd
    cases d <;> first | (exfalso; unfold D.fits at hd; cases hd; done) | skip
    all_goals (simp [D.toP, PyData.depth])
  | succ n ih =>
    have ihs : ∀ xs : List D, xs.all (D.fits n) = true → PyData.depthAll (D.toPs xs) ≤ n := by
      intro xs
      induction xs with
      | nil => intro _; simp [D.toPs, PyData.depthAll]
      | cons x r ihx =>
        intro h
        rw [List.all_cons, Bool.and_eq_true] at h
        simp only [D.toPs, PyData.depthAll]
        exact Nat.max_le.mpr ⟨ih x h.1, ihx h.2⟩
    intro d hd
    cases d <;> first | (exfalso; unfold D.fits at hd; cases hd; done) | skip
    all_goals (simp only [D.toP, PyData.depth] <;> first | omega | skip)
    · unfold D.fits at hd; have := ihs _ hd; omega
    · unfold D.fits at hd; have := ihs _ hd; omega
section
variable {X : Cx}
abbrev rOrd (K : PySem.W.Frag) (f : PyData → PyData → Bool) : R2 := fun x y H Q => ∃ d e, Dp K H x d ∧ Dp K H y e ∧ PySem.W.alike d e = true ∧ d ≠ .none ∧ d.depth ≤ 64 ∧ Q (.bl (f d e)) H
theorem op_ltDat (hu : X.A.units + 64 < cLine) : OpR X (compareOp .Lt) (rOrd X.K fun d e => PySem.W.dataLt d e) := by
  intro pins s σ H x y v u Q I rx ry h
  obtain ⟨d, e, hd, he, ha, hn, hD, q⟩ := h
  obtain ⟨as, r1⟩ := Dp.reads I d x v hd rx
  obtain ⟨bs, r2⟩ := Dp.reads I e y u he ry
  exact PySem.W.lt_data r1 r2 ha hn (by have := Nat.min_le_left d.depth e.depth; omega) ⟨.bl _, H, I, rfl, q⟩
theorem op_leDat (hu : X.A.units + 64 < cLine) : OpR X (compareOp .LtE) (rOrd X.K fun d e => !PySem.W.dataLt e d) := by
  intro pins s σ H x y v u Q I rx ry h
  obtain ⟨d, e, hd, he, ha, hn, hD, q⟩ := h
  obtain ⟨as, r1⟩ := Dp.reads I d x v hd rx
  obtain ⟨bs, r2⟩ := Dp.reads I e y u he ry
  exact PySem.W.le_data r1 r2 ha hn (by have := Nat.min_le_left d.depth e.depth; omega) ⟨.bl _, H, I, rfl, q⟩
theorem op_gtDat (hu : X.A.units + 64 < cLine) : OpR X (compareOp .Gt) (rOrd X.K fun d e => PySem.W.dataLt e d) := by
  intro pins s σ H x y v u Q I rx ry h
  obtain ⟨d, e, hd, he, ha, hn, hD, q⟩ := h
  obtain ⟨as, r1⟩ := Dp.reads I d x v hd rx
  obtain ⟨bs, r2⟩ := Dp.reads I e y u he ry
  exact PySem.W.gt_data r1 r2 ha hn (by have := Nat.min_le_left d.depth e.depth; omega) ⟨.bl _, H, I, rfl, q⟩
theorem op_geDat (hu : X.A.units + 64 < cLine) : OpR X (compareOp .GtE) (rOrd X.K fun d e => !PySem.W.dataLt d e) := by
  intro pins s σ H x y v u Q I rx ry h
  obtain ⟨d, e, hd, he, ha, hn, hD, q⟩ := h
  obtain ⟨as, r1⟩ := Dp.reads I d x v hd rx
  obtain ⟨bs, r2⟩ := Dp.reads I e y u he ry
  exact PySem.W.ge_data r1 r2 ha hn (by have := Nat.min_le_left d.depth e.depth; omega) ⟨.bl _, H, I, rfl, q⟩
abbrev rInT (K : PySem.W.Frag) (f : Bool → Bool) : R2 := fun x y H Q => ∃ d ds, Dp K H x d ∧ Dp K H y (.tuple ds) ∧ SeqAt.shaped d = true ∧ SeqAt.shaped (.tuple ds) = true ∧ Q (.bl (f (ds.any fun z => PyData.eqv z d))) H
theorem room_in_tup {A : Around} {ds : List PyData} {d : PyData} (hd : SeqAt.shaped d = true) (hu : A.units + 65 < cLine) : A.units + 1 + min (PyData.depthAll ds) d.depth < cLine := by
  unfold SeqAt.shaped at hd
  rw [Bool.and_eq_true, decide_eq_true_eq] at hd
  have := Nat.min_le_right (PyData.depthAll ds) d.depth
  omega
theorem op_inTup (hu : X.A.units + 65 < cLine) : OpR X (compareOp .In) (rInT X.K id) := by
  intro pins s σ H x y v u Q I rx ry h
  obtain ⟨d, ds, hd, he, sd, se, q⟩ := h
  obtain ⟨as, r1⟩ := Dp.reads I d x v hd rx
  obtain ⟨bs, r2⟩ := Dp.reads I (.tuple ds) y u he ry
  exact SeqAt.in_tuple_reads r2 r1 (SeqAt.canLay_of_shaped se) (SeqAt.canLay_of_shaped sd) (room_in_tup sd hu) ⟨.bl _, H, I, rfl, q⟩
theorem op_notInTup (hu : X.A.units + 65 < cLine) : OpR X (compareOp .NotIn) (rInT X.K Bool.not) := by
  intro pins s σ H x y v u Q I rx ry h
  obtain ⟨d, ds, hd, he, sd, se, q⟩ := h
  obtain ⟨as, r1⟩ := Dp.reads I d x v hd rx
  obtain ⟨bs, r2⟩ := Dp.reads I (.tuple ds) y u he ry
  exact SeqAt.notIn_tuple_reads r2 r1 (SeqAt.canLay_of_shaped se) (SeqAt.canLay_of_shaped sd) (room_in_tup sd hu) ⟨.bl _, H, I, rfl, q⟩
end
theorem cmp_of {xs ys : List D} {v u : V} (b : Bas bx F H) (c : D.cmpOk (.tup xs) (.tup ys) = true) (rx : RepC bx F H (.tup xs) v) (ry : RepC bx F H (.tup ys) u) :
    ∃ d e, Dp K H v d ∧ Dp K H u e ∧ PySem.W.alike d e = true ∧ d ≠ .none ∧ d.depth ≤ 64 ∧ PySem.W.dataLt d e = D.lts xs ys ∧ PySem.W.dataLt e d = D.lts ys xs := by
  unfold D.cmpOk at c
  rw [Bool.and_eq_true, Bool.and_eq_true] at c
  obtain ⟨⟨ha, fx⟩, fy⟩ := c
  obtain ⟨d1, _⟩ := repC_dp (K := K) b fx rx
  obtain ⟨d2, _⟩ := repC_dp (K := K) b fy ry
  refine ⟨_, _, d1, d2, toP_alike _ _ ha, (fun z => by simp [D.toP] at z), Nat.le_trans (toP_depth 50 _ fx) (by decide), ?_, ?_⟩
  · rw [toP_lt 50 _ _ fx fy ha]; simp only [D.lt]
  · rw [toP_lt 50 _ _ fy fx (alike_symm _ _ ha)]; simp only [D.lt]
theorem sub_found (a b : List Nat) : (!(Builtin.Str.occurrences (mkS b) (mkS a) 0 (mkS b).length 1).isEmpty) = subS a b := by
  rw [Bool.eq_iff_iff, PySem.StrLaws.found_iff]
  unfold subS
  rw [List.any_eq_true]
  constructor
  · rintro ⟨i, h1, h2⟩
    rw [mkS_len, mkS_len] at h1
    refine ⟨i, List.mem_range.mpr (by omega), ?_⟩
    rw [PySem.StrLaws.subAt_eq, mkS_tl, mkS_tl, mkS_len] at h2
    exact decide_eq_true (by simpa using h2)
  · rintro ⟨i, h1, h2⟩
    have h2 := of_decide_eq_true h2
    refine ⟨i, ?_, ?_⟩
    · rw [mkS_len, mkS_len]
      have := congrArg List.length h2
      rw [List.length_take, List.length_drop] at this
      have := List.mem_range.mp h1
      omega
    · rw [PySem.StrLaws.subAt_eq, mkS_tl, mkS_tl, mkS_len]
      simpa using h2
theorem ok_cmp {op : CmpOp} {x y : D} {v u : V} {Q : D → Prop} {Q' : VK} (hu : X.A.units + 65 < cLine) (b : Bas bx F H) (h : dCmp op x y Q) (rx : RepC bx F H x v) (ry : RepC bx F H y u)
    (k : ∀ d w F' H', Q d → Nxt bx F H F' H' → Rep bx F' d w → Q' w H') : wOp X (compareOp op) v u H Q' := by
  have hu' : X.A.units + 64 < cLine := by omega
  have kb : ∀ c : Bool, Q (.bl c) → Q' (.bl c) H := fun c q => k _ _ _ _ q (Nxt.refl b) rfl
  cases op
  · -- ==
    obtain ⟨⟨fx, fy⟩, h⟩ : (D.fits 50 x = true ∧ D.fits 50 y = true) ∧ Q (.bl (D.eq x y)) := by cases x <;> exact h
    obtain ⟨d1, s1⟩ := repC_dp (K := X.K) b fx rx
    obtain ⟨d2, s2⟩ := repC_dp (K := X.K) b fy ry
    exact wOp_of (op_eqD hu') ⟨_, _, d1, d2, s1, s2, by rw [toP_eqv 50 x y fx fy]; exact kb _ h⟩
  · obtain ⟨⟨fx, fy⟩, h⟩ : (D.fits 50 x = true ∧ D.fits 50 y = true) ∧ Q (.bl (!D.eq x y)) := by cases x <;> exact h
    obtain ⟨d1, s1⟩ := repC_dp (K := X.K) b fx rx
    obtain ⟨d2, s2⟩ := repC_dp (K := X.K) b fy ry
    exact wOp_of (op_neD hu') ⟨_, _, d1, d2, s1, s2, by rw [toP_eqv 50 x y fx fy]; exact kb _ h⟩
  · -- <
    cases x <;> cases y <;> first | (exfalso; exact h) | skip
    · rename_i i j
      cases rx; cases ry
      exact wOp_of op_lt ⟨i, j, rfl, rfl, kb _ h⟩
    · rename_i s t
      obtain ⟨rfl, _⟩ := rx
      obtain ⟨rfl, _⟩ := ry
      refine wOp_of op_lt_str ⟨_, _, rfl, rfl, ?_⟩
      rw [mkS_tl, mkS_tl, ltS_dec]
      exact kb _ h
    · rename_i xs ys
      obtain ⟨c, h⟩ : D.cmpOk (.tup xs) (.tup ys) = true ∧ Q (.bl (D.lts xs ys)) := h
      obtain ⟨d, e, d1, d2, ha, hn, hD, e1, e2⟩ := cmp_of (K := X.K) b c rx ry
      exact wOp_of (op_ltDat hu') ⟨d, e, d1, d2, ha, hn, hD, by dsimp only; first | (rw [e1]; exact kb _ h) | (rw [e2]; exact kb _ h)⟩
  · cases x <;> cases y <;> first | (exfalso; exact h) | skip
    · rename_i i j
      cases rx; cases ry
      exact wOp_of op_le ⟨i, j, rfl, rfl, kb _ h⟩
    · rename_i s t
      obtain ⟨rfl, _⟩ := rx
      obtain ⟨rfl, _⟩ := ry
      refine wOp_of op_le_str ⟨_, _, rfl, rfl, ?_⟩
      rw [mkS_tl, mkS_tl, ltS_dec]
      exact kb _ h
    · rename_i xs ys
      obtain ⟨c, h⟩ : D.cmpOk (.tup xs) (.tup ys) = true ∧ Q (.bl (!D.lts ys xs)) := h
      obtain ⟨d, e, d1, d2, ha, hn, hD, e1, e2⟩ := cmp_of (K := X.K) b c rx ry
      exact wOp_of (op_leDat hu') ⟨d, e, d1, d2, ha, hn, hD, by dsimp only; first | (rw [e1]; exact kb _ h) | (rw [e2]; exact kb _ h)⟩
  · cases x <;> cases y <;> first | (exfalso; exact h) | skip
    · rename_i i j
      cases rx; cases ry
      exact wOp_of op_gt ⟨i, j, rfl, rfl, kb _ h⟩
    · rename_i s t
      obtain ⟨rfl, _⟩ := rx
      obtain ⟨rfl, _⟩ := ry
      refine wOp_of op_gt_str ⟨_, _, rfl, rfl, ?_⟩
      rw [mkS_tl, mkS_tl, ltS_dec]
      exact kb _ h
    · rename_i xs ys
      obtain ⟨c, h⟩ : D.cmpOk (.tup xs) (.tup ys) = true ∧ Q (.bl (D.lts ys xs)) := h
      obtain ⟨d, e, d1, d2, ha, hn, hD, e1, e2⟩ := cmp_of (K := X.K) b c rx ry
      exact wOp_of (op_gtDat hu') ⟨d, e, d1, d2, ha, hn, hD, by dsimp only; first | (rw [e1]; exact kb _ h) | (rw [e2]; exact kb _ h)⟩
  · cases x <;> cases y <;> first | (exfalso; exact h) | skip
    · rename_i i j
      cases rx; cases ry
      exact wOp_of op_ge ⟨i, j, rfl, rfl, kb _ h⟩
    · rename_i s t
      obtain ⟨rfl, _⟩ := rx
      obtain ⟨rfl, _⟩ := ry
      refine wOp_of op_ge_str ⟨_, _, rfl, rfl, ?_⟩
      rw [mkS_tl, mkS_tl, ltS_dec]
      exact kb _ h
    · rename_i xs ys
      obtain ⟨c, h⟩ : D.cmpOk (.tup xs) (.tup ys) = true ∧ Q (.bl (!D.lts xs ys)) := h
      obtain ⟨d, e, d1, d2, ha, hn, hD, e1, e2⟩ := cmp_of (K := X.K) b c rx ry
      exact wOp_of (op_geDat hu') ⟨d, e, d1, d2, ha, hn, hD, by dsimp only; first | (rw [e1]; exact kb _ h) | (rw [e2]; exact kb _ h)⟩
  · -- is
    cases y with
    | non =>
      have h : Q (.bl (isNonD x)) := by cases x <;> exact h
      cases ry
      refine wOp_of op_isN ⟨rfl, ?_⟩
      have : decide (v = .non) = (isNonD x) := by
        cases x <;> simp only [RepC, Rep] at rx
        · subst rx; rfl
        · subst rx; rfl
        · subst rx; rfl
        · obtain ⟨rfl, _⟩ := rx; rfl
        · obtain ⟨a, xs, rfl, _⟩ := rx; rfl
        · obtain ⟨a, xs, rfl, _⟩ := rx; rfl
        · obtain ⟨a, xs, rfl, _⟩ := rx; rfl
        · obtain ⟨a, r, _, rfl, _⟩ := rx; rfl
      rw [this]; exact kb _ h
    | bl c =>
      cases x <;> first | (exfalso; exact h) | skip
      cases rx; cases ry
      exact wOp_of op_isBl ⟨_, _, rfl, rfl, kb _ h⟩
    | _ => cases x <;> exact h.elim
  · cases y with
    | non =>
      have h : Q (.bl (!isNonD x)) := by cases x <;> exact h
      cases ry
      refine wOp_of op_notN ⟨rfl, ?_⟩
      have : (!decide (v = .non)) = (!isNonD x) := by
        cases x <;> simp only [RepC, Rep] at rx
        · subst rx; rfl
        · subst rx; rfl
        · subst rx; rfl
        · obtain ⟨rfl, _⟩ := rx; rfl
        · obtain ⟨a, xs, rfl, _⟩ := rx; rfl
        · obtain ⟨a, xs, rfl, _⟩ := rx; rfl
        · obtain ⟨a, xs, rfl, _⟩ := rx; rfl
        · obtain ⟨a, r, _, rfl, _⟩ := rx; rfl
      rw [this]; exact kb _ h
    | bl c =>
      cases x <;> first | (exfalso; exact h) | skip
      cases rx; cases ry
      exact wOp_of op_notBl ⟨_, _, rfl, rfl, kb _ h⟩
    | _ => cases x <;> exact h.elim
  · -- in
    cases y with
    | lst ds =>
      obtain ⟨⟨fx, fy⟩, h⟩ : (D.fits 50 x = true ∧ D.fits 50 (.lst ds) = true) ∧ Q (.bl (inD x ds)) := by cases x <;> exact h
      obtain ⟨d1, s1⟩ := repC_dp (K := X.K) b fx rx
      obtain ⟨d2, s2⟩ := repC_dp (K := X.K) b fy ry
      refine wOp_of (op_inD hu) ⟨_, _, d1, by simpa only [D.toP] using d2, s1, by simpa only [D.toP] using s2, ?_⟩
      rw [any_eqv (by unfold D.fits at fy; exact fy) fx]
      exact kb _ h
    | tup ds =>
      obtain ⟨⟨fx, fy⟩, h⟩ : (D.fits 50 x = true ∧ D.fits 50 (.tup ds) = true) ∧ Q (.bl (inD x ds)) := by cases x <;> exact h
      obtain ⟨d1, s1⟩ := repC_dp (K := X.K) b fx rx
      obtain ⟨d2, s2⟩ := repC_dp (K := X.K) b fy ry
      refine wOp_of (op_inTup hu) ⟨_, _, d1, by simpa only [D.toP] using d2, s1, by simpa only [D.toP] using s2, ?_⟩
      rw [any_eqv (by unfold D.fits at fy; exact fy) fx]
      exact kb _ h
    | str t =>
      cases x <;> first | (exfalso; exact h) | skip
      obtain ⟨rfl, _⟩ := rx
      obtain ⟨rfl, _⟩ := ry
      refine wOp_of op_in_str ⟨_, _, rfl, rfl, ?_⟩
      rw [sub_found]
      exact kb _ h
    | _ => cases x <;> exact h.elim
  · cases y with
    | lst ds =>
      obtain ⟨⟨fx, fy⟩, h⟩ : (D.fits 50 x = true ∧ D.fits 50 (.lst ds) = true) ∧ Q (.bl (!inD x ds)) := by cases x <;> exact h
      obtain ⟨d1, s1⟩ := repC_dp (K := X.K) b fx rx
      obtain ⟨d2, s2⟩ := repC_dp (K := X.K) b fy ry
      refine wOp_of (op_notInD hu) ⟨_, _, d1, by simpa only [D.toP] using d2, s1, by simpa only [D.toP] using s2, ?_⟩
      rw [any_eqv (by unfold D.fits at fy; exact fy) fx]
      exact kb _ h
    | tup ds =>
      obtain ⟨⟨fx, fy⟩, h⟩ : (D.fits 50 x = true ∧ D.fits 50 (.tup ds) = true) ∧ Q (.bl (!inD x ds)) := by cases x <;> exact h
      obtain ⟨d1, s1⟩ := repC_dp (K := X.K) b fx rx
      obtain ⟨d2, s2⟩ := repC_dp (K := X.K) b fy ry
      refine wOp_of (op_notInTup hu) ⟨_, _, d1, by simpa only [D.toP] using d2, s1, by simpa only [D.toP] using s2, ?_⟩
      rw [any_eqv (by unfold D.fits at fy; exact fy) fx]
      exact kb _ h
    | str t =>
      cases x <;> first | (exfalso; exact h) | skip
      obtain ⟨rfl, _⟩ := rx
      obtain ⟨rfl, _⟩ := ry
      refine wOp_of op_notin_str ⟨_, _, rfl, rfl, ?_⟩
      rw [sub_found]
      exact kb _ h
    | _ => cases x <;> exact h.elim

/-! ### subscripts, slices -/
theorem atI_rep {ds : List D} {xs : List V} {i : Int} {d : D} (h : RepL bx F ds xs) (e : atI ds i = some d) : ∃ x, atI xs i = some x ∧ Rep bx F d x := by
  unfold atI at e ⊢
  rw [h.length]
  cases q : ixN ds.length i with
  | none => rw [q] at e; cases e
  | some j =>
    rw [q] at e
    exact h.get (i := j) e
theorem rep_ints : ∀ l : List Int, RepL bx F (l.map D.int) (l.map V.int)
  | [] => rfl
  | x :: r => by simp only [List.map_cons, RepL]; exact ⟨_, _, rfl, rfl, rep_ints r⟩
theorem ix_dict (hu : X.A.units + 1 < cLine) : IxR X (fun x y H Q => ∃ a v, x = .ref a ∧ DGet H a y (some v) ∧ Q v H) := by
  intro value slice pins s σ H x y v u Q I rx ry h hs
  obtain ⟨a, w, rfl, g, q⟩ := h
  obtain rfl : v = Value.ref a := rx
  exact tail_any (dict_typeIs I g) PySem.F.slot_dict_getitem.lookup (d_getItem hu I g ry fun w' s3 I3 rw' => ⟨w, H, I3, rw', q⟩) hs
theorem set_dict (hu : X.A.units + 1 < cLine) : PSet X (fun o i v H Q => ∃ a H', o = .ref a ∧ DPut H a i v H' ∧ Q H') := by
  intro pins s σ H o i v ov iv u Q I ro ri rv h
  obtain ⟨a, H', rfl, g, q⟩ := h
  obtain rfl : ov = Value.ref a := ro
  exact d_setItem hu I g ri rv fun s4 I4 => ⟨H', I4, q⟩
theorem mk_row : mkS [114, 111, 119] = ("row" : Str) := by decide +kernel
theorem mk_at : mkS [97, 116] = ("at" : Str) := by decide +kernel
theorem val_row {x y : V} : valV [((Sum.inr ("row" : Str) : Key), x), (Sum.inr ("at" : Str), y)] (Sum.inr ("row" : Str)) = some x := valV_pos rfl
theorem val_at {x y : V} : valV [((Sum.inr ("row" : Str) : Key), x), (Sum.inr ("at" : Str), y)] (Sum.inr ("at" : Str)) = some y := by
  rw [valV_neg (by intro h; exact absurd (Sum.inr.inj h) (by decide +kernel))]
  exact valV_pos rfl
theorem put_at {x y z : V} : putK [((Sum.inr ("row" : Str) : Key), x), (Sum.inr ("at" : Str), y)] (Sum.inr ("at" : Str)) z = [(Sum.inr ("row" : Str), x), (Sum.inr ("at" : Str), z)] := by
  have h1 : ¬ ((Sum.inr ("row" : Str) : Key) = Sum.inr ("at" : Str)) := by intro h; exact absurd (Sum.inr.inj h) (by decide +kernel)
  simp [putK, h1]
theorem ok_ix {x y : D} {v u : V} {Q : D → Prop} {Q' : VK} (hu : X.A.units + 65 < cLine) (b : Bas bx F H) (h : dIx x y Q) (rx : RepC bx F H x v) (ry : Rep bx F y u)
    (k : ∀ d w F' H', Q d → Nxt bx F H F' H' → Rep bx F' d w → Q' w H') : wIx X v u H Q' := by
  cases x <;> cases y <;> first | (exfalso; exact h) | skip
  · rename_i s i
    obtain ⟨rfl, ox⟩ := rx
    cases ry
    simp only [dIx, getO] at h
    split at h
    · rename_i c hc
      have e : atI (mkS s).cps.toList i = some c := by rw [mkS_tl]; exact hc
      refine wIx_of ix_str ⟨mkS s, i, c, rfl, rfl, by rw [mkS_len]; exact lim_line ox.1, e, ?_⟩
      refine k (.str [c]) _ _ _ h (Nxt.refl b) ⟨rfl, okS_sub ox (fun c' hc' => ?_) (by show 1 ≤ LIM; decide)⟩
      obtain ⟨j, _, h2, _⟩ := atI_get hc
      rw [List.mem_singleton.mp hc']
      exact List.mem_of_getElem? h2
    · exact h.elim
  · rename_i ds i
    obtain ⟨a, xs, rfl, nb, h1, h2, h3⟩ := rx
    cases ry
    simp only [dIx, getO] at h
    split at h
    · rename_i d hd
      obtain ⟨w, g1, g2⟩ := atI_rep h3 hd
      exact wIx_of ix_list ⟨a, xs, i, w, rfl, rfl, sq_of h1, g1, k _ _ _ _ h (Nxt.refl b) g2⟩
    · exact h.elim
  · rename_i ds i
    simp only [RepC, Rep] at rx
    obtain ⟨a, xs, rfl, h1, h2, h3⟩ := rx
    cases ry
    simp only [dIx, getO] at h
    split at h
    · rename_i d hd
      obtain ⟨w, g1, g2⟩ := atI_rep h3 hd
      exact wIx_of ix_tup ⟨a, xs, i, w, rfl, rfl, st_of (b.sub _ _ h1), g1, k _ _ _ _ h (Nxt.refl b) g2⟩
    · exact h.elim
  · rename_i ms s
    simp only [RepC, Rep] at rx
    obtain ⟨a, rr, hb, rfl, hms⟩ := rx
    obtain ⟨rfl, _⟩ := ry
    obtain ⟨h0, ns, m, h1, h2, h3, h4, h5⟩ := b.box a rr hb
    simp only [dIx] at h
    split at h
    · rename_i e
      have e := of_decide_eq_true e
      subst e
      refine wIx_of (ix_dict (by omega)) ⟨a, .ref rr, rfl, ?_, ?_⟩
      · rw [mk_row, ← val_row]; exact DGet.k (k := Sum.inr ("row" : Str)) h1
      · have hl : (ms.map V.int).length = (ns.map V.int).length := by rw [h2] at hms; injection hms with hms; injection hms with hms; rw [hms]
        rw [List.length_map, List.length_map] at hl
        exact k _ _ _ _ h (Nxt.refl b) (by simp only [Rep]; exact ⟨rr, _, rfl, hms, by rw [List.length_map]; omega, rep_ints ms⟩)
    · split at h
      · rename_i e
        have e := of_decide_eq_true e
        subst e
        refine wIx_of (ix_dict (by omega)) ⟨a, .int m, rfl, ?_, ?_⟩
        · rw [mk_at, ← val_at]; exact DGet.k (k := Sum.inr ("at" : Str)) h1
        · exact k _ _ _ _ (h m h5) (Nxt.refl b) rfl
      · exact h.elim
theorem cutL_len {α : Type} (xs : List α) (lo hi : Option Int) : (cutL xs lo hi).length ≤ xs.length := by
  unfold cutL
  rw [List.length_take, List.length_drop]; omega
theorem cutL_mem {α : Type} {xs : List α} {lo hi : Option Int} {c : α} (h : c ∈ cutL xs lo hi) : c ∈ xs := List.mem_of_mem_drop (List.mem_of_mem_take h)
theorem cutS_mk (s : List Nat) (lo hi : Option Int) : cutS (mkS s) lo hi = mkS (cutL s lo hi) := by
  unfold cutS cutL
  rw [mkS_tl, mkS_len]
  rfl
theorem ok_sl {x : D} {v : V} {lo hi : Option Int} {Q : D → Prop} {Q' : VK} (b : Bas bx F H) (h : dSl x lo hi Q) (rx : RepC bx F H x v)
    (k : ∀ d w F' H', Q d → Nxt bx F H F' H' → RepN bx H F' H' d w → Q' w H') : wSl X v lo hi H Q' := by
  cases x <;> first | (exfalso; exact h) | skip
  · rename_i s
    obtain ⟨rfl, ox⟩ := rx
    refine wSl_of sl_str ⟨mkS s, rfl, by rw [mkS_len]; exact lim_line ox.1, ?_⟩
    rw [cutS_mk]
    exact k _ _ _ _ h (Nxt.refl b) ⟨rfl, okS_sub ox (fun c hc => cutL_mem hc) (Nat.le_trans (cutL_len _ _ _) ox.1)⟩
  · rename_i ds
    obtain ⟨a, xs, rfl, nb, h1, h2, h3⟩ := rx
    refine wSl_of sl_list ⟨a, xs, rfl, sq_of h1, fun p hp => ?_⟩
    have e : RepL bx F (cutL ds lo hi) (cutV xs lo hi) := by
      unfold cutL cutV
      rw [h3.length]
      exact (h3.drop _).take _
    obtain ⟨n, r⟩ := new_lst (Nxt.refl b) hp (ds := cutL ds lo hi) (Nat.le_trans (cutL_len _ _ _) h2) e
    exact k _ _ _ _ h n r
end
end Py
set_option maxHeartbeats 1000000
/-! Expressions and tests: the evaluators are sound. -/
namespace Py
open PySem PySem.Spec PyProof.Rows L2
abbrev BX := Option (Addr × Addr)
def OkE (X : Cx) (bx : BX) (e : Expr) (σ : L2.St) (F H : Hp) (Q : D → Prop) : Prop := ∀ Q' : VK, (∀ d v F' H', Q d → Nxt bx F H F' H' → Rep bx F' d v → Q' v H') → wE X e σ H Q'
def OkN (X : Cx) (bx : BX) (e : Expr) (σ : L2.St) (F H : Hp) (Q : D → Prop) : Prop := ∀ Q' : VK, (∀ d v F' H', Q d → Nxt bx F H F' H' → RepN bx H F' H' d v → Q' v H') → wE X e σ H Q'
def OkC (X : Cx) (bx : BX) (e : Expr) (σ : L2.St) (F H : Hp) (Q : D → Prop) : Prop := ∀ Q' : VK, (∀ d v F' H', Q d → Nxt bx F H F' H' → RepC bx F' H' d v → Q' v H') → wE X e σ H Q'
def OkT (X : Cx) (bx : BX) (e : Expr) (σ : L2.St) (F H : Hp) (Q : Bool → Prop) : Prop := ∀ Q' : Bool → Hp → Prop, (∀ b F' H', Q b → Nxt bx F H F' H' → Q' b H') → wT X e σ H Q'
def OkO (X : Cx) (bx : BX) (e : Option Expr) (σ : L2.St) (F H : Hp) (Q : Option Int → Prop) : Prop := ∀ Q' : Option Int → Hp → Prop, (∀ b F' H', Q b → Nxt bx F H F' H' → Q' b H') → wO X e σ H Q'
def OkAs (X : Cx) (bx : BX) (es : List Expr) (σ : L2.St) (F H : Hp) (Q : List D → Prop) : Prop := ∀ Q' : List V → Hp → Prop, (∀ ds vs F' H', Q ds → ds.length = es.length → Nxt bx F H F' H' → RepL bx F' ds vs → Q' vs H') → wA X es σ H Q'
def RepCL (bx : BX) (F H : Hp) : List D → List V → Prop
  | [], vs => vs = []
  | d :: ds, vs => ∃ x r, vs = x :: r ∧ RepC bx F H d x ∧ RepCL bx F H ds r
def OkCs (X : Cx) (bx : BX) (es : List Expr) (σ : L2.St) (F H : Hp) (Q : List D → Prop) : Prop := ∀ Q' : List V → Hp → Prop, (∀ ds vs F' H', Q ds → ds.length = es.length → Nxt bx F H F' H' → RepCL bx F' H' ds vs → Q' vs H') → wA X es σ H Q'
/-- what is known where an expression is asked -/
structure At (C : Ctx) (X : Cx) (W : WX) (bx : BX) (F H : Hp) (Z : Str → Prop) (es : Sls) (σ : L2.St) : Prop where
  c : Conf C X W
  b : Bas bx F H
  w : Wish X bx W F H Z
  s : SlsE bx F H es σ
structure SndE (r : Evs) : Prop where
  E : ∀ {C e es Q Z X W bx F H σ}, r.E C e es Q Z → At C X W bx F H Z es σ → OkE X bx e σ F H Q
  T : ∀ {C e es Q Z X W bx F H σ}, r.T C e es Q Z → At C X W bx F H Z es σ → OkT X bx e σ F H Q
section
variable {r : Evs} {C : Ctx} {X : Cx} {W : WX} {bx : BX} {F H F' H' : Hp} {Z : Str → Prop} {es : Sls} {σ : L2.St} {e : Expr} {Q : D → Prop}
theorem At.nxt (A : At C X W bx F H Z es σ) (n : Nxt bx F H F' H') : At C X W bx F' H' Z es σ := ⟨A.c, n.bas, A.w.nxt n, A.s.nxt n⟩
theorem OkN.toE (h : OkN X bx e σ F H Q) : OkE X bx e σ F H Q := fun Q' k => h Q' fun d v F' H' q n r => by
  obtain ⟨F2, n2, r2⟩ := r.froz n
  exact k d v F2 H' q n2 r2
theorem OkE.toC (h : OkE X bx e σ F H Q) : OkC X bx e σ F H Q := fun Q' k => h Q' fun d v F' H' q n r => k d v F' H' q n (r.c n.bas)
theorem OkE.mono {Q2 : D → Prop} (h : OkE X bx e σ F H Q) (m : ∀ d, Q d → Q2 d) : OkE X bx e σ F H Q2 := fun Q' k => h Q' fun d v F' H' q => k d v F' H' (m d q)
theorem ifB_of {b : Bool} {P : Prop} (h : ifB b P) : b = true ∧ P := by
  cases b with
  | true => exact ⟨rfl, h⟩
  | false => exact h.elim

/-! ### names -/
theorem ixF_spec {x : Str} : ∀ {N : List Str} {k i : Nat}, ixF N x k = some i → k ≤ i ∧ N[i - k]? = some x
  | [], _, _, h => by cases h
  | y :: r, k, i, h => by
    unfold ixF at h
    split at h
    · rename_i e
      cases h
      exact ⟨Nat.le_refl _, by rw [Nat.sub_self]; exact congrArg some (of_decide_eq_true e)⟩
    · obtain ⟨h1, h2⟩ := ixF_spec h
      refine ⟨by omega, ?_⟩
      rw [show i - k = (i - (k + 1)) + 1 by omega]
      exact h2
theorem ixOf_spec {N : List Str} {x : Str} {i : Nat} (h : ixOf N x = some i) : N[i]? = some x := by
  have := (ixF_spec h).2
  simpa using this
theorem inB_mem {l : List Str} {x : Str} (h : inB l x = true) : x ∈ l := by
  unfold inB at h
  split at h
  · rename_i i e
    exact List.mem_of_getElem? (ixOf_spec e)
  · cases h
theorem vis_of {sc : Scope} {x : Str} (h : visB sc x = true) : Vis sc x := by
  unfold visB at h
  unfold Vis
  split at h <;> first | (rename_i e; rw [e]; simp; done) | cases h
theorem glob_of (c : Conf C X W) {x : Str} (h : globB C.sc x = true) : Gl X x := by
  unfold globB at h
  show X.env.scope.names.lookup x = some .globalImplicit
  rw [c.sc]
  split at h
  · assumption
  · cases h
theorem sl_at {i : Nat} {sl : Sl} (s : SlsE bx F H es σ) (h : es[i]? = some sl) : ∃ o, σ[i]? = some o ∧ SlE bx F H sl o := s.2 i sl h
theorem ok_name {x : Str} {pos : Pos} (A : At C X W bx F H Z es σ) (h : slotIm C x es Q) : OkE X bx (.Name x pos) σ F H Q := fun Q' k => by
  unfold slotIm at h
  split at h
  · rename_i hv
    split at h
    · rename_i i hi
      split at h
      · rename_i d hd
        obtain ⟨o, h1, v, rfl, h2⟩ := sl_at A.s hd
        have hN : X.N[i]? = some x := by rw [A.c.N]; exact ixOf_spec hi
        have hm := A.c.nodb x (List.mem_of_getElem? (ixOf_spec hi))
        exact wE_of (pe_var hN (by rw [A.c.sc]; exact vis_of hv) hm.1 hm.2) ⟨v, h1, k _ _ _ _ h (Nxt.refl A.b) h2⟩
      · exact h.elim
    · exact h.elim
  · split at h
    · rename_i d hg hc
      obtain ⟨hdb, u, v, h1, h2, h3⟩ := A.c.con x d hc
      exact wE_of (pe_glob (glob_of A.c hg) h1 h2 hdb) (k _ _ _ _ h (Nxt.refl A.b) (h3 bx F))
    · exact h.elim
theorem ok_nameC {x : Str} {pos : Pos} (A : At C X W bx F H Z es σ) (h : slotAny C x es Q) : OkC X bx (.Name x pos) σ F H Q := fun Q' k => by
  unfold slotAny at h
  split at h
  · rename_i hv
    split at h
    · rename_i i hi
      have hN : X.N[i]? = some x := by rw [A.c.N]; exact ixOf_spec hi
      have hm := A.c.nodb x (List.mem_of_getElem? (ixOf_spec hi))
      split at h
      · rename_i d hd
        obtain ⟨o, h1, v, rfl, h2⟩ := sl_at A.s hd
        exact wE_of (pe_var hN (by rw [A.c.sc]; exact vis_of hv) hm.1 hm.2) ⟨v, h1, k _ _ _ _ h (Nxt.refl A.b) (h2.c A.b)⟩
      · rename_i d hd
        obtain ⟨o, h1, a, rfl, nb, h3, h4⟩ := sl_at A.s hd
        refine wE_of (pe_var hN (by rw [A.c.sc]; exact vis_of hv) hm.1 hm.2) ⟨_, h1, k _ _ _ _ h (Nxt.refl A.b) ?_⟩
        cases d <;> simp only [OwnR] at h4
        · obtain ⟨xs, g1, g2, g3⟩ := h4
          exact ⟨a, xs, rfl, nb, g1, g2, g3⟩
        · obtain ⟨xs, g1, g2, g3⟩ := h4
          exact ⟨a, xs, rfl, nb, g1, g2, g3⟩
      · exact h.elim
    · exact h.elim
  · split at h
    · rename_i d hg hc
      obtain ⟨hdb, u, v, h1, h2, h3⟩ := A.c.con x d hc
      exact wE_of (pe_glob (glob_of A.c hg) h1 h2 hdb) (k _ _ _ _ h (Nxt.refl A.b) ((h3 bx F).c A.b))
    · exact h.elim
theorem ok_c (S : SndE r) (A : At C X W bx F H Z es σ) (h : evC r C e es Q Z) : OkC X bx e σ F H Q := by
  cases e with
  | Name x pos => exact ok_nameC A h
  | _ => exact (S.E h A).toC

/-! ### arguments -/
theorem star_of {e : Expr} {es : List Expr} {env : PySem.Env} (h : notStar e = true) : starEach (e :: es) env = (false, eval e env) :: starEach es env := by
  cases e <;> first | rfl | (cases h; done)
theorem RepCL.rep (b : Bas bx F H) : ∀ {ds : List D} {vs : List V}, RepL bx F ds vs → RepCL bx F H ds vs
  | [], _, h => h
  | d :: ds, _, h => by
    simp only [RepL] at h
    obtain ⟨x, q, rfl, h2, h3⟩ := h
    exact ⟨x, q, rfl, h2.c b, RepCL.rep b h3⟩
theorem RepCL.froz : ∀ {ds : List D} {vs : List V} {F : Hp}, Bas bx F H → RepCL bx F H ds vs → ∃ F2, Ex F F2 ∧ Bas bx F2 H ∧ RepL bx F2 ds vs ∧ ∀ a xs, F2 a = some (.tup xs) → F a = some (.tup xs)
  | [], _, F, b, h => ⟨F, Ex.refl F, b, h, fun _ _ e => e⟩
  | d :: ds, _, F, b, h => by
    obtain ⟨x, q, rfl, h2, h3⟩ := h
    obtain ⟨F1, e1, b1, r1, t1⟩ := h2.frozT b
    have h3' : RepCL bx F1 H ds q := by
      clear h2 r1
      induction ds generalizing q with
      | nil => exact h3
      | cons d' ds' ih =>
        obtain ⟨x', q', rfl, g2, g3⟩ := h3
        refine ⟨x', q', rfl, ?_, ih _ g3⟩
        cases d' with
        | lst l => obtain ⟨a, xs, k1, nb, k2, k3, k4⟩ := g2; exact ⟨a, xs, k1, nb, k2, k3, RepL.mono e1 _ _ k4⟩
        | dct l => obtain ⟨a, xs, k1, nb, k2, k3, k4⟩ := g2; exact ⟨a, xs, k1, nb, k2, k3, RepK.mono e1 _ _ k4⟩
        | _ => exact Rep.mono e1 _ _ g2
    obtain ⟨F2, e2, b2, r2, t2⟩ := RepCL.froz b1 h3'
    refine ⟨F2, e1.trans e2, b2, ?_, fun a xs e => t1 a xs (t2 a xs e)⟩
    simp only [RepL]
    exact ⟨x, q, rfl, Rep.mono e2 _ _ r1, r2⟩
theorem RepC.nxts {ds : List D} {vs : List V} (n : Nxt bx F H F' H') (h : RepCL bx F H ds vs) : RepCL bx F' H' ds vs := by
  induction ds generalizing vs with
  | nil => exact h
  | cons d ds ih =>
    obtain ⟨x, q, rfl, h2, h3⟩ := h
    exact ⟨x, q, rfl, h2.nxt n, ih h3⟩
theorem ok_as (S : SndE r) : ∀ {args : List Expr} {F H : Hp} {Q : List D → Prop}, At C X W bx F H Z es σ → evAs r C es Z args Q → OkAs X bx args σ F H Q
  | [], F, H, Q, A, h => fun Q' k => wA_of pa_nil (k [] [] F H h rfl (Nxt.refl A.b) rfl)
  | e :: args, F, H, Q, A, h => fun Q' k => by
    obtain ⟨hs, h⟩ := ifB_of h
    refine wA_of (pa_cons pe_w pa_w (star_of hs)) ?_
    refine S.E h A _ fun d v F1 H1 q n1 r1 => ?_
    refine ok_as S (A.nxt n1) q _ fun ds vs F2 H2 q2 l2 n2 r2 => ?_
    refine k (d :: ds) (v :: vs) F2 H2 q2 (by rw [List.length_cons, List.length_cons, l2]) (n1.trans n2) ?_
    simp only [RepL]
    exact ⟨v, vs, rfl, Rep.mono n2.ex _ _ r1, r2⟩
theorem ok_cs (S : SndE r) : ∀ {args : List Expr} {F H : Hp} {Q : List D → Prop}, At C X W bx F H Z es σ → evCs r C es Z args Q → OkCs X bx args σ F H Q
  | [], F, H, Q, A, h => fun Q' k => wA_of pa_nil (k [] [] F H h rfl (Nxt.refl A.b) rfl)
  | e :: args, F, H, Q, A, h => fun Q' k => by
    obtain ⟨hs, h⟩ := ifB_of h
    refine wA_of (pa_cons pe_w pa_w (star_of hs)) ?_
    refine ok_c S A h _ fun d v F1 H1 q n1 r1 => ?_
    refine ok_cs S (A.nxt n1) q _ fun ds vs F2 H2 q2 l2 n2 r2 => ?_
    exact k (d :: ds) (v :: vs) F2 H2 q2 (by rw [List.length_cons, List.length_cons, l2]) (n1.trans n2) ⟨v, vs, rfl, r1.nxt n2, r2⟩
theorem ok_o (S : SndE r) {o : Option Expr} {Q : Option Int → Prop} (A : At C X W bx F H Z es σ) (h : evO r C es Z o Q) : OkO X bx o σ F H Q := fun Q' k => by
  cases o with
  | none => exact wO_of po_none (k _ _ _ h (Nxt.refl A.b))
  | some e =>
    refine wO_of (po_some pe_w) ?_
    refine S.E h A _ fun d v F1 H1 q n1 r1 => ?_
    cases d <;> first | (exfalso; exact q) | skip
    rename_i i
    cases r1
    exact ⟨i, rfl, k _ _ _ q n1⟩

/-! ### calls -/
theorem backs {args : List Expr} {env : PySem.Env} {pos : Pos} (h : args.all notStar = true) : (backTo pos (starEach args env)).any (·.1) = false := by
  induction args with
  | nil => rfl
  | cons e r ih =>
    rw [List.all_cons, Bool.and_eq_true] at h
    rw [star_of h.1]
    show (false || (backTo pos (starEach r env)).any (·.1)) = false
    rw [ih h.2]; rfl
theorem ok_callF {f : Str} {p pos : Pos} {args : List Expr} {n : Nat} {φ : Fn} (S : SndE r) (A : At C X W bx F H Z es σ) (hg : globB C.sc f = true) (hs : args.all notStar = true) (hne : args ≠ []) (hf : C.fns.lookup f = some (n, φ))
    (hl : args.length = n) (h : (match args.any (isOw C es) with
        | true => evCs r C es Z args fun ds => φ ds (fun d => d.pur = true ∧ Q d) Z
        | false => evAs r C es Z args fun ds => φ ds Q Z)) : OkE X bx (.Call (.Name f p) args [] pos) σ F H Q := fun Q' k => by
  obtain ⟨mono, hdb, kk, fa, fd, ps, Fn, hr, hm, hk, hb⟩ := A.c.fns f n φ hf
  obtain ⟨e0, rest, rfl⟩ : ∃ e0 rest, args = e0 :: rest := by
    cases args with
    | nil => exact absurd rfl hne
    | cons a b => exact ⟨a, b, rfl⟩
  rw [List.all_cons, Bool.and_eq_true] at hs
  have hx : Passes (L2.CX X.prog X.w) X (fun cls d H => ∀ σ, W cls d σ H) := passes_call A.c.takes fun cls d σ H q => q σ
  refine wE_of (pe_call Fn hr (glob_of A.c hg) hm hk hb .nil hx pa_w hdb (star_of hs.1) (backs hs.2)) ?_
  show wA X (e0 :: rest) σ H fun vs H1 => spW X.mg n φ (vs ++ []) H1 Q' _
  cases ho : (e0 :: rest).any (isOw C es) with
  | false =>
    rw [ho] at h
    refine ok_as S A h _ fun ds vs F1 H1 q l1 n1 r1 => ?_
    rw [List.append_nil]
    have hlen : ds.length = n := l1.trans hl
    exact ⟨bx, F1, ds, n1.bas, r1, hlen, mono ds _ _ _ _ (fun d q v F2 H2 n2 r2 => k d v F2 H2 q (n1.trans n2) r2) (fun x z cls F2 H2 hmx n2 σ => A.w x cls F2 H2 σ z hmx (n1.trans n2)) q⟩
  | true =>
    rw [ho] at h
    refine ok_cs S A h _ fun ds vs F1 H1 q l1 n1 r1 => ?_
    rw [List.append_nil]
    have hlen : ds.length = n := l1.trans hl
    obtain ⟨F2, e2, b2, r2, t2⟩ := RepCL.froz n1.bas r1
    -- behind the call: the tuples that are new stay frozen, the lists that were owned don't
    have back : ∀ {F3 H3 : Hp}, Nxt bx F2 H1 F3 H3 → ∃ F4, Nxt bx F1 H1 F4 H3 ∧ ∀ a xs, F3 a = some (.tup xs) → F4 a = some (.tup xs) := fun {F3 H3} n3 => by
      have key : ∀ a, (∃ xs, F3 a = some (.tup xs)) ∨ ∀ xs, F3 a ≠ some (.tup xs) := fun a => by
        by_cases z : ∃ xs, F3 a = some (.tup xs)
        · exact .inl z
        · exact .inr fun xs e => z ⟨xs, e⟩
      let F4 : Hp := fun a => match F3 a with
        | some (.tup xs) => some (.tup xs)
        | _ => F1 a
      have at_t : ∀ a xs, F3 a = some (.tup xs) → F4 a = some (.tup xs) := fun a xs e => by show (match F3 a with | some (HO.tup xs) => some (HO.tup xs) | _ => F1 a) = _; rw [e]
      have at_o : ∀ a, (∀ xs, F3 a ≠ some (.tup xs)) → F4 a = F1 a := fun a e => by
        show (match F3 a with | some (HO.tup xs) => some (HO.tup xs) | _ => F1 a) = _
        split
        · rename_i xs z; exact absurd z (e xs)
        · rfl
      have up : Ex F1 F4 := fun a o e => by
        rcases key a with ⟨xs, z⟩ | z
        · have := n3.ex a o (e2 a o e)
          rw [z] at this
          rw [at_t a xs z]; exact this
        · rw [at_o a z]; exact e
      refine ⟨F4, ⟨up, n3.keep, fun a h => ?_, fun a o e => ?_, fun b rr e => ?_⟩, at_t⟩
      · rcases key a with ⟨xs, z⟩ | z
        · rcases n3.new a (by rw [z]; exact fun y => nomatch y) with w | w
          · refine .inl ?_
            cases q2 : F2 a with
            | none => exact absurd q2 w
            | some o =>
              have := n3.ex a o q2
              rw [z] at this
              cases this
              rw [t2 a xs q2]; exact fun y => nomatch y
          · exact .inr w
        · rw [at_o a z] at h; exact .inl h
      · rcases key a with ⟨xs, z⟩ | z
        · rw [at_t a xs z] at e; cases e; exact n3.bas.sub a _ z
        · rw [at_o a z] at e
          exact n3.bas.sub a o (n3.ex a o (e2 a o e))
      · obtain ⟨g1, ns, kk, g2, g3, g4⟩ := n3.bas.box b rr e
        obtain ⟨f1, ns', kk', f2, f3, f4⟩ := n1.bas.box b rr e
        refine ⟨by rw [at_o b fun xs y => by rw [g1] at y; cases y]; exact f1, ns, kk, g2, ?_, g4⟩
        have : F3 rr = some (.lst (ns'.map V.int)) := n3.ex _ _ (e2 _ _ f3)
        rw [at_o rr fun xs y => by rw [this] at y; cases y]
        rw [g3] at this
        rw [f3, this]
    refine ⟨bx, F2, ds, b2, r2, hlen, mono ds _ _ _ _ (fun d q v F3 H3 n3 r3 => ?_) (fun x z cls F3 H3 hmx n3 σ => ?_) q⟩
    · obtain ⟨F4, n4, t4⟩ := back n3
      exact k d v F4 H3 q.2 (n1.trans n4) (Rep.pure t4 d v q.1 r3)
    · obtain ⟨F4, n4, t4⟩ := back n3
      exact A.w x cls F4 H3 σ z hmx (n1.trans n4)
end
end Py
set_option maxHeartbeats 1000000
/-! Built-in functions, join, what is walked, comprehensions; the step. -/
namespace Py
open PySem PySem.Spec PyProof.Rows L2

/-! ### sorting -/
theorem insB_perm {α : Type} (le : α → α → Bool) (x : α) : ∀ l : List α, (insB le x l).Perm (x :: l)
  | [] => List.Perm.refl _
  | y :: r => by
    unfold insB
    split
    · exact List.Perm.refl _
    · exact (List.Perm.cons y (insB_perm le x r)).trans (List.Perm.swap x y r)
theorem isort_perm {α : Type} (le : α → α → Bool) : ∀ l : List α, (isort le l).Perm l
  | [] => List.Perm.refl _
  | x :: r => (insB_perm le x _).trans (List.Perm.cons x (isort_perm le r))
theorem insB_sorted {α : Type} {le : α → α → Bool} (tot : ∀ a b, le a b = true ∨ le b a = true) (tr : ∀ a b c, le a b = true → le b c = true → le a c = true) (x : α) :
    ∀ l : List α, l.Pairwise (fun a b => le a b = true) → (insB le x l).Pairwise (fun a b => le a b = true)
  | [], _ => by simp [insB]
  | y :: r, h => by
    rw [List.pairwise_cons] at h
    unfold insB
    split
    · rename_i e
      rw [List.pairwise_cons]
      refine ⟨fun z hz => ?_, List.pairwise_cons.mpr h⟩
      rcases List.mem_cons.mp hz with rfl | hz
      · exact e
      · exact tr _ _ _ e (h.1 z hz)
    · rename_i e
      rw [List.pairwise_cons]
      refine ⟨fun z hz => ?_, insB_sorted tot tr x r h.2⟩
      rcases List.mem_cons.mp ((insB_perm le x r).mem_iff.mp hz) with rfl | hz
      · rcases tot z y with q | q
        · rw [q] at e; cases e
        · exact q
      · exact h.1 z hz
theorem isort_sorted {α : Type} {le : α → α → Bool} (tot : ∀ a b, le a b = true ∨ le b a = true) (tr : ∀ a b c, le a b = true → le b c = true → le a c = true) : ∀ l : List α, (isort le l).Pairwise (fun a b => le a b = true)
  | [] => List.Pairwise.nil
  | x :: r => insB_sorted tot tr x _ (isort_sorted tot tr r)
/-- a sorted permutation is the one -/
theorem isort_unique {α : Type} {le : α → α → Bool} (tot : ∀ a b, le a b = true ∨ le b a = true) (tr : ∀ a b c, le a b = true → le b c = true → le a c = true) (anti : ∀ a b, le a b = true → le b a = true → a = b) {l l' : List α}
    (hp : l'.Perm l) (hs : l'.Pairwise (fun a b => le a b = true)) : l' = isort le l :=
  List.Perm.eq_of_pairwise (fun a b _ _ => anti a b) hs (isort_sorted tot tr l) (hp.trans (isort_perm le l).symm)
theorem leI_tot (a b : Int) : leI a b = true ∨ leI b a = true := by simp only [leI, decide_eq_true_eq]; omega
theorem leI_tr (a b c : Int) (h : leI a b = true) (g : leI b c = true) : leI a c = true := by simp only [leI, decide_eq_true_eq] at *; omega
theorem leI_anti (a b : Int) (h : leI a b = true) (g : leI b a = true) : a = b := by simp only [leI, decide_eq_true_eq] at *; omega
theorem ltS_irr : ∀ a : List Nat, ltS a a = false
  | [] => rfl
  | x :: r => by simp [ltS, ltS_irr r]
theorem ltS_tri : ∀ a b : List Nat, ltS a b = true ∨ a = b ∨ ltS b a = true
  | [], [] => .inr (.inl rfl)
  | [], _ :: _ => .inl rfl
  | _ :: _, [] => .inr (.inr rfl)
  | x :: r, y :: q => by
    simp only [ltS, Bool.or_eq_true, Bool.and_eq_true, decide_eq_true_eq, List.cons.injEq]
    rcases Nat.lt_trichotomy x y with h | h | h
    · exact .inl (.inl h)
    · subst h
      rcases ltS_tri r q with g | g | g
      · exact .inl (.inr ⟨rfl, g⟩)
      · exact .inr (.inl ⟨rfl, g⟩)
      · exact .inr (.inr (.inr ⟨rfl, g⟩))
    · exact .inr (.inr (.inl h))
theorem ltS_trans : ∀ {a b c : List Nat}, ltS a b = true → ltS b c = true → ltS a c = true
  | [], [], _, h, _ => by cases h
  | [], _ :: _, [], _, g => by cases g
  | [], _ :: _, _ :: _, _, _ => rfl
  | _ :: _, [], _, h, _ => by cases h
  | _ :: _, _ :: _, [], _, g => by cases g
  | x :: r, y :: q, z :: p, h, g => by
    simp only [ltS, Bool.or_eq_true, Bool.and_eq_true, decide_eq_true_eq] at *
    rcases h with h | ⟨rfl, h⟩
    · rcases g with g | ⟨rfl, g⟩
      · exact .inl (by omega)
      · exact .inl h
    · rcases g with g | ⟨rfl, g⟩
      · exact .inl g
      · exact .inr ⟨rfl, ltS_trans h g⟩
theorem ltS_asymm {a b : List Nat} (h : ltS a b = true) : ltS b a = false := by
  cases e : ltS b a with
  | false => rfl
  | true => have := ltS_trans h e; rw [ltS_irr] at this; cases this
theorem leS_tot (a b : List Nat) : leS a b = true ∨ leS b a = true := by
  simp only [leS, Bool.not_eq_true']
  cases e : ltS b a with
  | false => exact .inl rfl
  | true => exact .inr (ltS_asymm e)
theorem leS_anti (a b : List Nat) (h : leS a b = true) (g : leS b a = true) : a = b := by
  simp only [leS, Bool.not_eq_true'] at *
  rcases ltS_tri a b with q | q | q
  · rw [g] at q; cases q
  · exact q
  · rw [h] at q; cases q
theorem leS_tr (a b c : List Nat) (h : leS a b = true) (g : leS b c = true) : leS a c = true := by
  simp only [leS, Bool.not_eq_true'] at *
  cases e : ltS c a with
  | false => rfl
  | true =>
    rcases ltS_tri b c with q | q | q
    · have := ltS_trans q e; rw [h] at this; cases this
    · subst q; rw [h] at e; cases e
    · rw [g] at q; cases q
theorem ltCps_eq : ∀ a b : List Nat, ltCps a b = ltS a b
  | [], [] => by simp [ltCps, ltS]
  | [], _ :: _ => by simp [ltCps, ltS]
  | _ :: _, [] => by simp [ltCps, ltS]
  | x :: r, y :: q => by
    rcases Nat.lt_trichotomy x y with h | h | h
    · simp [ltCps, ltS, h, ltCps_eq r q]
    · subst h; simp [ltCps, ltS, ltCps_eq r q]
    · simp [ltCps, ltS, ltCps_eq r q, show ¬ x < y by omega, show ¬ x = y by omega, h]
theorem rising_le : ∀ (l : List (List Nat)) (p : List Nat), risingS (mkS p) (l.map mkS) = true → (p :: l).Pairwise (fun a b => leS a b = true)
  | [], p, _ => by simp
  | x :: r, p, h => by
    simp only [List.map_cons, risingS, Bool.and_eq_true, mkS_tl, ltCps_eq] at h
    have ih := rising_le r x h.2
    rw [List.pairwise_cons]
    refine ⟨fun z hz => ?_, ih⟩
    rcases List.mem_cons.mp hz with rfl | hz
    · exact h.1
    · exact leS_tr _ _ _ h.1 ((List.pairwise_cons.mp ih).1 z hz)
theorem sorted_le {l : List (List Nat)} (h : sortedS (l.map mkS) = true) : l.Pairwise (fun a b => leS a b = true) := by
  cases l with
  | nil => exact List.Pairwise.nil
  | cons x r => exact rising_le r x h
theorem unmk (l : List Str) : (l.map fun x : Str => x.cps.toList).map mkS = l := by
  rw [List.map_map]
  conv => rhs; rw [← List.map_id l]
  apply List.map_congr_left
  intro x _
  simp [mkS]
theorem insB_congr {α β : Type} (f : α → β) (le : α → α → Bool) (le' : β → β → Bool) (h : ∀ a b, le' (f a) (f b) = le a b) (x : α) : ∀ l : List α, insB le' (f x) (l.map f) = (insB le x l).map f
  | [] => rfl
  | y :: r => by
    simp only [List.map_cons, insB, h]
    split
    · rfl
    · rw [insB_congr f le le' h x r]; rfl

/-! ### lists of one kind -/
section
variable {bx : BX} {F H F' H' : Hp}
theorem ints_of : ∀ {ds : List D} {l : List Int} {vs : List V}, intsOf ds = some l → RepL bx F ds vs → vs = l.map V.int ∧ ds = l.map D.int
  | [], l, vs, e, h => by
    cases e
    simp only [RepL] at h
    exact ⟨h, rfl⟩
  | d :: ds, l, vs, e, h => by
    cases d <;> first | (exfalso; simp [intsOf] at e; done) | skip
    rename_i i
    simp only [intsOf] at e
    split at e
    · rename_i l' e'
      cases e
      simp only [RepL] at h
      obtain ⟨x, r, rfl, h2, h3⟩ := h
      obtain ⟨a, b⟩ := ints_of e' h3
      cases h2
      exact ⟨by rw [a]; rfl, by rw [b]; rfl⟩
    · cases e
theorem bls_of : ∀ {ds : List D} {l : List Bool} {vs : List V}, blsOf ds = some l → RepL bx F ds vs → vs = l.map V.bl ∧ ds = l.map D.bl
  | [], l, vs, e, h => by
    cases e
    simp only [RepL] at h
    exact ⟨h, rfl⟩
  | d :: ds, l, vs, e, h => by
    cases d <;> first | (exfalso; simp [blsOf] at e; done) | skip
    rename_i i
    simp only [blsOf] at e
    split at e
    · rename_i l' e'
      cases e
      simp only [RepL] at h
      obtain ⟨x, r, rfl, h2, h3⟩ := h
      obtain ⟨a, b⟩ := bls_of e' h3
      cases h2
      exact ⟨by rw [a]; rfl, by rw [b]; rfl⟩
    · cases e
theorem strs_of : ∀ {ds : List D} {l : List (List Nat)} {vs : List V}, strsOf ds = some l → RepL bx F ds vs → vs = (l.map mkS).map V.str ∧ ds = l.map D.str ∧ ∀ s ∈ l, okS s
  | [], l, vs, e, h => by
    cases e
    simp only [RepL] at h
    exact ⟨h, rfl, fun _ z => nomatch z⟩
  | d :: ds, l, vs, e, h => by
    cases d <;> first | (exfalso; simp [strsOf] at e; done) | skip
    rename_i i
    simp only [strsOf] at e
    split at e
    · rename_i l' e'
      cases e
      simp only [RepL] at h
      obtain ⟨x, r, rfl, h2, h3⟩ := h
      obtain ⟨a, b, c⟩ := strs_of e' h3
      obtain ⟨rfl, ok⟩ := h2
      exact ⟨by rw [a]; rfl, by rw [b]; rfl, fun s hs => (List.mem_cons.mp hs).elim (fun z => z ▸ ok) (c s)⟩
    · cases e
theorem rep_strs : ∀ l : List (List Nat), (∀ s ∈ l, okS s) → RepL bx F (l.map D.str) ((l.map mkS).map V.str)
  | [], _ => rfl
  | x :: r, h => by
    simp only [List.map_cons, RepL]
    exact ⟨_, _, rfl, ⟨rfl, h x List.mem_cons_self⟩, rep_strs r fun s hs => h s (List.mem_cons_of_mem _ hs)⟩

/-! ### built-in functions -/
variable {X : Cx}
theorem cr_sortedT : CallR X (.builtin "sorted") (fun vs H Q => ∃ (a : Addr) (xs : List Str), vs = [V.ref a] ∧ SqL X.K H a (xs.map V.str) ∧
    ∀ (ys : List Str) (p : Addr), ys.Perm xs → sortedS ys = true → H p = none → Q (.ref p) (upd H p (.lst (ys.map V.str)))) := by
  intro pins s σ H vs us Q I r h
  obtain ⟨a, xs, rfl, hs, q⟩ := h
  obtain ⟨its, rv, hl, hz⟩ := I.list hs
  rw [Vals.ref1 r]
  have hlen0 := rv.length
  refine PyProof.Rows.sorted_strsAny hl.isList rv.strs (by rw [← hlen0]; exact hz) fun out ys h1 h2 h3 => ?_
  obtain ⟨ep, he'⟩ := PyProof.Rows.sortedAll_at s.heap its out
  have hlen : (ys.map V.str).length ≤ sizeLine := by
    rw [List.length_map] at hz ⊢
    rw [h2.length_eq]; exact hz
  exact ⟨.ref _, upd H (s.heap.objs.size + 1) (.lst (ys.map V.str)), I.laid (t' := s.toks) (fun _ _ => PyProof.Rows.sortedAll_old) (Nat.le_succ _) ⟨hlen, out.toList, ep, vals_of_strs h1, he'⟩, rfl, q ys _ h2 h3 (I.hok.fresh (Nat.le_succ _))⟩
/-- what is left of a call behind its arguments -/
def wBlt (X : Cx) (f : Str) (vs : List V) (H : Hp) (Q : VK) : Prop := match bootBuiltins f with
  | some (.builtin id) => wCall X (.builtin id) vs H Q
  | some (.type T) => wCall X (.type T) vs H Q
  | _ => False
theorem lst1 {ds : List D} {vs : List V} (h : RepCL bx F H [.lst ds] vs) : ∃ a xs, vs = [.ref a] ∧ NB bx a ∧ H a = some (.lst xs) ∧ ds.length ≤ LIM ∧ RepL bx F ds xs := by
  obtain ⟨x, r, rfl, ⟨a, xs, rfl, nb, h1, h2, h3⟩, rfl⟩ := h
  exact ⟨a, xs, rfl, nb, h1, h2, h3⟩
theorem tup1 {ds : List D} {vs : List V} (h : RepCL bx F H [.tup ds] vs) : ∃ a xs, vs = [.ref a] ∧ F a = some (.tup xs) ∧ ds.length ≤ LIM ∧ RepL bx F ds xs := by
  obtain ⟨x, r, rfl, h, rfl⟩ := h
  simp only [RepC, Rep] at h
  obtain ⟨a, xs, rfl, h1, h2, h3⟩ := h
  exact ⟨a, xs, rfl, h1, h2, h3⟩
theorem int2 {i j : Int} {vs : List V} (h : RepCL bx F H [.int i, .int j] vs) : vs = [.int i, .int j] := by
  obtain ⟨x, r, rfl, h1, y, q, rfl, h2, rfl⟩ := h
  cases h1; cases h2; rfl
/-! ### the greatest, the least -/
theorem argBest_le (bt : Nat → Nat → Bool) : ∀ k, argBest bt k ≤ k
  | 0 => Nat.le_refl _
  | k + 1 => by
    unfold argBest
    have := argBest_le bt k
    split <;> omega
theorem argBest_congr {bt bt' : Nat → Nat → Bool} : ∀ k, (∀ i j, i ≤ k → j ≤ k → bt i j = bt' i j) → argBest bt k = argBest bt' k
  | 0, _ => rfl
  | k + 1, h => by
    have ih := argBest_congr k fun i j hi hj => h i j (by omega) (by omega)
    unfold argBest
    rw [ih, h (k + 1) (argBest bt' k) (Nat.le_refl _) (by have := argBest_le bt' k; omega)]
theorem toPs_get : ∀ (ds : List D) (i : Nat), (D.toPs ds)[i]? = (ds[i]?).map D.toP
  | [], i => by simp [D.toPs]
  | d :: r, 0 => by simp [D.toPs]
  | d :: r, i + 1 => by simp only [D.toPs, List.getElem?_cons_succ]; exact toPs_get r i
theorem toPs_len : ∀ (ds : List D), (D.toPs ds).length = ds.length
  | [] => rfl
  | d :: r => by simp only [D.toPs, List.length_cons]; rw [toPs_len r]
theorem toPs_mem {ds : List D} {p : PyData} (h : p ∈ D.toPs ds) : ∃ d ∈ ds, p = d.toP := by
  obtain ⟨i, hi⟩ := List.getElem?_of_mem h
  rw [toPs_get] at hi
  obtain ⟨d, hd, rfl⟩ := Option.map_eq_some_iff.mp hi
  exact ⟨d, List.mem_of_getElem? hd, rfl⟩
theorem allCmp_spec {l : List D} (h : D.allCmp l = true) : (∀ a ∈ l, ∀ b ∈ l, D.alike a b = true) ∧ (∀ a ∈ l, D.isNon a = false) ∧ (∀ a ∈ l, D.fits 49 a = true) ∧ ∀ a ∈ l, D.seq a = false := by
  unfold D.allCmp at h
  simp only [Bool.and_eq_true, List.all_eq_true, Bool.not_eq_true'] at h
  exact ⟨h.1.1.1, h.1.1.2, h.1.2, h.2⟩
theorem allCmp_alike {l : List D} (h : D.allCmp l = true) : PySem.W.AlikeAll (D.toPs l) := by
  obtain ⟨h1, h2, h3, _⟩ := allCmp_spec h
  refine ⟨fun x hx y hy => ?_, fun x hx => ?_⟩
  · obtain ⟨d, hd, rfl⟩ := toPs_mem hx
    obtain ⟨e, he, rfl⟩ := toPs_mem hy
    exact toP_alike _ _ (h1 d hd e he)
  · obtain ⟨d, hd, rfl⟩ := toPs_mem hx
    have h4 := h2 d hd
    have h5 := h3 d hd
    cases d <;> first | (exfalso; unfold D.fits at h5; cases h5; done) | (exfalso; cases h4; done) | skip
    all_goals (simp only [D.toP]; exact fun z => PyData.noConfusion z)
theorem allCmp_depth {l : List D} (h : D.allCmp l = true) : PyData.depthAll (D.toPs l) ≤ 49 := by
  have h3 := (allCmp_spec h).2.2.1
  clear h
  induction l with
  | nil => simp [D.toPs, PyData.depthAll]
  | cons a r ih =>
    simp only [D.toPs, PyData.depthAll]
    exact Nat.max_le.mpr ⟨toP_depth 49 a (h3 a List.mem_cons_self), ih fun b hb => h3 b (List.mem_cons_of_mem _ hb)⟩
theorem RepL.dps {ds : List D} {xs : List V} {n : Nat} (hf : ds.all (D.fits n) = true) (h : RepL bx F ds xs) {K : PySem.W.Frag} (e : Ex F H) : DpAll K H xs (D.toPs ds) := by
  induction ds generalizing xs with
  | nil => simp only [RepL] at h; subst h; exact .nil
  | cons d r ih =>
    simp only [RepL] at h
    obtain ⟨x, q, rfl, h2, h3⟩ := h
    rw [List.all_cons, Bool.and_eq_true] at hf
    exact .cons (rep_dp n d x hf.1 (Rep.mono e _ _ h2)) (ih hf.2 h3)
theorem lt_toP {l : List D} (h : D.allCmp l = true) {i j : Nat} (hi : i < l.length) (hj : j < l.length) : PySem.W.dataLt ((D.toPs l).getD i .none) ((D.toPs l).getD j .none) = D.lt (l.getD i .non) (l.getD j .non) := by
  obtain ⟨h1, _, h3, _⟩ := allCmp_spec h
  rw [List.getD_eq_getElem?_getD, List.getD_eq_getElem?_getD, List.getD_eq_getElem?_getD, List.getD_eq_getElem?_getD, toPs_get, toPs_get, List.getElem?_eq_getElem hi, List.getElem?_eq_getElem hj]
  exact toP_lt 49 _ _ (h3 _ (List.getElem_mem _)) (h3 _ (List.getElem_mem _)) (h1 _ (List.getElem_mem _) _ (List.getElem_mem _))
/-- the place of the greatest (gt), the least -/
theorem best_at {d0 : D} {dr : List D} (h : D.allCmp (d0 :: dr) = true) (f : D → D → Bool) (fp : PyData → PyData → Bool) (hf : ∀ i j, i < (d0 :: dr).length → j < (d0 :: dr).length → fp ((D.toPs (d0 :: dr)).getD i .none) ((D.toPs (d0 :: dr)).getD j .none) = f ((d0 :: dr).getD i .non) ((d0 :: dr).getD j .non)) :
    ∃ d, (d0 :: dr)[argBest (fun i j => fp ((D.toPs (d0 :: dr)).getD i .none) ((D.toPs (d0 :: dr)).getD j .none)) dr.length]? = some d ∧ d = dr.foldl (fun a y => if f y a then y else a) d0 := by
  rw [argBest_congr (bt' := fun i j => f ((d0 :: dr).getD i .non) ((d0 :: dr).getD j .non)) dr.length fun i j hi hj => hf i j (by simp only [List.length_cons]; omega) (by simp only [List.length_cons]; omega)]
  obtain ⟨e1, e2⟩ := PySem.W.argBest_fold f D.non d0 dr dr.length (Nat.le_refl _)
  rw [List.take_length] at e2
  have hl : argBest (fun i j => f ((d0 :: dr).getD i D.non) ((d0 :: dr).getD j D.non)) dr.length < (d0 :: dr).length := by simp only [List.length_cons]; omega
  refine ⟨_, List.getElem?_eq_getElem hl, ?_⟩
  rw [← e2, List.getD_eq_getElem?_getD, List.getElem?_eq_getElem hl]; rfl
abbrev rBest (K : PySem.W.Frag) (fp : PyData → PyData → Bool) : List V → Hp → VK → Prop := fun vs H Q => ∃ (a : Addr) (xs : List V) (ps : List PyData), vs = [.ref a] ∧ SqL K H a xs ∧ DpAll K H xs ps ∧ PySem.W.AlikeAll ps ∧ PyData.depthAll ps ≤ 60 ∧ 0 < xs.length ∧
  ∀ x, xs[argBest (fun i j => fp (ps.getD i .none) (ps.getD j .none)) (xs.length - 1)]? = some x → Q x H
theorem cr_maxDat (hc : X.calm = true) (hu : X.A.units + 65 < cLine) : CallR X (.builtin "max") (rBest X.K fun a b => PySem.W.dataLt b a) := by
  intro pins s σ H vs us Q I r h
  obtain ⟨a, xs, ps, rfl, hs, hd, ha, hD, hne, q⟩ := h
  obtain ⟨its, rv, hl, hz⟩ := I.list hs
  obtain ⟨as, hr⟩ := Dp.readsAll I ps xs its hd rv
  rw [Vals.ref1 r]
  have hlen : its.toArray.size = xs.length := by rw [List.size_toArray]; exact rv.length.symm
  refine PySem.call_max_walkH (PySem.W.iter_listW (A := X.A.in1) (I.ok.hd hc) hl.isList fun s₂ e W st hfp hw hk => ?_)
  refine ⟨_, _, _, _, _, _, _, s.heap, _, rfl, W, st, hfp, by omega, hw, hk, PySem.W.cmpIn_gt (A := X.A.in1) (xs := ps) hr ha (by show X.A.units + 1 + _ < _; omega), fun v s' hP m => ?_⟩
  obtain ⟨h', tk, rfl, hk'⟩ := PySem.W.moved_old e rfl m
  rw [hlen] at hP
  have hP' : its[argBest (fun i j => PySem.W.dataLt (ps.getD j PyData.none) (ps.getD i PyData.none)) (xs.length - 1)]? = some v := by simpa using hP
  obtain ⟨x, hx⟩ : ∃ x, xs[argBest (fun i j => PySem.W.dataLt (ps.getD j PyData.none) (ps.getD i PyData.none)) (xs.length - 1)]? = some x := by
    cases e : xs[argBest (fun i j => PySem.W.dataLt (ps.getD j PyData.none) (ps.getD i PyData.none)) (xs.length - 1)]? with
    | some x => exact ⟨x, rfl⟩
    | none => rw [rv.none_of e] at hP'; cases hP'
  obtain ⟨u, hu', rel⟩ := rv.get hx
  rw [hP'] at hu'
  cases hu'
  exact ⟨x, H, I.kept hk', rel, q x hx⟩
theorem cr_minDat (hc : X.calm = true) (hu : X.A.units + 65 < cLine) : CallR X (.builtin "min") (rBest X.K fun a b => PySem.W.dataLt a b) := by
  intro pins s σ H vs us Q I r h
  obtain ⟨a, xs, ps, rfl, hs, hd, ha, hD, hne, q⟩ := h
  obtain ⟨its, rv, hl, hz⟩ := I.list hs
  obtain ⟨as, hr⟩ := Dp.readsAll I ps xs its hd rv
  rw [Vals.ref1 r]
  have hlen : its.toArray.size = xs.length := by rw [List.size_toArray]; exact rv.length.symm
  refine PySem.call_min_walkH (PySem.W.iter_listW (A := X.A.in1) (I.ok.hd hc) hl.isList fun s₂ e W st hfp hw hk => ?_)
  refine ⟨_, _, _, _, _, _, _, s.heap, _, rfl, W, st, hfp, by omega, hw, hk, PySem.W.cmpIn_lt (A := X.A.in1) (xs := ps) hr ha (by show X.A.units + 1 + _ < _; omega), fun v s' hP m => ?_⟩
  obtain ⟨h', tk, rfl, hk'⟩ := PySem.W.moved_old e rfl m
  rw [hlen] at hP
  have hP' : its[argBest (fun i j => PySem.W.dataLt (ps.getD i PyData.none) (ps.getD j PyData.none)) (xs.length - 1)]? = some v := by simpa using hP
  obtain ⟨x, hx⟩ : ∃ x, xs[argBest (fun i j => PySem.W.dataLt (ps.getD i PyData.none) (ps.getD j PyData.none)) (xs.length - 1)]? = some x := by
    cases e : xs[argBest (fun i j => PySem.W.dataLt (ps.getD i PyData.none) (ps.getD j PyData.none)) (xs.length - 1)]? with
    | some x => exact ⟨x, rfl⟩
    | none => rw [rv.none_of e] at hP'; cases hP'
  obtain ⟨u, hu', rel⟩ := rv.get hx
  rw [hP'] at hu'
  cases hu'
  exact ⟨x, H, I.kept hk', rel, q x hx⟩
theorem rep_new {d : D} {v : V} (hs : D.seq d = false) (h : Rep bx F d v) {H0 : Hp} : RepN bx H0 F H d v := by
  cases d <;> first | exact h | cases hs
theorem best_rep {d0 : D} {dr : List D} {xs : List V} (c : D.allCmp (d0 :: dr) = true) (h3 : RepL bx F (d0 :: dr) xs) (f : D → D → Bool) (fp : PyData → PyData → Bool) (hf : ∀ i j, i < (d0 :: dr).length → j < (d0 :: dr).length → fp ((D.toPs (d0 :: dr)).getD i .none) ((D.toPs (d0 :: dr)).getD j .none) = f ((d0 :: dr).getD i .non) ((d0 :: dr).getD j .non)) {x : V}
    (hx : xs[argBest (fun i j => fp ((D.toPs (d0 :: dr)).getD i .none) ((D.toPs (d0 :: dr)).getD j .none)) (xs.length - 1)]? = some x) : RepN bx H F H (dr.foldl (fun a y => if f y a then y else a) d0) x := by
  have hl : xs.length - 1 = dr.length := by rw [h3.length]; simp
  rw [hl] at hx
  obtain ⟨d, hd, e⟩ := best_at c f fp hf
  obtain ⟨x', g1, g2⟩ := h3.get hd
  rw [g1] at hx
  cases hx
  rw [← e]
  exact rep_new ((allCmp_spec c).2.2.2 d (List.mem_of_getElem? hd)) g2
theorem ok_blt {f : Str} {ds : List D} {vs : List V} {Q : D → Prop} {Q' : VK} (hc : X.calm = true) (hu : X.A.units + 65 < cLine) (b : Bas bx F H) (h : dBlt f ds Q) (r : RepCL bx F H ds vs)
    (k : ∀ d w F' H', Q d → Nxt bx F H F' H' → RepN bx H F' H' d w → Q' w H') : wBlt X f vs H Q' := by
  have ki : ∀ i : Int, Q (.int i) → Q' (.int i) H := fun i q => k _ _ _ _ q (Nxt.refl b) rfl
  have kb : ∀ i : Bool, Q (.bl i) → Q' (.bl i) H := fun i q => k _ _ _ _ q (Nxt.refl b) rfl
  unfold dBlt at h
  split at h
  · -- len
    rename_i e
    have e : f = ("len" : Str) := of_decide_eq_true e
    subst e
    show wCall X (.builtin "len") vs H Q'
    split at h
    · obtain ⟨x, q, rfl, ⟨rfl, ok⟩, rfl⟩ := r
      refine wCall_of call_len_str ⟨_, rfl, ?_, ?_⟩
      · rw [mkS_len]; exact lim_line ok.1
      · rw [mkS_len]; exact ki _ h
    · obtain ⟨a, xs, rfl, nb, h1, h2, h3⟩ := lst1 r
      refine wCall_of call_len_seq ⟨a, xs, rfl, .inl (sq_of h1), ?_⟩
      rw [h3.length]; exact ki _ h
    · obtain ⟨a, xs, rfl, h1, h2, h3⟩ := tup1 r
      refine wCall_of call_len_seq ⟨a, xs, rfl, .inr (st_of (b.sub _ _ h1)), ?_⟩
      rw [h3.length]; exact ki _ h
    · exact h.elim
  split at h
  · rename_i e
    have e : f = ("all" : Str) := of_decide_eq_true e
    subst e
    show wCall X (.builtin "all") vs H Q'
    split at h
    · simp only [getO] at h
      split at h
      · rename_i l hl
        obtain ⟨a, xs, rfl, nb, h1, h2, h3⟩ := lst1 r
        obtain ⟨rfl, _⟩ := bls_of hl h3
        exact wCall_of (cr_all hc) ⟨a, l, rfl, sq_of h1, kb _ h⟩
      · exact h.elim
    · exact h.elim
  split at h
  · rename_i e
    have e : f = ("any" : Str) := of_decide_eq_true e
    subst e
    show wCall X (.builtin "any") vs H Q'
    split at h
    · simp only [getO] at h
      split at h
      · rename_i l hl
        obtain ⟨a, xs, rfl, nb, h1, h2, h3⟩ := lst1 r
        obtain ⟨rfl, _⟩ := bls_of hl h3
        exact wCall_of (cr_any hc) ⟨a, l, rfl, sq_of h1, kb _ h⟩
      · exact h.elim
    · exact h.elim
  split at h
  · rename_i e
    have e : f = ("sum" : Str) := of_decide_eq_true e
    subst e
    show wCall X (.builtin "sum") vs H Q'
    split at h
    · simp only [getO] at h
      split at h
      · rename_i l hl
        obtain ⟨a, xs, rfl, nb, h1, h2, h3⟩ := lst1 r
        obtain ⟨rfl, _⟩ := ints_of hl h3
        exact wCall_of (cr_sum hc) ⟨a, l, rfl, sq_of h1, ki _ h⟩
      · exact h.elim
    · exact h.elim
  split at h
  · rename_i e
    have e : f = ("int" : Str) := of_decide_eq_true e
    subst e
    show wCall X (.type "int") vs H Q'
    split at h
    · obtain ⟨x, q, rfl, h1, rfl⟩ := r
      cases h1
      exact wCall_of call_int1 (.inl ⟨_, rfl, ki _ h⟩)
    · obtain ⟨x, q, rfl, h1, rfl⟩ := r
      cases h1
      exact wCall_of call_int1 (.inr ⟨_, rfl, ki _ h⟩)
    · exact h.elim
  split at h
  · rename_i e
    have e : f = ("max" : Str) := of_decide_eq_true e
    subst e
    show wCall X (.builtin "max") vs H Q'
    split at h
    · rw [int2 r]
      exact wCall_of (call_max2 hc) ⟨_, _, rfl, ki _ h⟩
    · rename_i d0 dr
      obtain ⟨c, h⟩ := h
      obtain ⟨a, xs, rfl, nb, h1, h2, h3⟩ := lst1 r
      refine wCall_of (cr_maxDat hc hu) ⟨a, xs, D.toPs (d0 :: dr), rfl, sq_of h1, RepL.dps (List.all_eq_true.mpr (allCmp_spec c).2.2.1) h3 b.sub, allCmp_alike c, Nat.le_trans (allCmp_depth c) (by decide), by rw [h3.length]; simp, fun x hx => ?_⟩
      refine k _ _ _ _ h (Nxt.refl b) ?_
      have := best_rep c h3 (H := H) (fun y a => D.lt a y) (fun a b => PySem.W.dataLt b a) (fun i j hi hj => lt_toP c hj hi) hx
      exact this
    · exact h.elim
  split at h
  · rename_i e
    have e : f = ("min" : Str) := of_decide_eq_true e
    subst e
    show wCall X (.builtin "min") vs H Q'
    split at h
    · rw [int2 r]
      exact wCall_of (call_min2 hc) ⟨_, _, rfl, ki _ h⟩
    · rename_i d0 dr
      obtain ⟨c, h⟩ := h
      obtain ⟨a, xs, rfl, nb, h1, h2, h3⟩ := lst1 r
      refine wCall_of (cr_minDat hc hu) ⟨a, xs, D.toPs (d0 :: dr), rfl, sq_of h1, RepL.dps (List.all_eq_true.mpr (allCmp_spec c).2.2.1) h3 b.sub, allCmp_alike c, Nat.le_trans (allCmp_depth c) (by decide), by rw [h3.length]; simp, fun x hx => ?_⟩
      refine k _ _ _ _ h (Nxt.refl b) ?_
      have := best_rep c h3 (H := H) (fun y a => D.lt y a) (fun a b => PySem.W.dataLt a b) (fun i j hi hj => lt_toP c hi hj) hx
      exact this
    · exact h.elim
  split at h
  · rename_i e
    have e : f = ("tuple" : Str) := of_decide_eq_true e
    subst e
    show wCall X (.type "tuple") vs H Q'
    split at h
    · obtain ⟨a, xs, rfl, nb, h1, h2, h3⟩ := lst1 r
      refine wCall_of call_tuple_of ⟨a, xs, rfl, .inl ⟨sq_of h1, fun p hp => ?_⟩⟩
      obtain ⟨n, g⟩ := new_tup (Nxt.refl b) hp h2 h3
      exact k _ _ _ _ h n g
    · obtain ⟨a, xs, rfl, h1, h2, h3⟩ := tup1 r
      refine wCall_of call_tuple_of ⟨a, xs, rfl, .inr ⟨st_of (b.sub _ _ h1), ?_⟩⟩
      exact k _ _ _ _ h (Nxt.refl b) (by simp only [RepN, Rep]; exact ⟨a, xs, rfl, h1, h2, h3⟩)
    · exact h.elim
  split at h
  · rename_i e
    have e : f = ("sorted" : Str) := of_decide_eq_true e
    subst e
    show wCall X (.builtin "sorted") vs H Q'
    split at h
    · obtain ⟨a, xs, rfl, nb, h1, h2, h3⟩ := lst1 r
      split at h
      · rename_i l hl
        obtain ⟨rfl, e2⟩ := ints_of hl h3
        refine wCall_of cr_sortedI ⟨a, l, rfl, sq_of h1, fun l' p hp hs hn => ?_⟩
        have e3 : l' = isort leI l := isort_unique leI_tot leI_tr leI_anti hp (hs.imp fun q => by simpa only [leI, decide_eq_true_eq] using q)
        rw [e3]
        obtain ⟨n, g⟩ := new_lst (Nxt.refl b) hn (ds := (isort leI l).map .int) (by rw [List.length_map, (isort_perm leI l).length_eq]; rw [e2, List.length_map] at h2; exact h2) (rep_ints _)
        exact k _ _ _ _ h n g
      · split at h
        · rename_i l hl
          obtain ⟨rfl, e2, ok⟩ := strs_of hl h3
          refine wCall_of cr_sortedT ⟨a, l.map mkS, rfl, sq_of h1, fun l' p hp hs hn => ?_⟩
          have e4 : ((l'.map fun x : Str => x.cps.toList)).Perm l := by
            have := hp.map (fun x : Str => x.cps.toList)
            rw [List.map_map] at this
            have e5 : ((fun x : Str => x.cps.toList) ∘ mkS) = id := by funext x; exact mkS_tl x
            rw [e5, List.map_id] at this
            exact this
          have e3 : (l'.map fun x : Str => x.cps.toList) = isort leS l := isort_unique leS_tot leS_tr leS_anti e4 (sorted_le (by rw [unmk]; exact hs))
          have e6 : l' = (isort leS l).map mkS := by rw [← e3, unmk]
          rw [e6]
          obtain ⟨n, g⟩ := new_lst (Nxt.refl b) hn (ds := (isort leS l).map .str) (by rw [List.length_map, (isort_perm leS l).length_eq]; rw [e2, List.length_map] at h2; exact h2)
            (rep_strs _ fun s hs => ok s ((isort_perm leS l).mem_iff.mp hs))
          exact k _ _ _ _ h n g
        · exact h.elim
    · exact h.elim
  split at h
  · rename_i e
    have e : f = ("list" : Str) := of_decide_eq_true e
    subst e
    show wCall X (.type "list") vs H Q'
    split at h
    · obtain ⟨a, xs, rfl, nb, h1, h2, h3⟩ := lst1 r
      refine wCall_of call_list_of ⟨a, xs, rfl, .inl (sq_of h1), fun p hp => ?_⟩
      obtain ⟨n, g⟩ := new_lst (Nxt.refl b) hp h2 h3
      exact k _ _ _ _ h n g
    · obtain ⟨a, xs, rfl, h1, h2, h3⟩ := tup1 r
      refine wCall_of call_list_of ⟨a, xs, rfl, .inr (st_of (b.sub _ _ h1)), fun p hp => ?_⟩
      obtain ⟨n, g⟩ := new_lst (Nxt.refl b) hp h2 h3
      exact k _ _ _ _ h n g
    · exact h.elim
  · exact h.elim
end
end Py
set_option maxHeartbeats 2000000
/-! What is walked, targets, comprehensions; the step of the evaluator of expressions is sound. -/
namespace Py
open PySem PySem.Spec PyProof.Rows L2
/-- J walks the items, as long as G holds -/
structure WalkD (bx : BX) (G : Hp → Hp → Prop) (J : It) (items : List D) : Prop where
  len : items.length ≤ LIM
  goes : ∀ i F H, i < items.length → G F H → J.go i H
  stops : ∀ F H, G F H → J.stop items.length H
  yields : ∀ i F H x H2 d, G F H → items[i]? = some d → J.yld i H x H2 → ∃ F2, Nxt bx F H F2 H2 ∧ Rep bx F2 d x
section
variable {r : Evs} {C : Ctx} {X : Cx} {W : WX} {bx : BX} {F H F' H' : Hp} {Z : Str → Prop} {es : Sls} {σ : L2.St} {e : Expr}
theorem WalkD.imp {G G' : Hp → Hp → Prop} {J : It} {items : List D} (w : WalkD bx G J items) (h : ∀ F H, G' F H → G F H) : WalkD bx G' J items :=
  ⟨w.len, fun i F H hi g => w.goes i F H hi (h F H g), fun F H g => w.stops F H (h F H g), fun i F H x H2 d g => w.yields i F H x H2 d (h F H g)⟩
/-- what was frozen at F stands -/
def Gf (bx : BX) (F : Hp) : Hp → Hp → Prop := fun F1 H1 => Ex F F1 ∧ Bas bx F1 H1
theorem gf_of {F1 H1 : Hp} (n : Nxt bx F H F1 H1) : Gf bx F F1 H1 := ⟨n.ex, n.bas⟩
theorem walkD_list {K : PySem.W.Frag} {G : Hp → Hp → Prop} {a : Addr} {ds : List D} {xs : List V} (hb : ∀ F H, G F H → Bas bx F H) (h : ∀ F H, G F H → H a = some (.lst xs) ∧ RepL bx F ds xs) (hl : ds.length ≤ LIM) (hx : xs.length = ds.length) : WalkD bx G (Itl K a) ds := by
  refine ⟨hl, fun i F H hi g => ?_, fun F H g => ?_, fun i F H x H2 d g hd y => ?_⟩
  · obtain ⟨h1, h2⟩ := h F H g
    have : i < xs.length := by omega
    exact ⟨xs, xs[i], sq_of h1, by simp [this]⟩
  · obtain ⟨h1, h2⟩ := h F H g
    exact ⟨xs, sq_of h1, by omega⟩
  · obtain ⟨h1, h2⟩ := h F H g
    obtain ⟨rfl, y⟩ := y
    obtain ⟨x', g1, g2⟩ := h2.get hd
    have := y xs (sq_of h1)
    rw [g1] at this; cases this
    exact ⟨F, Nxt.refl (hb F H2 g), g2⟩
theorem walkD_tup {K : PySem.W.Frag} {G : Hp → Hp → Prop} {a : Addr} {ds : List D} {xs : List V} (hb : ∀ F H, G F H → Bas bx F H) (h : ∀ F H, G F H → H a = some (.tup xs) ∧ RepL bx F ds xs) (hl : ds.length ≤ LIM) (hx : xs.length = ds.length) : WalkD bx G (Itt K a) ds := by
  refine ⟨hl, fun i F H hi g => ?_, fun F H g => ?_, fun i F H x H2 d g hd y => ?_⟩
  · obtain ⟨h1, h2⟩ := h F H g
    have : i < xs.length := by omega
    exact ⟨xs, xs[i], st_of h1, by simp [this]⟩
  · obtain ⟨h1, h2⟩ := h F H g
    exact ⟨xs, st_of h1, by omega⟩
  · obtain ⟨h1, h2⟩ := h F H g
    obtain ⟨rfl, y⟩ := y
    obtain ⟨x', g1, g2⟩ := h2.get hd
    have := y xs (st_of h1)
    rw [g1] at this; cases this
    exact ⟨F, Nxt.refl (hb F H2 g), g2⟩
theorem walkD_str {G : Hp → Hp → Prop} {s : List Nat} (hb : ∀ F H, G F H → Bas bx F H) (ok : okS s) : WalkD bx G (Its (mkS s)) (s.map fun c => .str [c]) := by
  have hz : (mkS s).cps.size = s.length := by simp [mkS]
  refine ⟨by rw [List.length_map]; exact ok.1, fun i F H hi g => ?_, fun F H g => ?_, fun i F H x H2 d g hd y => ?_⟩
  · show i < (mkS s).cps.size
    rw [hz]; rw [List.length_map] at hi; exact hi
  · show (mkS s).cps.size ≤ _
    rw [hz, List.length_map]; exact Nat.le_refl _
  · obtain ⟨rfl, c, hc, rfl⟩ := y
    have hc' : s[i]? = some c := by simpa [mkS] using hc
    rw [List.getElem?_map, hc'] at hd
    cases hd
    exact ⟨F, Nxt.refl (hb F H2 g), rfl, okS_sub ok (fun c' h' => by rw [List.mem_singleton.mp h']; exact List.mem_of_getElem? hc') (by show 1 ≤ LIM; decide)⟩
theorem rng_len (lo : Int) (n : Nat) : (rng lo n).length = n := by simp [rng]
theorem rng_get (lo : Int) (n i : Nat) (h : i < n) : (rng lo n)[i]? = some (.int (lo + i)) := by simp [rng, h]
theorem walkD_rng {G : Hp → Hp → Prop} {lo : Int} {n : Nat} (hb : ∀ F H, G F H → Bas bx F H) (hl : n ≤ LIM) : WalkD bx G (Itr lo n) (rng lo n) := by
  refine ⟨by rw [rng_len]; exact hl, fun i F H hi g => by rw [rng_len] at hi; exact hi, fun F H g => by rw [rng_len]; exact Nat.le_refl _, fun i F H x H2 d g hd y => ?_⟩
  obtain ⟨rfl, rfl⟩ := y
  have hi : i < n := by
    have := (List.getElem?_eq_some_iff.mp hd).1
    rwa [rng_len] at this
  rw [rng_get _ _ _ hi] at hd
  cases hd
  exact ⟨F, Nxt.refl (hb F H2 g), rfl⟩

/-! ### the walks of expressions -/
theorem items_c {d : D} {v : V} {K : List D → Prop} {R : It → Hp → Prop} {tg it : Expr} (b : Bas bx F H) (h : itemsD d K) (rc : RepC bx F H d v)
    (k : ∀ items J, K items → WalkD bx (Nxt bx F H) J items → R J H) : (∃ a, v = .ref a ∧ (∃ xs, SqL X.K H a xs) ∧ R (Itl X.K a) H) ∨ (∃ a, v = .ref a ∧ (∃ xs, SqT X.K H a xs) ∧ R (Itt X.K a) H) ∨ (∃ x, v = .str x ∧ R (Its x) H) := by
  cases d <;> first | (exfalso; exact h) | skip
  · obtain ⟨rfl, ok⟩ := rc
    exact .inr (.inr ⟨_, rfl, k _ _ h (walkD_str (fun _ _ n => n.bas) ok)⟩)
  · obtain ⟨a, xs, rfl, nb, h1, h2, h3⟩ := rc
    exact .inl ⟨a, rfl, ⟨xs, sq_of h1⟩, k _ _ h (walkD_list (fun _ _ n => n.bas) (fun F1 H1 n => ⟨n.keep _ _ nb h1, RepL.mono n.ex _ _ h3⟩) h2 h3.length)⟩
  · simp only [RepC, Rep] at rc
    obtain ⟨a, xs, rfl, h1, h2, h3⟩ := rc
    exact .inr (.inl ⟨a, rfl, ⟨xs, st_of (b.sub _ _ h1)⟩, k _ _ h (walkD_tup (fun _ _ n => n.bas) (fun F1 H1 n => ⟨n.bas.sub _ _ (n.ex _ _ h1), RepL.mono n.ex _ _ h3⟩) h2 h3.length)⟩)
theorem items_e {d : D} {v : V} {K : List D → Prop} {R : It → Hp → Prop} {tg it : Expr} (b : Bas bx F H) (h : itemsD d K) (rc : Rep bx F d v)
    (k : ∀ items J, K items → WalkD bx (Gf bx F) J items → R J H) : (∃ a, v = .ref a ∧ (∃ xs, SqL X.K H a xs) ∧ R (Itl X.K a) H) ∨ (∃ a, v = .ref a ∧ (∃ xs, SqT X.K H a xs) ∧ R (Itt X.K a) H) ∨ (∃ x, v = .str x ∧ R (Its x) H) := by
  cases d <;> first | (exfalso; exact h) | skip
  · obtain ⟨rfl, ok⟩ := rc
    exact .inr (.inr ⟨_, rfl, k _ _ h (walkD_str (fun _ _ n => n.2) ok)⟩)
  · simp only [Rep] at rc
    obtain ⟨a, xs, rfl, h1, h2, h3⟩ := rc
    exact .inl ⟨a, rfl, ⟨xs, sq_of (b.sub _ _ h1)⟩, k _ _ h (walkD_list (fun _ _ n => n.2) (fun F1 H1 n => ⟨n.2.sub _ _ (n.1 _ _ h1), RepL.mono n.1 _ _ h3⟩) h2 h3.length)⟩
  · simp only [Rep] at rc
    obtain ⟨a, xs, rfl, h1, h2, h3⟩ := rc
    exact .inr (.inl ⟨a, rfl, ⟨xs, st_of (b.sub _ _ h1)⟩, k _ _ h (walkD_tup (fun _ _ n => n.2) (fun F1 H1 n => ⟨n.2.sub _ _ (n.1 _ _ h1), RepL.mono n.1 _ _ h3⟩) h2 h3.length)⟩)
/-- whichever of the three it is -/
theorem pi_three {tg it : Expr} : PI X tg it (fun σ H R => wE X it σ H fun v H1 => (∃ a, v = .ref a ∧ (∃ xs, SqL X.K H1 a xs) ∧ R (Itl X.K a) H1) ∨ (∃ a, v = .ref a ∧ (∃ xs, SqT X.K H1 a xs) ∧ R (Itt X.K a) H1) ∨ (∃ x, v = .str x ∧ R (Its x) H1)) := by
  refine ⟨fun pins s σ H R I h => ?_⟩
  refine thn (pe_w.run pins s σ H _ I h) fun v s1 ⟨x, H1, I1, r1, q1⟩ => ?_
  rcases q1 with ⟨a, rfl, hs, q⟩ | ⟨a, rfl, hs, q⟩ | ⟨z, rfl, q⟩
  · obtain ⟨xs, hq⟩ := hs
    cases r1
    obtain ⟨its, rv, p, hz⟩ := I1.list hq
    refine wpAny_pyIter_list p.isList ?_
    refine ⟨s1.heap.objs.size, [s1.heap.objs.size], _, _, H1, rfl, I1.kept (t' := s1.toks) fun b o e => Heap.get?_push_of_some _ e, turn_list a _, ⟨_, Heap.get?_push_size _ rfl, rfl, rfl⟩, fun b hb => ?_, q⟩
    have e : b = s1.heap.objs.size := by simpa using hb
    subst e
    exact I1.fpOk (Nat.le_refl _) (I1.hok.fresh (Nat.le_refl _))
  · obtain ⟨xs, hq⟩ := hs
    cases r1
    obtain ⟨its, rv, p, hz⟩ := I1.tuple hq
    refine wpAny_pyIter_tuple (show s1.heap.IsTuple a its.toArray from p) ?_
    refine ⟨s1.heap.objs.size, [s1.heap.objs.size], _, _, H1, rfl, I1.kept (t' := s1.toks) fun b o e => Heap.get?_push_of_some _ e, turn_tuple a _, ⟨_, Heap.get?_push_size _ rfl, rfl, rfl⟩, fun b hb => ?_, q⟩
    have e : b = s1.heap.objs.size := by simpa using hb
    subst e
    exact I1.fpOk (Nat.le_refl _) (I1.hok.fresh (Nat.le_refl _))
  · obtain ⟨t, rfl⟩ := r1
    cases ha : z.cps.all (· < 128)
    · exact wpAny_pyIter_wide ha (pi_one (tk := s1.toks) I1 _ (turn_str _ z t "str_iterator" (.inr rfl)) ⟨_, Heap.get?_push_size _ rfl, rfl, rfl⟩ q)
    · exact wpAny_pyIter_ascii ha (pi_one (tk := s1.toks) I1 _ (turn_str _ z t "str_ascii_iterator" (.inl rfl)) ⟨_, Heap.get?_push_size _ rfl, rfl, rfl⟩ q)
end
end Py
set_option maxHeartbeats 2000000
/-! Comprehensions; the step of the evaluator of expressions is sound. -/
namespace Py
open PySem PySem.Spec PyProof.Rows L2
section
variable {r : Evs} {C : Ctx} {X : Cx} {W : WX} {bx : BX} {F H F' H' : Hp} {Z : Str → Prop} {es : Sls} {σ : L2.St} {e : Expr}
theorem isRange_spec {it : Expr} {args : List Expr} (h : isRange C it = some args) : ∃ f p pos, it = .Call (.Name f p) args [] pos ∧ f = ("range" : Str) ∧ inB C.blt f = true ∧ globB C.sc f = true ∧ args.all notStar = true ∧ args.length ≤ 2 := by
  unfold isRange at h
  split at h
  · split at h
    · rename_i e
      cases h
      simp only [Bool.and_eq_true, decide_eq_true_eq] at e
      exact ⟨_, _, _, rfl, e.1.1.1.1, e.1.1.1.2, e.1.1.2, e.1.2, e.2⟩
    · cases h
  · cases h
/-- what a loop walks -/
theorem ok_it (S : SndE r) {own : Bool} {tg it : Expr} {K : List D → Prop} (A : At C X W bx F H Z es σ) (h : evIt r own C es it K Z) (R : It → Hp → Prop)
    (k : ∀ items J F' H', K items → Nxt bx F H F' H' → (WalkD bx (Nxt bx F' H') J items) → (own = false → WalkD bx (Gf bx F') J items) → R J H') : wI X tg it σ H R := by
  unfold evIt at h
  split at h
  · rename_i args hr
    obtain ⟨f, p, pos, rfl, rfl, hb, hg, hs, h2⟩ := isRange_spec hr
    have hm := (A.c.blt _ hb).1
    have key : ∀ (ds : List D) (vs : List V) (F1 H1 : Hp), ds.length = args.length → Nxt bx F H F1 H1 → RepL bx F1 ds vs → rngW ds K → (∃ n : Int, args.length = 1 ∧ vs = [.int n] ∧ -(2 ^ 62) ≤ n ∧ n < 2 ^ 62 ∧ R (Itr 0 n.toNat) H1) ∨ (∃ i j : Int, args.length = 2 ∧ vs = [.int i, .int j] ∧ (-(2 ^ 62) ≤ i ∧ i < 2 ^ 62 ∧ -(2 ^ 62) ≤ j ∧ j < 2 ^ 62) ∧ R (Itr i (j - i).toNat) H1) := by
      intro ds vs F1 H1 hl n1 r1 q
      have hL : (LIM : Int) = 1000000 := rfl
      have hN : LIM = 1000000 := rfl
      unfold rngW at q
      split at q
      · rename_i n
        simp only [RepL] at r1
        obtain ⟨x, _, rfl, rfl, rfl⟩ := r1
        obtain ⟨⟨q1, q2⟩, q⟩ := q
        exact .inl ⟨n, by simpa using hl.symm, rfl, by omega, by omega, k _ _ _ _ q n1 (walkD_rng (fun _ _ n => n.bas) (by omega)) (fun _ => walkD_rng (fun _ _ n => n.2) (by omega))⟩
      · rename_i a b
        simp only [RepL] at r1
        obtain ⟨x, _, rfl, rfl, y, _, rfl, rfl, rfl⟩ := r1
        obtain ⟨⟨q1, q2, q3, q4, q5⟩, q⟩ := q
        exact .inr ⟨a, b, by simpa using hl.symm, rfl, ⟨by omega, by omega, by omega, by omega⟩, k _ _ _ _ q n1 (walkD_rng (fun _ _ n => n.bas) (by omega)) (fun _ => walkD_rng (fun _ _ n => n.2) (by omega))⟩
      · exact q.elim
    match args, hs, h, key, h2 with
    | [], _, h, _, _ => exact h.elim
    | [a], hs, h, key, _ =>
      rw [List.all_cons, Bool.and_eq_true] at hs
      refine wI_of (pi_range1 (glob_of A.c hg) hm pa_w (star_of hs.1)) ?_
      refine ok_as S A h _ fun ds vs F1 H1 q hl n1 r1 => ?_
      rcases key ds vs F1 H1 hl n1 r1 q with ⟨n, _, h2, h3, h4, h5⟩ | ⟨i, j, h1, _⟩
      · exact ⟨n, h2, h3, h4, h5⟩
      · cases h1
    | [a, b], hs, h, key, _ =>
      rw [List.all_cons, List.all_cons, Bool.and_eq_true, Bool.and_eq_true] at hs
      refine wI_of (pi_range2 (glob_of A.c hg) hm pa_w (by rw [star_of hs.1, star_of hs.2.1]; rfl) (by rw [star_of hs.2.1]; rfl)) ?_
      refine ok_as S A h _ fun ds vs F1 H1 q hl n1 r1 => ?_
      rcases key ds vs F1 H1 hl n1 r1 q with ⟨n, h1, _⟩ | ⟨i, j, _, h2, h3, h5⟩
      · cases h1
      · exact ⟨i, j, h2, h3, h5⟩
    | a :: b :: c :: l, hs, h, key, h2 => simp only [List.length_cons] at h2; omega
  · cases own with
    | true =>
      refine wI_of pi_three ?_
      refine ok_c S A h _ fun d v F1 H1 q n1 r1 => ?_
      exact items_c (tg := tg) (it := it) n1.bas q r1 fun items J q2 w => k items J F1 H1 q2 n1 w (fun z => nomatch z)
    | false =>
      refine wI_of pi_three ?_
      refine S.E h A _ fun d v F1 H1 q n1 r1 => ?_
      exact items_e (tg := tg) (it := it) n1.bas q r1 fun items J q2 w => k items J F1 H1 q2 n1 (w.imp fun _ _ n => gf_of n) (fun _ => w)

theorem sl_im {d : D} {v : V} (h : Rep bx F d v) : SlE bx F H (.im d) (some v) := ⟨v, rfl, h⟩

/-! ### targets -/
theorem loc_of (c : Conf C X W) {x : Str} (h : locB C.ost x = true) : Loc X.env.scope x ∧ (X.fn x = true ∨ X.env.scope.names.lookup x = some .local) := c.sto x h
theorem and3 {a b c : Bool} (h : (a && b && c) = true) : a = true ∧ b = true ∧ c = true := by
  rw [Bool.and_eq_true, Bool.and_eq_true] at h
  exact ⟨h.1.1, h.1.2, h.2⟩
theorem getO_of {α : Type} {o : Option α} {Q : α → Prop} (h : getO o Q) : ∃ i, o = some i ∧ Q i := by
  cases o with
  | none => exact h.elim
  | some i => exact ⟨i, rfl, h⟩
theorem asT2_of {d : D} {Q : D → D → Prop} (h : asT2 d Q) : ∃ a b, d = .tup [a, b] ∧ Q a b := by
  unfold asT2 at h
  split at h
  · exact ⟨_, _, rfl, h⟩
  · exact h.elim
theorem asT3_of {d : D} {Q : D → D → D → Prop} (h : asT3 d Q) : ∃ a b c, d = .tup [a, b, c] ∧ Q a b c := by
  unfold asT3 at h
  split at h
  · exact ⟨_, _, _, rfl, h⟩
  · exact h.elim
theorem tup_names {d : D} {K : Sls → Prop} (ts : List Expr) (tk : Nat) (tp : Pos) (h : bindT C (.Tuple ts tk tp) d es K) : (∃ x xp y yp, ts = [.Name x xp, .Name y yp]) ∨ (∃ x xp y yp z zp, ts = [.Name x xp, .Name y yp, .Name z zp]) := by
  have hh : tgNames (.Tuple ts tk tp) ≠ [] := fun z => by
    unfold bindT at h
    rw [z] at h
    exact h
  generalize he : Expr.Tuple ts tk tp = tg at hh
  unfold tgNames at hh
  split at hh
  · cases he
  · cases he; exact .inl ⟨_, _, _, _, rfl⟩
  · cases he; exact .inr ⟨_, _, _, _, _, _, rfl⟩
  · exact absurd rfl hh
/-- the places of a target's names -/
def Only (C : Ctx) (tg : Expr) (σ σ' : L2.St) : Prop := σ'.length = σ.length ∧ ∀ j : Nat, (∀ x ∈ tgNames tg, ixOf C.N x ≠ some j) → σ'[j]? = σ[j]?
theorem Only.set {tg : Expr} {σ σ' : L2.St} {i : Nat} {x : Str} {o : Option V} (h : Only C tg σ σ') (hx : x ∈ tgNames tg) (hi : ixOf C.N x = some i) : Only C tg σ (σ'.set i o) :=
  ⟨by rw [List.length_set]; exact h.1, fun j hj => by
    have : i ≠ j := fun z => hj x hx (z ▸ hi)
    rw [List.getElem?_set_ne this]; exact h.2 j hj⟩
theorem ok_g {tg : Expr} {d : D} {v : V} {K : Sls → Prop} (c : Conf C X W) (b : Bas bx F H) (s : SlsE bx F H es σ) (h : bindT C tg d es K) (rv : Rep bx F d v) (Q : L2.St → Hp → Prop)
    (k : ∀ es' σ', K es' → SlsE bx F H es' σ' → Only C tg σ σ' → Q σ' H) : wG X tg v σ H Q := by
  have o0 : ∀ tg, Only C tg σ σ := fun tg => ⟨rfl, fun _ _ => rfl⟩
  have nd : X.N.Nodup := by rw [c.N]; exact c.nd
  cases tg <;> first | (exfalso; exact h) | skip
  · rename_i x pos
    obtain ⟨hl, h⟩ := ifB_of (show ifB (locB C.ost x) (getO (ixOf C.N x) fun i => K (es.set i (.im d))) from h)
    obtain ⟨i, hi, h⟩ := getO_of h
    obtain ⟨l1, l2⟩ := loc_of c hl
    refine wG_of (pg_name nd (by rw [c.N]; exact ixOf_spec hi) l1 l2) ?_
    exact k _ _ h (s.set (sl_im rv)) ((o0 _).set (by simp [tgNames]) hi)
  · rename_i ts tk tp
    obtain ⟨x, xp, y, yp, rfl⟩ | ⟨x, xp, y, yp, z, zp, rfl⟩ := tup_names ts tk tp h
    · obtain ⟨hl, h⟩ := ifB_of (show ifB (locB C.ost x && locB C.ost y) (getO (ixOf C.N x) fun i => getO (ixOf C.N y) fun j => asT2 d fun a b => K ((es.set i (.im a)).set j (.im b))) from h)
      rw [Bool.and_eq_true] at hl
      obtain ⟨i, hi, h⟩ := getO_of h
      obtain ⟨j, hj, h⟩ := getO_of h
      obtain ⟨d, e, rfl, h⟩ := asT2_of h
      obtain ⟨l1, l2⟩ := loc_of c hl.1
      obtain ⟨m1, m2⟩ := loc_of c hl.2
      simp only [Rep, RepL] at rv
      obtain ⟨a, xs, rfl, h1, h2, u, _, rfl, ru, w, _, rfl, rw', rfl⟩ := rv
      refine wG_of (pg_tup c.calm (pgs_cons (pg_name nd (by rw [c.N]; exact ixOf_spec hi) l1 l2) (pgs_cons (pg_name nd (by rw [c.N]; exact ixOf_spec hj) m1 m2) pgs_nil))) ?_
      refine ⟨a, _, rfl, st_of (b.sub _ _ h1), rfl, u, _, rfl, w, _, rfl, rfl, ?_⟩
      exact k _ _ h ((s.set (sl_im ru)).set (sl_im rw')) (((o0 _).set (by simp [tgNames]) hi).set (by simp [tgNames]) hj)
    · obtain ⟨hl, h⟩ := ifB_of (show ifB (locB C.ost x && locB C.ost y && locB C.ost z) (getO (ixOf C.N x) fun i => getO (ixOf C.N y) fun j => getO (ixOf C.N z) fun k => asT3 d fun a b c => K (((es.set i (.im a)).set j (.im b)).set k (.im c))) from h)
      obtain ⟨hl1, hl2, hl3⟩ := and3 hl
      obtain ⟨i, hi, h⟩ := getO_of h
      obtain ⟨j, hj, h⟩ := getO_of h
      obtain ⟨m, hm, h⟩ := getO_of h
      obtain ⟨d, e, f, rfl, h⟩ := asT3_of h
      obtain ⟨l1, l2⟩ := loc_of c hl1
      obtain ⟨m1, m2⟩ := loc_of c hl2
      obtain ⟨n1, n2⟩ := loc_of c hl3
      simp only [Rep, RepL] at rv
      obtain ⟨a, xs, rfl, h1, h2, u, _, rfl, ru, w, _, rfl, rw', q, _, rfl, rq, rfl⟩ := rv
      refine wG_of (pg_tup c.calm (pgs_cons (pg_name nd (by rw [c.N]; exact ixOf_spec hi) l1 l2) (pgs_cons (pg_name nd (by rw [c.N]; exact ixOf_spec hj) m1 m2) (pgs_cons (pg_name nd (by rw [c.N]; exact ixOf_spec hm) n1 n2) pgs_nil)))) ?_
      refine ⟨a, _, rfl, st_of (b.sub _ _ h1), rfl, u, _, rfl, w, _, rfl, q, _, rfl, rfl, ?_⟩
      exact k _ _ h (((s.set (sl_im ru)).set (sl_im rw')).set (sl_im rq)) ((((o0 _).set (by simp [tgNames]) hi).set (by simp [tgNames]) hj).set (by simp [tgNames]) hm)

/-! ### a comprehension's block -/
theorem wipe_get (σ : L2.St) : ∀ (vs : List Nat) (j : Nat), (L2.wipe σ vs)[j]? = if j ∈ vs then (if j < σ.length then some none else none) else σ[j]?
  | [], j => by simp [L2.wipe]
  | v :: vs, j => by
    show ((L2.wipe σ vs).set v none)[j]? = _
    by_cases hv : v = j
    · subst hv
      rw [if_pos List.mem_cons_self]
      by_cases hl : v < σ.length
      · rw [if_pos hl, List.getElem?_set_self (by rw [L2.wipe_length]; exact hl)]
      · rw [if_neg hl, List.getElem?_eq_none (by rw [List.length_set, L2.wipe_length]; omega)]
    · rw [List.getElem?_set_ne hv, wipe_get σ vs j]
      by_cases hm : j ∈ vs
      · rw [if_pos hm, if_pos (List.mem_cons_of_mem _ hm)]
      · rw [if_neg hm, if_neg (fun z => (List.mem_cons.mp z).elim (fun e => hv e.symm) hm)]
theorem ownOf_spec {N : List Str} : ∀ {names : List (Str × NameKind)} {p : Str × Nat}, p ∈ ownOf N names → ixOf N p.1 = some p.2
  | [], _, h => by cases h
  | (n, k) :: r, p, h => by
    unfold ownOf at h
    split at h
    · split at h
      · rename_i i hi
        rcases List.mem_cons.mp h with rfl | h
        · exact hi
        · exact ownOf_spec h
      · exact ownOf_spec h
    · split at h
      · rename_i i hi
        rcases List.mem_cons.mp h with rfl | h
        · exact hi
        · exact ownOf_spec h
      · exact ownOf_spec h
    · exact ownOf_spec h
theorem wipe_only {tg : Expr} {own : List (Str × Nat)} {σ σ' : L2.St} (ho : ∀ p ∈ own, ixOf C.N p.1 = some p.2) (ht : (tgNames tg).all (fun x => inB (own.map (·.1)) x) = true) (h : Only C tg (L2.wipe σ (own.map (·.2))) σ') :
    L2.wipe σ' (own.map (·.2)) = L2.wipe σ (own.map (·.2)) := by
  apply List.ext_getElem?
  intro j
  rw [wipe_get, wipe_get]
  by_cases hm : j ∈ own.map (·.2)
  · rw [if_pos hm, if_pos hm, h.1, L2.wipe_length]
  · rw [if_neg hm, if_neg hm, h.2 j fun x hx hi => ?_, wipe_get, if_neg hm]
    rw [List.all_eq_true] at ht
    have := inB_mem (ht x hx)
    obtain ⟨p, hp, rfl⟩ := List.mem_map.mp this
    rw [ho p hp] at hi
    cases hi
    exact hm (List.mem_map.mpr ⟨p, hp, rfl⟩)
/-- a block's context -/
theorem conf_blk {scope : Scope} {own : List (Str × Nat)} {s0 : Shared} {H0 : Hp} {cc : Addr} {cl : List (Str × Addr)} {fp : List Addr} (c : Conf C X W) (hb : blkC C.N C.sc scope own = true) :
    Conf { C with sc := relS scope C.sc, ost := scope } (X.blk s0 H0 scope (compEnvC scope cl cc X.env) fp) (fun _ _ _ _ => False) where
  N := c.N
  nd := c.nd
  sc := by show relS scope X.env.scope = relS scope C.sc; rw [c.sc]
  calm := c.calm
  kind := (blkOk_by hb).kind
  sto := fun x h => by
    have e : (compEnvC scope cl cc X.env).scope = relS scope X.env.scope := rfl
    show Loc (compEnvC scope cl cc X.env).scope x ∧ ((scope.names.lookup x == some .cell) = true ∨ (compEnvC scope cl cc X.env).scope.names.lookup x = some .local)
    rw [e]
    unfold locB at h
    split at h
    · rename_i q
      have := lookup_relS_keep (sc := X.env.scope) (by decide) q
      exact ⟨.inl this, .inr this⟩
    · rename_i q
      have := lookup_relS_keep (sc := X.env.scope) (by decide) q
      exact ⟨.inr this, .inl (by show (List.lookup x scope.names == some .cell) = true; rw [q]; rfl)⟩
    · cases h
  nodb := c.nodb
  blt := c.blt
  con := c.con
  hu := c.hu
  takes := takes0
  fns := c.fns

theorem fset {it : Expr} {env : PySem.Env} (h : isSetE it = false) : ∀ x, foldedSetIterable it env x = pure x := by
  intro x
  cases it <;> first | rfl | (cases h; done)
/-- the tests of a clause -/
theorem ok_ts (S : SndE r) {ifs : List Expr} {Q : Bool → Prop} (A : At C X W bx F H Z es σ) (h : evTs r C es Z ifs Q) (Q' : Bool → Hp → Prop) (k : ∀ b F' H', Q b → Nxt bx F H F' H' → Q' b H') : wTs X ifs σ H Q' := by
  unfold evTs at h
  split at h
  · exact wTs_of pts_nil (k _ _ _ h (Nxt.refl A.b))
  · exact wTs_of (pts_one pt_w) (S.T h A _ k)
  · exact h.elim
theorem ok_lc (S : SndE r) {elt tg it : Expr} {ifs : List Expr} {scope : Scope} {Q : D → Prop} {own : List (Str × Nat)} (eo : own = ownOf C.N scope.names) (A : At C X W bx F H Z es σ)
    (hb : blkC C.N C.sc scope own = true) (ht : (tgNames tg).all (fun x => inB (own.map (·.1)) x) = true) (hs : isSetE it = false)
    (h : evIt r true C es it (fun items => compL (fun x k => bindT { C with sc := relS scope C.sc, ost := scope } tg x (wipeE es (own.map (·.2))) fun σ' =>
        evTs r { C with sc := relS scope C.sc, ost := scope } σ' noX ifs fun b => ite2 b (r.E { C with sc := relS scope C.sc, ost := scope } elt σ' (fun d => k (some d)) noX) (k none)) items [] fun l => Q (.lst l)) Z)
    {Q' : VK} (k : ∀ d v F' H', Q d → Nxt bx F H F' H' → RepN bx H F' H' d v → Q' v H') :
    tLc (wI X tg it) (fun v σ H Q => ∀ s0 H0 cc cl fp, wG (X.blk s0 H0 scope (compEnvC scope cl cc X.env) fp) tg v σ H Q) (fun σ H Q => ∀ s0 H0 cc cl fp, wTs (X.blk s0 H0 scope (compEnvC scope cl cc X.env) fp) ifs σ H Q)
      (fun σ H Q => ∀ s0 H0 cc cl fp, wE (X.blk s0 H0 scope (compEnvC scope cl cc X.env) fp) elt σ H Q) (own.map (·.2)) σ H Q' := by
  refine ok_it S A h _ fun items J F1 H1 q n1 w _ Dl hD => ?_
  have hlen := w.len
  have nb : NB bx Dl := n1.bas.ne hD
  generalize hf : (fun (x : D) (k : Option D → Prop) => bindT { C with sc := relS scope C.sc, ost := scope } tg x (wipeE es (own.map (·.2))) fun σ' =>
        evTs r { C with sc := relS scope C.sc, ost := scope } σ' noX ifs fun b => ite2 b (r.E { C with sc := relS scope C.sc, ost := scope } elt σ' (fun d => k (some d)) noX) (k none)) = f at q
  let Pv : Nat → Hp → Prop := fun i H2 => ∃ F2 acc xs, Nxt bx F1 H1 F2 H2 ∧ F2 Dl = none ∧ H2 Dl = some (.lst xs) ∧ RepL bx F2 acc xs ∧ acc.length ≤ i ∧ compL f (items.drop i) acc fun l => Q (.lst l)
  refine ⟨fun i m H2 => m = items.length - i ∧ i ≤ items.length ∧ Pv i H2, ⟨items.length, by simp, Nat.zero_le _, F1, [], [], ?_, n1.bas.freshF hD, upd_same, rfl, Nat.le_refl _, q⟩, ?_⟩
  · exact Nxt.made n1.bas hD
  rintro i m H2 ⟨rfl, hi, F2, acc, xs, n2, fD, eD, ra, la, qc⟩
  by_cases hlt : i < items.length
  · obtain ⟨d, hd⟩ : ∃ d, items[i]? = some d := ⟨items[i], List.getElem?_eq_getElem hlt⟩
    have ed : items.drop i = d :: items.drop (i + 1) := by
      rw [List.drop_eq_getElem_cons hlt]
      have := (List.getElem?_eq_getElem hlt).symm.trans hd
      rw [Option.some.inj this]
    rw [ed] at qc
    refine .inr ⟨w.goes i F2 H2 hlt n2, Pv (i + 1), fun H3 p => ⟨items.length - (i + 1), by omega, rfl, hlt, p⟩, fun x H3 y => ?_⟩
    obtain ⟨F3, n3, rx⟩ := w.yields i F2 H2 x H3 d n2 hd y
    -- the state in which the target is bound
    have n13 := n2.trans n3
    have eD3 : H3 Dl = some (.lst xs) := n3.keep _ _ nb eD
    have fD3 : F3 Dl = none := n3.out fD eD
    have s3 : SlsE bx F3 H3 (wipeE es (own.map (·.2))) (L2.wipe σ (own.map (·.2))) := ((A.s.nxt (n1.trans n13))).wipe _
    have qf : f d fun o => compL f (items.drop (i + 1)) (match o with
      | none => acc
      | some d => acc ++ [d]) fun l => Q (.lst l) := qc
    rw [← hf] at qf
    rw [hf] at qf
    intro s0 H0 cc cl fp
    have cb := conf_blk (s0 := s0) (H0 := H0) (cc := cc) (cl := cl) (fp := fp) A.c hb
    refine ok_g (C := { C with sc := relS scope C.sc, ost := scope }) cb n3.bas s3 qf rx _ fun es' σ' q3 s4 on => ⟨wipe_only (C := C) (fun p hp => ownOf_spec (eo ▸ hp)) ht on, ?_⟩
    intro s0' H0' cc' cl' fp'
    have cb' := conf_blk (s0 := s0') (H0 := H0') (cc := cc') (cl := cl') (fp := fp') A.c hb
    have A4 : At { C with sc := relS scope C.sc, ost := scope } (X.blk s0' H0' scope (compEnvC scope cl' cc' X.env) fp') (fun _ _ _ _ => False) bx F3 H3 noX es' σ' := ⟨cb', n3.bas, wish_no, s4⟩
    refine ok_ts S A4 q3 _ fun b F4 H4 q4 n4 => ?_
    have eD4 : H4 Dl = some (.lst xs) := n4.keep _ _ nb eD3
    have fD4 : F4 Dl = none := n4.out fD3 eD3
    have n14 := n13.trans n4
    cases b with
    | false =>
      show Pv (i + 1) H4
      exact ⟨F4, acc, xs, n14, fD4, eD4, RepL.mono (n3.ex.trans n4.ex) _ _ ra, by omega, q4⟩
    | true =>
      show ∀ s0 H0 cc cl fp, wE (X.blk s0 H0 scope (compEnvC scope cl cc X.env) fp) elt σ' H4 _
      intro s5 H5 cc5 cl5 fp5
      have cb5 := conf_blk (s0 := s5) (H0 := H5) (cc := cc5) (cl := cl5) (fp := fp5) A.c hb
      have A5 : At { C with sc := relS scope C.sc, ost := scope } (X.blk s5 H5 scope (compEnvC scope cl5 cc5 X.env) fp5) (fun _ _ _ _ => False) bx F4 H4 noX es' σ' := ⟨cb5, n4.bas, wish_no, s4.nxt n4⟩
      refine S.E q4 A5 _ fun d2 v2 F6 H6 q6 n6 r6 => ?_
      have eD6 : H6 Dl = some (.lst xs) := n6.keep _ _ nb eD4
      have fD6 : F6 Dl = none := n6.out fD4 eD4
      have n16 := n14.trans n6
      have hl : xs.length < LIM := by
        rw [ra.length]; omega
      refine ⟨xs, eD6, lim_lt hl, F6, acc ++ [d2], xs ++ [v2], ?_, fD6, upd_same, (RepL.mono ((n3.ex.trans n4.ex).trans n6.ex) _ _ ra).app (RepL.one r6), ?_, q6⟩
      · refine ⟨n16.ex, fun a o na ha => ?_, n16.new, n16.bas.write fD6 nb⟩
        have : a ≠ Dl := fun z => by rw [z, hD] at ha; cases ha
        rw [upd_ne this]
        exact n16.keep a o na ha
      · rw [List.length_append, List.length_singleton]; omega
  · have ei : i = items.length := by omega
    subst ei
    refine .inl ⟨w.stops F2 H2 n2, ?_⟩
    rw [List.drop_length] at qc
    refine k _ _ _ _ qc (n1.trans n2) ⟨Dl, xs, rfl, nb, fresh_back n1 hD, fD, eD, ?_, ra⟩
    omega
end
end Py
set_option maxHeartbeats 4000000
/-! The step of the evaluator of expressions is sound; all of it is. -/
namespace Py
open PySem PySem.Spec PyProof.Rows L2
section
variable {r : Evs} {C : Ctx} {X : Cx} {W : WX} {bx : BX} {F H F' H' : Hp} {Z : Str → Prop} {es : Sls} {σ : L2.St} {e : Expr}
theorem nomarkE {op : CmpOp} {b : Expr} (h : isSetE b = false) : behindInMarks op b = false := by
  cases b <;> first | rfl | (cases h; done)
theorem scal_n {d : D} {v : V} (hd : d.pur = true) (h : Rep bx F' d v) : RepN bx H F' H' d v := by
  cases d <;> first | exact h | (simp [D.pur] at hd; done)
theorem ok_binop (S : SndE r) {a b : Expr} {op : Operator} {pos : Pos} {Q : D → Prop} (A : At C X W bx F H Z es σ) (h : evC r C a es (fun x => evC r C b es (fun y => dBin op x y Q) Z) Z) : OkN X bx (.BinOp a op b pos) σ F H Q := fun Q' k => by
  refine wE_of (pe_op op_w pe_w pe_w) ?_
  refine ok_c S A h _ fun x v F1 H1 q1 n1 r1 => ?_
  refine ok_c S (A.nxt n1) q1 _ fun y u F2 H2 q2 n2 r2 => ?_
  refine ok_bin n2.bas q2 (r1.nxt n2) r2 fun d w F3 H3 q3 n3 r3 => ?_
  refine k d w F3 H3 q3 ((n1.trans n2).trans n3) ?_
  cases d with
  | lst ds =>
    obtain ⟨p, xs, g1, g2, g3, g4⟩ := r3
    exact ⟨p, xs, g1, g2, fresh_back (n1.trans n2) g3, g4⟩
  | dct ds =>
    obtain ⟨p, xs, g1, g2, g3, g4⟩ := r3
    exact ⟨p, xs, g1, g2, fresh_back (n1.trans n2) g3, g4⟩
  | _ => exact r3
theorem RepN.back {d : D} {v : V} {F1 H1 F2 H2 : Hp} (n : Nxt bx F H F1 H1) (h : RepN bx H1 F2 H2 d v) : RepN bx H F2 H2 d v := by
  cases d with
  | lst ds =>
    obtain ⟨p, xs, g1, g2, g3, g4⟩ := h
    exact ⟨p, xs, g1, g2, fresh_back n g3, g4⟩
  | dct ds =>
    obtain ⟨p, xs, g1, g2, g3, g4⟩ := h
    exact ⟨p, xs, g1, g2, fresh_back n g3, g4⟩
  | _ => exact h
theorem ok_disp (S : SndE r) {args : List Expr} {pos : Pos} {Q : D → Prop} (A : At C X W bx F H Z es σ) (hl : decide (args.length ≤ 1000) = true) (h : evAs r C es Z args fun ds => Q (.lst ds)) : OkN X bx (.List args pos) σ F H Q := fun Q' k => by
  have hl := of_decide_eq_true hl
  refine wE_of (pe_lst pa_w) ?_
  refine ok_as S A h _ fun ds vs F1 H1 q l1 n1 r1 => ?_
  refine ⟨by rw [r1.length, l1]; exact Nat.le_trans hl (by decide), fun p hp => ?_⟩
  obtain ⟨n, g⟩ := new_lst n1 hp (by rw [l1]; exact Nat.le_trans hl (by decide)) r1
  exact k _ _ _ _ q n g
/-- isinstance(e, T) -/
def tagS : D → String
  | .non => "NoneType"
  | .bl _ => "bool"
  | .int _ => "int"
  | .str _ => "str"
  | .lst _ => "list"
  | .tup _ => "tuple"
  | .dct _ => "dict"
  | .box _ => "dict"
def tags : List (String × Str) := [("NoneType", "NoneType"), ("bool", "bool"), ("int", "int"), ("str", "str"), ("list", "list"), ("tuple", "tuple"), ("dict", "dict")]
theorem tag_mem (d : D) : (tagS d, tagD d) ∈ tags := by cases d <;> simp [tagS, tagD, tags]
theorem tag_ty {d : D} {v : V} (b : Bas bx F H) (h : RepC bx F H d v) : TyX X.K H v (.type (tagS d)) := by
  cases d <;> simp only [RepC, Rep] at h
  · subst h; exact .base .non
  · subst h; exact .base (.bl _)
  · subst h; exact .base (.int _)
  · obtain ⟨rfl, _⟩ := h; exact .base (.str _)
  · obtain ⟨a, xs, rfl, _, h1, _⟩ := h; exact .base (.lst h1)
  · obtain ⟨a, xs, rfl, h1, _⟩ := h; exact .base (.tup (b.sub _ _ h1))
  · obtain ⟨a, xs, rfl, _, h1, _⟩ := h; exact .base (.dK h1)
  · obtain ⟨a, rr, hb, rfl, _⟩ := h
    obtain ⟨_, ns, m, h2, _⟩ := b.box a rr hb
    exact .base (.dK h2)
theorem isi_kit {T : Str} (hT : inB tyNames T = true) : ∃ TS : String, bootBuiltins T = some (.type TS) ∧ ∀ d : D, PySem.W.kitOne X.K (.type (tagS d)) (.type TS) = some (isTy T d) := by
  have := inB_mem hT
  simp only [tyNames, List.mem_cons, List.not_mem_nil, or_false] at this
  rcases this with rfl | rfl | rfl | rfl | rfl | rfl
  · exact ⟨"str", by decide +kernel, fun d => kit_ty ((by decide +kernel : ∀ t ∈ tags, kitB t.1 "str" = some (isTyT "str" t.2)) (tagS d, tagD d) (tag_mem d))⟩
  · exact ⟨"int", by decide +kernel, fun d => kit_ty ((by decide +kernel : ∀ t ∈ tags, kitB t.1 "int" = some (isTyT "int" t.2)) (tagS d, tagD d) (tag_mem d))⟩
  · exact ⟨"bool", by decide +kernel, fun d => kit_ty ((by decide +kernel : ∀ t ∈ tags, kitB t.1 "bool" = some (isTyT "bool" t.2)) (tagS d, tagD d) (tag_mem d))⟩
  · exact ⟨"tuple", by decide +kernel, fun d => kit_ty ((by decide +kernel : ∀ t ∈ tags, kitB t.1 "tuple" = some (isTyT "tuple" t.2)) (tagS d, tagD d) (tag_mem d))⟩
  · exact ⟨"list", by decide +kernel, fun d => kit_ty ((by decide +kernel : ∀ t ∈ tags, kitB t.1 "list" = some (isTyT "list" t.2)) (tagS d, tagD d) (tag_mem d))⟩
  · exact ⟨"dict", by decide +kernel, fun d => kit_ty ((by decide +kernel : ∀ t ∈ tags, kitB t.1 "dict" = some (isTyT "dict" t.2)) (tagS d, tagD d) (tag_mem d))⟩
theorem ok_isi (S : SndE r) {f : Str} {p pos : Pos} {args : List Expr} {e : Expr} {T : Str} {Q : D → Prop} (A : At C X W bx F H Z es σ) (hi : isIsi C f args = some (e, T)) (h : evC r C e es (fun d => Q (.bl (isTy T d))) Z) : OkE X bx (.Call (.Name f p) args [] pos) σ F H Q := fun Q' k => by
  unfold isIsi at hi
  split at hi
  · rename_i e' T' q
    split at hi
    · rename_i hg
      cases hi
      simp only [Bool.and_eq_true, decide_eq_true_eq] at hg
      obtain ⟨⟨⟨⟨⟨⟨rfl, hb⟩, hgl⟩, hbT⟩, hT⟩, hgT⟩, hs⟩ := hg
      obtain ⟨hm, hn, hdb⟩ := A.c.blt _ hb
      obtain ⟨hmT, hnT, hdbT⟩ := A.c.blt _ hbT
      obtain ⟨TS, hv, hk⟩ := isi_kit (X := X) hT
      refine wE_of (pe_callB call_isi (glob_of A.c hgl) hm (by decide +kernel) (pa_cons pe_w (pa_cons (pe_bltn (v := .ty TS) (glob_of A.c hgT) hmT hv rfl hnT hdbT) pa_nil) (star_of hs)) hn hdb (star_of hs) rfl) ?_
      refine ok_c S A h _ fun d v F1 H1 q n1 r1 => ?_
      refine ⟨v, .ty TS, _, _, _, rfl, .ty TS, tag_ty n1.bas r1, hk d, ?_⟩
      exact k _ _ _ _ q n1 rfl
    · cases hi
  · cases hi
theorem ok_call (S : SndE r) {f : Str} {p pos : Pos} {args : List Expr} {Q : D → Prop} (A : At C X W bx F H Z es σ) (h : (match globB C.sc f && args.all notStar && !args.isEmpty with
    | true => (match C.fns.lookup f with
      | some (k, φ) => ifB (args.length == k) (match args.any (isOw C es) with
        | true => evCs r C es Z args fun ds => φ ds (fun d => d.pur = true ∧ Q d) Z
        | false => evAs r C es Z args fun ds => φ ds Q Z)
      | none => ifB (inB C.blt f && inB knownB f) (evCs r C es Z args fun ds => dBlt f ds Q))
    | false => False)) : OkE X bx (.Call (.Name f p) args [] pos) σ F H Q ∧ (C.fns.lookup f = none → OkN X bx (.Call (.Name f p) args [] pos) σ F H Q) := by
  split at h
  · rename_i e
    obtain ⟨hg, hs, hne⟩ := and3 e
    have hne' : args ≠ [] := by intro z; subst z; cases hne
    split at h
    · rename_i n φ hf
      obtain ⟨hl, h⟩ := ifB_of h
      exact ⟨ok_callF S A hg hs hne' hf (by simpa using hl) h, fun z => by rw [hf] at z; cases z⟩
    · rename_i hf
      obtain ⟨hb, h⟩ := ifB_of h
      rw [Bool.and_eq_true] at hb
      have key : OkN X bx (.Call (.Name f p) args [] pos) σ F H Q := fun Q' k => by
        obtain ⟨hm, hn, hdb⟩ := A.c.blt f hb.1
        obtain ⟨e0, rest, rfl⟩ : ∃ e0 rest, args = e0 :: rest := by
          cases args with
          | nil => exact absurd rfl hne'
          | cons a b => exact ⟨a, b, rfl⟩
        have hs' := hs
        rw [List.all_cons, Bool.and_eq_true] at hs'
        have hw : wA X (e0 :: rest) σ H fun vs H1 => wBlt X f vs H1 Q' := ok_cs S A h _ fun ds vs F1 H1 q l1 n1 r1 =>
          ok_blt A.c.calm A.c.hu n1.bas q r1 fun d w F2 H2 q2 n2 r2 => k d w F2 H2 q2 (n1.trans n2) (r2.back n1)
        have hk := inB_mem hb.2
        have viaB : ∀ id, bootBuiltins f = some (.builtin id) → wE X (.Call (.Name f p) (e0 :: rest) [] pos) σ H Q' := fun id hv => by
          refine wE_of (pe_callB call_w (glob_of A.c hg) hm hv pa_w hn hdb (star_of hs'.1) (backs hs'.2)) ?_
          show wA X (e0 :: rest) σ H fun vs H1 => wCall X (.builtin id) vs H1 Q'
          intro pos' pins s I
          refine thn (hw pos' pins s I) fun us s' ⟨vs, H1, I1, r1, q1⟩ => ⟨vs, H1, I1, r1, ?_⟩
          unfold wBlt at q1
          rw [hv] at q1
          exact q1
        have viaT : ∀ T, bootBuiltins f = some (.type T) → wE X (.Call (.Name f p) (e0 :: rest) [] pos) σ H Q' := fun T hv => by
          refine wE_of (pe_callTy call_w (glob_of A.c hg) hm hv pa_w hn hdb (star_of hs'.1) (backs hs'.2)) ?_
          show wA X (e0 :: rest) σ H fun vs H1 => wCall X (.type T) vs H1 Q'
          intro pos' pins s I
          refine thn (hw pos' pins s I) fun us s' ⟨vs, H1, I1, r1, q1⟩ => ⟨vs, H1, I1, r1, ?_⟩
          unfold wBlt at q1
          rw [hv] at q1
          exact q1
        simp only [knownB, List.mem_cons, List.not_mem_nil, or_false] at hk
        rcases hk with rfl | rfl | rfl | rfl | rfl | rfl | rfl | rfl | rfl | rfl
        · exact viaB "len" (by decide +kernel)
        · exact viaB "all" (by decide +kernel)
        · exact viaB "any" (by decide +kernel)
        · exact viaB "sum" (by decide +kernel)
        · exact viaT "int" (by decide +kernel)
        · exact viaB "max" (by decide +kernel)
        · exact viaB "min" (by decide +kernel)
        · exact viaT "tuple" (by decide +kernel)
        · exact viaB "sorted" (by decide +kernel)
        · exact viaT "list" (by decide +kernel)
      exact ⟨key.toE, fun _ => key⟩
  · exact h.elim
theorem joinD_exact (s : List Nat) : ∀ ss : List (List Nat), (ss.map List.length).sum + (ss.length - 1) * s.length = (joinD s ss).length
  | [] => by simp [joinD]
  | [x] => by simp [joinD]
  | x :: y :: r => by
    have ih := joinD_exact s (y :: r)
    simp only [joinD, List.length_append, List.map_cons, List.sum_cons, List.length_cons, Nat.add_sub_cancel] at ih ⊢
    rw [Nat.succ_mul]
    omega
theorem joinL_eq (s : List Nat) : ∀ ss : List (List Nat), TL.joinL s ss = joinD s ss
  | [] => rfl
  | [x] => rfl
  | x :: y :: r => by
    show x ++ (s ++ TL.joinL s (y :: r)) = x ++ (s ++ joinD s (y :: r))
    rw [joinL_eq s (y :: r)]
theorem join_mk (s : List Nat) (ss : List (List Nat)) : Txt.join (mkS s) (ss.map mkS) = mkS (joinD s ss) := by
  rw [TL.join_eq]
  apply TL.ext_tl
  rw [TL.tl_join, List.map_map]
  have e : (TL.tl ∘ mkS) = id := by funext x; exact mkS_tl x
  rw [e, List.map_id, show TL.tl (mkS s) = s from mkS_tl s, show TL.tl (mkS (joinD s ss)) = joinD s ss from mkS_tl _, joinL_eq]
theorem mem_joinD {s : List Nat} {c : Nat} : ∀ {ss : List (List Nat)}, c ∈ joinD s ss → c ∈ s ∨ ∃ x ∈ ss, c ∈ x
  | [], h => by cases h
  | [x], h => .inr ⟨x, by simp, h⟩
  | x :: y :: r, h => by
    simp only [joinD, List.mem_append] at h
    rcases h with h | h | h
    · exact .inr ⟨x, by simp, h⟩
    · exact .inl h
    · rcases mem_joinD h with h | ⟨z, hz, h⟩
      · exact .inl h
      · exact .inr ⟨z, List.mem_cons_of_mem _ hz, h⟩
theorem ok_join_at {d : D} {v : V} {s : List Nat} {Q : D → Prop} {Q' : VK} (b : Bas bx F H) (h : seqD d fun l => getO (strsOf l) fun ss => (okS s ∧ (joinD s ss).length ≤ LIM) ∧ Q (.str (joinD s ss))) (rd : RepC bx F H d v)
    (k : ∀ d v F' H', Q d → Nxt bx F H F' H' → Rep bx F' d v → Q' v H') :
    ∃ a p, ∃ ys : List Str, V.str (mkS s) = .str a ∧ [v] = [.ref p] ∧ (SqL X.K H p (ys.map V.str) ∨ SqT X.K H p (ys.map V.str)) ∧ (ys.map (·.length)).sum + ys.length * a.length ≤ 16777216 ∧ Q' (.str (Txt.join a ys)) H := by
  have fin : ∀ (ss : List (List Nat)), (okS s ∧ (joinD s ss).length ≤ LIM) ∧ Q (.str (joinD s ss)) → (∀ x ∈ ss, okS x) → ((ss.map mkS).map (·.length)).sum + (ss.map mkS).length * (mkS s).length ≤ 16777216 ∧ Q' (.str (Txt.join (mkS s) (ss.map mkS))) H := by
    intro ss ⟨⟨h1, h2⟩, h3⟩ ok
    have e1 : ((ss.map mkS).map (·.length)).sum = (ss.map List.length).sum := by
      rw [List.map_map]; exact congrArg List.sum (List.map_congr_left fun x _ => mkS_len x)
    refine ⟨?_, ?_⟩
    · rw [e1, List.length_map, mkS_len]
      have := joinD_exact s ss
      have hN : LIM = 1000000 := rfl
      have h4 := h1.1
      cases hs : ss.length with
      | zero => omega
      | succ n =>
        rw [hs, Nat.add_sub_cancel] at this
        rw [Nat.succ_mul]; omega
    · rw [join_mk]
      refine k _ _ _ _ h3 (Nxt.refl b) ⟨rfl, h2, fun c hc => ?_⟩
      rcases mem_joinD hc with g | ⟨x, hx, g⟩
      · exact h1.2 c g
      · exact (ok x hx).2 c g
  cases d <;> first | (exfalso; exact h) | skip
  · rename_i ds
    obtain ⟨a, xs, rfl, nb, h1, h2, h3⟩ := rd
    simp only [seqD, getO] at h
    split at h
    · rename_i ss hss
      obtain ⟨rfl, _, ok⟩ := strs_of hss h3
      obtain ⟨f1, f2⟩ := fin ss h ok
      exact ⟨_, a, ss.map mkS, rfl, rfl, .inl (sq_of h1), f1, f2⟩
    · exact h.elim
  · rename_i ds
    simp only [RepC, Rep] at rd
    obtain ⟨a, xs, rfl, h1, h2, h3⟩ := rd
    simp only [seqD, getO] at h
    split at h
    · rename_i ss hss
      obtain ⟨rfl, _, ok⟩ := strs_of hss h3
      obtain ⟨f1, f2⟩ := fin ss h ok
      exact ⟨_, a, ss.map mkS, rfl, rfl, .inr (st_of (b.sub _ _ h1)), f1, f2⟩
    · exact h.elim

theorem cmp_in (S : SndE r) {a b : Expr} {op : CmpOp} {Q : D → Prop} (A : At C X W bx F H Z es σ) (h : evCmp r C es Z a op b Q) (Q' : VK) (k : ∀ d v F' H', Q d → Nxt bx F H F' H' → Rep bx F' d v → Q' v H') :
    isSetE b = false ∧ tOp (wOp X (compareOp op)) (wE X a) (wE X b) σ H Q' := by
  obtain ⟨hb, h⟩ := ifB_of h
  refine ⟨by simpa using hb, ?_⟩
  refine ok_c S A h _ fun x v F1 H1 q1 n1 r1 => ?_
  refine ok_c S (A.nxt n1) q1 _ fun y u F2 H2 q2 n2 r2 => ?_
  exact ok_cmp A.c.hu n2.bas q2 (r1.nxt n2) r2 fun d w F3 H3 q3 n3 r3 => k d w F3 H3 q3 ((n1.trans n2).trans n3) r3
theorem cmp2_in (S : SndE r) {a b c : Expr} {op op' : CmpOp} {Q : D → Prop} (A : At C X W bx F H Z es σ) (h : evCmp2 r C es Z a op b op' c Q) (Q' : VK) (k : ∀ d v F' H', Q d → Nxt bx F H F' H' → Rep bx F' d v → Q' v H') :
    isSetE c = false ∧ tChain (wOp X (compareOp op)) (wOp X (compareOp op')) (wE X a) (wE X b) (wE X c) σ H Q' := by
  obtain ⟨hb, h⟩ := ifB_of h
  rw [Bool.and_eq_true] at hb
  refine ⟨by simpa using hb.2, ?_⟩
  refine ok_c S A h _ fun x v F1 H1 q1 n1 r1 => ?_
  refine ok_c S (A.nxt n1) q1 _ fun y u F2 H2 q2 n2 r2 => ?_
  refine ok_cmp A.c.hu n2.bas q2 (r1.nxt n2) r2 fun d w F3 H3 q3 n3 r3 => ?_
  have n13 := (n1.trans n2).trans n3
  cases d <;> first | (exfalso; exact q3) | skip
  rename_i bb
  cases r3
  refine ⟨bb, rfl, ?_⟩
  cases bb with
  | true =>
    rw [if_pos rfl]
    refine ok_c S (A.nxt n13) q3 _ fun w' u' F4 H4 q4 n4 r4 => ?_
    exact ok_cmp A.c.hu n4.bas q4 ((r2.nxt n3).nxt n4) r4 fun d w F5 H5 q5 n5 r5 => k d w F5 H5 q5 ((n13.trans n4).trans n5) r5
  | false =>
    rw [if_neg Bool.false_ne_true]
    exact k _ _ _ _ q3 n13 rfl
theorem ok_cmp1 (S : SndE r) {a b : Expr} {op : CmpOp} {pos : Pos} {Q : D → Prop} (A : At C X W bx F H Z es σ) (h : evCmp r C es Z a op b Q) : OkE X bx (.Compare a [op] [b] pos) σ F H Q := fun Q' k => by
  obtain ⟨hb, h⟩ := cmp_in S A h Q' k
  exact wE_of (pe_cmpR op_w pe_w pe_w (nomarkE hb)) h
theorem marks2 {b c : Expr} {op op' : CmpOp} (h : isSetE c = false) : lastMarks [op, op'] [b, c] = false := nomarkE h
theorem ok_cmp2 (S : SndE r) {a b c : Expr} {op op' : CmpOp} {pos : Pos} {Q : D → Prop} (A : At C X W bx F H Z es σ) (h : evCmp2 r C es Z a op b op' c Q) : OkE X bx (.Compare a [op, op'] [b, c] pos) σ F H Q := fun Q' k => by
  obtain ⟨hb, h⟩ := cmp2_in S A h Q' k
  exact wE_of (pe_chain op_w op_w pe_w pe_w pe_w (marks2 hb)) h
theorem okT_cmp1 (S : SndE r) {a b : Expr} {op : CmpOp} {pos : Pos} {Q : Bool → Prop} (A : At C X W bx F H Z es σ) (h : evCmp r C es Z a op b fun d => asB d Q) : OkT X bx (.Compare a [op] [b] pos) σ F H Q := fun Q' k => by
  obtain ⟨hb, h⟩ := cmp_in S A h (fun v H' => ∃ b, v = .bl b ∧ Q' b H') fun d v F' H' q n rr => by
    cases d <;> first | (exfalso; exact q) | skip
    exact ⟨_, rr, k _ F' H' q n⟩
  exact wT_of (pt_cmpR op_w pe_w pe_w (nomarkE hb)) h
theorem okT_cmp2 (S : SndE r) {a b c : Expr} {op op' : CmpOp} {pos : Pos} {Q : Bool → Prop} (A : At C X W bx F H Z es σ) (h : evCmp2 r C es Z a op b op' c fun d => asB d Q) : OkT X bx (.Compare a [op, op'] [b, c] pos) σ F H Q := fun Q' k => by
  obtain ⟨hb, h⟩ := cmp2_in S A h (fun v H' => ∃ b, v = .bl b ∧ Q' b H') fun d v F' H' q n rr => by
    cases d <;> first | (exfalso; exact q) | skip
    exact ⟨_, rr, k _ F' H' q n⟩
  exact wT_of (pt_chain op_w op_w pe_w pe_w pe_w (marks2 hb)) h
theorem truth_of {e : Expr} (h : ∀ whole, isTrue e X.env whole = (do let v ← whole; standAt e.pos; holding [v] (truthy v))) (S : SndE r) {Q : Bool → Prop} (A : At C X W bx F H Z es σ) (q : evC r C e es (fun d => getO (truD d) Q) Z) : OkT X bx e σ F H Q := fun Q' k => by
  refine wT_of (pt_truth pe_w h) ?_
  refine ok_c S A q _ fun d v F1 H1 q1 n1 r1 => ?_
  have kk : ∀ b, Q b → Q' b H1 := fun b z => k b F1 H1 z n1
  cases d <;> simp only [truD, getO] at q1
  · cases r1; exact ⟨_, rfl, kk _ q1⟩
  · cases r1; exact ⟨_, rfl, kk _ q1⟩
  · cases r1; exact ⟨_, rfl, kk _ q1⟩
  · rename_i s
    obtain ⟨rfl, ok⟩ := r1
    refine ⟨!s.isEmpty, ⟨by rw [mkS_len]; exact lim_line ok.1, ?_⟩, kk _ q1⟩
    rw [mkS_len]
    cases s with
    | nil => rfl
    | cons x r => simp only [List.isEmpty_cons, List.length_cons, bne]; simp; omega
  · rename_i ds
    obtain ⟨a, xs, rfl, nb, h1, h2, h3⟩ := r1
    refine ⟨!ds.isEmpty, .inl ⟨xs, sq_of h1, ?_⟩, kk _ q1⟩
    have := h3.length
    cases ds <;> cases xs <;> first | rfl | (simp at this; done)
  · rename_i ds
    simp only [RepC, Rep] at r1
    obtain ⟨a, xs, rfl, h1, h2, h3⟩ := r1
    refine ⟨!ds.isEmpty, .inr (.inl ⟨xs, st_of (n1.bas.sub _ _ h1), ?_⟩), kk _ q1⟩
    have := h3.length
    cases ds <;> cases xs <;> first | rfl | (simp at this; done)
  · rename_i ds
    obtain ⟨a, xs, rfl, nb, h1, h2, h3⟩ := r1
    refine ⟨!ds.isEmpty, .inr (.inr ⟨xs, h1, ?_⟩), kk _ q1⟩
    cases ds <;> cases xs <;> first | rfl | (simp [RepK] at h3; done) | (simp only [RepK] at h3; obtain ⟨_, _, _, z, _⟩ := h3; cases z; done)
theorem wW_of {op : BoolOp} {vs : List Expr} {pos : Pos} : PW X (.BoolOp op vs pos) (wT X (.BoolOp op vs pos)) := ⟨fun whole pins s σ H Q I h => by
  have := h pins s I
  cases op <;> exact this⟩
theorem pt_ifExp {t a b : Expr} {pos : Pos} : PT X (.IfExp t a b pos) (fun σ H Q => wT X t σ H fun c H1 => if c = true then wT X a σ H1 Q else wT X b σ H1 Q) := by
  refine ⟨fun pins s σ H Q I h => ?_⟩
  show wpAny (model X.prog X.w) X.A (do if ← isTrue t X.env (eval t X.env) then isTrue a X.env (eval a X.env) else isTrue b X.env (eval b X.env)) _ _ s
  refine wpAny_bind (thn (h pins s I) fun c s1 ⟨H1, I1, q1⟩ => ?_)
  cases c with
  | true => exact q1 pins s1 I1
  | false => exact q1 pins s1 I1
theorem stepE_name {x : Str} {pos : Pos} {Q : D → Prop} : stepE r C (.Name x pos) es Q Z = slotIm C x es Q := rfl
def blG (X : Cx) (scope : Scope) (tg : Expr) : TG := fun v σ H Q => ∀ s0 H0 cc cl fp, wG (X.blk s0 H0 scope (compEnvC scope cl cc X.env) fp) tg v σ H Q
def blT (X : Cx) (scope : Scope) (ifs : List Expr) : TT := fun σ H Q => ∀ s0 H0 cc cl fp, wTs (X.blk s0 H0 scope (compEnvC scope cl cc X.env) fp) ifs σ H Q
def blE (X : Cx) (scope : Scope) (elt : Expr) : TE := fun σ H Q => ∀ s0 H0 cc cl fp, wE (X.blk s0 H0 scope (compEnvC scope cl cc X.env) fp) elt σ H Q
/-- the step: an expression -/
theorem snd_E (S : SndE r) {Q : D → Prop} (h : stepE r C e es Q Z) (A : At C X W bx F H Z es σ) : OkE X bx e σ F H Q ∧ (isNew e = true → OkN X bx e σ F H Q) := by
  unfold stepE at h
  split at h
  · exact ⟨ok_name A h, fun z => by cases z⟩
  · exact ⟨fun Q' k => wE_of pe_int (k _ _ _ _ h (Nxt.refl A.b) rfl), fun z => by cases z⟩
  · rename_i x _ _
    refine ⟨fun Q' k => wE_of pe_str ?_, fun z => by cases z⟩
    have e : mkS x.cps.toList = x := by simp [mkS]
    exact k _ _ _ _ h.2 (Nxt.refl A.b) ⟨by rw [e], h.1⟩
  · exact ⟨fun Q' k => wE_of pe_bl (k _ _ _ _ h (Nxt.refl A.b) rfl), fun z => by cases z⟩
  · exact ⟨fun Q' k => wE_of pe_non (k _ _ _ _ h (Nxt.refl A.b) rfl), fun z => by cases z⟩
  · exact ⟨(ok_binop S A h).toE, fun _ => ok_binop S A h⟩
  · exact ⟨ok_cmp1 S A h, fun z => by cases z⟩
  · exact ⟨ok_cmp2 S A h, fun z => by cases z⟩
  · exact ⟨fun Q' k => wE_of (pe_one pe_w) (S.E h A Q' k), fun z => by cases z⟩
  · exact ⟨fun Q' k => wE_of (pe_one pe_w) (S.E h A Q' k), fun z => by cases z⟩
  · refine ⟨fun Q' k => wE_of (pe_and pe_w pe_w) ?_, fun z => by cases z⟩
    refine S.E h A _ fun d v F1 H1 q1 n1 r1 => ?_
    cases d <;> first | (exfalso; exact q1) | skip
    rename_i bb
    cases r1
    refine ⟨bb, rfl, ?_⟩
    cases bb with
    | true =>
      rw [if_pos rfl]
      exact S.E q1 (A.nxt n1) Q' fun d v F2 H2 q2 n2 r2 => k d v F2 H2 q2 (n1.trans n2) r2
    | false =>
      rw [if_neg Bool.false_ne_true]
      exact k _ _ _ _ q1 n1 rfl
  · refine ⟨fun Q' k => wE_of (pe_or pe_w pe_w) ?_, fun z => by cases z⟩
    refine S.E h A _ fun d v F1 H1 q1 n1 r1 => ?_
    cases d <;> first | (exfalso; exact q1) | skip
    rename_i bb
    cases r1
    refine ⟨bb, rfl, ?_⟩
    cases bb with
    | true =>
      rw [if_pos rfl]
      exact k _ _ _ _ q1 n1 rfl
    | false =>
      rw [if_neg Bool.false_ne_true]
      exact S.E q1 (A.nxt n1) Q' fun d v F2 H2 q2 n2 r2 => k d v F2 H2 q2 (n1.trans n2) r2
  · refine ⟨fun Q' k => wE_of (pe_not pe_w) ?_, fun z => by cases z⟩
    refine S.E h A _ fun d v F1 H1 q1 n1 r1 => ?_
    cases d <;> first | (exfalso; exact q1) | skip
    cases r1
    exact ⟨_, rfl, k _ _ _ _ q1 n1 rfl⟩
  · refine ⟨fun Q' k => wE_of (pe_un un_neg pe_w) ?_, fun z => by cases z⟩
    refine S.E h A _ fun d v F1 H1 q1 n1 r1 => ?_
    cases d <;> first | (exfalso; exact q1) | skip
    cases r1
    exact ⟨_, rfl, k _ _ _ _ q1 n1 rfl⟩
  · refine ⟨fun Q' k => wE_of (pe_ifExp pt_w pe_w pe_w) ?_, fun z => by cases z⟩
    refine S.T h A _ fun b F1 H1 q1 n1 => ?_
    cases b with
    | true =>
      rw [if_pos rfl]
      exact S.E q1 (A.nxt n1) Q' fun d v F2 H2 q2 n2 r2 => k d v F2 H2 q2 (n1.trans n2) r2
    | false =>
      rw [if_neg Bool.false_ne_true]
      exact S.E q1 (A.nxt n1) Q' fun d v F2 H2 q2 n2 r2 => k d v F2 H2 q2 (n1.trans n2) r2
  · -- a tuple
    obtain ⟨hl, h⟩ := ifB_of h
    have hl := of_decide_eq_true hl
    refine ⟨fun Q' k => wE_of (pe_tup pa_w) ?_, fun z => by cases z⟩
    refine ok_as S A h _ fun ds vs F1 H1 q l1 n1 r1 => ?_
    refine ⟨by rw [r1.length, l1]; exact Nat.le_trans hl (by decide), fun p hp => ?_⟩
    obtain ⟨n, g⟩ := new_tup n1 hp (by rw [l1]; exact Nat.le_trans hl (by decide)) r1
    exact k _ _ _ _ q n g
  · obtain ⟨hl, h⟩ := ifB_of h
    exact ⟨(ok_disp S A hl h).toE, fun _ => ok_disp S A hl h⟩
  · -- a slice
    rename_i a lo hi p2 pos
    have key : OkN X bx (.Subscript a (.Slice lo hi none p2) pos) σ F H Q := fun Q' k => by
      refine wE_of (pe_slice sl_w pe_w po_w po_w) ?_
      refine ok_c S A h _ fun x v F1 H1 q1 n1 r1 => ?_
      refine ok_o S (A.nxt n1) q1 _ fun l F2 H2 q2 n2 => ?_
      refine ok_o S (A.nxt (n1.trans n2)) q2 _ fun u F3 H3 q3 n3 => ?_
      exact ok_sl n3.bas q3 ((r1.nxt n2).nxt n3) fun d w F4 H4 q4 n4 r4 => k d w F4 H4 q4 (((n1.trans n2).trans n3).trans n4) (r4.back ((n1.trans n2).trans n3))
    exact ⟨OkN.toE key, fun _ => key⟩
  · exact h.elim
  · -- a subscript
    rename_i a b pos nsl1 nsl2
    refine ⟨fun Q' k => wE_of (pe_ix ix_w pe_w pe_w ?_) ?_, fun z => by cases z⟩
    · intro o i
      cases b <;> first | rfl | skip
      rename_i lo hi st p
      cases st with
      | none => exact absurd rfl (nsl1 lo hi p)
      | some st => exact absurd rfl (nsl2 lo hi st p)
    · refine ok_c S A h _ fun x v F1 H1 q1 n1 r1 => ?_
      refine S.E q1 (A.nxt n1) _ fun y u F2 H2 q2 n2 r2 => ?_
      exact ok_ix A.c.hu n2.bas q2 (r1.nxt n2) r2 fun d w F3 H3 q3 n3 r3 => k d w F3 H3 q3 ((n1.trans n2).trans n3) r3
  · split at h
    · rename_i hi
      exact ⟨ok_isi S A hi h, fun z => by cases z⟩
    · exact ⟨(ok_call S A h).1, fun z => by cases z⟩
  · -- join
    rename_i s k1 p1 m ap a pos
    obtain ⟨hc, h2⟩ := ifB_of h
    clear h
    obtain ⟨hm, hl, hs⟩ := and3 hc
    have hm := of_decide_eq_true hm
    subst hm
    refine ⟨fun Q' k => wE_of (pe_join (apos := ap) (pos := pos) (pe_str (x := s) (j := k1) (pos := p1)) pe_w (star_of hs) rfl hl) ?_, fun z => by cases z⟩
    have e : mkS s.cps.toList = s := by simp [mkS]
    refine ⟨⟨s, rfl⟩, ?_⟩
    refine ok_c S A h2 _ fun d v F1 H1 q1 n1 r1 => ?_
    have := ok_join_at (X := X) (Q' := Q') n1.bas q1 r1 fun d v F2 H2 q2 n2 r2 => k d v F2 H2 q2 (n1.trans n2) r2
    rw [e] at this
    exact this
  · -- a comprehension
    rename_i elt tg it ifs scope pos
    split at h
    · rename_i hc
      obtain ⟨hb, ht, hs⟩ := and3 hc
      have nd : X.N.Nodup := by rw [A.c.N]; exact A.c.nd
      have bo : BlkOk X.N X.env.scope scope (ownOf C.N scope.names) := by rw [A.c.N, A.c.sc]; exact blkOk_by hb
      have key : OkN X bx (.ListComp elt [⟨tg, it, ifs, 0⟩] scope pos) σ F H Q := fun Q' k => by
        exact wE_of (pe_lc A.c.calm nd pi_w bo (g := blG X scope tg) (tt := blT X scope ifs) (te := blE X scope elt) (fun s0 H0 cc cl fp => ⟨fun pins s σ H v u Q I r h => h s0 H0 cc cl fp pins s u I r⟩) (fun s0 H0 cc cl fp => ⟨fun pins s σ H Q I h => h s0 H0 cc cl fp pins s I⟩)
          (fun s0 H0 cc cl fp => ⟨fun pins s σ H Q I h => h s0 H0 cc cl fp pins s I⟩) (fset (by simpa using hs))) (ok_lc S rfl A hb ht (by simpa using hs) h k)
      exact ⟨key.toE, fun _ => key⟩
    · exact h.elim
  · exact h.elim
/-- the step: a test -/
theorem snd_T (S : SndE r) {Q : Bool → Prop} (h : stepT r C e es Q Z) (A : At C X W bx F H Z es σ) : OkT X bx e σ F H Q := fun Q' k => by
  unfold stepT at h
  split at h
  · exact wT_of (pt_not pt_w) (S.T h A _ fun b F1 H1 q1 n1 => k _ _ _ q1 n1)
  · exact wT_of (PW.pt (pw_and1 pt_w)) (S.T h A Q' k)
  · exact wT_of (PW.pt (pw_or1 pt_w)) (S.T h A Q' k)
  · refine wT_of (PW.pt (pw_and pt_w wW_of)) ?_
    refine S.T h A _ fun b F1 H1 q1 n1 => ?_
    cases b with
    | true =>
      rw [if_pos rfl]
      exact S.T q1 (A.nxt n1) Q' fun b F2 H2 q2 n2 => k b F2 H2 q2 (n1.trans n2)
    | false =>
      rw [if_neg Bool.false_ne_true]
      exact k _ _ _ q1 n1
  · refine wT_of (PW.pt (pw_or pt_w wW_of)) ?_
    refine S.T h A _ fun b F1 H1 q1 n1 => ?_
    cases b with
    | true =>
      rw [if_pos rfl]
      exact k _ _ _ q1 n1
    | false =>
      rw [if_neg Bool.false_ne_true]
      exact S.T q1 (A.nxt n1) Q' fun b F2 H2 q2 n2 => k b F2 H2 q2 (n1.trans n2)
  · exact h.elim
  · refine wT_of pt_ifExp ?_
    refine S.T h A _ fun b F1 H1 q1 n1 => ?_
    cases b with
    | true =>
      rw [if_pos rfl]
      exact S.T q1 (A.nxt n1) Q' fun b F2 H2 q2 n2 => k b F2 H2 q2 (n1.trans n2)
    | false =>
      rw [if_neg Bool.false_ne_true]
      exact S.T q1 (A.nxt n1) Q' fun b F2 H2 q2 n2 => k b F2 H2 q2 (n1.trans n2)
  · exact okT_cmp1 S A h Q' k
  · exact okT_cmp2 S A h Q' k
  · exact h.elim
  · rename_i h1 h2 h3 h4 h5 h6 h7 h8 h9 h10
    refine truth_of (fun whole => ?_) S A h Q' k
    cases e <;> first | rfl | skip
    · rename_i op vs pos
      exfalso
      match op, vs with
      | .And, [] => exact h6 _ _ rfl
      | .Or, [] => exact h6 _ _ rfl
      | .And, [a] => exact h2 _ _ rfl
      | .Or, [a] => exact h3 _ _ rfl
      | .And, a :: b :: l => exact h4 _ _ _ _ rfl
      | .Or, a :: b :: l => exact h5 _ _ _ _ rfl
    · rename_i op a pos
      cases op <;> first | rfl | exact (h1 _ _ rfl).elim
    · exact (h7 _ _ _ _ rfl).elim
    · exact (h10 _ _ _ _ rfl).elim
end
end Py
set_option maxHeartbeats 4000000
/-! Statements: the evaluator is sound; a def by its body. -/
namespace Py
open PySem PySem.Spec PyProof.Rows L2
theorem snd_evs : ∀ n : Nat, SndE (evs n)
  | 0 => ⟨fun h _ => h.elim, fun h _ => h.elim⟩
  | n + 1 => ⟨fun h A => (snd_E (snd_evs n) h A).1, fun h A => snd_T (snd_evs n) h A⟩
theorem new_evs (n : Nat) {C : Ctx} {X : Cx} {W : WX} {bx : BX} {F H : Hp} {Z : Str → Prop} {es : Sls} {σ : L2.St} {e : Expr} {Q : D → Prop} (hn : isNew e = true) (h : (evs n).E C e es Q Z) (A : At C X W bx F H Z es σ) : OkN X bx e σ F H Q := by
  cases n with
  | zero => exact h.elim
  | succ n => exact (snd_E (snd_evs n) h A).2 hn

/-- the state behind statements, seen from the def's entry (Fe, He) -/
structure StOk (bx : BX) (Fe He Fk : Hp) (es : Sls) (σ : L2.St) (F H : Hp) : Prop where
  n : Nxt bx Fe He F H
  k : Ex Fk F
  s : SlsE bx F H es σ
  own : ∀ (i : Nat) (d : D) (a : Addr), es[i]? = some (.ow d) → σ[i]? = some (some (.ref a)) → He a = none
  inj : ∀ (i j : Nat) (d e : D) (a : Addr), es[i]? = some (.ow d) → es[j]? = some (.ow e) → σ[i]? = some (some (.ref a)) → σ[j]? = some (some (.ref a)) → i = j
/-- what is wanted behind statements, on both sides -/
structure Fit (X : Cx) (bx : BX) (W : WX) (Fe He Fk : Hp) (P : Pst) (Dn : Ends) : Prop where
  nx : ∀ es σ F H, P.nx es → StOk bx Fe He Fk es σ F H → Dn.nx σ H
  rt : ∀ d v F H, P.rt d → Nxt bx Fe He F H → Rep bx F d v → Dn.rt v H
  bk : ∀ es σ F H, P.bk es → StOk bx Fe He Fk es σ F H → Dn.bk σ H
  ct : ∀ es σ F H, P.ct es → StOk bx Fe He Fk es σ F H → Dn.ct σ H
  ex : Wish X bx W Fe He P.ex
def SndS (S : Ctx → Stmt → Sls → Pst → Prop) : Prop := ∀ {C st es P X W bx Fe He Fk F H σ Dn}, S C st es P → Conf C X W → PassesOwn (model X.prog X.w) X.A X.env X.xe → StOk bx Fe He Fk es σ F H → Fit X bx W Fe He Fk P Dn → wS X st Dn σ H
section
variable {n : Nat} {S : Ctx → Stmt → Sls → Pst → Prop} {C : Ctx} {X : Cx} {W : WX} {bx : BX} {Fe He Fk F H F' H' : Hp} {es : Sls} {σ : L2.St} {P : Pst} {Dn : Ends}
theorem StOk.at (k : StOk bx Fe He Fk es σ F H) (c : Conf C X W) (w : Wish X bx W Fe He P.ex) : At C X W bx F H P.ex es σ := ⟨c, k.n.bas, w.nxt k.n, k.s⟩
theorem StOk.nxt (k : StOk bx Fe He Fk es σ F H) (n : Nxt bx F H F' H') : StOk bx Fe He Fk es σ F' H' := ⟨k.n.trans n, k.k.trans n.ex, k.s.nxt n, k.own, k.inj⟩
/-- a slot takes a frozen value -/
theorem StOk.setIm (k : StOk bx Fe He Fk es σ F H) {i : Nat} {d : D} {v : V} (r : Rep bx F d v) : StOk bx Fe He Fk (es.set i (.im d)) (σ.set i (some v)) F H := by
  have old : ∀ (j : Nat) (d' : D), (es.set i (.im d))[j]? = some (.ow d') → i ≠ j ∧ es[j]? = some (.ow d') := fun j d' h => by
    by_cases e : i = j
    · subst e
      by_cases hl : i < es.length
      · rw [List.getElem?_set_self hl] at h; cases h
      · rw [List.getElem?_eq_none (by rw [List.length_set]; omega)] at h; cases h
    · rw [List.getElem?_set_ne e] at h; exact ⟨e, h⟩
  refine ⟨k.n, k.k, k.s.set (sl_im r), fun j d' a h g => ?_, fun j j' d' e' a h h' g g' => ?_⟩
  · obtain ⟨ne, h⟩ := old j d' h
    rw [List.getElem?_set_ne ne] at g
    exact k.own j d' a h g
  · obtain ⟨ne, h⟩ := old j d' h
    obtain ⟨ne', h'⟩ := old j' e' h'
    rw [List.getElem?_set_ne ne] at g
    rw [List.getElem?_set_ne ne'] at g'
    exact k.inj j j' d' e' a h h' g g'
/-- a slot takes a new container -/
theorem StOk.setOw (k : StOk bx Fe He Fk es σ F H) {i : Nat} {d : D} {a : Addr} (hn : ∀ (j : Nat) (d' : D), es[j]? = some (.ow d') → σ[j]? ≠ some (some (.ref a))) (he : He a = none) (nb : NB bx a) (hf : F a = none) (o : OwnR bx F H d a) :
    StOk bx Fe He Fk (es.set i (.ow d)) (σ.set i (some (.ref a))) F H := by
  have cas : ∀ (j : Nat) (d' : D), (es.set i (.ow d))[j]? = some (.ow d') → (i = j ∧ i < es.length) ∨ (i ≠ j ∧ es[j]? = some (.ow d')) := fun j d' h => by
    by_cases e : i = j
    · subst e
      by_cases hl : i < es.length
      · exact .inl ⟨rfl, hl⟩
      · rw [List.getElem?_eq_none (by rw [List.length_set]; omega)] at h; cases h
    · rw [List.getElem?_set_ne e] at h; exact .inr ⟨e, h⟩
  have at_i : i < es.length → ∀ b, (σ.set i (some (.ref a)))[i]? = some (some (.ref b)) → b = a := fun hl b h => by
    rw [List.getElem?_set_self (by rw [← k.s.1]; exact hl)] at h
    cases h; rfl
  refine ⟨k.n, k.k, k.s.set ⟨a, rfl, nb, hf, o⟩, fun j d' b h g => ?_, fun j j' d' e' b h h' g g' => ?_⟩
  · rcases cas j d' h with ⟨rfl, hl⟩ | ⟨ne, h⟩
    · rw [at_i hl b g]; exact he
    · rw [List.getElem?_set_ne ne] at g
      exact k.own j d' b h g
  · rcases cas j d' h with ⟨rfl, hl⟩ | ⟨ne, h⟩
    · have eb := at_i hl b g
      subst eb
      rcases cas j' e' h' with ⟨rfl, _⟩ | ⟨ne', h'⟩
      · rfl
      · rw [List.getElem?_set_ne ne'] at g'
        exact absurd g' (hn j' e' h')
    · rw [List.getElem?_set_ne ne] at g
      rcases cas j' e' h' with ⟨rfl, hl'⟩ | ⟨ne', h'⟩
      · have eb := at_i hl' b g'
        subst eb
        exact absurd g (hn j d' h)
      · rw [List.getElem?_set_ne ne'] at g'
        exact k.inj j j' d' e' b h h' g g'
/-- an owned container is changed -/
theorem StOk.write (k : StOk bx Fe He Fk es σ F H) {i : Nat} {d d2 : D} {a : Addr} {o : HO} (h1 : es[i]? = some (.ow d)) (h2 : σ[i]? = some (some (.ref a))) (nb : NB bx a) (hf : F a = none) (hw : OwnR bx F (upd H a o) d2 a) :
    StOk bx Fe He Fk (es.set i (.ow d2)) σ F (upd H a o) := by
  have hil : i < es.length := (List.getElem?_eq_some_iff.mp h1).1
  have sσ : σ.set i (some (.ref a)) = σ := by
    apply List.ext_getElem?
    intro j
    by_cases e : i = j
    · subst e; rw [List.getElem?_set_self (by rw [← k.s.1]; exact hil), h2]
    · rw [List.getElem?_set_ne e]
  have hea := k.own i d a h1 h2
  have n2 : Nxt bx Fe He F (upd H a o) := ⟨k.n.ex, fun b u nb' hb => by
    have : b ≠ a := fun z => by rw [z, hea] at hb; cases hb
    rw [upd_ne this]; exact k.n.keep b u nb' hb, k.n.new, k.n.bas.write hf nb⟩
  have cas : ∀ (j : Nat) (d' : D), (es.set i (.ow d2))[j]? = some (.ow d') → i = j ∨ (i ≠ j ∧ es[j]? = some (.ow d')) := fun j d' h => by
    by_cases e : i = j
    · exact .inl e
    · rw [List.getElem?_set_ne e] at h; exact .inr ⟨e, h⟩
  refine ⟨n2, k.k, ⟨by rw [List.length_set]; exact k.s.1, fun j e he => ?_⟩, fun j d' b h g => ?_, fun j j' d' e' b h h' g g' => ?_⟩
  · by_cases e0 : i = j
    · subst e0
      rw [List.getElem?_set_self hil] at he
      cases he
      exact ⟨_, h2, a, rfl, nb, hf, hw⟩
    · rw [List.getElem?_set_ne e0] at he
      obtain ⟨oo, g1, g2⟩ := k.s.2 j e he
      refine ⟨oo, g1, ?_⟩
      cases e with
      | no => trivial
      | im d' => exact g2
      | ow d' =>
        obtain ⟨b, rfl, nb', hf', ow⟩ := g2
        have hba : b ≠ a := fun z => e0 (k.inj i j d d' a h1 he h2 (z ▸ g1))
        refine ⟨b, rfl, nb', hf', ?_⟩
        cases d' <;> simp only [OwnR] at ow ⊢
        · obtain ⟨xs, w1, w2⟩ := ow
          exact ⟨xs, by rw [upd_ne hba]; exact w1, w2⟩
        · obtain ⟨xs, w1, w2⟩ := ow
          exact ⟨xs, by rw [upd_ne hba]; exact w1, w2⟩
  · rcases cas j d' h with rfl | ⟨ne, h⟩
    · rw [h2] at g; cases g; exact hea
    · exact k.own j d' b h g
  · rcases cas j d' h with rfl | ⟨ne, h⟩
    · rcases cas j' e' h' with rfl | ⟨ne', h'⟩
      · rfl
      · exact k.inj i j' d e' b h1 h' g g'
    · rcases cas j' e' h' with rfl | ⟨ne', h'⟩
      · exact k.inj j i d' d b h h1 g g'
      · exact k.inj j j' d' e' b h h' g g'
theorem Fit.nx' {P2 : Pst} {N : L2.St → Hp → Prop} (f : Fit X bx W Fe He Fk P Dn) (nx : Sls → Prop) (h : ∀ es σ F H, nx es → StOk bx Fe He Fk es σ F H → N σ H) : Fit X bx W Fe He Fk { P with nx := nx } { Dn with nx := N } := ⟨h, f.rt, f.bk, f.ct, f.ex⟩
/-- a block -/
theorem ok_b (hS : SndS S) (c : Conf C X W) (hp : PassesOwn (model X.prog X.w) X.A X.env X.xe) : ∀ {sts : List Stmt} {es : Sls} {σ : L2.St} {F H : Hp} {P : Pst} {Dn : Ends}, evB S C sts es P → StOk bx Fe He Fk es σ F H → Fit X bx W Fe He Fk P Dn → wSs X sts Dn σ H
  | [], es, σ, F, H, P, Dn, h, k, f => wSs_of pss_nil (f.nx es σ F H h k)
  | st :: sts, es, σ, F, H, P, Dn, h, k, f => by
    refine wSs_of (pss_cons ps_w pss_w) ?_
    exact hS h c hp k (f.nx' (P2 := P) _ fun es' σ' F' H' h' k' => ok_b hS c hp h' k' f)

theorem StOk.rek {Fk2 : Hp} (k : StOk bx Fe He Fk es σ F H) (e : Ex Fk2 F) : StOk bx Fe He Fk2 es σ F H := ⟨k.n, e, k.s, k.own, k.inj⟩
/-- names of a target are bound -/
theorem StOk.bind {tg : Expr} {d : D} {v : V} {K : Sls → Prop} (c : Conf C X W) (k : StOk bx Fe He Fk es σ F H) (h : bindT C tg d es K) (rv : Rep bx F d v) (Q : L2.St → Hp → Prop)
    (q : ∀ es' σ', K es' → StOk bx Fe He Fk es' σ' F H → Q σ' H) : wG X tg v σ H Q := by
  have nd : X.N.Nodup := by rw [c.N]; exact c.nd
  have b := k.n.bas
  cases tg <;> first | (exfalso; exact h) | skip
  · rename_i x pos
    obtain ⟨hl, h⟩ := ifB_of (show ifB (locB C.ost x) (getO (ixOf C.N x) fun i => K (es.set i (.im d))) from h)
    obtain ⟨i, hi, h⟩ := getO_of h
    obtain ⟨l1, l2⟩ := loc_of c hl
    refine wG_of (pg_name nd (by rw [c.N]; exact ixOf_spec hi) l1 l2) ?_
    exact q _ _ h (k.setIm rv)
  · rename_i ts tk tp
    obtain ⟨x, xp, y, yp, rfl⟩ | ⟨x, xp, y, yp, z, zp, rfl⟩ := tup_names ts tk tp h
    · obtain ⟨hl, h⟩ := ifB_of (show ifB (locB C.ost x && locB C.ost y) (getO (ixOf C.N x) fun i => getO (ixOf C.N y) fun j => asT2 d fun a b => K ((es.set i (.im a)).set j (.im b))) from h)
      rw [Bool.and_eq_true] at hl
      obtain ⟨i, hi, h⟩ := getO_of h
      obtain ⟨j, hj, h⟩ := getO_of h
      obtain ⟨d, e, rfl, h⟩ := asT2_of h
      obtain ⟨l1, l2⟩ := loc_of c hl.1
      obtain ⟨m1, m2⟩ := loc_of c hl.2
      simp only [Rep, RepL] at rv
      obtain ⟨a, xs, rfl, h1, h2, u, _, rfl, ru, w, _, rfl, rw', rfl⟩ := rv
      refine wG_of (pg_tup c.calm (pgs_cons (pg_name nd (by rw [c.N]; exact ixOf_spec hi) l1 l2) (pgs_cons (pg_name nd (by rw [c.N]; exact ixOf_spec hj) m1 m2) pgs_nil))) ?_
      refine ⟨a, _, rfl, st_of (b.sub _ _ h1), rfl, u, _, rfl, w, _, rfl, rfl, ?_⟩
      exact q _ _ h ((k.setIm ru).setIm rw')
    · obtain ⟨hl, h⟩ := ifB_of (show ifB (locB C.ost x && locB C.ost y && locB C.ost z) (getO (ixOf C.N x) fun i => getO (ixOf C.N y) fun j => getO (ixOf C.N z) fun k => asT3 d fun a b c => K (((es.set i (.im a)).set j (.im b)).set k (.im c))) from h)
      obtain ⟨hl1, hl2, hl3⟩ := and3 hl
      obtain ⟨i, hi, h⟩ := getO_of h
      obtain ⟨j, hj, h⟩ := getO_of h
      obtain ⟨m, hm, h⟩ := getO_of h
      obtain ⟨d, e, f, rfl, h⟩ := asT3_of h
      obtain ⟨l1, l2⟩ := loc_of c hl1
      obtain ⟨m1, m2⟩ := loc_of c hl2
      obtain ⟨n1, n2⟩ := loc_of c hl3
      simp only [Rep, RepL] at rv
      obtain ⟨a, xs, rfl, h1, h2, u, _, rfl, ru, w, _, rfl, rw', p, _, rfl, rq, rfl⟩ := rv
      refine wG_of (pg_tup c.calm (pgs_cons (pg_name nd (by rw [c.N]; exact ixOf_spec hi) l1 l2) (pgs_cons (pg_name nd (by rw [c.N]; exact ixOf_spec hj) m1 m2) (pgs_cons (pg_name nd (by rw [c.N]; exact ixOf_spec hm) n1 n2) pgs_nil)))) ?_
      refine ⟨a, _, rfl, st_of (b.sub _ _ h1), rfl, u, _, rfl, w, _, rfl, p, _, rfl, rfl, ?_⟩
      exact q _ _ h (((k.setIm ru).setIm rw').setIm rq)
theorem swaps0 {e t : Expr} {l : Nat} {env : PySem.Env} (h : isComp e = false) : swapsWith e (some t) l env = pure false := by
  cases e <;> first | rfl | (cases h; done)
/-- in place -/
theorem ok_ip {op : Operator} {x y : D} {v u : V} {Q : D → Prop} {Q' : VK} (b : Bas bx F H) (ho : augOk op x y = true) (h : dBin op x y Q) (rx : Rep bx F x v) (ry : Rep bx F y u)
    (k : ∀ d w F' H', Q d → Nxt bx F H F' H' → Rep bx F' d w → Q' w H') : wIp X op v u H Q' := by
  cases op <;> cases x <;> cases y <;> first | (exfalso; exact Bool.noConfusion ho) | skip
  · rename_i i j
    cases rx; cases ry
    exact wIp_of (show PIp X .Add _ from iop_add) ⟨i, j, rfl, rfl, k _ _ _ _ h (Nxt.refl b) rfl⟩
  · rename_i s t
    obtain ⟨hl, h⟩ := h
    obtain ⟨rfl, ox⟩ := rx
    obtain ⟨rfl, oy⟩ := ry
    exact wIp_of (show PIp X .Add _ from iop_add_str) ⟨mkS s, mkS t, rfl, rfl, by rw [mkS_len, mkS_len]; exact lim_line hl, by rw [mkS_app]; exact k _ _ _ _ h (Nxt.refl b) ⟨rfl, okS_app ox oy hl⟩⟩
  · rename_i i j
    cases rx; cases ry
    exact wIp_of (show PIp X .Sub _ from iop_sub) ⟨i, j, rfl, rfl, k _ _ _ _ h (Nxt.refl b) rfl⟩
  · rename_i i j
    cases rx; cases ry
    exact wIp_of (show PIp X .Mult _ from iop_mul) ⟨i, j, rfl, rfl, h.1, k _ _ _ _ h.2 (Nxt.refl b) rfl⟩
  · rename_i i j
    cases rx; cases ry
    exact wIp_of (show PIp X .Mod _ from iop_mod) ⟨i, j, rfl, rfl, h.1, k _ _ _ _ h.2 (Nxt.refl b) rfl⟩
  · rename_i i j
    cases rx; cases ry
    exact wIp_of (show PIp X .FloorDiv _ from iop_fdiv) ⟨i, j, rfl, rfl, h.1, k _ _ _ _ h.2 (Nxt.refl b) rfl⟩
theorem swapped_pair {x y : Str} {a b : Expr} {env : PySem.Env} {px py pt pt2 : Pos} {kt k2 : Nat} (hk : env.scope.kind = .function) (hx : env.scope.names.lookup x = some .local) (hy : env.scope.names.lookup y = some .local) (hl : (px.line == py.line) = true) (hne : x ≠ y)
    (h1 : (foldedForSure 8 a && foldedForSure 8 b) = false) (h2 : (constantsAlone 8 a && constantsAlone 8 b) = false) (ha : notStar a = true) (hb : notStar b = true) :
    swappedStores [.Tuple [.Name x px, .Name y py] kt pt] (.Tuple [a, b] k2 pt2) env = pure (some [x, y]) := by
  have kx : env.kindOf x = some .local := hx
  have ky : env.kindOf y = some .local := hy
  have hbk : env.blockKind = .function := by unfold Env.blockKind; rw [hk]; rfl
  have hl' : px.line = py.line := by simpa using hl
  have ns : ([a, b].any fun | .Starred .. => true | _ => false) = false := by
    cases a <;> cases b <;> first | rfl | (cases ha; done) | (cases hb; done)
  unfold swappedStores
  simp only [List.length_cons, List.length_nil, hbk, ns, List.all_cons, List.all_nil, Bool.and_true, h1, h2]
  have hne' : (y == x) = false := by simp [Ne.symm hne]
  have e2 : (List.eraseDupsBy (fun x1 x2 => x1 == x2) [x, y]).length = 2 := by
    simp [List.eraseDupsBy, List.eraseDupsBy.loop, hne']
  simp [kx, ky, hl', hne, Expr.pos, List.eraseDups, e2]
  cases a <;> cases b <;> first | (simp; done) | (cases ha; done) | (cases hb; done)

theorem evC_name {r : Evs} {x : Str} {p : Pos} {Q : D → Prop} {Z : Str → Prop} : evC r C (.Name x p) es Q Z = slotAny C x es Q := rfl
/-- return e -/
theorem ok_ret {e : Expr} {pos : Pos} (c : Conf C X W) (k : StOk bx Fe He Fk es σ F H) (f : Fit X bx W Fe He Fk P Dn) (h : evC (evs n) C e es P.rt P.ex) : wS X (.Return (some e) pos) Dn σ H := by
  refine wS_of (ps_ret pe_w) ?_
  have A := k.at c f.ex
  have other : (evs n).E C e es P.rt P.ex → wE X e σ H Dn.rt := fun h => (snd_evs n).E h A _ fun d v F1 H1 q n1 r1 => f.rt d v F1 H1 q (k.n.trans n1) r1
  cases e with
  | Name x p =>
    have h : slotAny C x es P.rt := h
    unfold slotAny at h
    show wE X (.Name x p) σ H Dn.rt
    split at h
    · rename_i hv
      split at h
      · rename_i i hi
        have hN : X.N[i]? = some x := by rw [c.N]; exact ixOf_spec hi
        have hm := c.nodb x (List.mem_of_getElem? (ixOf_spec hi))
        split at h
        · rename_i d hd
          obtain ⟨o, h1, v, rfl, h2⟩ := sl_at k.s hd
          exact wE_of (pe_var hN (by rw [c.sc]; exact vis_of hv) hm.1 hm.2) ⟨v, h1, f.rt d v F H h k.n h2⟩
        · rename_i d hd
          obtain ⟨o, h1, a, rfl, nb, h3, h4⟩ := sl_at k.s hd
          refine wE_of (pe_var hN (by rw [c.sc]; exact vis_of hv) hm.1 hm.2) ⟨_, h1, ?_⟩
          have hea := k.own i d a hd h1
          cases d <;> simp only [OwnR] at h4
          · obtain ⟨xs, g1, g2, g3⟩ := h4
            exact f.rt _ _ _ _ h (k.n.freeze hea h3 g1 nb) (by simp only [Rep]; exact ⟨a, xs, rfl, upd_same, g2, RepL.mono (Ex.new h3) _ _ g3⟩)
          · obtain ⟨xs, g1, g2, g3⟩ := h4
            exact f.rt _ _ _ _ h (k.n.freeze hea h3 g1 nb) (by simp only [Rep]; exact ⟨a, xs, rfl, upd_same, g2, RepK.mono (Ex.new h3) _ _ g3⟩)
        · exact h.elim
      · exact h.elim
    · split at h
      · rename_i d hg hc
        obtain ⟨hdb, u, v, h1, h2, h3⟩ := c.con x d hc
        exact wE_of (pe_glob (glob_of c hg) h1 h2 hdb) (f.rt d v F H h k.n (h3 bx F))
      · exact h.elim
  | _ => exact other h
/-- x.append(e) -/
theorem ok_append {x m : Str} {xp ap cp pos : Pos} {e : Expr} (c : Conf C X W) (k : StOk bx Fe He Fk es σ F H) (f : Fit X bx W Fe He Fk P Dn) (hm : m = ("append" : Str)) (hv : visB C.sc x = true) (hs : notStar e = true) (hl : (ap.endLine == cp.line) = true)
    (h : (match ixOf C.N x with
      | some i => (match es[i]? with
        | some (.ow (.lst l)) => (evs n).E C e es (fun d => l.length < LIM ∧ P.nx (es.set i (.ow (.lst (l ++ [d]))))) P.ex
        | _ => False)
      | none => False)) : wS X (.Expr (.Call (.Attribute (.Name x xp) m ap) [e] [] cp) pos) Dn σ H := by
  subst hm
  have A := k.at c f.ex
  have hfew : ((backTo cp (starEach [e] X.env)).all (fun x => !x.1) && (backToKw cp (keywordEach [] X.env)).all (fun x => x.1.isSome)
      && decide (([e] : List Expr).length + ([] : List Keyword).length + (if ([] : List Keyword).isEmpty then 0 else 1) < 30)) = true := by
    rw [star_of hs]; rfl
  split at h
  · rename_i i hi
    have hN : X.N[i]? = some x := by rw [c.N]; exact ixOf_spec hi
    have hmm := c.nodb x (List.mem_of_getElem? (ixOf_spec hi))
    split at h
    · rename_i l hsl
      obtain ⟨o, h1, a, rfl, nb, h3, xs, g1, g2, g3⟩ := sl_at k.s hsl
      refine wS_of (ps_expr (pe_bm PySem.F.plainAttrs_list PySem.F.slot_list_append PySem.F.type_list_append mt_append (pe_var hN (by rw [c.sc]; exact vis_of hv) hmm.1 hmm.2) pa_w rfl hfew hl (star_of hs) rfl)) ?_
      refine ⟨_, h1, .inl ⟨rfl, _, sq_of g1⟩, ?_⟩
      refine wA_of (pa_cons pe_w pa_nil (star_of hs)) ?_
      refine (snd_evs n).E h A _ fun d v F1 H1 q n1 r1 => ?_
      obtain ⟨q1, q2⟩ := q
      have k1 := k.nxt n1
      have e1 : H1 a = some (.lst xs) := n1.keep _ _ nb g1
      refine ⟨a, xs, v, rfl, rfl, e1, by rw [g3.length]; exact lim_lt q1, ?_⟩
      refine f.nx _ _ _ _ q2 (k1.write hsl h1 nb (n1.out h3 g1) ?_)
      exact ⟨xs ++ [v], upd_same, by rw [List.length_append, List.length_singleton]; omega, (RepL.mono n1.ex _ _ g3).app (RepL.one r1)⟩
    · exact h.elim
  · exact h.elim
/-- a name takes a value -/
theorem ok_set {i : Nat} {d : D} {v : V} {es : Sls} {F1 H1 : Hp} (k : StOk bx Fe He Fk es σ F H) (f : Fit X bx W Fe He Fk P Dn) (q : P.nx (es.set i (.im d))) (n1 : Nxt bx F H F1 H1) (r1 : Rep bx F1 d v) : Dn.nx (σ.set i (some v)) H1 :=
  f.nx _ _ _ _ q ((k.nxt n1).setIm r1)
theorem ok_setN {i : Nat} {d : D} {v : V} {es : Sls} {F1 H1 : Hp} (k : StOk bx Fe He Fk es σ F H) (f : Fit X bx W Fe He Fk P Dn) (q : P.nx (es.set i (newSl d))) (n1 : Nxt bx F H F1 H1) (r1 : RepN bx H F1 H1 d v) : Dn.nx (σ.set i (some v)) H1 := by
  have k1 := k.nxt n1
  have fin : ∀ (a : Addr) (o : HO), H a = none → F1 a = none → NB bx a → H1 a = some o → OwnR bx F1 H1 d a → P.nx (es.set i (.ow d)) → Dn.nx (σ.set i (some (.ref a))) H1 := fun a o h1 h2 nb h3 ow q => by
    have hea : He a = none := fresh_back k.n h1
    refine f.nx _ _ _ _ q (k1.setOw (fun j d' hj hs => ?_) hea nb h2 ow)
    obtain ⟨oo, g1, b, rfl, nb', g2, g3⟩ := sl_at k.s hj
    rw [hs] at g1
    cases g1
    obtain ⟨u, g4⟩ := g3.there
    rw [h1] at g4; cases g4
  cases d with
  | lst ds =>
    obtain ⟨a, xs, rfl, nb, h1, h2, h3, h4, h5⟩ := r1
    exact fin a _ h1 h2 nb h3 ⟨xs, h3, h4, h5⟩ q
  | dct ds =>
    obtain ⟨a, xs, rfl, nb, h1, h2, h3, h4, h5⟩ := r1
    exact fin a _ h1 h2 nb h3 ⟨xs, h3, h4, h5⟩ q
  | _ => exact f.nx _ _ _ _ q (k1.setIm r1)
/-- x = e -/
theorem ok_asg {x : Str} {xp pos : Pos} {e : Expr} {i : Nat} {K : D → Prop} (c : Conf C X W) (k : StOk bx Fe He Fk es σ F H) (f : Fit X bx W Fe He Fk P Dn) (hl : locB C.ost x = true) (hc : (!isComp e || (plainB C.sc x && (xp.line == e.pos.line) && compFree x e)) = true) (hi : ixOf C.N x = some i)
    (h : (match inB C.muts x && isNew e with
        | true => (evs n).E C e es (fun d => P.nx (es.set i (newSl d))) P.ex
        | false => (evs n).E C e es (fun d => P.nx (es.set i (.im d))) P.ex)) : wS X (.Assign [.Name x xp] e pos) Dn σ H := by
  have A := k.at c f.ex
  have nd : X.N.Nodup := by rw [c.N]; exact c.nd
  have hN : X.N[i]? = some x := by rw [c.N]; exact ixOf_spec hi
  obtain ⟨l1, l2⟩ := loc_of c hl
  cases hcp : isComp e with
  | false =>
    refine wS_of (ps_set nd hN l1 pe_w (swaps0 hcp) l2) ?_
    split at h
    · rename_i hm
      rw [Bool.and_eq_true] at hm
      exact new_evs n hm.2 h A _ fun d v F1 H1 q n1 r1 => ok_setN k f q n1 r1
    · exact (snd_evs n).E h A _ fun d v F1 H1 q n1 r1 => ok_set k f q n1 r1
  | true =>
    rw [hcp] at hc
    obtain ⟨hp, hln, hf⟩ := and3 (show (plainB C.sc x && (xp.line == e.pos.line) && compFree x e) = true from hc)
    have hyl : X.env.scope.names.lookup x = some .local := by
      rw [c.sc]
      unfold plainB at hp
      split at hp
      · assumption
      · cases hp
    have elim : ∀ (Kd : D → Prop), (evs n).E C e es Kd P.ex → (isNew e = true → ∀ d v F1 H1, Kd d → Nxt bx F H F1 H1 → RepN bx H F1 H1 d v → Dn.nx (σ.set i (some v)) H1) → wS X (.Assign [.Name x xp] e pos) Dn σ H := by
      intro Kd h fin
      cases n with
      | zero => exact h.elim
      | succ n =>
        have h : stepE (evs n) C e es Kd P.ex := h
        cases e with
        | SetComp a b c d => exact h.elim
        | DictComp a b c d e => exact h.elim
        | ListComp elt gs scope cpos =>
          match gs, h with
          | [], h => exact h.elim
          | [⟨tg, it, ifs, .ofNat 0⟩], h =>
            have h : (match blkC C.N C.sc scope (ownOf C.N scope.names) && (tgNames tg).all (fun x => inB ((ownOf C.N scope.names).map (·.1)) x) && !isSetE it with
              | true => evIt (evs n) true C es it (fun items => compL (fun x k => bindT { C with sc := relS scope C.sc, ost := scope } tg x (wipeE es ((ownOf C.N scope.names).map (·.2))) fun σ' =>
                  evTs (evs n) { C with sc := relS scope C.sc, ost := scope } σ' noX ifs fun b => ite2 b ((evs n).E { C with sc := relS scope C.sc, ost := scope } elt σ' (fun d => k (some d)) noX) (k none)) items [] fun l => Kd (.lst l)) P.ex
              | false => False) := h
            split at h
            · rename_i hg
              obtain ⟨hb, ht, hs⟩ := and3 hg
              have bo : BlkOk X.N X.env.scope scope (ownOf C.N scope.names) := by rw [c.N, c.sc]; exact blkOk_by hb
              refine wS_of (ps_setLc c.calm nd hN hyl (sw_true c.kind hyl hln (by simpa [compFree] using hf)) pi_w bo (g := blG X scope tg) (tt := blT X scope ifs) (te := blE X scope elt) (fun s0 H0 cc cl fp => ⟨fun pins s σ H v u Q I r h => h s0 H0 cc cl fp pins s u I r⟩) (fun s0 H0 cc cl fp => ⟨fun pins s σ H Q I h => h s0 H0 cc cl fp pins s I⟩)
                (fun s0 H0 cc cl fp => ⟨fun pins s σ H Q I h => h s0 H0 cc cl fp pins s I⟩) (fset (by simpa using hs))) ?_
              exact ok_lc (snd_evs n) rfl A hb ht (by simpa using hs) h (fun d v F1 H1 q n1 r1 => fin rfl d v F1 H1 q n1 r1)
            · exact h.elim
          | [⟨tg, it, ifs, .ofNat (m + 1)⟩], h => exact h.elim
          | [⟨tg, it, ifs, .negSucc m⟩], h => exact h.elim
          | ⟨_, _, _, .ofNat 0⟩ :: _ :: _, h => exact h.elim
          | ⟨_, _, _, .ofNat (m + 1)⟩ :: _ :: _, h => exact h.elim
          | ⟨_, _, _, .negSucc m⟩ :: _ :: _, h => exact h.elim
        | _ => cases hcp
    split at h
    · exact elim _ h fun _ d v F1 H1 q n1 r1 => ok_setN k f q n1 r1
    · refine elim _ h fun _ d v F1 H1 q n1 r1 => ?_
      obtain ⟨F2, n2, r2⟩ := r1.froz n1
      exact ok_set k f q n2 r2

/-- a for's turns -/
theorem ok_for (hS : SndS S) {tg it : Expr} {body : List Stmt} {pos : Pos} (c : Conf C X W) (hp : PassesOwn (model X.prog X.w) X.A X.env X.xe) (k : StOk bx Fe He Fk es σ F H) (f : Fit X bx W Fe He Fk P Dn) (hs : isSetE it = false)
    (h : evIt (evs n) false C es it (fun items => forL (fun x σ P => bindT C tg x σ fun σ' => evB S C body σ' P) items es P) P.ex) : wS X (.For tg it body [] pos) Dn σ H := by
  have A := k.at c f.ex
  refine wS_of (ps_for hp c.calm pi_w pg_w pss_w (fset hs)) ?_
  show wI X tg it σ H fun J H1 => _
  refine ok_it (snd_evs n) A h _ fun items J F1 H1 q n1 _ w => ?_
  have w := w rfl
  let Pv : Nat → L2.St → Hp → Prop := fun i σ2 H2 => ∃ es2 F2, StOk bx Fe He F1 es2 σ2 F2 H2 ∧ forL (fun x σ P => bindT C tg x σ fun σ' => evB S C body σ' P) (items.drop i) es2 P
  have fk : Ex Fk F1 := k.k.trans n1.ex
  refine ⟨fun i m σ2 H2 => m = items.length - i ∧ i ≤ items.length ∧ Pv i σ2 H2, ⟨items.length, by simp, Nat.zero_le _, es, F1, ((k.nxt n1).rek (Ex.refl F1)), q⟩, ?_⟩
  rintro i m σ2 H2 ⟨rfl, hi, es2, F2, k2, q2⟩
  by_cases hlt : i < items.length
  · obtain ⟨d, hd⟩ : ∃ d, items[i]? = some d := ⟨items[i], List.getElem?_eq_getElem hlt⟩
    have ed : items.drop i = d :: items.drop (i + 1) := by
      rw [List.drop_eq_getElem_cons hlt]
      have := (List.getElem?_eq_getElem hlt).symm.trans hd
      rw [Option.some.inj this]
    rw [ed] at q2
    have g2 : Gf bx F1 F2 H2 := ⟨k2.k, k2.n.bas⟩
    refine .inr ⟨w.goes i F2 H2 hlt g2, Pv (i + 1), fun σ' H' p => ⟨items.length - (i + 1), by omega, rfl, hlt, p⟩, fun x H3 y => ?_⟩
    obtain ⟨F3, n3, rx⟩ := w.yields i F2 H2 x H3 d g2 hd y
    have q2' : bindT C tg d es2 (fun σ' => evB S C body σ' _) := q2
    refine (k2.nxt n3).bind c q2' rx _ fun es' σ' q3 k4 => ?_
    refine ok_b hS c hp q3 k4 ⟨fun es σ F H q k => ⟨es, F, k, q⟩, f.rt, fun es σ F H q k => f.nx es σ F H q (k.rek (fk.trans k.k)), fun es σ F H q k => ⟨es, F, k, q⟩, f.ex⟩
  · have ei : i = items.length := by omega
    subst ei
    rw [List.drop_length] at q2
    exact .inl ⟨w.stops F2 H2 ⟨k2.k, k2.n.bas⟩, f.nx _ _ _ _ q2 (k2.rek (fk.trans k2.k))⟩
/-- a while -/
theorem ok_while (hS : SndS S) {t : Expr} {body : List Stmt} {pos : Pos} (c : Conf C X W) (hp : PassesOwn (model X.prog X.w) X.A X.env X.xe) (k : StOk bx Fe He Fk es σ F H) (f : Fit X bx W Fe He Fk P Dn)
    (h : whileL (fun σ Q => (evs n).T C t σ Q P.ex) (fun σ P => evB S C body σ P) es P) : wS X (.While t body [] pos) Dn σ H := by
  refine wS_of (ps_while hp pt_w pss_w) ?_
  obtain ⟨I, ⟨m0, i0⟩, turn⟩ := h
  refine ⟨fun m σ2 H2 => ∃ es2 F2, StOk bx Fe He Fk es2 σ2 F2 H2 ∧ I m es2, ⟨m0, es, F, k, i0⟩, ?_⟩
  rintro m σ2 H2 ⟨es2, F2, k2, i2⟩
  refine (snd_evs n).T (turn m es2 i2) (k2.at c f.ex) _ fun b F3 H3 q3 n3 => ?_
  have k3 := k2.nxt n3
  cases b with
  | true =>
    rw [if_pos rfl]
    refine ⟨fun σ' H' => ∃ m', m' < m ∧ ∃ es' F', StOk bx Fe He Fk es' σ' F' H' ∧ I m' es', fun σ' H' z => z, ?_⟩
    exact ok_b hS c hp q3 k3 ⟨fun es σ F H ⟨m', hm, q⟩ k => ⟨m', hm, es, F, k, q⟩, f.rt, fun es σ F H q k => f.nx es σ F H q k, fun es σ F H ⟨m', hm, q⟩ k => ⟨m', hm, es, F, k, q⟩, f.ex⟩
  | false =>
    rw [if_neg Bool.false_ne_true]
    exact f.nx _ _ _ _ q3 k3
/-- the step: a statement -/
theorem snd_S (hS : SndS S) : SndS (stepS n S) := by
  intro C st es P X W bx Fe He Fk F H σ Dn h c hp k f
  have A := k.at c f.ex
  have nd : X.N.Nodup := by rw [c.N]; exact c.nd
  unfold stepS at h
  split at h
  · exact wS_of ps_pass (f.nx _ _ _ _ h k)
  · exact wS_of ps_break (f.bk _ _ _ _ h k)
  · exact wS_of ps_continue (f.ct _ _ _ _ h k)
  · exact wS_of ps_retN (f.rt _ _ _ _ h k.n rfl)
  · exact ok_ret c k f h
  · exact wS_of ps_doc (f.nx _ _ _ _ h k)
  · split at h
    · rename_i hg
      rw [Bool.and_eq_true] at hg
      obtain ⟨hm, hv, hs⟩ := and3 hg.1
      exact ok_append c k f (of_decide_eq_true hm) hv hs hg.2 h
    · exact h.elim
  · split at h
    · rename_i hg
      rw [Bool.and_eq_true] at hg
      split at h
      · rename_i i hi
        exact ok_asg (K := fun _ => True) c k f hg.1 hg.2 hi h
      · exact h.elim
    · exact h.elim
  · -- a, b = x, y
    rename_i x xp y yp tk tp a b k2 tp2 pos
    split at h
    · rename_i hg
      simp only [Bool.and_eq_true, Bool.not_eq_true', decide_eq_false_iff_not] at hg
      obtain ⟨⟨⟨⟨⟨⟨⟨px, py⟩, hl⟩, hne⟩, lx⟩, ly⟩, sa⟩, sb⟩ := hg
      split at h
      · rename_i hf
        rw [Bool.or_eq_false_iff] at hf
        have hx : X.env.scope.names.lookup x = some .local := by
          rw [c.sc]; unfold plainB at px; split at px <;> first | assumption | cases px
        have hy : X.env.scope.names.lookup y = some .local := by
          rw [c.sc]; unfold plainB at py; split at py <;> first | assumption | cases py
        split at h
        · rename_i i j hi hj
          have hij : i ≠ j := fun z => hne (by
            have h1 := ixOf_spec hi
            have h2 := ixOf_spec hj
            rw [z, h2] at h1
            exact (Option.some.inj h1).symm)
          refine wS_of (ps_par c.calm nd (by rw [c.N]; exact ixOf_spec hi) (by rw [c.N]; exact ixOf_spec hj) hij hx hy (pa_cons pe_w (pa_cons pe_w pa_nil (star_of sb)) (star_of sa)) (swapped_pair c.kind hx hy hl hne hf.1 hf.2 sa sb) rfl) ?_
          refine (snd_evs n).E h A _ fun d v F1 H1 q1 n1 r1 => ?_
          refine (snd_evs n).E q1 (A.nxt n1) _ fun e u F2 H2 q2 n2 r2 => ?_
          exact ⟨v, u, rfl, f.nx _ _ _ _ q2 ((((k.nxt n1).nxt n2).setIm (Rep.mono n2.ex _ _ r1)).setIm r2)⟩
        · exact h.elim
      · exact h.elim
    · exact h.elim
  · -- a, b = e
    rename_i ts tk tp e pos hnt
    obtain ⟨ht, h⟩ := ifB_of h
    have e1 : swapsWithSole [.Tuple ts tk tp] e pos.line X.env = pure false := by cases e <;> rfl
    have e2 : swappedStores [.Tuple ts tk tp] e X.env = pure none := by cases e <;> first | rfl | (cases ht; done)
    refine wS_of (ps_asg pe_w pg_w e1 e2) ?_
    refine (snd_evs n).E h A _ fun d v F1 H1 q n1 r1 => ?_
    exact (k.nxt n1).bind c q r1 _ fun es' σ' q' k' => f.nx _ _ _ _ q' k'
  · -- x[i] = e
    rename_i x xp ix ipos e pos
    split at h
    · rename_i hg
      rw [Bool.and_eq_true] at hg
      have pl : ∀ v, assign (.Subscript (.Name x xp) ix ipos) X.env v = (do
          let ov ← holding [v] (eval (.Name x xp) X.env)
          let iv ← holding [v, ov] (eval ix X.env)
          standAt ipos
          holding [v, ov, iv] (setItem ov iv v)
          release [v, ov, iv] []) := by
        intro v
        cases ix <;> first | rfl | (cases hg.2; done)
      have e1 : swapsWithSole [.Subscript (.Name x xp) ix ipos] e pos.line X.env = pure false := by cases e <;> rfl
      have e2 : swappedStores [.Subscript (.Name x xp) ix ipos] e X.env = pure none := by cases e <;> rfl
      split at h
      · rename_i q hq
        have hN : X.N[q]? = some x := by rw [c.N]; exact ixOf_spec hq
        have hmm := c.nodb x (List.mem_of_getElem? (ixOf_spec hq))
        have pn : PE X (.Name x xp) (tVar q) := pe_var hN (by rw [c.sc]; exact vis_of hg.1) hmm.1 hmm.2
        refine wS_of (ps_asg pe_w (pg_sub pn pe_w set_w pl) e1 e2) ?_
        split at h
        · rename_i hb
          obtain ⟨o, h1, v, rfl, h2⟩ := sl_at k.s hb
          simp only [Rep] at h2
          obtain ⟨b, rr, hbx, rfl, _⟩ := h2
          refine (snd_evs n).E h A _ fun d u F1 H1 q1 n1 r1 => ?_
          refine ⟨_, h1, ?_⟩
          refine (snd_evs n).E q1 (A.nxt n1) _ fun kk w F2 H2 q2 n2 r2 => ?_
          cases kk <;> cases d <;> first | (exfalso; exact q2) | skip
          rename_i s m
          obtain ⟨es', q4⟩ := ifB_of q2
          have es' := of_decide_eq_true es'
          clear q2
          subst es'
          cases r1
          obtain ⟨rfl, _⟩ := r2
          obtain ⟨g0, ns, m0, g1, g2, g3, g4, g5⟩ := n2.bas.box b rr hbx
          refine wSet_of (set_dict (by have := c.hu; omega)) ⟨b, upd H2 b (.dK [(Sum.inr ("row" : Str), .ref rr), (Sum.inr ("at" : Str), .int m)]), rfl, ?_, ?_⟩
          · rw [mk_at, ← put_at (y := .int m0)]
            exact DPut.k (k := Sum.inr ("at" : Str)) g1 (by show 2 < sizeLine; decide)
          · have k2 := (k.nxt n1).nxt n2
            have nba : ∀ a, NB bx a → a ≠ b := fun a na z => na rr (z ▸ hbx)
            refine f.nx _ _ _ _ q4.2 ⟨⟨k2.n.ex, fun a o na ha => by rw [upd_ne (nba a na)]; exact k2.n.keep a o na ha, k2.n.new, ⟨fun a o ha => ?_, fun b' r' e' => ?_⟩⟩, k2.k, ⟨k2.s.1, fun j sl hj => ?_⟩, k2.own, k2.inj⟩
            · have : a ≠ b := ne_of_none ha g0
              rw [upd_ne this]; exact k2.n.bas.sub a o ha
            · rw [hbx] at e'
              cases e'
              exact ⟨g0, ns, m, upd_same, g2, g3, g4, q4.1⟩
            · obtain ⟨o, w1, w2⟩ := k2.s.2 j sl hj
              refine ⟨o, w1, ?_⟩
              cases sl with
              | no => trivial
              | im d => exact w2
              | ow d =>
                obtain ⟨a, rfl, na, w3, w4⟩ := w2
                refine ⟨a, rfl, na, w3, ?_⟩
                cases d <;> simp only [OwnR] at w4 ⊢
                · obtain ⟨xs, y1, y2⟩ := w4
                  exact ⟨xs, by rw [upd_ne (nba a na)]; exact y1, y2⟩
                · obtain ⟨xs, y1, y2⟩ := w4
                  exact ⟨xs, by rw [upd_ne (nba a na)]; exact y1, y2⟩
        · rename_i l hsl
          obtain ⟨o, h1, a, rfl, nb, h3, xs, g1, g2, g3⟩ := sl_at k.s hsl
          refine (snd_evs n).E h A _ fun d u F1 H1 q1 n1 r1 => ?_
          refine ⟨_, h1, ?_⟩
          refine (snd_evs n).E q1 (A.nxt n1) _ fun kk w F2 H2 q2 n2 r2 => ?_
          cases kk <;> first | (exfalso; exact q2) | skip
          rename_i j
          cases r2
          obtain ⟨p, hp, q2⟩ := getO_of q2
          have k2 := (k.nxt n1).nxt n2
          have n12 := n1.trans n2
          have g1' := n12.keep _ _ nb g1
          refine wSet_of set_list ⟨a, xs, j, p, rfl, rfl, g1', by rw [g3.length]; exact hp, ?_⟩
          refine f.nx _ _ _ _ q2 (k2.write hsl h1 nb (n12.out h3 g1) ?_)
          exact ⟨_, upd_same, by rw [List.length_set]; exact g2, (RepL.mono n12.ex _ _ g3).set p (Rep.mono n2.ex _ _ r1)⟩
        · exact h.elim
      · exact h.elim
    · exact h.elim
  · split at h
    · rename_i x xp op e pos hl
      split at h
      · rename_i i hi
        split at h
        · rename_i a ha
          obtain ⟨o, h1, v, rfl, h2⟩ := sl_at k.s ha
          obtain ⟨l1, l2⟩ := loc_of c hl
          refine wS_of (ps_aug nd (by rw [c.N]; exact ixOf_spec hi) l1 pe_w ip_w l2) ?_
          refine ⟨v, h1, ?_⟩
          refine (snd_evs n).E h A _ fun d u F1 H1 q1 n1 r1 => ?_
          obtain ⟨ho, q1⟩ := ifB_of q1
          exact ok_ip n1.bas ho q1 (Rep.mono n1.ex _ _ h2) r1 fun d w F2 H2 q2 n2 r2 => ok_set k f q2 (n1.trans n2) r2
        · exact h.elim
      · exact h.elim
    · exact h.elim
  · refine wS_of (ps_if pt_w pss_w pss_w) ?_
    refine (snd_evs n).T h A _ fun b F1 H1 q1 n1 => ?_
    cases b with
    | true =>
      rw [if_pos rfl]
      exact ok_b hS c hp q1 (k.nxt n1) f
    | false =>
      rw [if_neg Bool.false_ne_true]
      exact ok_b hS c hp q1 (k.nxt n1) f
  · obtain ⟨hs, h⟩ := ifB_of h
    exact ok_for hS c hp k f (by simpa using hs) h
  · exact ok_while hS c hp k f h
  · exact h.elim
end
end Py
set_option maxHeartbeats 4000000
/-! A def by its body; the law's box; the law. -/
namespace Py
open PySem PySem.Spec PyProof.Rows L2
theorem snd_all : ∀ n : Nat, SndS (evS n)
  | 0 => fun h => h.elim
  | n + 1 => snd_S (snd_all n)
/-- the defs that a body calls: their promises, at most at level k -/
def TabOk (P : Program) (w : World) (K : PySem.W.Frag) (mg : Str → Option Value) (base : Heap) (k : Nat) (fns : List (Str × Nat × Fn)) : Prop :=
  ∀ x n φ, fns.lookup x = some (n, φ) → FnMono φ ∧ (x == ("__debug__" : Str)) = false ∧ ∃ j f fd ps, j ≤ k ∧ FnOk P w K mg base (L2.CX P w) j f fd ps (spW mg n φ) ∧ mg x = some (.ref f) ∧ PySem.W.keepIn K (.ref f) = true ∧ Binds K fd ps []
/-- what a body asks of the module -/
structure ModOk (C : Ctx) (mg : Str → Option Value) : Prop where
  nodb : ∀ x ∈ C.N, (x == ("__debug__" : Str)) = false ∧ (x == ("__classdict__" : Str)) = false
  blt : ∀ x, inB C.blt x = true → mg x = none ∧ x ≠ "__name__" ∧ (x == ("__debug__" : Str)) = false
  con : ∀ x d, C.con.lookup x = some d → (x == ("__debug__" : Str)) = false ∧ ∃ u v, mg x = some u ∧ RelV v u ∧ ∀ bx F, Rep bx F d v
section
variable {P : Program} {w : World} {K : PySem.W.Frag} {mg : Str → Option Value} {base : Heap} {C : Ctx} {x qual : Str} {st : Stmt} {f : Addr} {fd : FuncData} {ps : List Str} {k n : Nat}
theorem conf_def {cdv : Value} {A : Around} {outer : List PySem.Env} {s : Shared} {H : Hp} {E : XK} (SC : FnScope C.N ps (defScope st)) (hsc : C.sc = defScope st) (host : C.ost = defScope st) (M : ModOk C mg) (T : TabOk P w K mg base k C.fns)
    (hr : Room k (A.deeper (envOfC qual (defScope st) s.heap.objs.size f cdv))) : Conf C (cxOf (L2.CX P w) P w K mg base C.N qual (defScope st) f cdv A outer s H E) (fun cls d _ H => E cls d H) where
  N := rfl
  nd := SC.nd
  sc := hsc.symm
  calm := rfl
  kind := SC.kind
  sto := fun x h => by
    refine ⟨?_, .inl rfl⟩
    rw [host] at h
    unfold locB at h
    show L2.Loc (defScope st) x
    unfold L2.Loc
    split at h <;> first | (rename_i e; rw [e]; simp; done) | cases h
  nodb := M.nodb
  blt := M.blt
  con := M.con
  hu := by
    have := hr.un
    show (A.deeper (envOfC qual (defScope st) s.heap.objs.size f cdv)).units + 65 < cLine
    omega
  takes := takes_of rfl rfl rfl rfl
  fns := fun x n φ h => by
    obtain ⟨m, d, j, f, fd, ps, hj, F, h1, h2, h3⟩ := T x n φ h
    exact ⟨m, d, j, f, fd, ps, F, hr.mono hj, h1, h2, h3⟩
theorem start_sl {bx : BX} {F H : Hp} {ds : List D} {vs : List V} {N : List Str} (h : RepL bx F ds vs) : SlsE bx F H (startE N ds) (L2.start N vs) := by
  have hl := h.length
  refine ⟨by unfold startE L2.start; simp [hl], fun i e he => ?_⟩
  unfold startE at he
  unfold L2.start
  by_cases hi : i < ds.length
  · rw [List.getElem?_append_left (by rw [List.length_map]; exact hi), List.getElem?_map] at he
    rw [List.getElem?_append_left (by rw [List.length_map, hl]; exact hi), List.getElem?_map]
    rw [List.getElem?_eq_getElem hi] at he
    cases he
    obtain ⟨v, h1, h2⟩ := h.get (List.getElem?_eq_getElem hi)
    exact ⟨some v, by rw [h1]; rfl, sl_im h2⟩
  · rw [List.getElem?_append_right (by rw [List.length_map]; omega)] at he
    rw [List.getElem?_append_right (by rw [List.length_map]; omega)]
    rw [List.length_map] at he ⊢
    rw [hl]
    have hlt : i - ds.length < N.length - ds.length := by
      have := (List.getElem?_eq_some_iff.mp he).1
      simpa using this
    rw [List.getElem?_replicate, if_pos hlt] at he ⊢
    cases he
    exact ⟨none, rfl, trivial⟩
theorem startE_im {N : List Str} {ds : List D} {i : Nat} {d : D} : (startE N ds)[i]? ≠ some (.ow d) := fun he => by
  unfold startE at he
  by_cases hi : i < ds.length
  · rw [List.getElem?_append_left (by rw [List.length_map]; exact hi), List.getElem?_map, List.getElem?_eq_getElem hi] at he
    cases he
  · rw [List.getElem?_append_right (by rw [List.length_map]; omega)] at he
    have := List.mem_of_getElem? he
    cases List.eq_of_mem_replicate this
/-- THE RULE for a def: what its body evaluates to -/
theorem def_ok {φ : Fn} (F : Fun K x qual st f fd) (SC : FnScope C.N ps (defScope st)) (hsc : C.sc = defScope st) (host : C.ost = defScope st) (M : ModOk C mg) (T : TabOk P w K mg base k C.fns)
    (hφ : ∀ ds Q Z, ds.length = ps.length → φ ds Q Z → evF n C st ds Q Z) : FnOk P w K mg base (L2.CX P w) (k + 1) f fd ps (spW mg ps.length φ) := by
  refine F.okX SC (fun vs H Q E h => ?_) (fun cdv A outer s H vs Q E hr h => ?_)
  · obtain ⟨bx, F0, ds, b, r, hl, _⟩ := h
    rw [r.length, hl]
  · obtain ⟨bx, F0, ds, b, r, hl, h⟩ := h
    refine ⟨wSs _ _, pss_w, ?_⟩
    have hev := hφ _ _ _ hl h
    unfold evF at hev
    refine ok_b (snd_all n) (conf_def SC hsc host M T hr) (passes_of rfl) hev (Fe := F0) (He := H) (Fk := F0) (bx := bx) ⟨Nxt.refl b, Ex.refl _, start_sl r, fun i d a h => absurd h startE_im, fun i j d e a h => absurd h startE_im⟩ ⟨fun es σ F1 H1 q k => q _ _ _ k.n rfl, fun d v F1 H1 q n1 r1 => q v F1 H1 n1 r1, fun _ _ _ _ q => q.elim, fun _ _ _ _ q => q.elim, fun x cls F1 H1 σ q hm n1 => q cls F1 H1 hm n1⟩

/-! ### the box -/
def spBox (K : PySem.W.Frag) : Sp := fun vs H Q _ => ∃ (a : Addr) (ns : List Int), vs = [.ref a] ∧ SqL K H a (ns.map V.int) ∧ ns.length ≤ 63 ∧
  ∀ (b r : Addr) (ms : List Int) (H' : Hp), Same H H' → H b = none → H r = none → H' b = some (.dK [(Sum.inr ("row" : Str), .ref r), (Sum.inr ("at" : Str), .int 0)]) → H' r = some (.lst (ms.map V.int)) → ms ≠ [] → ms.length ≤ LIM → Q (.ref b) H'
def spLaw (K : PySem.W.Frag) : Sp := fun vs H Q _ => ∃ (a : Addr) (ns : List Int), vs = [.ref a] ∧ SqL K H a (ns.map V.int) ∧ ns.length ≤ 63 ∧ ∀ H', Q (.bl true) H'
/-- the slots behind the law's first line -/
def lawE (N : List Str) (ms : List Int) : Sls := (List.replicate N.length .no).set 1 (.im (.box ms))
theorem law_ok {xp p q r pos : Pos} {rest : List Stmt} {fB : Addr} {fdB : FuncData} {psB : List Str} {j : Nat} {N' : List Str} (F : Fun K "law" "law" st f fd) (SC : FnScope C.N ["script"] (defScope st)) (hsc : C.sc = defScope st) (host : C.ost = defScope st) (M : ModOk C mg) (T : TabOk P w K mg base k C.fns)
    (hN : C.N = ("script" : Str) :: ("box" : Str) :: N') (hgB : globB (defScope st) "_law_box" = true) (hv0 : visB (defScope st) "script" = true) (hl1 : locB (defScope st) "box" = true)
    (hB : FnOk P w K mg base (L2.CX P w) j fB fdB psB (spBox K)) (hj : j ≤ k) (mB : mg "_law_box" = some (.ref fB)) (kB : PySem.W.keepIn K (.ref fB) = true) (bB : Binds K fdB psB [])
    (hbody : defBody st = .Assign [.Name "box" xp] (.Call (.Name "_law_box" p) [.Name "script" q] [] r) pos :: rest)
    (hev : ∀ ms : List Int, ms ≠ [] → ms.length ≤ LIM → evB (evS n) C rest (lawE C.N ms) { nx := fun _ => False, rt := fun d => d = .bl true, bk := fun _ => False, ct := fun _ => False, ex := noX }) : FnOk P w K mg base (L2.CX P w) (k + 1) f fd ["script"] (spLaw K) := by
  refine F.okX SC (fun vs H Q E h => ?_) (fun cdv A outer s H vs Q E hr h => ?_)
  · obtain ⟨a, ns, rfl, _⟩ := h
    rfl
  · obtain ⟨a, ns, rfl, hS, hlen, qq⟩ := h
    have c := conf_def (cdv := cdv) (A := A) (outer := outer) (s := s) (H := H) (E := E) (qual := "law") (f := f) SC hsc host M T hr
    rw [hbody]
    refine ⟨wSs _ _, pss_w, ?_⟩
    have e0 : (L2.start C.N [.ref a])[0]? = some (some (V.ref a)) := rfl
    have hN0 : (cxOf (L2.CX P w) P w K mg base C.N "law" (defScope st) f cdv A outer s H E).N[0]? = some ("script" : Str) := by show C.N[0]? = _; rw [hN]; rfl
    have hN1 : (cxOf (L2.CX P w) P w K mg base C.N "law" (defScope st) f cdv A outer s H E).N[1]? = some ("box" : Str) := by show C.N[1]? = _; rw [hN]; rfl
    have nd : (cxOf (L2.CX P w) P w K mg base C.N "law" (defScope st) f cdv A outer s H E).N.Nodup := SC.nd
    obtain ⟨l1, l2⟩ := c.sto "box" (by rw [host]; exact hl1)
    refine wSs_of (pss_cons (ps_set nd hN1 l1 (pe_call hB (hr.mono hj) (glob_of c (by rw [hsc]; exact hgB)) mB kB bB .nil (E := fun cls d H => ∀ σ : L2.St, E cls d H) (passes_call c.takes fun cls d σ H q => q σ) (pa_cons (pe_var hN0 (vis_of hv0)) pa_nil)) rfl l2) pss_w) ?_
    refine ⟨.ref a, e0, a, ns, rfl, hS, hlen, fun b rr ms H' sm nb nr hb hrr hne hml => ?_⟩
    have n1 : Nxt (some (b, rr)) (fun _ => none) H (upd (fun _ => none) rr (.lst (ms.map V.int))) H' := by
      refine ⟨fun a o e => (by cases e), fun a o _ e => sm a o e, fun a ha => ?_, fun a o e => ?_, fun b' r' e => ?_⟩
      · by_cases z : a = rr
        · exact .inr (z ▸ nr)
        · rw [upd_ne z] at ha; exact absurd rfl ha
      · by_cases z : a = rr
        · subst z; rw [upd_same] at e; cases e; exact hrr
        · rw [upd_ne z] at e; cases e
      · cases e
        have nbr : b ≠ rr := fun z => by rw [z, hrr] at hb; cases hb
        exact ⟨by rw [upd_ne nbr], ms, 0, hb, upd_same, hne, hml, Int.le_refl 0⟩
    have base0 : Nxt (some (b, rr)) (fun _ => none) H (upd (fun _ => none) rr (.lst (ms.map V.int))) H' := n1
    have len : (L2.start C.N [V.ref a]).length = C.N.length := by
      unfold L2.start
      rw [hN]
      simp
    have slots : SlsE (some (b, rr)) (upd (fun _ => none) rr (.lst (ms.map V.int))) H' (lawE C.N ms) ((L2.start C.N [.ref a]).set 1 (some (.ref b))) := by
      unfold lawE
      refine SlsE.set ⟨by rw [List.length_replicate, len], fun i e he => ?_⟩ (sl_im (by simp only [Rep]; exact ⟨b, rr, rfl, rfl, upd_same⟩))
      have := List.eq_of_mem_replicate (List.mem_of_getElem? he)
      subst this
      have hi : i < C.N.length := by
        have := (List.getElem?_eq_some_iff.mp he).1
        simpa using this
      exact ⟨_, List.getElem?_eq_getElem (by rw [len]; exact hi), trivial⟩
    have noow : ∀ (i : Nat) (d : D), (lawE C.N ms)[i]? ≠ some (.ow d) := fun i d he => by
      unfold lawE at he
      by_cases z : 1 = i
      · subst z
        by_cases hl : 1 < (List.replicate C.N.length Sl.no).length
        · rw [List.getElem?_set_self hl] at he; cases he
        · rw [List.getElem?_eq_none (by rw [List.length_set]; omega)] at he; cases he
      · rw [List.getElem?_set_ne z] at he
        cases List.eq_of_mem_replicate (List.mem_of_getElem? he)
    refine ok_b (snd_all n) c (passes_of rfl) (hev ms hne hml) (Fe := fun _ => none) (He := H) (Fk := fun _ => none) (bx := some (b, rr)) ⟨n1, fun a o e => (by cases e), slots, fun i d a h => absurd h (noow i d), fun i j d e a h => absurd h (noow i d)⟩
      ⟨fun _ _ _ _ q => q.elim, fun d v F1 H1 q n2 r1 => ?_, fun _ _ _ _ q => q.elim, fun _ _ _ _ q => q.elim, fun x cls F1 H1 σ q => q.elim⟩
    subst q
    cases r1
    exact qq H1
end
end Py
set_option maxHeartbeats 4000000
/-! Words for the printed blocks; the rules of loops; what the combinators are at known values. -/
namespace Py
open PySem PySem.Spec PyProof.Rows L2
def pz : Stmt := .Pass ⟨0, 0, 0, 0⟩
def forTg : Stmt → Expr
  | .For t _ _ _ _ => t
  | _ => .Name "x" ⟨0, 0, 0, 0⟩
def forBody : Stmt → List Stmt
  | .For _ _ b _ _ => b
  | .While _ b _ _ => b
  | _ => []
def whileT : Stmt → Expr
  | .While t _ _ _ => t
  | _ => .Name "x" ⟨0, 0, 0, 0⟩
def ifThen : Stmt → List Stmt
  | .If _ a _ _ => a
  | _ => []
def ifElse : Stmt → List Stmt
  | .If _ _ b _ => b
  | _ => []

/-! ### loops -/
theorem forL_inv {f : D → Sls → Pst → Prop} {P : Pst} (I : Nat → Sls → Prop) : ∀ (items : List D) (k : Nat) (σ : Sls), I k σ →
    (∀ i x σ (N : Sls → Prop), items[i]? = some x → I (k + i) σ → (∀ σ', I (k + i + 1) σ' → N σ') → f x σ { P with nx := N, ct := N, bk := P.nx }) →
    (∀ σ, I (k + items.length) σ → P.nx σ) → forL f items σ P
  | [], k, σ, h0, _, he => he σ h0
  | x :: r, k, σ, h0, st, he => by
    unfold forL
    refine st 0 x σ _ rfl h0 fun σ' h' => ?_
    refine forL_inv I r (k + 1) σ' h' (fun i y σ2 N hy hi hN => ?_) (fun σ2 h2 => he σ2 ?_)
    · refine st (i + 1) y σ2 N hy ?_ fun σ3 h3 => hN σ3 ?_
      · rw [show k + (i + 1) = k + 1 + i by omega]; exact hi
      · rw [show k + 1 + i + 1 = k + (i + 1) + 1 by omega]; exact h3
    · rw [show k + (x :: r).length = k + 1 + r.length by simp only [List.length_cons]; omega]; exact h2
/-- over a mapped list: the turn i is about the i-th -/
theorem forL_map {α : Type} {f : D → Sls → Pst → Prop} {P : Pst} (c : α → D) (I : Nat → Sls → Prop) {xs : List α} {σ : Sls} (h0 : I 0 σ)
    (st : ∀ i a σ (N : Sls → Prop), xs[i]? = some a → I i σ → (∀ σ', I (i + 1) σ' → N σ') → f (c a) σ { P with nx := N, ct := N, bk := P.nx })
    (he : ∀ σ, I xs.length σ → P.nx σ) : forL f (xs.map c) σ P := by
  refine forL_inv I _ 0 σ h0 (fun i x σ N hx hi hN => ?_) (fun σ h => he σ ?_)
  · rw [List.getElem?_map] at hx
    obtain ⟨a, ha, rfl⟩ := Option.map_eq_some_iff.mp hx
    rw [Nat.zero_add] at hi hN
    exact st i a σ N ha hi hN
  · rw [List.length_map, Nat.zero_add] at h; exact h
/-- over a range: the turn i is at lo + i -/
theorem forL_rng {f : D → Sls → Pst → Prop} {P : Pst} (I : Nat → Sls → Prop) {lo : Int} {n : Nat} {σ : Sls} (h0 : I 0 σ)
    (st : ∀ i σ (N : Sls → Prop), i < n → I i σ → (∀ σ', I (i + 1) σ' → N σ') → f (.int (lo + i)) σ { P with nx := N, ct := N, bk := P.nx })
    (he : ∀ σ, I n σ → P.nx σ) : forL f (rng lo n) σ P := by
  refine forL_map (fun (i : Nat) => .int (lo + i)) I h0 (fun i a σ N ha hi hN => ?_) (fun σ h => he σ (by rw [List.length_range] at h; exact h))
  have hn : i < n := by
    have := (List.getElem?_eq_some_iff.mp ha).1
    simpa using this
  rw [List.getElem?_range hn] at ha
  cases ha
  exact st i σ N hn hi hN
theorem whileL_of {t : Sls → (Bool → Prop) → Prop} {b : Sls → Pst → Prop} {σ : Sls} {P : Pst} (I : Nat → Sls → Prop) (m : Nat) (h0 : I m σ)
    (st : ∀ m σ, I m σ → t σ fun c => ite2 c (b σ { P with nx := fun σ' => ∃ m', m' < m ∧ I m' σ', ct := fun σ' => ∃ m', m' < m ∧ I m' σ', bk := P.nx }) (P.nx σ)) : whileL t b σ P := ⟨I, ⟨m, h0⟩, st⟩
theorem compL_app {f : D → (Option D → Prop) → Prop} {α : Type} (c : α → D) (g : α → Option D) {Q : List D → Prop} : ∀ (xs : List α) (acc : List D), (∀ a ∈ xs, ∀ k : Option D → Prop, k (g a) → f (c a) k) → Q (acc ++ xs.filterMap g) → compL f (xs.map c) acc Q
  | [], acc, _, h => by simpa [compL] using h
  | a :: r, acc, hf, h => by
    show f (c a) _
    refine hf a List.mem_cons_self _ ?_
    refine compL_app c g r _ (fun b hb => hf b (List.mem_cons_of_mem _ hb)) ?_
    rw [List.filterMap_cons] at h
    cases e : g a with
    | none => simpa [e] using h
    | some d => simpa [e, List.append_assoc] using h
theorem compL_map {f : D → (Option D → Prop) → Prop} {α : Type} {c : α → D} {Q : List D → Prop} {xs : List α} (g : α → D) (hf : ∀ a ∈ xs, ∀ k : Option D → Prop, k (some (g a)) → f (c a) k) (h : Q (xs.map g)) : compL f (xs.map c) [] Q :=
  compL_app c (fun a => some (g a)) xs [] hf (by simpa using h)
theorem compL_filter {f : D → (Option D → Prop) → Prop} {α : Type} {c : α → D} {Q : List D → Prop} {xs : List α} (p : α → Bool) (g : α → D) (hf : ∀ a ∈ xs, ∀ k : Option D → Prop, (p a = true → k (some (g a))) → (p a = false → k none) → f (c a) k) (h : Q ((xs.filter p).map g)) : compL f (xs.map c) [] Q := by
  refine compL_app c (fun a => if p a then some (g a) else none) xs [] (fun a ha k hk => hf a ha k (fun e => ?_) (fun e => ?_)) ?_
  · rw [e] at hk; exact hk
  · rw [e] at hk; exact hk
  · have : xs.filterMap (fun a => if p a then some (g a) else none) = (xs.filter p).map g := by
      clear hf h
      induction xs with
      | nil => rfl
      | cons a r ih =>
        rw [List.filterMap_cons, List.filter_cons]
        cases e : p a <;> simp [ih, e]
    rw [this, List.nil_append]; exact h
/-- values that are not known: an invariant -/
theorem compL_inv {f : D → (Option D → Prop) → Prop} {Q : List D → Prop} (I : Nat → List D → Prop) : ∀ (items : List D) (k : Nat) (acc : List D), I k acc →
    (∀ i x acc (K : Option D → Prop), items[i]? = some x → I (k + i) acc → (I (k + i + 1) acc → K none) → (∀ d, I (k + i + 1) (acc ++ [d]) → K (some d)) → f x K) →
    (∀ l, I (k + items.length) l → Q l) → compL f items acc Q
  | [], k, acc, h0, _, he => he acc h0
  | x :: r, k, acc, h0, st, he => by
    have stp : ∀ acc', I (k + 1) acc' → compL f r acc' Q := fun acc' h' => by
      refine compL_inv I r (k + 1) acc' h' (fun i y a2 K hy hi h1 h2 => ?_) (fun l hl => he l ?_)
      · refine st (i + 1) y a2 K hy ?_ (fun z => h1 ?_) (fun d z => h2 d ?_)
        · rw [show k + (i + 1) = k + 1 + i by omega]; exact hi
        · rw [show k + 1 + i + 1 = k + (i + 1) + 1 by omega]; exact z
        · rw [show k + 1 + i + 1 = k + (i + 1) + 1 by omega]; exact z
      · rw [show k + (x :: r).length = k + 1 + r.length by simp only [List.length_cons]; omega]; exact hl
    show f x _
    refine st 0 x acc _ rfl h0 (fun h => stp _ h) (fun d h => stp _ h)
/-- each value of a kind -/
theorem compL_all {f : D → (Option D → Prop) → Prop} {Q : List D → Prop} {items : List D} (Pd : D → Prop) (hf : ∀ x ∈ items, ∀ K : Option D → Prop, (∀ d, Pd d → K (some d)) → f x K) (h : ∀ l, l.length = items.length → (∀ d ∈ l, Pd d) → Q l) : compL f items [] Q := by
  refine compL_inv (fun i l => l.length = i ∧ ∀ d ∈ l, Pd d) items 0 [] ⟨rfl, fun _ h => nomatch h⟩ (fun i x acc K hx hi _ hK => ?_) (fun l hl => h l (by simpa using hl.1) hl.2)
  refine hf x (List.mem_of_getElem? hx) K fun d hd => hK d ⟨by simp [hi.1], fun e he => ?_⟩
  rcases List.mem_append.mp he with z | z
  · exact hi.2 e z
  · cases List.mem_singleton.mp z; exact hd

/-! ### the combinators at known values -/
section
variable {Q : D → Prop} {i j : Int} {s t : List Nat} {l m : List D} {a b : Bool} {d e : D} {p q : Prop}
theorem x_asB {Q : Bool → Prop} : asB (.bl b) Q = Q b := rfl
theorem x_asI {Q : Int → Prop} : asI (.int i) Q = Q i := rfl
theorem x_asT2 {Q : D → D → Prop} : asT2 (.tup [d, e]) Q = Q d e := rfl
theorem x_asT3 {Q : D → D → D → Prop} {g : D} : asT3 (.tup [d, e, g]) Q = Q d e g := rfl
theorem x_ite_t : ite2 true p q = p := rfl
theorem x_ite_f : ite2 false p q = q := rfl
theorem x_ite {c : Bool} : ite2 c p q ↔ ((c = true → p) ∧ (c = false → q)) := by cases c <;> simp [ite2]
theorem x_i1 : ((false = true → p) ∧ (True → q)) = q := propext ⟨fun h => h.2 trivial, fun h => ⟨(fun z => nomatch z), fun _ => h⟩⟩
theorem x_i2 : ((True → p) ∧ (true = false → q)) = p := propext ⟨fun h => h.1 trivial, fun h => ⟨fun _ => h, fun z => nomatch z⟩⟩
theorem x_getO {α : Type} {x : α} {Q : α → Prop} : getO (some x) Q = Q x := rfl
theorem x_ifB : ifB true p = p := rfl
theorem x_add : dBin .Add (.int i) (.int j) Q = Q (.int (i + j)) := rfl
theorem x_sub : dBin .Sub (.int i) (.int j) Q = Q (.int (i - j)) := rfl
theorem x_mul : dBin .Mult (.int i) (.int j) Q = (CMul i j ∧ Q (.int (i * j))) := rfl
theorem x_div : dBin .FloorDiv (.int i) (.int j) Q = ((0 < j ∧ j < 1073741824) ∧ Q (.int (i / j))) := rfl
theorem x_mod : dBin .Mod (.int i) (.int j) Q = (0 < j ∧ Q (.int (i % j))) := rfl
theorem x_pow : dBin .Pow (.int i) (.int j) Q = (CPow i j ∧ Q (.int (i ^ j.toNat))) := rfl
theorem x_adds : dBin .Add (.str s) (.str t) Q = (s.length + t.length ≤ LIM ∧ Q (.str (s ++ t))) := rfl
theorem x_addl : dBin .Add (.lst l) (.lst m) Q = (l.length + m.length ≤ LIM ∧ Q (.lst (l ++ m))) := rfl
theorem x_addt : dBin .Add (.tup l) (.tup m) Q = (l.length + m.length ≤ LIM ∧ Q (.tup (l ++ m))) := rfl
theorem x_muls : dBin .Mult (.str s) (.int i) Q = ((i ≤ LIM ∧ 0 ≤ i ∧ s.length * i.toNat ≤ LIM) ∧ Q (.str (rep i.toNat s))) := rfl
theorem x_lt : dCmp .Lt (.int i) (.int j) Q = Q (.bl (decide (i < j))) := rfl
theorem x_le : dCmp .LtE (.int i) (.int j) Q = Q (.bl (decide (i ≤ j))) := rfl
theorem x_gt : dCmp .Gt (.int i) (.int j) Q = Q (.bl (decide (j < i))) := rfl
theorem x_ge : dCmp .GtE (.int i) (.int j) Q = Q (.bl (decide (j ≤ i))) := rfl
theorem x_lts : dCmp .Lt (.str s) (.str t) Q = Q (.bl (ltS s t)) := rfl
theorem x_les : dCmp .LtE (.str s) (.str t) Q = Q (.bl (!ltS t s)) := rfl
theorem x_gts : dCmp .Gt (.str s) (.str t) Q = Q (.bl (ltS t s)) := rfl
theorem x_ges : dCmp .GtE (.str s) (.str t) Q = Q (.bl (!ltS s t)) := rfl
theorem x_eq : dCmp .Eq d e Q = ((D.fits 50 d = true ∧ D.fits 50 e = true) ∧ Q (.bl (D.eq d e))) := rfl
theorem x_ne : dCmp .NotEq d e Q = ((D.fits 50 d = true ∧ D.fits 50 e = true) ∧ Q (.bl (!D.eq d e))) := rfl
theorem x_isb : dCmp .Is (.bl a) (.bl b) Q = Q (.bl (decide (a = b))) := rfl
theorem x_isnb : dCmp .IsNot (.bl a) (.bl b) Q = Q (.bl (!decide (a = b))) := rfl
theorem x_in : dCmp .In d (.lst l) Q = ((D.fits 50 d = true ∧ D.fits 50 (.lst l) = true) ∧ Q (.bl (inD d l))) := rfl
theorem x_nin : dCmp .NotIn d (.lst l) Q = ((D.fits 50 d = true ∧ D.fits 50 (.lst l) = true) ∧ Q (.bl (!inD d l))) := rfl
theorem x_ixs : dIx (.str s) (.int i) Q = getO (atI s i) fun c => Q (.str [c]) := rfl
theorem x_ixl : dIx (.lst l) (.int i) Q = getO (atI l i) Q := rfl
theorem x_ixt : dIx (.tup l) (.int i) Q = getO (atI l i) Q := rfl
theorem x_row {ms : List Int} : dIx (.box ms) (.str [114, 111, 119]) Q = Q (.lst (ms.map .int)) := rfl
theorem x_at {ms : List Int} : dIx (.box ms) (.str [97, 116]) Q = ∀ k : Int, 0 ≤ k → Q (.int k) := rfl
theorem x_put {m : Int} : boxPut (.str [97, 116]) (.int m) p = (0 ≤ m ∧ p) := rfl
theorem x_sls {lo hi : Option Int} : dSl (.str s) lo hi Q = Q (.str (cutL s lo hi)) := rfl
theorem x_sll {lo hi : Option Int} : dSl (.lst l) lo hi Q = Q (.lst (cutL l lo hi)) := rfl
theorem x_itl {K : List D → Prop} : itemsD (.lst l) K = K l := rfl
theorem x_itt {K : List D → Prop} : itemsD (.tup l) K = K l := rfl
theorem x_its {K : List D → Prop} : itemsD (.str s) K = K (s.map fun c => .str [c]) := rfl
theorem x_sql {K : List D → Prop} : seqD (.lst l) K = K l := rfl
theorem x_sqt {K : List D → Prop} : seqD (.tup l) K = K l := rfl
theorem x_lens : dBlt "len" [.str s] Q = Q (.int (s.length : Nat)) := by kernel_rfl
theorem x_lenl : dBlt "len" [.lst l] Q = Q (.int (l.length : Nat)) := by kernel_rfl
theorem x_lent : dBlt "len" [.tup l] Q = Q (.int (l.length : Nat)) := by kernel_rfl
theorem x_all : dBlt "all" [.lst l] Q = getO (blsOf l) fun l => Q (.bl (l.all id)) := by kernel_rfl
theorem x_any : dBlt "any" [.lst l] Q = getO (blsOf l) fun l => Q (.bl (l.any id)) := by kernel_rfl
theorem x_sum : dBlt "sum" [.lst l] Q = getO (intsOf l) fun l => Q (.int l.sum) := by kernel_rfl
theorem x_int : dBlt "int" [.int i] Q = Q (.int i) := by kernel_rfl
theorem x_intb : dBlt "int" [.bl b] Q = Q (.int (if b then 1 else 0)) := by kernel_rfl
theorem x_max : dBlt "max" [.int i, .int j] Q = Q (.int (if j > i then j else i)) := by kernel_rfl
theorem x_min : dBlt "min" [.int i, .int j] Q = Q (.int (if j < i then j else i)) := by kernel_rfl
theorem x_tupl : dBlt "tuple" [.lst l] Q = Q (.tup l) := by kernel_rfl
theorem x_tupt : dBlt "tuple" [.tup l] Q = Q (.tup l) := by kernel_rfl
theorem x_sortI {ns : List Int} (h : intsOf l = some ns) : dBlt "sorted" [.lst l] Q = Q (.lst ((isort leI ns).map .int)) := by
  have : dBlt "sorted" [.lst l] Q = (match intsOf l with
      | some l => Q (.lst ((isort leI l).map .int))
      | none => (match strsOf l with
        | some l => Q (.lst ((isort leS l).map .str))
        | none => False)) := by kernel_rfl
  rw [this, h]
theorem x_rng1 {K : List D → Prop} : rngW [.int i] K = ((i ≤ LIM ∧ -LIM ≤ i) ∧ K (rng 0 i.toNat)) := rfl
theorem x_rng2 {K : List D → Prop} : rngW [.int i, .int j] K = ((i ≤ LIM ∧ -LIM ≤ i ∧ j ≤ LIM ∧ -LIM ≤ j ∧ j - i ≤ LIM) ∧ K (rng i (j - i).toNat)) := rfl
theorem x_trb : truD (.bl b) = some b := rfl
theorem x_tri : truD (.int i) = some (i != 0) := rfl
theorem x_trs : truD (.str s) = some (!s.isEmpty) := rfl
theorem x_trl : truD (.lst l) = some (!l.isEmpty) := rfl
theorem x_trt : truD (.tup l) = some (!l.isEmpty) := rfl
theorem x_trn : truD .non = some false := rfl
theorem x_aug_i : augOk .Add (.int i) (.int j) = true := rfl
theorem x_aug_s : augOk .Sub (.int i) (.int j) = true := rfl
theorem x_aug_t : augOk .Add (.str s) (.str t) = true := rfl
end
theorem x_ints (l : List Int) : intsOf (l.map .int) = some l := by
  induction l with
  | nil => rfl
  | cons a r ih => simp [intsOf, ih]
theorem x_strs (l : List (List Nat)) : strsOf (l.map .str) = some l := by
  induction l with
  | nil => rfl
  | cons a r ih => simp [strsOf, ih]
theorem x_bls (l : List Bool) : blsOf (l.map .bl) = some l := by
  induction l with
  | nil => rfl
  | cons a r ih => simp [blsOf, ih]
theorem x_intsM {α : Type} (g : α → Int) (l : List α) : intsOf (l.map fun a => .int (g a)) = some (l.map g) := by
  rw [← x_ints, List.map_map]; rfl
theorem x_strsM {α : Type} (g : α → List Nat) (l : List α) : strsOf (l.map fun a => .str (g a)) = some (l.map g) := by
  rw [← x_strs, List.map_map]; rfl
theorem x_blsM {α : Type} (g : α → Bool) (l : List α) : blsOf (l.map fun a => .bl (g a)) = some (l.map g) := by
  rw [← x_bls, List.map_map]; rfl
/-- an empty separator -/
theorem join_nil : ∀ l : List (List Nat), joinD [] l = l.flatten
  | [] => rfl
  | [x] => by simp [joinD]
  | x :: y :: r => by
    have := join_nil (y :: r)
    simp only [joinD, this, List.flatten_cons, List.nil_append]

/-! ### equality -/
theorem x_eqs {s t : List Nat} : D.eq (.str s) (.str t) = decide (s = t) := by simp only [D.eq]
theorem x_eqi {i j : Int} : D.eq (.int i) (.int j) = decide (i = j) := by simp only [D.eq]; rfl
theorem x_eqb {i j : Bool} : D.eq (.bl i) (.bl j) = decide (i = j) := by simp only [D.eq]; cases i <;> cases j <;> rfl
theorem x_eql {l m : List D} : D.eq (.lst l) (.lst m) = D.eqs l m := by simp only [D.eq]
theorem x_eqt {l m : List D} : D.eq (.tup l) (.tup m) = D.eqs l m := by simp only [D.eq]
theorem x_eqc {d e : D} {l m : List D} : D.eqs (d :: l) (e :: m) = (D.eq d e && D.eqs l m) := by simp only [D.eqs]
theorem x_eqn : D.eqs [] [] = true := by simp only [D.eqs]
theorem eqs_refl : ∀ l : List D, (∀ d ∈ l, D.eq d d = true) → D.eqs l l = true
  | [], _ => x_eqn
  | d :: r, h => by rw [x_eqc, h d List.mem_cons_self, eqs_refl r fun e he => h e (List.mem_cons_of_mem _ he)]; rfl
theorem eq_refl : ∀ (n : Nat) (d : D), D.fits n d = true → D.eq d d = true
  | _, .non, _ => by simp only [D.eq]
  | _, .bl b, _ => by rw [x_eqb]; simp
  | _, .int i, _ => by rw [x_eqi]; simp
  | _, .str s, _ => by rw [x_eqs]; simp
  | n + 1, .lst l, h => by
    rw [x_eql]
    unfold D.fits at h
    rw [List.all_eq_true] at h
    exact eqs_refl l fun d hd => eq_refl n d (h d hd)
  | n + 1, .tup l, h => by
    rw [x_eqt]
    unfold D.fits at h
    rw [List.all_eq_true] at h
    exact eqs_refl l fun d hd => eq_refl n d (h d hd)
  | 0, .lst l, h => by unfold D.fits at h; cases h
  | 0, .tup l, h => by unfold D.fits at h; cases h
  | _, .dct l, h => by unfold D.fits at h; cases h
  | _, .box l, h => by unfold D.fits at h; cases h
/-- fits, said by parts -/
theorem x_fn {n : Nat} : D.fits n .non = true := by unfold D.fits; rfl
theorem x_fb {n : Nat} {b : Bool} : D.fits n (.bl b) = true := by unfold D.fits; rfl
theorem x_fi {n : Nat} {b : Int} : D.fits n (.int b) = true := by unfold D.fits; rfl
theorem x_fs {n : Nat} {b : List Nat} : D.fits n (.str b) = true := by unfold D.fits; rfl
theorem x_fl {n : Nat} {l : List D} : D.fits (n + 1) (.lst l) = l.all (D.fits n) := by rw [D.fits]
theorem x_ft {n : Nat} {l : List D} : D.fits (n + 1) (.tup l) = l.all (D.fits n) := by rw [D.fits]
theorem x_fl50 {l : List D} : D.fits 50 (.lst l) = l.all (D.fits 49) := by rw [D.fits]
theorem x_ft50 {l : List D} : D.fits 50 (.tup l) = l.all (D.fits 49) := by rw [D.fits]
theorem all_ints {n : Nat} (l : List Int) : (l.map D.int).all (D.fits n) = true := by
  rw [List.all_map, List.all_eq_true]; intro x _; exact x_fi
theorem all_strs {n : Nat} (l : List (List Nat)) : (l.map D.str).all (D.fits n) = true := by
  rw [List.all_map, List.all_eq_true]; intro x _; exact x_fs
theorem fits_ints {n : Nat} (l : List Int) : D.fits (n + 1) (.lst (l.map D.int)) = true := by rw [x_fl]; exact all_ints l
theorem fits_strs {n : Nat} (l : List (List Nat)) : D.fits (n + 1) (.lst (l.map D.str)) = true := by rw [x_fl]; exact all_strs l
theorem eqs_map_inj {α : Type} [DecidableEq α] (c : α → D) (h : ∀ a b : α, D.eq (c a) (c b) = decide (a = b)) : ∀ l m : List α, D.eqs (l.map c) (m.map c) = decide (l = m)
  | [], [] => by simp [D.eqs]
  | [], _ :: _ => by simp [D.eqs]
  | _ :: _, [] => by simp [D.eqs]
  | a :: l, b :: m => by
    rw [List.map_cons, List.map_cons, x_eqc, h, eqs_map_inj c h l m]
    by_cases h1 : a = b <;> by_cases h2 : l = m <;> simp [h1, h2]
theorem eq_ints (l m : List Int) : D.eq (.lst (l.map .int)) (.lst (m.map .int)) = decide (l = m) := by
  rw [x_eql]; exact eqs_map_inj _ (fun a b => x_eqi) l m
theorem eq_strs (l m : List (List Nat)) : D.eq (.lst (l.map .str)) (.lst (m.map .str)) = decide (l = m) := by
  rw [x_eql]; exact eqs_map_inj _ (fun a b => x_eqs) l m

theorem fits_intsM {α : Type} {n : Nat} (g : α → Int) (l : List α) : D.fits (n + 1) (.lst (l.map fun a => .int (g a))) = true := by
  rw [x_fl, List.all_map, List.all_eq_true]; intro x _; exact x_fi
theorem fits_strsM {α : Type} {n : Nat} (g : α → List Nat) (l : List α) : D.fits (n + 1) (.lst (l.map fun a => .str (g a))) = true := by
  rw [x_fl, List.all_map, List.all_eq_true]; intro x _; exact x_fs
theorem ne_self {d : D} {Q : D → Prop} (h : D.fits 50 d = true) : dCmp .NotEq d d Q = Q (.bl false) := by
  rw [x_ne, eq_refl 50 d h, h]; simp
theorem eq_self {d : D} {Q : D → Prop} (h : D.fits 50 d = true) : dCmp .Eq d d Q = Q (.bl true) := by
  rw [x_eq, eq_refl 50 d h, h]; simp

/-! ### places and slices -/
theorem cut_from {α : Type} (s : List α) (i : Nat) : cutL s (some (i : Int)) none = s.drop i := by
  unfold cutL
  rw [HT.sIx_nat, HT.sIx_none]
  by_cases h : i ≤ s.length
  · rw [Nat.min_eq_left h, List.take_of_length_le (by rw [List.length_drop]; omega)]
  · rw [Nat.min_eq_right (by omega), List.drop_eq_nil_of_le (by omega : s.length ≤ i)]; simp
theorem cut_to {α : Type} (s : List α) (i : Nat) : cutL s none (some (i : Int)) = s.take i := by
  unfold cutL
  rw [HT.sIx_nat, HT.sIx_none, List.drop_zero, Nat.sub_zero]
  by_cases h : i ≤ s.length
  · rw [Nat.min_eq_left h]
  · rw [Nat.min_eq_right (by omega), List.take_of_length_le (by omega), List.take_of_length_le (by omega)]
theorem cut_mid {α : Type} (s : List α) (i j : Nat) : cutL s (some (i : Int)) (some (j : Int)) = (s.drop i).take (j - i) := by
  unfold cutL
  rw [HT.sIx_nat, HT.sIx_nat]
  by_cases h : i ≤ s.length
  · rw [Nat.min_eq_left h]
    by_cases h2 : j ≤ s.length
    · rw [Nat.min_eq_left h2]
    · rw [Nat.min_eq_right (by omega), List.take_of_length_le (by rw [List.length_drop]; omega), List.take_of_length_le (by rw [List.length_drop]; omega)]
  · rw [show min i s.length = s.length by omega, List.drop_eq_nil_of_le (by omega : s.length ≤ i)]; simp
theorem cut_none {α : Type} (s : List α) : cutL s none none = s := by
  unfold cutL
  rw [HT.sIx_none, HT.sIx_none]; simp
theorem at_nat {α : Type} (s : List α) (i : Nat) : atI s (i : Int) = s[i]? := by
  unfold atI ixN
  rw [if_pos (by omega)]
  by_cases h : i < s.length
  · rw [if_pos (by omega)]; simp
  · rw [if_neg (by omega)]; simp; omega
theorem at_some {α : Type} {s : List α} {i : Int} (h0 : 0 ≤ i) (h : i < s.length) : atI s i = some (s[i.toNat]'(by omega)) := by
  obtain ⟨k, rfl⟩ : ∃ k : Nat, i = k := ⟨i.toNat, by omega⟩
  rw [at_nat, List.getElem?_eq_getElem (by omega)]; rfl
theorem at_0 {α : Type} (x : α) (r : List α) : atI (x :: r) 0 = some x := by
  rw [show (0 : Int) = ((0 : Nat) : Int) from rfl, at_nat]; rfl
theorem at_1 {α : Type} (x y : α) (r : List α) : atI (x :: y :: r) 1 = some y := by
  rw [show (1 : Int) = ((1 : Nat) : Int) from rfl, at_nat]; rfl
theorem at_2 {α : Type} (x y z : α) (r : List α) : atI (x :: y :: z :: r) 2 = some z := by
  rw [show (2 : Int) = ((2 : Nat) : Int) from rfl, at_nat]; rfl
theorem ixN_nat {n i : Nat} (h : i < n) : ixN n (i : Int) = some i := by
  unfold ixN
  rw [if_pos (by omega), if_pos (by omega)]; simp
theorem rng_nat (n : Nat) : rng 0 n = (List.range n).map fun i : Nat => .int (i : Int) := by
  unfold rng; simp only [Int.zero_add]

theorem rng_nat' (a n : Nat) : rng (a : Int) n = (List.range' a n).map fun i : Nat => .int (i : Int) := by
  unfold rng
  rw [List.range'_eq_map_range, List.map_map]
  refine List.map_congr_left fun i _ => ?_
  simp only [Function.comp_apply, Int.natCast_add]
theorem rng_to {a b : Nat} : rng (a : Int) ((b : Int) - (a : Int)).toNat = (List.range' a (b - a)).map fun i : Nat => .int (i : Int) := by
  rw [show ((b : Int) - (a : Int)).toNat = b - a by omega]; exact rng_nat' a _
theorem rng1 {n : Nat} : rng 1 ((n : Int) + 1 - 1).toNat = (List.range' 1 n).map fun i : Nat => .int (i : Int) := by
  rw [show ((n : Int) + 1 - 1).toNat = n by omega]; exact rng_nat' 1 _
theorem rng0 {n : Nat} : rng 0 ((n : Int)).toNat = (List.range n).map fun i : Nat => .int (i : Int) := by
  rw [Int.toNat_natCast]; exact rng_nat n
theorem mem_r' {s a n : Nat} : s ∈ List.range' a n ↔ a ≤ s ∧ s < a + n := by
  rw [List.mem_range']
  constructor
  · rintro ⟨i, h1, rfl⟩; omega
  · rintro ⟨h1, h2⟩; exact ⟨s - a, by omega, by omega⟩

/-! ### promises in their plain forms -/
/-- arguments asked of, a value known by a relation -/
def spD (pre : List D → Prop) (post : List D → D → Prop) : Fn := fun ds Q _ => pre ds ∧ ∀ d, post ds d → Q d
theorem spD_mono {pre : List D → Prop} {post : List D → D → Prop} : FnMono (spD pre post) := fun ds Q Q' X X' hq _ h => ⟨h.1, fun d hd => hq d (h.2 d hd)⟩
/-- the value is a function of the arguments -/
def fnD (pre : List D → Prop) (f : List D → D) : Fn := fun ds Q _ => pre ds ∧ Q (f ds)
theorem fnD_mono {pre : List D → Prop} {f : List D → D} : FnMono (fnD pre f) := fun ds Q Q' X X' hq _ h => ⟨h.1, hq _ h.2⟩
end Py
set_option maxHeartbeats 4000000
/-! The def that makes the box; the promises of the law's own helpers. -/
namespace Py
open PySem PySem.Spec PyProof.Rows L2
theorem ints_vs {bx : BX} {F : Hp} : ∀ (l : List Int) (xs : List V), RepL bx F (l.map .int) xs → xs = l.map V.int
  | [], xs, h => by simpa [RepL] using h
  | i :: l, xs, h => by
    simp only [List.map_cons, RepL] at h
    obtain ⟨x, r, rfl, h1, h2⟩ := h
    simp only [Rep] at h1
    rw [h1, ints_vs l r h2]; rfl
theorem SqL.nxt0 {K : PySem.W.Frag} {F H F' H' : Hp} {a : Addr} {xs : List V} (n : Nxt none F H F' H') (h : SqL K H a xs) : SqL K H' a xs := by
  have nb : ∀ b, NB none b := fun b r z => nomatch z
  rcases h with (h | ⟨o, h⟩) | h
  · exact .inl (.inl (n.keep _ _ (nb _) h))
  · exact .inl (.inr ⟨o, n.keep _ _ (nb _) h⟩)
  · exact .inr h
theorem StOk.at0 {C : Ctx} {X : Cx} {W : WX} {bx : BX} {Fe He Fk F H : Hp} {es : Sls} {σ : L2.St} (k : StOk bx Fe He Fk es σ F H) (c : Conf C X W) : At C X W bx F H noX es σ := ⟨c, k.n.bas, wish_no, k.s⟩
section
variable {P : Program} {w : World} {K : PySem.W.Frag} {mg : Str → Option Value} {base : Heap} {C : Ctx} {st : Stmt} {f : Addr} {fd : FuncData} {k n : Nat}
theorem box_ok {xp lp apos sp cp fpos rp rpos dp b1 b2 b3 : Pos} {a1 a2 a3 : Nat} {s3 : Stmt} {body : List Stmt} (F : Fun K "_law_box" "_law_box" st f fd) (SC : FnScope C.N ["script"] (defScope st)) (hsc : C.sc = defScope st) (host : C.ost = defScope st) (M : ModOk C mg) (T : TabOk P w K mg base k C.fns)
    (hN : C.N = [("script" : Str), "row", "cell"]) (hv0 : visB (defScope st) "script" = true) (hv1 : visB (defScope st) "row" = true)
    (hl1 : locB (defScope st) "row" = true)
    (hbody : defBody st = [.Assign [.Name "row" xp] (.List [] lp) apos, .For (.Name "cell" cp) (.Name "script" sp) body [] fpos, s3, .Return (some (.Dict [some (.Constant (.str "row") a1 b1), some (.Constant (.str "at") a2 b2)] [.Name "row" rp, .Constant (.int 0) a3 b3] dp)) rpos])
    (h1 : ∀ (Q : D → Prop), Q (.lst []) → (evs 9).E C (.List [] lp) [.no, .no, .no] Q noX)
    (ht : ∀ d e0 e1 e2 K, bindT C (.Name "cell" cp) d [e0, e1, e2] K = K [e0, e1, .im d])
    (h2 : ∀ (l : List Int) (c : Int) (P : Pst), l.length ≤ 1000 → (∀ m : List Int, m.length ≤ l.length + 6 → P.nx [.no, .im (.lst (m.map .int)), .im (.int c)]) → evB (evS n) C body [.no, .im (.lst (l.map .int)), .im (.int c)] P)
    (h3 : ∀ (l : List Int) (s : Sl) (P : Pst), l.length ≤ 1000 → (∀ m : List Int, m ≠ [] → m.length ≤ LIM → P.nx [.no, .im (.lst (m.map .int)), s]) → evS n C s3 [.no, .im (.lst (l.map .int)), s] P)
    (h4 : ∀ (l : List Int) (s : Sl) (Q : D → Prop), Q (.str [114, 111, 119]) → (evs 9).E C (.Constant (.str "row") a1 b1) [.no, .im (.lst (l.map .int)), s] Q noX)
    (h5 : ∀ (l : List Int) (s : Sl) (Q : D → Prop), Q (.lst (l.map .int)) → (evs 9).E C (.Name "row" rp) [.no, .im (.lst (l.map .int)), s] Q noX)
    (h6 : ∀ (l : List Int) (s : Sl) (Q : D → Prop), Q (.str [97, 116]) → (evs 9).E C (.Constant (.str "at") a2 b2) [.no, .im (.lst (l.map .int)), s] Q noX)
    (h7 : ∀ (l : List Int) (s : Sl) (Q : D → Prop), Q (.int 0) → (evs 9).E C (.Constant (.int 0) a3 b3) [.no, .im (.lst (l.map .int)), s] Q noX) :
    FnOk P w K mg base (L2.CX P w) (k + 1) f fd ["script"] (spBox K) := by
  refine F.okX SC (fun vs H Q E h => ?_) (fun cdv A outer s H vs Q E hr h => ?_)
  · obtain ⟨a, ns, rfl, _⟩ := h
    rfl
  · obtain ⟨a, ns, rfl, hS, hlen, qq⟩ := h
    have c := conf_def (cdv := cdv) (A := A) (outer := outer) (s := s) (H := H) (E := E) (qual := "_law_box") (f := f) SC hsc host M T hr
    rw [hbody]
    refine ⟨wSs _ _, pss_w, ?_⟩
    have hp := passes_of (X := cxOf (L2.CX P w) P w K mg base C.N "_law_box" (defScope st) f cdv A outer s H E) rfl
    have e0 : (L2.start C.N [.ref a])[0]? = some (some (V.ref a)) := rfl
    have eN : (cxOf (L2.CX P w) P w K mg base C.N "_law_box" (defScope st) f cdv A outer s H E).N[0]? = some ("script" : Str) := by show C.N[0]? = _; rw [hN]; rfl
    have hN0 : L2.start C.N [.ref a] = [some (V.ref a), none, none] := by rw [hN]; rfl
    have b0 : Bas none (fun _ => none) H := ⟨fun a o e => (nomatch e), fun b r e => (nomatch e)⟩
    have k0 : StOk none (fun _ => none) H (fun _ => none) [.no, .no, .no] (L2.start C.N [.ref a]) (fun _ => none) H := by
      refine ⟨Nxt.refl b0, Ex.refl _, ⟨by rw [hN0]; rfl, fun i e he => ?_⟩, fun i d b he => ?_, fun i j d e b he => ?_⟩
      · rw [hN0]
        rcases i with _ | _ | _ | i <;> cases he <;> exact ⟨_, rfl, trivial⟩
      · rcases i with _ | _ | _ | i <;> cases he
      · rcases i with _ | _ | _ | i <;> cases he
    have cases3 : ∀ {i : Nat} {d : D} {x y z : Sl}, [x, y, z][i]? = some (.ow d) → (i = 0 ∧ x = .ow d) ∨ (i = 1 ∧ y = .ow d) ∨ (i = 2 ∧ z = .ow d) := fun {i d x y z} h => by
      rcases i with _ | _ | _ | i
      · exact .inl ⟨rfl, Option.some.inj h⟩
      · exact .inr (.inl ⟨rfl, Option.some.inj h⟩)
      · exact .inr (.inr ⟨rfl, Option.some.inj h⟩)
      · cases h
    -- row = []
    obtain ⟨l1, l2⟩ := c.sto "row" (by rw [host]; exact hl1)
    have nd : (cxOf (L2.CX P w) P w K mg base C.N "_law_box" (defScope st) f cdv A outer s H E).N.Nodup := SC.nd
    have hN1 : (cxOf (L2.CX P w) P w K mg base C.N "_law_box" (defScope st) f cdv A outer s H E).N[1]? = some ("row" : Str) := by show C.N[1]? = _; rw [hN]; rfl
    refine wSs_of (pss_cons (ps_set nd hN1 l1 pe_w rfl l2) pss_w) ?_
    refine (snd_evs 9).E (h1 (fun d => d = .lst []) rfl) (k0.at0 c) _ fun d v F1 H1 q1 n1 r1 => ?_
    subst q1
    have k1 : StOk none (fun _ => none) H (fun _ => none) [.no, .im (.lst []), .no] ((L2.start C.N [.ref a]).set 1 (some v)) F1 H1 := (k0.nxt n1).setIm (i := 1) r1
    -- the loop
    refine wSs_of (pss_cons ps_w pss_w) ?_
    have v0 : ((L2.start C.N [.ref a]).set 1 (some v))[0]? = some (some (V.ref a)) := by rw [hN0]; rfl
    refine wS_of (ps_for hp c.calm (pi_list (pe_var eN (vis_of hv0))) pg_w pss_w (fset (by rfl))) ?_
    refine ⟨.ref a, v0, a, rfl, ⟨_, SqL.nxt0 k1.n hS⟩, ?_⟩
    refine ⟨fun i m σ2 H2 => m = ns.length - i ∧ i ≤ ns.length ∧ ∃ (l : List Int) (sl : Sl) (F2 : Hp), l.length ≤ 6 * i ∧ (∀ d, sl ≠ .ow d) ∧ StOk none (fun _ => none) H (fun _ => none) [.no, .im (.lst (l.map .int)), sl] σ2 F2 H2, ⟨ns.length, rfl, Nat.zero_le _, [], .no, F1, Nat.le_refl _, (fun _ z => nomatch z), k1⟩, ?_⟩
    rintro i m σ2 H2 ⟨rfl, hi, l, sl, F2, hl, hsl, k2⟩
    have hS2 : SqL K H2 a (ns.map V.int) := SqL.nxt0 k2.n hS
    by_cases hlt : i < ns.length
    · have hget : (ns.map V.int)[i]? = some (.int ns[i]) := by rw [List.getElem?_map, List.getElem?_eq_getElem hlt]; rfl
      refine .inr ⟨⟨_, _, hS2, hget⟩, fun σ' H' => ∃ (l : List Int) (sl : Sl) (F2 : Hp), l.length ≤ 6 * (i + 1) ∧ (∀ d, sl ≠ .ow d) ∧ StOk none (fun _ => none) H (fun _ => none) [.no, .im (.lst (l.map .int)), sl] σ' F2 H', fun σ' H' ⟨l, sl, F2, z1, z2, z3⟩ => ⟨ns.length - (i + 1), by omega, rfl, hlt, l, sl, F2, z1, z2, z3⟩, fun x H3 y => ?_⟩
      obtain ⟨rfl, y⟩ := y
      have := y _ hS2
      rw [hget] at this
      cases this
      refine k2.bind c (K := fun es => es = [.no, .im (.lst (l.map .int)), .im (.int ns[i])]) (by rw [ht]) (d := .int ns[i]) (by simp only [Rep]) _ fun es3 σ3 q3 k3 => ?_
      subst q3
      refine ok_b (snd_all n) c hp (h2 l ns[i] { nx := fun es => ∃ m : List Int, m.length ≤ l.length + 6 ∧ es = [.no, .im (.lst (m.map .int)), .im (.int ns[i])], rt := fun _ => False, bk := fun _ => False, ct := fun _ => False, ex := noX } (by omega) fun m hm => ⟨m, hm, rfl⟩) k3 ⟨fun es σ4 F4 H4 q k4 => ?_, fun _ _ _ _ z => z.elim, fun _ _ _ _ z => z.elim, fun _ _ _ _ z => z.elim, wish_no⟩
      obtain ⟨m, hm, rfl⟩ := q
      exact ⟨m, _, F4, by omega, (fun _ z => Sl.noConfusion z), k4⟩
    · have ei : i = ns.length := by omega
      refine .inl ⟨⟨_, hS2, by rw [List.length_map]; omega⟩, ?_⟩
      -- if len(row) == 0
      refine wSs_of (pss_cons ps_w pss_w) ?_
      refine snd_all n (h3 l sl { nx := fun es => ∃ m : List Int, m ≠ [] ∧ m.length ≤ LIM ∧ es = [.no, .im (.lst (m.map .int)), sl], rt := fun _ => False, bk := fun _ => False, ct := fun _ => False, ex := noX } (by omega) fun m hm1 hm2 => ⟨m, hm1, hm2, rfl⟩) c hp k2 ⟨fun es σ4 F4 H4 q k4 => ?_, fun _ _ _ _ z => z.elim, fun _ _ _ _ z => z.elim, fun _ _ _ _ z => z.elim, wish_no⟩
      obtain ⟨m, hm1, hm2, rfl⟩ := q
      -- return {..}
      refine wSs_of (pss_cons (ps_ret (pe_disp (pps_cons pe_w pe_w (pps_cons pe_w pe_w pps_nil)) rfl rfl (fun z => nomatch z) (by show 2 ≤ 15; decide))) pss_nil) ?_
      intro p hpn
      have n5 : Nxt none F4 H4 F4 (upd H4 p (.dK [])) := Nxt.made k4.n.bas hpn
      have k5 := k4.nxt n5
      refine (snd_evs 9).E (h4 m sl (fun d => d = .str [114, 111, 119]) rfl) (k5.at0 c) _ fun d v F6 H6 q6 n6 r6 => ?_
      subst q6
      refine (snd_evs 9).E (h5 m sl (fun d => d = .lst (m.map .int)) rfl) ((k5.nxt n6).at0 c) _ fun d v7 F7 H7 q7 n7 r7 => ?_
      subst q7
      refine (snd_evs 9).E (h6 m sl (fun d => d = .str [97, 116]) rfl) (((k5.nxt n6).nxt n7).at0 c) _ fun d v8 F8 H8 q8 n8 r8 => ?_
      subst q8
      refine (snd_evs 9).E (h7 m sl (fun d => d = .int 0) rfl) ((((k5.nxt n6).nxt n7).nxt n8).at0 c) _ fun d v9 F9 H9 q9 n9 r9 => ?_
      subst q9
      have k9 := (((k5.nxt n6).nxt n7).nxt n8).nxt n9
      have nb : ∀ b, NB none b := fun b r z => nomatch z
      obtain ⟨rfl, _⟩ := r6
      obtain ⟨rfl, _⟩ := r8
      cases r9
      simp only [Rep] at r7
      obtain ⟨rr, xs, rfl, g1, g2, g3⟩ := r7
      have ex := ints_vs _ _ g3
      subst ex
      have hHp : ∀ o, H p = some o → False := fun o z => by
        have := k4.n.keep _ _ (nb _) z
        rw [hpn] at this; cases this
      have hp9 : H9 p = some (.dK []) := ((n6.trans n7).trans (n8.trans n9)).keep _ _ (nb _) (upd_same)
      have pF : F4 p = none := by
        cases z : F4 p with
        | none => rfl
        | some o => have := k4.n.bas.sub _ _ z; rw [hpn] at this; cases this
      have pF9 : F9 p = none := ((n6.trans n7).trans (n8.trans n9)).out pF upd_same
      have rF9 : F9 rr = some (.lst (m.map V.int)) := (n8.trans n9).ex _ _ g1
      have rp' : rr ≠ p := fun z => by rw [z, pF9] at rF9; cases rF9
      refine ⟨hp9, [(Sum.inr ("row" : Str), .ref rr), (Sum.inr ("at" : Str), .int 0)], ?_, (by show 2 ≤ 15; decide), ?_⟩
      · rw [mk_row, mk_at]; rfl
      · have e2 : mergeK [] [((Sum.inr ("row" : Str) : Key), V.ref rr), (Sum.inr ("at" : Str), V.int 0)] = [(Sum.inr ("row" : Str), .ref rr), (Sum.inr ("at" : Str), .int 0)] := rfl
        rw [e2]
        have hrH : H rr = none := by
          rcases k9.n.new rr (by rw [rF9]; exact fun z => nomatch z) with z | z
          · exact absurd rfl z
          · exact z
        refine qq p rr m _ (fun b o z => ?_) (by cases z : H p with
          | none => rfl
          | some o => exact (hHp o z).elim) hrH upd_same (by rw [upd_ne rp']; exact k9.n.bas.sub _ _ rF9) hm1 hm2
        have : b ≠ p := fun y => hHp o (y ▸ z)
        rw [upd_ne this]
        exact k9.n.keep _ _ (nb _) z
end
end Py
set_option maxHeartbeats 4000000
/-! The promises of the law's own helpers. -/
namespace Py
open PySem PySem.Spec PyProof.Rows L2
def okB (ms : List Int) : Prop := ms ≠ [] ∧ ms.length ≤ LIM
def φ_digits : Fn := fun ds Q _ => match ds with
  | [.int c, .int n] => n = 6 ∧ ∀ ns : List Int, ns.length ≤ 6 → Q (.lst (ns.map .int))
  | _ => False
def φ_take : Fn := fun ds Q _ => match ds with
  | [.box ms, .int n] => (okB ms ∧ 0 < n) ∧ ∀ v : Int, 0 ≤ v → v < n → Q (.int v)
  | _ => False
def φ_pick : Fn := fun ds Q _ => match ds with
  | [.box ms, .lst l] => (okB ms ∧ l ≠ []) ∧ ∀ d ∈ l, Q d
  | [.box ms, .tup l] => (okB ms ∧ l ≠ []) ∧ ∀ d ∈ l, Q d
  | [.box ms, .str l] => (okB ms ∧ l ≠ []) ∧ ∀ c ∈ l, Q (.str [c])
  | _ => False
def φ_some : Fn := fun ds Q _ => match ds with
  | [.box ms, .str l, .int n] => (okB ms ∧ l ≠ [] ∧ -LIM ≤ n ∧ n ≤ LIM) ∧ ∀ s : List Nat, s.length = n.toNat → (∀ c ∈ s, c ∈ l) → Q (.str s)
  | _ => False
def φ_is : Fn := fun ds Q _ => match ds with
  | [.bl a, .bl b] => Q (.bl (decide (a = b)))
  | _ => False
theorem digits_mono : FnMono φ_digits := fun ds Q Q' X X' hq _ h => by
  unfold φ_digits at h ⊢
  split at h
  · exact ⟨h.1, fun ns hl => hq _ (h.2 ns hl)⟩
  · exact h
theorem take_mono : FnMono φ_take := fun ds Q Q' X X' hq _ h => by
  unfold φ_take at h ⊢
  split at h
  · exact ⟨h.1, fun v h1 h2 => hq _ (h.2 v h1 h2)⟩
  · exact h
theorem pick_mono : FnMono φ_pick := fun ds Q Q' X X' hq _ h => by
  unfold φ_pick at h ⊢
  split at h
  · exact ⟨h.1, fun v h1 => hq _ (h.2 v h1)⟩
  · exact ⟨h.1, fun v h1 => hq _ (h.2 v h1)⟩
  · exact ⟨h.1, fun v h1 => hq _ (h.2 v h1)⟩
  · exact h
theorem some_mono : FnMono φ_some := fun ds Q Q' X X' hq _ h => by
  unfold φ_some at h ⊢
  split at h
  · exact ⟨h.1, fun v h1 h2 => hq _ (h.2 v h1 h2)⟩
  · exact h
theorem is_mono : FnMono φ_is := fun ds Q Q' X X' hq _ h => by
  unfold φ_is at h ⊢
  split at h
  · exact hq _ h
  · exact h
/-- a call's arguments, by their number -/
theorem len0 {ds : List D} (h : ds.length = 0) : ds = [] := List.length_eq_zero_iff.mp h
theorem len1 {ds : List D} (h : ds.length = 1) : ∃ a, ds = [a] := by
  match ds, h with
  | [a], _ => exact ⟨a, rfl⟩
theorem len2 {ds : List D} (h : ds.length = 2) : ∃ a b, ds = [a, b] := by
  match ds, h with
  | [a, b], _ => exact ⟨a, b, rfl⟩
theorem len3 {ds : List D} (h : ds.length = 3) : ∃ a b c, ds = [a, b, c] := by
  match ds, h with
  | [a, b, c], _ => exact ⟨a, b, c, rfl⟩
theorem len4 {ds : List D} (h : ds.length = 4) : ∃ a b c d, ds = [a, b, c, d] := by
  match ds, h with
  | [a, b, c, d], _ => exact ⟨a, b, c, d, rfl⟩
/-- small multiplications -/
theorem cm_l {i j : Int} (h1 : -(2 ^ 64) < i) (h2 : i < 2 ^ 64) : CMul i j := .inl ⟨h1, h2⟩
theorem cm_r {i j : Int} (h1 : -(2 ^ 64) < j) (h2 : j < 2 ^ 64) : CMul i j := .inr ⟨h1, h2⟩
/-! ### joining -/
section
variable {P : Program} {w : World} {K : PySem.W.Frag} {mg : Str → Option Value} {base : Heap} {k : Nat}
theorem mod_of {C : Ctx} (h1 : ∀ x ∈ C.N, (x == ("__debug__" : Str)) = false ∧ (x == ("__classdict__" : Str)) = false) (h2 : ∀ x ∈ C.blt, mg x = none ∧ x ≠ "__name__" ∧ (x == ("__debug__" : Str)) = false)
    (h3 : ∀ x d, C.con.lookup x = some d → (x == ("__debug__" : Str)) = false ∧ ∃ u v, mg x = some u ∧ RelV v u ∧ ∀ bx F, Rep bx F d v) : ModOk C mg := ⟨h1, fun x h => h2 x (inB_mem h), h3⟩
theorem all_nil {p : Str → Prop} : ∀ x ∈ ([] : List Str), p x := fun _ h => nomatch h
theorem all_cons {p : Str → Prop} {y : Str} {r : List Str} (h : p y) (t : ∀ x ∈ r, p x) : ∀ x ∈ y :: r, p x := List.forall_mem_cons.mpr ⟨h, t⟩
theorem con_nil {p : Str → D → Prop} : ∀ x d, ([] : List (Str × D)).lookup x = some d → p x d := fun _ _ h => nomatch h
theorem tab_nil : TabOk P w K mg base k [] := fun _ _ _ h => nomatch h
theorem tab_cons {y : Str} {n j : Nat} {φ : Fn} {f : Addr} {fd : FuncData} {ps : List Str} {r : List (Str × Nat × Fn)} (m : FnMono φ) (d : (y == ("__debug__" : Str)) = false) (hj : j ≤ k) (F : FnOk P w K mg base (L2.CX P w) j f fd ps (spW mg n φ)) (a : mg y = some (.ref f)) (b : PySem.W.keepIn K (.ref f) = true) (c : Binds K fd ps [])
    (t : TabOk P w K mg base k r) : TabOk P w K mg base k ((y, n, φ) :: r) := fun x n' φ' h => by
  rw [List.lookup_cons] at h
  cases e : x == y with
  | true =>
    rw [e] at h
    cases h
    have := eq_of_beq e
    subst this
    exact ⟨m, d, j, f, fd, ps, hj, F, a, b, c⟩
  | false =>
    rw [e] at h
    exact t x n' φ' h
end
/-- the goal that k_head leaves, from the law's promise -/
theorem walk {l : PySem.W.OpenLaw} {k : Nat} {q : Program} {loose : List Str} {XP : (Str → Option Value) → Heap → Prop} {YP : World → Heap → Prop} {d : DefRec} {K : Params → PySem.W.Frag}
    (hn : l.most = some 63) (hdf : d.params.defaults = []) (hr : Room k callerA)
    (hY : ∀ (w : World) (h : Heap), YP w h → (K w.params).In h)
    (F : ∀ (w : World) (mg : Str → Option Value) (fa : Addr) (h : Heap), (K w.params).In h → h.Ns mainGlobals mg → mg d.name = some (.ref fa) →
      ∃ fd : FuncData, (∀ (s : Shared) (u : Value), BindsTo s fd ⟨[u], []⟩ [("script", u)]) ∧ ∀ base : Heap, (K w.params).In base → base.Ns mainGlobals mg → FnOk l.prog w (K w.params) mg base (L2.CX l.prog w) k fa fd ["script"] (spLaw (K w.params))) :
    PySem.W.WalkO q loose XP YP l.row.toRowW d [] (fun f vs => PySem.call f vs) :=
  L2.walk_of (n := 63) (k := k) (x := "script") (CX := fun w => L2.CX l.prog w) (sp := fun w => spLaw (K w.params)) hn (by decide) hdf hr hY F (fun _ _ a ns hl _ hS => ⟨a, ns, rfl, hS, hl, fun _ => rfl⟩) fun _ _ _ _ _ h => by
    obtain ⟨_, _, _, _, _, _, _, _, _, _, _, _, h⟩ := h
    exact h
end Py
set_option maxHeartbeats 4000000
/-! The promises of the helpers that draw books, rows, texts; more of the combinators at known values. -/
namespace Py
open PySem PySem.Spec PyProof.Rows L2
abbrev Wd := List Nat
def tW (book : List Wd) : D := .tup (book.map .str)
def goodB (book : List Wd) : Prop := book.Pairwise (fun a b => ltS a b = true) ∧ book.length ≤ 30 ∧ (book.map List.length).sum ≤ 200
def mx (book : List Wd) : Nat := (book.map List.length).foldr max 0
theorem mx_le {book : List Wd} {w : Wd} (h : w ∈ book) : w.length ≤ mx book := by
  unfold mx
  induction book with
  | nil => cases h
  | cons a r ih =>
    simp only [List.map_cons, List.foldr_cons]
    rcases List.mem_cons.mp h with rfl | h
    · exact Nat.le_max_left _ _
    · exact Nat.le_trans (ih h) (Nat.le_max_right _ _)
theorem mx_of {book : List Wd} {n : Nat} (h : ∀ w ∈ book, w.length ≤ n) : mx book ≤ n := by
  unfold mx
  induction book with
  | nil => exact Nat.zero_le _
  | cons a r ih =>
    simp only [List.map_cons, List.foldr_cons]
    exact Nat.max_le.mpr ⟨h a List.mem_cons_self, ih fun w hw => h w (List.mem_cons_of_mem _ hw)⟩
theorem str_inj {a b : List Wd} (h : a.map D.str = b.map D.str) : a = b := by
  induction a generalizing b with
  | nil => cases b <;> simp at h ⊢
  | cons x r ih =>
    cases b with
    | nil => simp at h
    | cons y q =>
      simp only [List.map_cons, List.cons.injEq, D.str.injEq] at h
      rw [h.1, ih h.2]
theorem int_inj {a b : List Int} (h : a.map D.int = b.map D.int) : a = b := by
  induction a generalizing b with
  | nil => cases b <;> simp at h ⊢
  | cons x r ih =>
    cases b with
    | nil => simp at h
    | cons y q =>
      simp only [List.map_cons, List.cons.injEq, D.int.injEq] at h
      rw [h.1, ih h.2]
def φ_bookof : Fn := fun ds Q _ => ∃ ws : List Wd, ds = [.lst (ws.map .str)] ∧ ws.length ≤ 1000 ∧ ∀ book, goodB book → (∀ w ∈ book, w ∈ ws) → Q (tW book)
def φ_book : Fn := fun ds Q _ => ∃ ms many letters longest, ds = [.box ms, .int many, .str letters, .int longest] ∧ (okB ms ∧ 0 ≤ many ∧ many ≤ 100 ∧ 1 ≤ longest ∧ longest ≤ 100 ∧ letters ≠ []) ∧
  ∀ book, goodB book → (∀ w ∈ book, (1 ≤ w.length ∧ (w.length : Int) ≤ max longest 2) ∧ ∀ c ∈ w, c ∈ letters) → Q (tW book)
def φ_row : Fn := fun ds Q _ => ∃ (ms : List Int) (book : List Wd) (many : Int), ds = [.box ms, tW book, .int many] ∧ (okB ms ∧ 0 ≤ many ∧ many ≤ 1000) ∧
  ∀ row : List Wd, (∀ w ∈ row, w ∈ book) → row.length ≤ many.toNat → Q (tW row)
def φ_text : Fn := fun ds Q _ => ∃ row : List Wd, (ds = [tW row] ∨ ds = [.lst (row.map .str)]) ∧ row.flatten.length ≤ LIM ∧ Q (.str row.flatten)
def φ_near : Fn := fun ds Q _ => ∃ (ms : List Int) (book : List Wd) (letters : Wd) (many : Int), ds = [.box ms, tW book, .str letters, .int many] ∧ (okB ms ∧ 0 ≤ many ∧ many ≤ 100 ∧ letters ≠ [] ∧ mx book ≤ 1000) ∧
  ∀ s : Wd, s.length ≤ many.toNat * mx book + 1 → (∀ c ∈ s, c ∈ letters ∨ ∃ w ∈ book, c ∈ w) → Q (.str s)
def risingB (l : List Int) : Bool := (List.range (l.length - 1)).all fun k => decide (l.getD k 0 < l.getD (k + 1) 0)
def φ_rising : Fn := fun ds Q _ => ∃ l : List Int, ds = [.lst (l.map .int)] ∧ l.length ≤ 100000 ∧ Q (.bl (risingB l))
theorem bookof_mono : FnMono φ_bookof := fun ds Q Q' X X' hq _ ⟨ws, h1, h2, h⟩ => ⟨ws, h1, h2, fun b g1 g2 => hq _ (h b g1 g2)⟩
theorem book_mono : FnMono φ_book := fun ds Q Q' X X' hq _ ⟨a, b, c, d, h1, h2, h⟩ => ⟨a, b, c, d, h1, h2, fun b g1 g2 => hq _ (h b g1 g2)⟩
theorem row_mono : FnMono φ_row := fun ds Q Q' X X' hq _ ⟨a, b, c, h1, h2, h⟩ => ⟨a, b, c, h1, h2, fun b g1 g2 => hq _ (h b g1 g2)⟩
theorem text_mono : FnMono φ_text := fun ds Q Q' X X' hq _ ⟨a, h1, h2, h⟩ => ⟨a, h1, h2, hq _ h⟩
theorem near_mono : FnMono φ_near := fun ds Q Q' X X' hq _ ⟨a, b, c, d, h1, h2, h⟩ => ⟨a, b, c, d, h1, h2, fun b g1 g2 => hq _ (h b g1 g2)⟩
theorem rising_mono : FnMono φ_rising := fun ds Q Q' X X' hq _ ⟨a, h1, h2, h⟩ => ⟨a, h1, h2, hq _ h⟩
section
variable {Q : D → Prop} {i j : Int} {l m : List D} {d e : D} {p q : Prop}
theorem x_maxl {x : D} : dBlt "max" [.lst (x :: l)] Q = (D.allCmp (x :: l) = true ∧ Q (maxL x l)) := by kernel_rfl
theorem x_minl {x : D} : dBlt "min" [.lst (x :: l)] Q = (D.allCmp (x :: l) = true ∧ Q (minL x l)) := by kernel_rfl
theorem x_list : dBlt "list" [.lst l] Q = Q (.lst l) := by kernel_rfl
theorem x_listt : dBlt "list" [.tup l] Q = Q (.lst l) := by kernel_rfl
theorem x_int_ : tagD (.tup l) = "tuple" := rfl
theorem x_itup : isTy "tuple" (.tup l) = true := by kernel_rfl
theorem x_itupl : isTy "tuple" (.lst l) = false := by kernel_rfl
theorem x_itups {s : List Nat} : isTy "tuple" (.str s) = false := by kernel_rfl
theorem x_itupi : isTy "tuple" (.int i) = false := by kernel_rfl
theorem x_itupn : isTy "tuple" .non = false := by kernel_rfl
theorem x_itupb {b : Bool} : isTy "tuple" (.bl b) = false := by kernel_rfl
theorem x_istr {s : List Nat} : isTy "str" (.str s) = true := by kernel_rfl
theorem x_istrl : isTy "str" (.lst l) = false := by kernel_rfl
theorem x_istrt : isTy "str" (.tup l) = false := by kernel_rfl
theorem x_istri : isTy "str" (.int i) = false := by kernel_rfl
theorem x_istrb {b : Bool} : isTy "str" (.bl b) = false := by kernel_rfl
theorem x_istrn : isTy "str" .non = false := by kernel_rfl
theorem x_iint : isTy "int" (.int i) = true := by kernel_rfl
theorem x_iintb {b : Bool} : isTy "int" (.bl b) = true := by kernel_rfl
theorem x_iintl : isTy "int" (.lst l) = false := by kernel_rfl
theorem x_iintt : isTy "int" (.tup l) = false := by kernel_rfl
theorem x_iints {s : List Nat} : isTy "int" (.str s) = false := by kernel_rfl
theorem x_iintn : isTy "int" .non = false := by kernel_rfl
theorem x_ibool {b : Bool} : isTy "bool" (.bl b) = true := by kernel_rfl
theorem x_ibooli : isTy "bool" (.int i) = false := by kernel_rfl
theorem x_ibooll : isTy "bool" (.lst l) = false := by kernel_rfl
theorem x_iboolt : isTy "bool" (.tup l) = false := by kernel_rfl
theorem x_ibools {s : List Nat} : isTy "bool" (.str s) = false := by kernel_rfl
theorem x_ibooln : isTy "bool" .non = false := by kernel_rfl
theorem x_isn : dCmp .Is .non .non Q = Q (.bl true) := rfl
theorem x_isni : dCmp .Is (.int i) .non Q = Q (.bl false) := rfl
theorem x_isns {s : List Nat} : dCmp .Is (.str s) .non Q = Q (.bl false) := rfl
theorem x_isnt : dCmp .Is (.tup l) .non Q = Q (.bl false) := rfl
theorem x_notn : dCmp .IsNot .non .non Q = Q (.bl false) := rfl
theorem x_notni : dCmp .IsNot (.int i) .non Q = Q (.bl true) := rfl
theorem x_notns {s : List Nat} : dCmp .IsNot (.str s) .non Q = Q (.bl true) := rfl
theorem x_notnt : dCmp .IsNot (.tup l) .non Q = Q (.bl true) := rfl
theorem x_notnl : dCmp .IsNot (.lst l) .non Q = Q (.bl true) := rfl
theorem x_int1 : dCmp .In d (.tup l) Q = ((D.fits 50 d = true ∧ D.fits 50 (.tup l) = true) ∧ Q (.bl (inD d l))) := by cases d <;> rfl
theorem x_nint1 : dCmp .NotIn d (.tup l) Q = ((D.fits 50 d = true ∧ D.fits 50 (.tup l) = true) ∧ Q (.bl (!inD d l))) := by cases d <;> rfl
theorem x_ins {s t : List Nat} : dCmp .In (.str s) (.str t) Q = Q (.bl (subS s t)) := rfl
theorem x_nins {s t : List Nat} : dCmp .NotIn (.str s) (.str t) Q = Q (.bl (!subS s t)) := rfl
theorem x_purs {s : List Nat} : D.pur (.str s) = true := by simp [D.pur]
theorem x_puri : D.pur (.int i) = true := by simp [D.pur]
theorem x_purb {b : Bool} : D.pur (.bl b) = true := by simp [D.pur]
theorem x_purn : D.pur .non = true := by simp [D.pur]
theorem purs_all : ∀ {l : List D}, (∀ d ∈ l, D.pur d = true) → D.purs l = true
  | [], _ => by simp [D.purs]
  | d :: r, h => by simp only [D.purs, Bool.and_eq_true]; exact ⟨h d List.mem_cons_self, purs_all fun e he => h e (List.mem_cons_of_mem _ he)⟩
theorem pur_tup (h : ∀ d ∈ l, D.pur d = true) : D.pur (.tup l) = true := by simp only [D.pur]; exact purs_all h
theorem pur_tW {b : List Wd} : D.pur (tW b) = true := pur_tup fun d hd => by
  obtain ⟨w, _, rfl⟩ := List.mem_map.mp hd
  exact x_purs
end
theorem inD_strs (x : Wd) (l : List Wd) : inD (.str x) (l.map .str) = decide (x ∈ l) := by
  unfold inD
  rw [List.any_map, Bool.eq_iff_iff, List.any_eq_true, decide_eq_true_eq]
  constructor
  · rintro ⟨z, hz, h⟩
    simp only [Function.comp, x_eqs] at h
    exact (of_decide_eq_true h) ▸ hz
  · intro h
    exact ⟨x, h, by simp only [Function.comp, x_eqs]; simp⟩
/-- sorting words: sorted, the same words -/
theorem isortS_pw (l : List Wd) : (isort leS l).Pairwise fun a b => leS a b = true := isort_sorted leS_tot leS_tr l
theorem x_sortS {Q : D → Prop} {l : List Wd} : dBlt "sorted" [.lst (l.map .str)] Q = Q (.lst ((isort leS l).map .str)) := by
  have : ∀ m : List D, dBlt "sorted" [.lst m] Q = (match intsOf m with
      | some l => Q (.lst ((isort leI l).map .int))
      | none => (match strsOf m with
        | some l => Q (.lst ((isort leS l).map .str))
        | none => False)) := fun m => by kernel_rfl
  rw [this]
  cases l with
  | nil => rfl
  | cons a r =>
    have h1 : intsOf ((a :: r).map D.str) = none := rfl
    rw [h1]
    dsimp only
    rw [x_strs]
/-- a strictly rising row out of a row without doubles -/
theorem sorted_strict {l : List Wd} (hn : l.Nodup) : (isort leS l).Pairwise fun a b => ltS a b = true := by
  have h1 := isortS_pw l
  have h2 : (isort leS l).Nodup := (isort_perm leS l).nodup_iff.mpr hn
  refine (h1.and h2).imp ?_
  rintro x y ⟨h, ne⟩
  cases e : ltS x y with
  | true => rfl
  | false => exact absurd (leS_anti x y h (by unfold leS; rw [e]; rfl)) ne
/-- the first that passes -/
theorem filter_first {p : Nat → Bool} : ∀ (n a s : Nat), a ≤ s → s < a + n → p s = true → (∀ i, a ≤ i → i < s → p i = false) → ∃ r, (List.range' a n).filter p = s :: r
  | 0, a, s, h1, h2, _, _ => by omega
  | n + 1, a, s, h1, h2, hp, hn => by
    rw [List.range'_succ, List.filter_cons]
    by_cases e : a = s
    · subst e; rw [hp]; exact ⟨_, rfl⟩
    · rw [hn a (Nat.le_refl _) (by omega)]
      exact filter_first n (a + 1) s (by omega) (by omega) hp fun i hi1 hi2 => hn i (by omega) hi2
theorem rising_pw {l : List Nat} (h : l.Pairwise (· < ·)) : risingB (l.map fun x : Nat => (x : Int)) = true := by
  unfold risingB
  rw [List.all_eq_true]
  intro k hk
  have hk := List.mem_range.mp hk
  rw [List.length_map] at hk
  rw [List.getD_eq_getElem?_getD, List.getD_eq_getElem?_getD, List.getElem?_map, List.getElem?_map, List.getElem?_eq_getElem (by omega : k < l.length), List.getElem?_eq_getElem (by omega : k + 1 < l.length)]
  have := List.pairwise_iff_getElem.mp h k (k + 1) (by omega) (by omega) (by omega)
  exact decide_eq_true (by simpa using this)
/-- member by equality: one that stands there -/
theorem inD_mem {x : D} {l : List D} (h : x ∈ l) (hf : D.fits 50 x = true) : inD x l = true := by
  unfold inD
  rw [List.any_eq_true]
  exact ⟨x, h, eq_refl 50 x hf⟩
/-! ### max and min by a key -/
theorem maxL_key (f : D → Int) (P : D → Prop) (h : ∀ a y, P a → P y → (D.lt a y = true → f a ≤ f y) ∧ (D.lt a y = false → f y ≤ f a)) : ∀ (xs : List D) (x : D), P x → (∀ y ∈ xs, P y) → maxL x xs ∈ x :: xs ∧ ∀ y ∈ x :: xs, f y ≤ f (maxL x xs)
  | [], x, _, _ => ⟨List.mem_cons_self, fun y hy => by rw [List.mem_singleton.mp hy]; exact Int.le_refl _⟩
  | z :: xs, x, hx, hp => by
    have hz := hp z List.mem_cons_self
    have hr : ∀ y ∈ xs, P y := fun y hy => hp y (List.mem_cons_of_mem _ hy)
    have e : maxL x (z :: xs) = maxL (if D.lt x z = true then z else x) xs := rfl
    rw [e]
    cases hl : D.lt x z with
    | true =>
      rw [if_pos rfl]
      obtain ⟨i1, i2⟩ := maxL_key f P h xs z hz hr
      refine ⟨List.mem_cons_of_mem _ i1, fun y hy => ?_⟩
      rcases List.mem_cons.mp hy with rfl | hy
      · exact Int.le_trans ((h y z hx hz).1 hl) (i2 z List.mem_cons_self)
      · exact i2 y hy
    | false =>
      rw [if_neg Bool.false_ne_true]
      obtain ⟨i1, i2⟩ := maxL_key f P h xs x hx hr
      refine ⟨(List.mem_cons.mp i1).elim (fun z => by rw [z]; exact List.mem_cons_self) fun z => List.mem_cons_of_mem _ (List.mem_cons_of_mem _ z), fun y hy => ?_⟩
      rcases List.mem_cons.mp hy with rfl | hy
      · exact i2 y List.mem_cons_self
      · rcases List.mem_cons.mp hy with rfl | hy
        · exact Int.le_trans ((h x y hx hz).2 hl) (i2 x List.mem_cons_self)
        · exact i2 y (List.mem_cons_of_mem _ hy)
theorem minL_ints (a : Int) : ∀ l : List Int, minL (.int a) (l.map .int) = .int (l.foldl min a)
  | [] => rfl
  | b :: r => by
    have e : minL (.int a) ((b :: r).map .int) = minL (if D.lt (.int b) (.int a) = true then .int b else .int a) (r.map .int) := rfl
    rw [e]
    have e2 : (if D.lt (.int b) (.int a) = true then D.int b else .int a) = .int (min a b) := by
      have el : D.lt (.int b) (.int a) = decide (b < a) := by simp only [D.lt]
      by_cases h : b < a
      · rw [if_pos (el.trans (decide_eq_true h))]; congr 1; omega
      · rw [if_neg (by rw [el]; simpa using h)]; congr 1; omega
    rw [e2, minL_ints _ r, List.foldl_cons]
theorem allCmp_ints (l : List Int) : D.allCmp (l.map .int) = true := by
  unfold D.allCmp
  simp only [Bool.and_eq_true, List.all_eq_true, List.mem_map]
  refine ⟨⟨⟨?_, ?_⟩, ?_⟩, ?_⟩
  · rintro _ ⟨a, _, rfl⟩ _ ⟨b, _, rfl⟩; simp [D.alike]
  · rintro _ ⟨a, _, rfl⟩; rfl
  · rintro _ ⟨a, _, rfl⟩; exact x_fi
  · rintro _ ⟨a, _, rfl⟩; rfl
theorem flat_len (row : List Wd) (n : Nat) (h : ∀ w ∈ row, w.length ≤ n) : row.flatten.length ≤ row.length * n := by
  induction row with
  | nil => simp
  | cons a r ih =>
    have := h a List.mem_cons_self
    have := ih fun w hw => h w (List.mem_cons_of_mem _ hw)
    rw [List.flatten_cons, List.length_append, List.length_cons, Nat.succ_mul]
    omega
end Py
set_option maxHeartbeats 4000000
/-! k33: what the defs compute; the plain law. -/
namespace Py.K33
open PySem PySem.Spec PyProof.Rows L2
abbrev Rw := Nat × Wd
def prD (p : Rw) : D := .tup [.int p.1, .str p.2]
def fitsAt (t : Wd) (p : Nat) (w : Wd) : Bool := decide ((t.drop p).take w.length = w)
def rowsAt (book : List Wd) (t : Wd) (p : Nat) : List Rw := (book.filter (fitsAt t p)).map fun w => (p, w)
def SA (book : List Wd) (t : Wd) : List Rw := (List.range t.length).flatMap (rowsAt book t)
def cov (r : Rw) (e : Nat) : Prop := r.1 ≤ e ∧ e < r.1 + r.2.length
instance (r : Rw) (e : Nat) : Decidable (cov r e) := by unfold cov; infer_instance
/-- the greedy walk: its pairs, where it stands -/
inductive GR (rows : List Rw) : List Rw → Nat → Prop where
  | nil : GR rows [] 0
  | snoc {ps : List Rw} {e : Nat} (r : Rw) : GR rows ps e → r ∈ rows → cov r e → (∀ q ∈ rows, cov q e → q.1 + q.2.length ≤ r.1 + r.2.length) → GR rows (ps ++ [r]) (r.1 + r.2.length)
def sBare : List Nat := [98, 97, 114, 101]
def sCov : List Nat := [99, 111, 118, 101, 114, 101, 100]
def φ_stands : Fn := fun ds Q _ => ∃ (book : List Wd) (t : Wd), ds = [tW book, .str t] ∧ book.length ≤ 30 ∧ t.length ≤ 100 ∧ Q (.tup ((SA book t).map prD))
def φ_covered : Fn := fun ds Q _ => ∃ (book : List Wd) (t : Wd), ds = [tW book, .str t] ∧ book.length ≤ 30 ∧ t.length ≤ 100 ∧
  (∀ ps e, GR (SA book t) ps e → e < t.length → (∀ q ∈ SA book t, ¬ cov q e) → Q (.tup [.str sBare, .int e])) ∧ (∀ ps, GR (SA book t) ps t.length → Q (.tup [.str sCov, .tup (ps.map prD)]))
def oD : Option Nat → D
  | none => .non
  | some k => .int k
/-- the least of the numbers that are told -/
def minO : List (Option Nat) → Option Nat
  | [] => none
  | none :: r => minO r
  | some k :: r => match minO r with
    | none => some k
    | some m => some (min k m)
def fewStep (f : List (Option Nat)) (e : Nat) (acc : Option Nat) (r : Rw) : Option Nat :=
  if r.1 < e ∧ e ≤ r.1 + r.2.length then (match minO ((f.drop r.1).take (e - r.1)) with
    | none => acc
    | some m => match acc with
      | none => some (m + 1)
      | some a => if m + 1 < a then some (m + 1) else some a) else acc
def few (rows : List Rw) : Nat → List (Option Nat)
  | 0 => [some 0]
  | n + 1 => few rows n ++ [rows.foldl (fewStep (few rows n) (n + 1)) none]
def φ_fewest : Fn := fun ds Q _ => ∃ (rows : List Rw) (n : Nat), ds = [.lst (rows.map prD), .int n] ∧ n ≤ 100 ∧ (∀ r ∈ rows, r.1 ≤ 1000) ∧ Q (.lst ((few rows n).map oD))
theorem stands_mono : FnMono φ_stands := fun ds Q Q' X X' hq _ ⟨a, b, h1, h2, h3, h⟩ => ⟨a, b, h1, h2, h3, hq _ h⟩
theorem covered_mono : FnMono φ_covered := fun ds Q Q' X X' hq _ ⟨a, b, h1, h2, h3, h, g⟩ => ⟨a, b, h1, h2, h3, fun ps e g1 g2 g3 => hq _ (h ps e g1 g2 g3), fun ps g1 => hq _ (g ps g1)⟩
theorem fewest_mono : FnMono φ_fewest := fun ds Q Q' X X' hq _ ⟨a, b, h1, h2, h3, h⟩ => ⟨a, b, h1, h2, h3, hq _ h⟩
theorem few_len (rows : List Rw) : ∀ n, (few rows n).length = n + 1
  | 0 => rfl
  | n + 1 => by simp [few, few_len rows n]
theorem SA_mem {book : List Wd} {t : Wd} {r : Rw} (h : r ∈ SA book t) : r.1 < t.length ∧ r.2 ∈ book ∧ (t.drop r.1).take r.2.length = r.2 ∧ r.1 + r.2.length ≤ t.length := by
  unfold SA rowsAt at h
  rw [List.mem_flatMap] at h
  obtain ⟨p, hp, h⟩ := h
  obtain ⟨w, hw, rfl⟩ := List.mem_map.mp h
  rw [List.mem_filter] at hw
  have hp := List.mem_range.mp hp
  have h1 := of_decide_eq_true hw.2
  refine ⟨hp, hw.1, h1, ?_⟩
  have := congrArg List.length h1
  rw [List.length_take, List.length_drop] at this
  show p + w.length ≤ t.length
  omega
theorem SA_len (book : List Wd) (t : Wd) : ∀ n, ((List.range n).flatMap (rowsAt book t)).length ≤ n * book.length
  | 0 => by simp
  | n + 1 => by
    rw [List.range_succ, List.flatMap_append, List.length_append, Nat.succ_mul]
    have := SA_len book t n
    have h2 : (rowsAt book t n).length ≤ book.length := by unfold rowsAt; rw [List.length_map]; exact List.length_filter_le _ _
    rw [show List.flatMap (rowsAt book t) [n] = rowsAt book t n by simp]
    omega
theorem GR.pos {rows : List Rw} {ps : List Rw} {e : Nat} (h : GR rows ps e) : ps.length ≤ e := by
  induction h with
  | nil => exact Nat.le_refl _
  | snoc r _ _ hc _ ih =>
    rw [List.length_append, List.length_singleton]
    have := hc.2
    omega
end Py.K33
set_option maxHeartbeats 4000000
namespace Py.K33
open PySem PySem.Spec PyProof.Rows L2

def top (i : Nat) : Stmt := PySem.Challenge.pw_runonwords_k33_words_in_texts.main.body.getD i (.Pass ⟨0, 0, 0, 0⟩)
/-! ### stands_at -/
abbrev s_stands_at : Stmt := top 1
theorem sc_stands_at : FnScope ["book", "text", "found", "place", "word"] ["book", "text"] (defScope s_stands_at) := ⟨rfl, rfl, rfl, by decide +kernel, rfl, by decide +kernel, by decide +kernel⟩
def C_stands_at : Ctx := { N := ["book", "text", "found", "place", "word"], sc := defScope s_stands_at, ost := defScope s_stands_at, fns := [], con := [], blt := ["len", "range", "tuple"], muts := ["found"] }
def stands_at_L1 (x : D) (σ : Sls) (P : Pst) : Prop := bindT C_stands_at (forTg (((defBody s_stands_at).drop 1).headD pz)) x σ fun σ => evB (evS 23) C_stands_at (forBody (((defBody s_stands_at).drop 1).headD pz)) σ P
def stands_at_L2 (x : D) (σ : Sls) (P : Pst) : Prop := bindT C_stands_at (forTg ((forBody (((defBody s_stands_at).drop 1).headD pz)).headD pz)) x σ fun σ => evB (evS 22) C_stands_at (forBody ((forBody (((defBody s_stands_at).drop 1).headD pz)).headD pz)) σ P
def stands_at_R3 (σ : Sls) (P : Pst) : Prop := evB (evS 24) C_stands_at ((defBody s_stands_at).drop 2) σ P
def stands_at_B (σ : Sls) (P : Pst) : Prop := evB (evS 24) C_stands_at (defBody s_stands_at) σ P
theorem stands_at_L1_eq (x : D) (book_d : D) (text_d : D) (found_l : List D) (place_s : Sl) (word_s : Sl) (P : Pst) : stands_at_L1 x [.im book_d, .im text_d, .ow (.lst found_l), place_s, word_s] P = (
  itemsD book_d fun l8 => forL stands_at_L2 l8 [.im book_d, .im text_d, .ow (.lst found_l), .im x, word_s] (P)) := by kernel_rfl
theorem stands_at_L2_eq (x : D) (book_d : D) (text_d : D) (found_l : List D) (place_d : D) (word_s : Sl) (P : Pst) : stands_at_L2 x [.im book_d, .im text_d, .ow (.lst found_l), .im place_d, word_s] P = (
  asI place_d fun i1 => dBlt "len" [x] fun z2 => dBin .Add place_d z2 fun z3 => asI z3 fun i4 => dSl text_d (some i1) (some i4) fun z5 => dCmp .Eq z5 x fun z6 => asB z6 fun c7 => ite2 c7 (List.length found_l < LIM ∧ P.nx [.im book_d, .im text_d, .ow (.lst (found_l ++ [(.tup [place_d, x])])), .im place_d, .im x]) (P.nx [.im book_d, .im text_d, .ow (.lst found_l), .im place_d, .im x])) := by kernel_rfl
theorem stands_at_R3_eq (book_d : D) (text_d : D) (found_l : List D) (place_s : Sl) (word_s : Sl) (P : Pst) : stands_at_R3 [.im book_d, .im text_d, .ow (.lst found_l), place_s, word_s] P = (
  dBlt "tuple" [(.lst found_l)] fun z9 => P.rt z9) := by kernel_rfl
theorem stands_at_B_eq (book_d : D) (text_d : D) (P : Pst) : stands_at_B [.im book_d, .im text_d, .no, .no, .no] P = (
  dBlt "len" [text_d] fun z10 => rngW [z10] fun l11 => forL stands_at_L1 l11 [.im book_d, .im text_d, .ow (.lst []), .no, .no] ({ P with nx := fun σ => stands_at_R3 σ P })) := by kernel_rfl
theorem stands_at_ev (book_d : D) (text_d : D) (Q : D → Prop) (Z : Str → Prop) : evF 24 C_stands_at s_stands_at [book_d, text_d] Q Z = stands_at_B [.im book_d, .im text_d, .no, .no, .no] { nx := fun _ => Q .non, rt := Q, bk := fun _ => False, ct := fun _ => False, ex := Z } := by kernel_rfl
/-! ### covered -/
abbrev s_covered : Stmt := top 2
theorem sc_covered : FnScope ["book", "text", "rows", "end", "found", "best", "place", "word"] ["book", "text"] (defScope s_covered) := ⟨rfl, rfl, rfl, by decide +kernel, rfl, by decide +kernel, by decide +kernel⟩
def C_covered : Ctx := { N := ["book", "text", "rows", "end", "found", "best", "place", "word"], sc := defScope s_covered, ost := defScope s_covered, fns := [("stands_at", 2, φ_stands)], con := [], blt := ["len", "max", "tuple"], muts := ["found"] }
def covered_T1 (Z : Str → Prop) (σ : Sls) (Q : Bool → Prop) : Prop := (evs 23).T C_covered (whileT (((defBody s_covered).drop 3).headD pz)) σ Q Z
def covered_W1 (σ : Sls) (P : Pst) : Prop := evB (evS 23) C_covered (forBody (((defBody s_covered).drop 3).headD pz)) σ P
def covered_R2 (σ : Sls) (P : Pst) : Prop := evB (evS 24) C_covered ((defBody s_covered).drop 4) σ P
def covered_B (σ : Sls) (P : Pst) : Prop := evB (evS 24) C_covered (defBody s_covered) σ P
theorem covered_T1_eq (Z : Str → Prop) (book_d : D) (text_d : D) (rows_d : D) (end_d : D) (found_l : List D) (best_s : Sl) (place_s : Sl) (word_s : Sl) (Q : Bool → Prop) : covered_T1 Z [.im book_d, .im text_d, .im rows_d, .im end_d, .ow (.lst found_l), best_s, place_s, word_s] Q = (
  dBlt "len" [text_d] fun z2 => dCmp .Lt end_d z2 fun z3 => asB z3 fun c4 => Q c4) := by kernel_rfl
theorem covered_W1_eq (book_d : D) (text_d : D) (rows_d : D) (end_d : D) (found_l : List D) (best_s : Sl) (place_s : Sl) (word_s : Sl) (P : Pst) : covered_W1 [.im book_d, .im text_d, .im rows_d, .im end_d, .ow (.lst found_l), best_s, place_s, word_s] P = (
  itemsD rows_d fun l5 => compL (fun x6 k7 => asT2 x6 fun a9 a10 => dCmp .LtE a9 end_d fun z11 => asB z11 fun c12 => ite2 c12 (dBlt "len" [a10] fun z13 => dBin .Add a9 z13 fun z14 => dCmp .Lt end_d z14 fun z15 => asB z15 fun c16 => ite2 c16 (dBlt "len" [a10] fun z17 => dBin .Add a9 z17 fun z18 => k7 (some (.tup [z18, a9, a10]))) (k7 none)) (k7 none)) l5 [] fun l8 => getO (truD (.lst l8)) fun c19 => ite2 (!c19) (okS [98, 97, 114, 101] ∧ P.rt (.tup [(.str [98, 97, 114, 101]), end_d])) (dBlt "max" [(.lst l8)] fun z20 => asT3 z20 fun a21 a22 a23 => List.length found_l < LIM ∧ P.nx [.im book_d, .im text_d, .im rows_d, .im a21, .ow (.lst (found_l ++ [(.tup [a22, a23])])), .im (.lst l8), .im a22, .im a23])) := by kernel_rfl
theorem covered_R2_eq (book_d : D) (text_d : D) (rows_d : D) (end_d : D) (found_l : List D) (best_s : Sl) (place_s : Sl) (word_s : Sl) (P : Pst) : covered_R2 [.im book_d, .im text_d, .im rows_d, .im end_d, .ow (.lst found_l), best_s, place_s, word_s] P = (
  okS [99, 111, 118, 101, 114, 101, 100] ∧ dBlt "tuple" [(.lst found_l)] fun z24 => P.rt (.tup [(.str [99, 111, 118, 101, 114, 101, 100]), z24])) := by kernel_rfl
theorem covered_B_eq (book_d : D) (text_d : D) (P : Pst) : covered_B [.im book_d, .im text_d, .no, .no, .no, .no, .no, .no] P = (
  φ_stands [book_d, text_d] (fun z1 => whileL (covered_T1 P.ex) covered_W1 [.im book_d, .im text_d, .im z1, .im (.int 0), .ow (.lst []), .no, .no, .no] ({ P with nx := fun σ => covered_R2 σ P })) P.ex) := by kernel_rfl
theorem covered_ev (book_d : D) (text_d : D) (Q : D → Prop) (Z : Str → Prop) : evF 24 C_covered s_covered [book_d, text_d] Q Z = covered_B [.im book_d, .im text_d, .no, .no, .no, .no, .no, .no] { nx := fun _ => Q .non, rt := Q, bk := fun _ => False, ct := fun _ => False, ex := Z } := by kernel_rfl
/-! ### _law_digits -/
abbrev s_law_digits : Stmt := top 4
theorem sc_law_digits : FnScope ["cell", "count", "number", "row", "k", "mixed"] ["cell", "count"] (defScope s_law_digits) := ⟨rfl, rfl, rfl, by decide +kernel, rfl, by decide +kernel, by decide +kernel⟩
def C_law_digits : Ctx := { N := ["cell", "count", "number", "row", "k", "mixed"], sc := defScope s_law_digits, ost := defScope s_law_digits, fns := [], con := [], blt := ["int", "range"], muts := ["row"] }
def law_digits_R1 (σ : Sls) (P : Pst) : Prop := evB (evS 24) C_law_digits ((defBody s_law_digits).drop 2) σ P
def law_digits_L2 (x : D) (σ : Sls) (P : Pst) : Prop := bindT C_law_digits (forTg ((ifThen (((defBody s_law_digits).drop 3).headD pz)).headD pz)) x σ fun σ => evB (evS 22) C_law_digits (forBody ((ifThen (((defBody s_law_digits).drop 3).headD pz)).headD pz)) σ P
def law_digits_R3 (σ : Sls) (P : Pst) : Prop := evB (evS 23) C_law_digits ((ifThen (((defBody s_law_digits).drop 3).headD pz)).drop 1) σ P
def law_digits_R4 (σ : Sls) (P : Pst) : Prop := evB (evS 24) C_law_digits ((defBody s_law_digits).drop 4) σ P
def law_digits_L5 (x : D) (σ : Sls) (P : Pst) : Prop := bindT C_law_digits (forTg (((defBody s_law_digits).drop 4).headD pz)) x σ fun σ => evB (evS 23) C_law_digits (forBody (((defBody s_law_digits).drop 4).headD pz)) σ P
def law_digits_R6 (σ : Sls) (P : Pst) : Prop := evB (evS 24) C_law_digits ((defBody s_law_digits).drop 5) σ P
def law_digits_B (σ : Sls) (P : Pst) : Prop := evB (evS 24) C_law_digits (defBody s_law_digits) σ P
theorem law_digits_R1_eq (cell_d : D) (count_d : D) (number_d : D) (P : Pst) : law_digits_R1 [.im cell_d, .im count_d, .im number_d, .no, .no, .no] P = (
  dBin .Pow (.int 10) (.int 18) fun z1 => dCmp .GtE number_d z1 fun z2 => asB z2 fun c3 => ite2 c3 (rngW [count_d] fun l9 => forL law_digits_L2 l9 [.im cell_d, .im count_d, .im number_d, .ow (.lst []), .no, .no] ({ ({ P with nx := fun σ => law_digits_R4 σ P } : Pst) with nx := fun σ => law_digits_R3 σ ({ P with nx := fun σ => law_digits_R4 σ P }) })) (law_digits_R4 [.im cell_d, .im count_d, .im number_d, .ow (.lst []), .no, .no] P)) := by kernel_rfl
theorem law_digits_L2_eq (x : D) (cell_d : D) (count_d : D) (number_d : D) (row_l : List D) (k_s : Sl) (P : Pst) : law_digits_L2 x [.im cell_d, .im count_d, .im number_d, .ow (.lst row_l), k_s, .no] P = (
  dBlt "int" [number_d] fun z4 => dBin .Mod z4 (.int 1000003) fun z5 => List.length row_l < LIM ∧ dBin .FloorDiv number_d (.int 1000003) fun z6 => dCmp .Eq z6 (.int 0) fun z7 => asB z7 fun c8 => ite2 c8 (P.bk [.im cell_d, .im count_d, .im z6, .ow (.lst (row_l ++ [z5])), .im x, .no]) (P.nx [.im cell_d, .im count_d, .im z6, .ow (.lst (row_l ++ [z5])), .im x, .no])) := by kernel_rfl
theorem law_digits_R3_eq (cell_d : D) (count_d : D) (number_d : D) (row_l : List D) (k_s : Sl) (P : Pst) : law_digits_R3 [.im cell_d, .im count_d, .im number_d, .ow (.lst row_l), k_s, .no] P = (
  P.rt (.lst row_l)) := by kernel_rfl
theorem law_digits_R4_eq (cell_d : D) (count_d : D) (number_d : D) (row_l : List D) (P : Pst) : law_digits_R4 [.im cell_d, .im count_d, .im number_d, .ow (.lst row_l), .no, .no] P = (
  rngW [count_d] fun l25 => forL law_digits_L5 l25 [.im cell_d, .im count_d, .im number_d, .ow (.lst row_l), .no, .no] ({ P with nx := fun σ => law_digits_R6 σ P })) := by kernel_rfl
theorem law_digits_L5_eq (x : D) (cell_d : D) (count_d : D) (number_d : D) (row_l : List D) (k_s : Sl) (mixed_s : Sl) (P : Pst) : law_digits_L5 x [.im cell_d, .im count_d, .im number_d, .ow (.lst row_l), k_s, mixed_s] P = (
  dBin .Mult (.int 11) x fun z10 => dBin .Add number_d z10 fun z11 => dBin .Add z11 (.int 3) fun z12 => dBin .Mult z12 (.int 48271) fun z13 => dBlt "int" [z13] fun z14 => dBin .Mod z14 (.int 2147483647) fun z15 => dBin .Mult z15 (.int 69621) fun z16 => dBin .Mult (.int 37) x fun z17 => dBin .Add z16 z17 fun z18 => dBin .Add z18 (.int 5) fun z19 => dBlt "int" [z19] fun z20 => dBin .Mod z20 (.int 2147483629) fun z21 => dBin .FloorDiv z21 (.int 5) fun z22 => dBlt "int" [z22] fun z23 => dBin .Mod z23 (.int 1000003) fun z24 => List.length row_l < LIM ∧ P.nx [.im cell_d, .im count_d, .im number_d, .ow (.lst (row_l ++ [z24])), .im x, .im z21]) := by kernel_rfl
theorem law_digits_R6_eq (cell_d : D) (count_d : D) (number_d : D) (row_l : List D) (k_s : Sl) (mixed_s : Sl) (P : Pst) : law_digits_R6 [.im cell_d, .im count_d, .im number_d, .ow (.lst row_l), k_s, mixed_s] P = (
  P.rt (.lst row_l)) := by kernel_rfl
theorem law_digits_B_eq (cell_d : D) (count_d : D) (P : Pst) : law_digits_B [.im cell_d, .im count_d, .no, .no, .no, .no] P = (
  dCmp .Lt cell_d (.int 0) fun z26 => asB z26 fun c27 => ite2 c27 (dBin .Sub (.int 0) (.int 1) fun z28 => dBin .Sub z28 cell_d fun z29 => law_digits_R1 [.im cell_d, .im count_d, .im z29, .no, .no, .no] P) (law_digits_R1 [.im cell_d, .im count_d, .im cell_d, .no, .no, .no] P)) := by kernel_rfl
theorem law_digits_ev (cell_d : D) (count_d : D) (Q : D → Prop) (Z : Str → Prop) : evF 24 C_law_digits s_law_digits [cell_d, count_d] Q Z = law_digits_B [.im cell_d, .im count_d, .no, .no, .no, .no] { nx := fun _ => Q .non, rt := Q, bk := fun _ => False, ct := fun _ => False, ex := Z } := by kernel_rfl
/-! ### _law_box -/
abbrev s_law_box : Stmt := top 5
theorem sc_law_box : FnScope ["script", "row", "cell"] ["script"] (defScope s_law_box) := ⟨rfl, rfl, rfl, by decide +kernel, rfl, by decide +kernel, by decide +kernel⟩
/-! ### _law_take -/
abbrev s_law_take : Stmt := top 6
theorem sc_law_take : FnScope ["box", "many", "at", "number"] ["box", "many"] (defScope s_law_take) := ⟨rfl, rfl, rfl, by decide +kernel, rfl, by decide +kernel, by decide +kernel⟩
def C_law_take : Ctx := { N := ["box", "many", "at", "number"], sc := defScope s_law_take, ost := defScope s_law_take, fns := [], con := [], blt := ["int", "len"], muts := ["box"] }
def law_take_B (σ : Sls) (P : Pst) : Prop := evB (evS 24) C_law_take (defBody s_law_take) σ P
theorem law_take_B_eq (ms : List Int) (many_d : D) (P : Pst) : law_take_B [.im (.box ms), .im many_d, .no, .no] P = (
  okS [97, 116] ∧ dIx (.box ms) (.str [97, 116]) fun z1 => dBin .Add z1 (.int 1) fun z2 => okS [97, 116] ∧ boxPut (.str [97, 116]) z2 (okS [114, 111, 119] ∧ dIx (.box ms) (.str [114, 111, 119]) fun z3 => dBlt "int" [z1] fun z4 => okS [114, 111, 119] ∧ dIx (.box ms) (.str [114, 111, 119]) fun z5 => dBlt "len" [z5] fun z6 => dBin .Mod z4 z6 fun z7 => dIx z3 z7 fun z8 => okS [114, 111, 119] ∧ dIx (.box ms) (.str [114, 111, 119]) fun z9 => dBlt "len" [z9] fun z10 => dBin .FloorDiv z1 z10 fun z11 => dBin .Mult (.int 104729) z11 fun z12 => dBin .Add z8 z12 fun z13 => dBlt "int" [z13] fun z14 => dBin .Mod z14 many_d fun z15 => P.rt z15)) := by kernel_rfl
theorem law_take_ev (ms : List Int) (many_d : D) (Q : D → Prop) (Z : Str → Prop) : evF 24 C_law_take s_law_take [(.box ms), many_d] Q Z = law_take_B [.im (.box ms), .im many_d, .no, .no] { nx := fun _ => Q .non, rt := Q, bk := fun _ => False, ct := fun _ => False, ex := Z } := by kernel_rfl
/-! ### _law_pick -/
abbrev s_law_pick : Stmt := top 7
theorem sc_law_pick : FnScope ["box", "row"] ["box", "row"] (defScope s_law_pick) := ⟨rfl, rfl, rfl, by decide +kernel, rfl, by decide +kernel, by decide +kernel⟩
def C_law_pick : Ctx := { N := ["box", "row"], sc := defScope s_law_pick, ost := defScope s_law_pick, fns := [("_law_take", 2, φ_take)], con := [], blt := ["len"], muts := [] }
def law_pick_B (σ : Sls) (P : Pst) : Prop := evB (evS 24) C_law_pick (defBody s_law_pick) σ P
theorem law_pick_B_eq (ms : List Int) (row_d : D) (P : Pst) : law_pick_B [.im (.box ms), .im row_d] P = (
  dBlt "len" [row_d] fun z1 => φ_take [(.box ms), z1] (fun z2 => dIx row_d z2 fun z3 => P.rt z3) P.ex) := by kernel_rfl
theorem law_pick_ev (ms : List Int) (row_d : D) (Q : D → Prop) (Z : Str → Prop) : evF 24 C_law_pick s_law_pick [(.box ms), row_d] Q Z = law_pick_B [.im (.box ms), .im row_d] { nx := fun _ => Q .non, rt := Q, bk := fun _ => False, ct := fun _ => False, ex := Z } := by kernel_rfl
/-! ### _law_some -/
abbrev s_law_some : Stmt := top 8
theorem sc_law_some : FnScope ["box", "letters", "size", "k"] ["box", "letters", "size"] (defScope s_law_some) := ⟨rfl, rfl, rfl, by decide +kernel, rfl, by decide +kernel, by decide +kernel⟩
def C_law_some : Ctx := { N := ["box", "letters", "size", "k"], sc := defScope s_law_some, ost := defScope s_law_some, fns := [("_law_take", 2, φ_take)], con := [], blt := ["len", "range"], muts := [] }
def law_some_B (σ : Sls) (P : Pst) : Prop := evB (evS 24) C_law_some (defBody s_law_some) σ P
theorem law_some_B_eq (ms : List Int) (letters_d : D) (size_d : D) (P : Pst) : law_some_B [.im (.box ms), .im letters_d, .im size_d, .no] P = (
  rngW [size_d] fun l1 => compL (fun x2 k3 => dBlt "len" [letters_d] fun z5 => φ_take [(.box ms), z5] (fun z6 => dIx letters_d z6 fun z7 => k3 (some z7)) noX) l1 [] fun l4 => seqD (.lst l4) fun l8 => getO (strsOf l8) fun ss9 => (okS [] ∧ (joinD [] ss9).length ≤ LIM) ∧ P.rt (.str (joinD [] ss9))) := by kernel_rfl
theorem law_some_ev (ms : List Int) (letters_d : D) (size_d : D) (Q : D → Prop) (Z : Str → Prop) : evF 24 C_law_some s_law_some [(.box ms), letters_d, size_d] Q Z = law_some_B [.im (.box ms), .im letters_d, .im size_d, .no] { nx := fun _ => Q .non, rt := Q, bk := fun _ => False, ct := fun _ => False, ex := Z } := by kernel_rfl
/-! ### _law_book_of -/
abbrev s_law_book_of : Stmt := top 9
theorem sc_law_book_of : FnScope ["words", "found", "total", "word"] ["words"] (defScope s_law_book_of) := ⟨rfl, rfl, rfl, by decide +kernel, rfl, by decide +kernel, by decide +kernel⟩
def C_law_book_of : Ctx := { N := ["words", "found", "total", "word"], sc := defScope s_law_book_of, ost := defScope s_law_book_of, fns := [], con := [], blt := ["len", "sorted", "tuple"], muts := ["found"] }
def law_book_of_L1 (x : D) (σ : Sls) (P : Pst) : Prop := bindT C_law_book_of (forTg (((defBody s_law_book_of).drop 2).headD pz)) x σ fun σ => evB (evS 23) C_law_book_of (forBody (((defBody s_law_book_of).drop 2).headD pz)) σ P
def law_book_of_R2 (σ : Sls) (P : Pst) : Prop := evB (evS 24) C_law_book_of ((defBody s_law_book_of).drop 3) σ P
def law_book_of_B (σ : Sls) (P : Pst) : Prop := evB (evS 24) C_law_book_of (defBody s_law_book_of) σ P
theorem law_book_of_L1_eq (x : D) (words_d : D) (found_l : List D) (total_d : D) (word_s : Sl) (P : Pst) : law_book_of_L1 x [.im words_d, .ow (.lst found_l), .im total_d, word_s] P = (
  dCmp .NotIn x (.lst found_l) fun z1 => asB z1 fun c2 => ite2 c2 (dBlt "len" [(.lst found_l)] fun z3 => dCmp .Lt z3 (.int 30) fun z4 => asB z4 fun c5 => ite2 c5 (dBlt "len" [x] fun z6 => dBin .Add total_d z6 fun z7 => dCmp .LtE z7 (.int 200) fun z8 => asB z8 fun c9 => ite2 c9 (List.length found_l < LIM ∧ dBlt "len" [x] fun z10 => dBin .Add total_d z10 fun z11 => P.nx [.im words_d, .ow (.lst (found_l ++ [x])), .im z11, .im x]) (P.nx [.im words_d, .ow (.lst found_l), .im total_d, .im x])) (P.nx [.im words_d, .ow (.lst found_l), .im total_d, .im x])) (P.nx [.im words_d, .ow (.lst found_l), .im total_d, .im x])) := by kernel_rfl
theorem law_book_of_R2_eq (words_d : D) (found_l : List D) (total_d : D) (word_s : Sl) (P : Pst) : law_book_of_R2 [.im words_d, .ow (.lst found_l), .im total_d, word_s] P = (
  dBlt "sorted" [(.lst found_l)] fun z12 => dBlt "tuple" [z12] fun z13 => P.rt z13) := by kernel_rfl
theorem law_book_of_B_eq (words_d : D) (P : Pst) : law_book_of_B [.im words_d, .no, .no, .no] P = (
  itemsD words_d fun l14 => forL law_book_of_L1 l14 [.im words_d, .ow (.lst []), .im (.int 0), .no] ({ P with nx := fun σ => law_book_of_R2 σ P })) := by kernel_rfl
theorem law_book_of_ev (words_d : D) (Q : D → Prop) (Z : Str → Prop) : evF 24 C_law_book_of s_law_book_of [words_d] Q Z = law_book_of_B [.im words_d, .no, .no, .no] { nx := fun _ => Q .non, rt := Q, bk := fun _ => False, ct := fun _ => False, ex := Z } := by kernel_rfl
/-! ### _law_book -/
abbrev s_law_book : Stmt := top 10
theorem sc_law_book : FnScope ["box", "many", "letters", "longest", "words", "k", "kind", "word"] ["box", "many", "letters", "longest"] (defScope s_law_book) := ⟨rfl, rfl, rfl, by decide +kernel, rfl, by decide +kernel, by decide +kernel⟩
def C_law_book : Ctx := { N := ["box", "many", "letters", "longest", "words", "k", "kind", "word"], sc := defScope s_law_book, ost := defScope s_law_book, fns := [("_law_take", 2, φ_take), ("_law_pick", 2, φ_pick), ("_law_some", 3, φ_some), ("_law_book_of", 1, φ_bookof)], con := [], blt := ["len", "max", "range"], muts := ["words"] }
def law_book_L1 (x : D) (σ : Sls) (P : Pst) : Prop := bindT C_law_book (forTg (((defBody s_law_book).drop 1).headD pz)) x σ fun σ => evB (evS 23) C_law_book (forBody (((defBody s_law_book).drop 1).headD pz)) σ P
def law_book_R2 (σ : Sls) (P : Pst) : Prop := evB (evS 23) C_law_book ((forBody (((defBody s_law_book).drop 1).headD pz)).drop 3) σ P
def law_book_R3 (σ : Sls) (P : Pst) : Prop := evB (evS 23) C_law_book ((forBody (((defBody s_law_book).drop 1).headD pz)).drop 4) σ P
def law_book_R4 (σ : Sls) (P : Pst) : Prop := evB (evS 23) C_law_book ((forBody (((defBody s_law_book).drop 1).headD pz)).drop 5) σ P
def law_book_R5 (σ : Sls) (P : Pst) : Prop := evB (evS 24) C_law_book ((defBody s_law_book).drop 2) σ P
def law_book_B (σ : Sls) (P : Pst) : Prop := evB (evS 24) C_law_book (defBody s_law_book) σ P
theorem law_book_L1_eq (x : D) (ms : List Int) (many_d : D) (letters_d : D) (longest_d : D) (words_l : List D) (k_s : Sl) (kind_s : Sl) (word_s : Sl) (P : Pst) : law_book_L1 x [.im (.box ms), .im many_d, .im letters_d, .im longest_d, .ow (.lst words_l), k_s, kind_s, word_s] P = (
  φ_take [(.box ms), (.int 6)] (fun z1 => φ_take [(.box ms), longest_d] (fun z2 => dBin .Add (.int 1) z2 fun z3 => φ_some [(.box ms), letters_d, z3] (fun z4 => dBlt "len" [(.lst words_l)] fun z23 => dCmp .Gt z23 (.int 0) fun z24 => asB z24 fun c25 => ite2 c25 (dCmp .Eq z1 (.int 0) fun z26 => asB z26 fun c27 => ite2 c27 (φ_pick [(.box ms), (.lst words_l)] (fun z28 => D.pur z28 = true ∧ dBin .Add z28 z4 fun z29 => law_book_R2 [.im (.box ms), .im many_d, .im letters_d, .im longest_d, .ow (.lst words_l), .im x, .im z1, .im z29] P) P.ex) (law_book_R2 [.im (.box ms), .im many_d, .im letters_d, .im longest_d, .ow (.lst words_l), .im x, .im z1, .im z4] P)) (law_book_R2 [.im (.box ms), .im many_d, .im letters_d, .im longest_d, .ow (.lst words_l), .im x, .im z1, .im z4] P)) P.ex) P.ex) P.ex) := by kernel_rfl
theorem law_book_R2_eq (ms : List Int) (many_d : D) (letters_d : D) (longest_d : D) (words_l : List D) (k_d : D) (kind_d : D) (word_d : D) (P : Pst) : law_book_R2 [.im (.box ms), .im many_d, .im letters_d, .im longest_d, .ow (.lst words_l), .im k_d, .im kind_d, .im word_d] P = (
  dBlt "len" [(.lst words_l)] fun z16 => dCmp .Gt z16 (.int 0) fun z17 => asB z17 fun c18 => ite2 c18 (dCmp .Eq kind_d (.int 1) fun z19 => asB z19 fun c20 => ite2 c20 (φ_pick [(.box ms), (.lst words_l)] (fun z21 => D.pur z21 = true ∧ dBin .Add word_d z21 fun z22 => law_book_R3 [.im (.box ms), .im many_d, .im letters_d, .im longest_d, .ow (.lst words_l), .im k_d, .im kind_d, .im z22] P) P.ex) (law_book_R3 [.im (.box ms), .im many_d, .im letters_d, .im longest_d, .ow (.lst words_l), .im k_d, .im kind_d, .im word_d] P)) (law_book_R3 [.im (.box ms), .im many_d, .im letters_d, .im longest_d, .ow (.lst words_l), .im k_d, .im kind_d, .im word_d] P)) := by kernel_rfl
theorem law_book_R3_eq (ms : List Int) (many_d : D) (letters_d : D) (longest_d : D) (words_l : List D) (k_d : D) (kind_d : D) (word_d : D) (P : Pst) : law_book_R3 [.im (.box ms), .im many_d, .im letters_d, .im longest_d, .ow (.lst words_l), .im k_d, .im kind_d, .im word_d] P = (
  dBlt "len" [(.lst words_l)] fun z8 => dCmp .Gt z8 (.int 1) fun z9 => asB z9 fun c10 => ite2 c10 (dCmp .Eq kind_d (.int 2) fun z11 => asB z11 fun c12 => ite2 c12 (φ_pick [(.box ms), (.lst words_l)] (fun z13 => D.pur z13 = true ∧ φ_pick [(.box ms), (.lst words_l)] (fun z14 => D.pur z14 = true ∧ dBin .Add z13 z14 fun z15 => law_book_R4 [.im (.box ms), .im many_d, .im letters_d, .im longest_d, .ow (.lst words_l), .im k_d, .im kind_d, .im z15] P) P.ex) P.ex) (law_book_R4 [.im (.box ms), .im many_d, .im letters_d, .im longest_d, .ow (.lst words_l), .im k_d, .im kind_d, .im word_d] P)) (law_book_R4 [.im (.box ms), .im many_d, .im letters_d, .im longest_d, .ow (.lst words_l), .im k_d, .im kind_d, .im word_d] P)) := by kernel_rfl
theorem law_book_R4_eq (ms : List Int) (many_d : D) (letters_d : D) (longest_d : D) (words_l : List D) (k_d : D) (kind_d : D) (word_d : D) (P : Pst) : law_book_R4 [.im (.box ms), .im many_d, .im letters_d, .im longest_d, .ow (.lst words_l), .im k_d, .im kind_d, .im word_d] P = (
  dBlt "max" [longest_d, (.int 2)] fun z5 => asI z5 fun i6 => dSl word_d none (some i6) fun z7 => List.length words_l < LIM ∧ P.nx [.im (.box ms), .im many_d, .im letters_d, .im longest_d, .ow (.lst (words_l ++ [z7])), .im k_d, .im kind_d, .im word_d]) := by kernel_rfl
theorem law_book_R5_eq (ms : List Int) (many_d : D) (letters_d : D) (longest_d : D) (words_l : List D) (k_s : Sl) (kind_s : Sl) (word_s : Sl) (P : Pst) : law_book_R5 [.im (.box ms), .im many_d, .im letters_d, .im longest_d, .ow (.lst words_l), k_s, kind_s, word_s] P = (
  φ_bookof [(.lst words_l)] (fun z30 => D.pur z30 = true ∧ P.rt z30) P.ex) := by kernel_rfl
theorem law_book_B_eq (ms : List Int) (many_d : D) (letters_d : D) (longest_d : D) (P : Pst) : law_book_B [.im (.box ms), .im many_d, .im letters_d, .im longest_d, .no, .no, .no, .no] P = (
  rngW [many_d] fun l31 => forL law_book_L1 l31 [.im (.box ms), .im many_d, .im letters_d, .im longest_d, .ow (.lst []), .no, .no, .no] ({ P with nx := fun σ => law_book_R5 σ P })) := by kernel_rfl
theorem law_book_ev (ms : List Int) (many_d : D) (letters_d : D) (longest_d : D) (Q : D → Prop) (Z : Str → Prop) : evF 24 C_law_book s_law_book [(.box ms), many_d, letters_d, longest_d] Q Z = law_book_B [.im (.box ms), .im many_d, .im letters_d, .im longest_d, .no, .no, .no, .no] { nx := fun _ => Q .non, rt := Q, bk := fun _ => False, ct := fun _ => False, ex := Z } := by kernel_rfl
/-! ### _law_row -/
abbrev s_law_row : Stmt := top 11
theorem sc_law_row : FnScope ["box", "book", "many", "k"] ["box", "book", "many"] (defScope s_law_row) := ⟨rfl, rfl, rfl, by decide +kernel, rfl, by decide +kernel, by decide +kernel⟩
def C_law_row : Ctx := { N := ["box", "book", "many", "k"], sc := defScope s_law_row, ost := defScope s_law_row, fns := [("_law_pick", 2, φ_pick)], con := [], blt := ["len", "range", "tuple"], muts := [] }
def law_row_B (σ : Sls) (P : Pst) : Prop := evB (evS 24) C_law_row (defBody s_law_row) σ P
theorem law_row_B_eq (ms : List Int) (book_d : D) (many_d : D) (P : Pst) : law_row_B [.im (.box ms), .im book_d, .im many_d, .no] P = (
  rngW [many_d] fun l1 => compL (fun x2 k3 => dBlt "len" [book_d] fun z5 => dCmp .Gt z5 (.int 0) fun z6 => asB z6 fun c7 => ite2 c7 (φ_pick [(.box ms), book_d] (fun z8 => k3 (some z8)) noX) (k3 none)) l1 [] fun l4 => dBlt "tuple" [(.lst l4)] fun z9 => P.rt z9) := by kernel_rfl
theorem law_row_ev (ms : List Int) (book_d : D) (many_d : D) (Q : D → Prop) (Z : Str → Prop) : evF 24 C_law_row s_law_row [(.box ms), book_d, many_d] Q Z = law_row_B [.im (.box ms), .im book_d, .im many_d, .no] { nx := fun _ => Q .non, rt := Q, bk := fun _ => False, ct := fun _ => False, ex := Z } := by kernel_rfl
/-! ### _law_text -/
abbrev s_law_text : Stmt := top 12
theorem sc_law_text : FnScope ["row"] ["row"] (defScope s_law_text) := ⟨rfl, rfl, rfl, by decide +kernel, rfl, by decide +kernel, by decide +kernel⟩
def C_law_text : Ctx := { N := ["row"], sc := defScope s_law_text, ost := defScope s_law_text, fns := [], con := [], blt := [], muts := [] }
def law_text_B (σ : Sls) (P : Pst) : Prop := evB (evS 24) C_law_text (defBody s_law_text) σ P
theorem law_text_B_eq (row_d : D) (P : Pst) : law_text_B [.im row_d] P = (
  seqD row_d fun l1 => getO (strsOf l1) fun ss2 => (okS [] ∧ (joinD [] ss2).length ≤ LIM) ∧ P.rt (.str (joinD [] ss2))) := by kernel_rfl
theorem law_text_ev (row_d : D) (Q : D → Prop) (Z : Str → Prop) : evF 24 C_law_text s_law_text [row_d] Q Z = law_text_B [.im row_d] { nx := fun _ => Q .non, rt := Q, bk := fun _ => False, ct := fun _ => False, ex := Z } := by kernel_rfl
/-! ### _law_near_text -/
abbrev s_law_near_text : Stmt := top 13
theorem sc_law_near_text : FnScope ["box", "book", "letters", "many", "text", "kind", "at"] ["box", "book", "letters", "many"] (defScope s_law_near_text) := ⟨rfl, rfl, rfl, by decide +kernel, rfl, by decide +kernel, by decide +kernel⟩
def C_law_near_text : Ctx := { N := ["box", "book", "letters", "many", "text", "kind", "at"], sc := defScope s_law_near_text, ost := defScope s_law_near_text, fns := [("_law_take", 2, φ_take), ("_law_some", 3, φ_some), ("_law_row", 3, φ_row), ("_law_text", 1, φ_text)], con := [], blt := ["len"], muts := [] }
def law_near_text_R1 (σ : Sls) (P : Pst) : Prop := evB (evS 24) C_law_near_text ((defBody s_law_near_text).drop 4) σ P
def law_near_text_R2 (σ : Sls) (P : Pst) : Prop := evB (evS 24) C_law_near_text ((defBody s_law_near_text).drop 5) σ P
def law_near_text_R3 (σ : Sls) (P : Pst) : Prop := evB (evS 24) C_law_near_text ((defBody s_law_near_text).drop 6) σ P
def law_near_text_B (σ : Sls) (P : Pst) : Prop := evB (evS 24) C_law_near_text (defBody s_law_near_text) σ P
theorem law_near_text_R1_eq (ms : List Int) (book_d : D) (letters_d : D) (many_d : D) (text_d : D) (kind_d : D) (at_d : D) (P : Pst) : law_near_text_R1 [.im (.box ms), .im book_d, .im letters_d, .im many_d, .im text_d, .im kind_d, .im at_d] P = (
  dCmp .Eq kind_d (.int 2) fun z18 => asB z18 fun c19 => ite2 c19 (asI at_d fun i20 => dSl text_d none (some i20) fun z21 => dBin .Add at_d (.int 1) fun z22 => asI z22 fun i23 => dSl text_d (some i23) none fun z24 => dBin .Add z21 z24 fun z25 => law_near_text_R2 [.im (.box ms), .im book_d, .im letters_d, .im many_d, .im z25, .im kind_d, .im at_d] P) (law_near_text_R2 [.im (.box ms), .im book_d, .im letters_d, .im many_d, .im text_d, .im kind_d, .im at_d] P)) := by kernel_rfl
theorem law_near_text_R2_eq (ms : List Int) (book_d : D) (letters_d : D) (many_d : D) (text_d : D) (kind_d : D) (at_d : D) (P : Pst) : law_near_text_R2 [.im (.box ms), .im book_d, .im letters_d, .im many_d, .im text_d, .im kind_d, .im at_d] P = (
  dCmp .Eq kind_d (.int 3) fun z9 => asB z9 fun c10 => ite2 c10 (asI at_d fun i11 => dSl text_d none (some i11) fun z12 => φ_some [(.box ms), letters_d, (.int 1)] (fun z13 => dBin .Add z12 z13 fun z14 => asI at_d fun i15 => dSl text_d (some i15) none fun z16 => dBin .Add z14 z16 fun z17 => law_near_text_R3 [.im (.box ms), .im book_d, .im letters_d, .im many_d, .im z17, .im kind_d, .im at_d] P) P.ex) (law_near_text_R3 [.im (.box ms), .im book_d, .im letters_d, .im many_d, .im text_d, .im kind_d, .im at_d] P)) := by kernel_rfl
theorem law_near_text_R3_eq (ms : List Int) (book_d : D) (letters_d : D) (many_d : D) (text_d : D) (kind_d : D) (at_d : D) (P : Pst) : law_near_text_R3 [.im (.box ms), .im book_d, .im letters_d, .im many_d, .im text_d, .im kind_d, .im at_d] P = (
  P.rt text_d) := by kernel_rfl
theorem law_near_text_B_eq (ms : List Int) (book_d : D) (letters_d : D) (many_d : D) (P : Pst) : law_near_text_B [.im (.box ms), .im book_d, .im letters_d, .im many_d, .no, .no, .no] P = (
  dBin .Add many_d (.int 1) fun z1 => φ_take [(.box ms), z1] (fun z2 => φ_row [(.box ms), book_d, z2] (fun z3 => φ_text [z3] (fun z4 => φ_take [(.box ms), (.int 5)] (fun z5 => dBlt "len" [z4] fun z6 => dBin .Add z6 (.int 1) fun z7 => φ_take [(.box ms), z7] (fun z8 => dCmp .Eq z5 (.int 1) fun z26 => asB z26 fun c27 => ite2 c27 (asI z8 fun i28 => dSl z4 none (some i28) fun z29 => φ_some [(.box ms), letters_d, (.int 1)] (fun z30 => dBin .Add z29 z30 fun z31 => dBin .Add z8 (.int 1) fun z32 => asI z32 fun i33 => dSl z4 (some i33) none fun z34 => dBin .Add z31 z34 fun z35 => law_near_text_R1 [.im (.box ms), .im book_d, .im letters_d, .im many_d, .im z35, .im z5, .im z8] P) P.ex) (law_near_text_R1 [.im (.box ms), .im book_d, .im letters_d, .im many_d, .im z4, .im z5, .im z8] P)) P.ex) P.ex) P.ex) P.ex) P.ex) := by kernel_rfl
theorem law_near_text_ev (ms : List Int) (book_d : D) (letters_d : D) (many_d : D) (Q : D → Prop) (Z : Str → Prop) : evF 24 C_law_near_text s_law_near_text [(.box ms), book_d, letters_d, many_d] Q Z = law_near_text_B [.im (.box ms), .im book_d, .im letters_d, .im many_d, .no, .no, .no] { nx := fun _ => Q .non, rt := Q, bk := fun _ => False, ct := fun _ => False, ex := Z } := by kernel_rfl
/-! ### _law_rising -/
abbrev s_law_rising : Stmt := top 14
theorem sc_law_rising : FnScope ["row", "k"] ["row"] (defScope s_law_rising) := ⟨rfl, rfl, rfl, by decide +kernel, rfl, by decide +kernel, by decide +kernel⟩
def C_law_rising : Ctx := { N := ["row", "k"], sc := defScope s_law_rising, ost := defScope s_law_rising, fns := [], con := [], blt := ["all", "len", "range"], muts := [] }
def law_rising_B (σ : Sls) (P : Pst) : Prop := evB (evS 24) C_law_rising (defBody s_law_rising) σ P
theorem law_rising_B_eq (row_d : D) (P : Pst) : law_rising_B [.im row_d, .no] P = (
  dBlt "len" [row_d] fun z1 => dBin .Sub z1 (.int 1) fun z2 => rngW [z2] fun l3 => compL (fun x4 k5 => dIx row_d x4 fun z7 => dBin .Add x4 (.int 1) fun z8 => dIx row_d z8 fun z9 => dCmp .Lt z7 z9 fun z10 => k5 (some z10)) l3 [] fun l6 => dBlt "all" [(.lst l6)] fun z11 => P.rt z11) := by kernel_rfl
theorem law_rising_ev (row_d : D) (Q : D → Prop) (Z : Str → Prop) : evF 24 C_law_rising s_law_rising [row_d] Q Z = law_rising_B [.im row_d, .no] { nx := fun _ => Q .non, rt := Q, bk := fun _ => False, ct := fun _ => False, ex := Z } := by kernel_rfl
/-! ### _law_fewest -/
abbrev s_law_fewest : Stmt := top 15
theorem sc_law_fewest : FnScope ["rows", "size", "found", "place", "end", "word", "ways", "at"] ["rows", "size"] (defScope s_law_fewest) := ⟨rfl, rfl, rfl, by decide +kernel, rfl, by decide +kernel, by decide +kernel⟩
def C_law_fewest : Ctx := { N := ["rows", "size", "found", "place", "end", "word", "ways", "at"], sc := defScope s_law_fewest, ost := defScope s_law_fewest, fns := [], con := [], blt := ["len", "min", "range"], muts := ["found"] }
def law_fewest_R1 (σ : Sls) (P : Pst) : Prop := evB (evS 24) C_law_fewest ((defBody s_law_fewest).drop 1) σ P
def law_fewest_L2 (x : D) (σ : Sls) (P : Pst) : Prop := bindT C_law_fewest (forTg (((defBody s_law_fewest).drop 1).headD pz)) x σ fun σ => evB (evS 23) C_law_fewest (forBody (((defBody s_law_fewest).drop 1).headD pz)) σ P
def law_fewest_L3 (x : D) (σ : Sls) (P : Pst) : Prop := bindT C_law_fewest (forTg ((forBody (((defBody s_law_fewest).drop 1).headD pz)).headD pz)) x σ fun σ => evB (evS 22) C_law_fewest (forBody ((forBody (((defBody s_law_fewest).drop 1).headD pz)).headD pz)) σ P
def law_fewest_R4 (σ : Sls) (P : Pst) : Prop := evB (evS 21) C_law_fewest (ifThen ((forBody ((forBody (((defBody s_law_fewest).drop 1).headD pz)).headD pz)).headD pz)) σ P
def law_fewest_R5 (σ : Sls) (P : Pst) : Prop := evB (evS 24) C_law_fewest ((defBody s_law_fewest).drop 2) σ P
def law_fewest_B (σ : Sls) (P : Pst) : Prop := evB (evS 24) C_law_fewest (defBody s_law_fewest) σ P
theorem law_fewest_R1_eq (rows_d : D) (size_d : D) (found_l : List D) (P : Pst) : law_fewest_R1 [.im rows_d, .im size_d, .ow (.lst found_l), .no, .no, .no, .no, .no] P = (
  dBin .Add size_d (.int 1) fun z42 => rngW [(.int 1), z42] fun l43 => forL law_fewest_L2 l43 [.im rows_d, .im size_d, .ow (.lst found_l), .no, .no, .no, .no, .no] ({ P with nx := fun σ => law_fewest_R5 σ P })) := by kernel_rfl
theorem law_fewest_L2_eq (x : D) (rows_d : D) (size_d : D) (found_l : List D) (place_s : Sl) (end_s : Sl) (word_s : Sl) (ways_s : Sl) (P : Pst) : law_fewest_L2 x [.im rows_d, .im size_d, .ow (.lst found_l), place_s, end_s, word_s, ways_s, .no] P = (
  itemsD rows_d fun l41 => forL law_fewest_L3 l41 [.im rows_d, .im size_d, .ow (.lst found_l), place_s, .im x, word_s, ways_s, .no] (P)) := by kernel_rfl
theorem law_fewest_L3_eq (x : D) (rows_d : D) (size_d : D) (found_l : List D) (place_s : Sl) (end_d : D) (word_s : Sl) (ways_s : Sl) (P : Pst) : law_fewest_L3 x [.im rows_d, .im size_d, .ow (.lst found_l), place_s, .im end_d, word_s, ways_s, .no] P = (
  asT2 x fun a6 a7 => dCmp .Lt a6 end_d fun z35 => asB z35 fun c36 => ite2 c36 (dBlt "len" [a7] fun z37 => dBin .Add a6 z37 fun z38 => dCmp .LtE end_d z38 fun z39 => asB z39 fun c40 => ite2 c40 (law_fewest_R4 [.im rows_d, .im size_d, .ow (.lst found_l), .im a6, .im end_d, .im a7, ways_s, .no] P) (P.nx [.im rows_d, .im size_d, .ow (.lst found_l), .im a6, .im end_d, .im a7, ways_s, .no])) (P.nx [.im rows_d, .im size_d, .ow (.lst found_l), .im a6, .im end_d, .im a7, ways_s, .no])) := by kernel_rfl
theorem law_fewest_R4_eq (rows_d : D) (size_d : D) (found_l : List D) (place_d : D) (end_d : D) (word_d : D) (ways_s : Sl) (P : Pst) : law_fewest_R4 [.im rows_d, .im size_d, .ow (.lst found_l), .im place_d, .im end_d, .im word_d, ways_s, .no] P = (
  rngW [place_d, end_d] fun l8 => compL (fun x9 k10 => dIx (.lst found_l) x9 fun z12 => dCmp .IsNot z12 .non fun z13 => asB z13 fun c14 => ite2 c14 (dIx (.lst found_l) x9 fun z15 => k10 (some z15)) (k10 none)) l8 [] fun l11 => dBlt "len" [(.lst l11)] fun z16 => dCmp .Gt z16 (.int 0) fun z17 => asB z17 fun c18 => ite2 c18 (dIx (.lst found_l) end_d fun z19 => dCmp .Is z19 .non fun z20 => asB z20 fun c21 => ite2 c21 (dBlt "min" [(.lst l11)] fun z22 => dBin .Add z22 (.int 1) fun z23 => asI end_d fun j24 => getO (ixN (List.length found_l) j24) fun p25 => P.nx [.im rows_d, .im size_d, .ow (.lst (List.set found_l p25 z23)), .im place_d, .im end_d, .im word_d, .im (.lst l11), .no]) (dBlt "min" [(.lst l11)] fun z26 => dBin .Add z26 (.int 1) fun z27 => dIx (.lst found_l) end_d fun z28 => dCmp .Lt z27 z28 fun z29 => asB z29 fun c30 => ite2 c30 (dBlt "min" [(.lst l11)] fun z31 => dBin .Add z31 (.int 1) fun z32 => asI end_d fun j33 => getO (ixN (List.length found_l) j33) fun p34 => P.nx [.im rows_d, .im size_d, .ow (.lst (List.set found_l p34 z32)), .im place_d, .im end_d, .im word_d, .im (.lst l11), .no]) (P.nx [.im rows_d, .im size_d, .ow (.lst found_l), .im place_d, .im end_d, .im word_d, .im (.lst l11), .no]))) (P.nx [.im rows_d, .im size_d, .ow (.lst found_l), .im place_d, .im end_d, .im word_d, .im (.lst l11), .no])) := by kernel_rfl
theorem law_fewest_R5_eq (rows_d : D) (size_d : D) (found_l : List D) (place_s : Sl) (end_s : Sl) (word_s : Sl) (ways_s : Sl) (P : Pst) : law_fewest_R5 [.im rows_d, .im size_d, .ow (.lst found_l), place_s, end_s, word_s, ways_s, .no] P = (
  P.rt (.lst found_l)) := by kernel_rfl
theorem law_fewest_B_eq (rows_d : D) (size_d : D) (P : Pst) : law_fewest_B [.im rows_d, .im size_d, .no, .no, .no, .no, .no, .no] P = (
  rngW [size_d] fun l1 => compL (fun x2 k3 => k3 (some .non)) l1 [] fun l4 => dBin .Add (.lst [(.int 0)]) (.lst l4) fun z5 => law_fewest_R1 [.im rows_d, .im size_d, (newSl z5), .no, .no, .no, .no, .no] P) := by kernel_rfl
theorem law_fewest_ev (rows_d : D) (size_d : D) (Q : D → Prop) (Z : Str → Prop) : evF 24 C_law_fewest s_law_fewest [rows_d, size_d] Q Z = law_fewest_B [.im rows_d, .im size_d, .no, .no, .no, .no, .no, .no] { nx := fun _ => Q .non, rt := Q, bk := fun _ => False, ct := fun _ => False, ex := Z } := by kernel_rfl
/-! ### law -/
abbrev s_law : Stmt := top 16
theorem sc_law : FnScope ["script", "box", "book", "k", "text", "rows", "place", "word", "few", "bare", "at", "told", "pair"] ["script"] (defScope s_law) := ⟨rfl, rfl, rfl, by decide +kernel, rfl, by decide +kernel, by decide +kernel⟩
def C_law : Ctx := { N := ["script", "box", "book", "k", "text", "rows", "place", "word", "few", "bare", "at", "told", "pair"], sc := defScope s_law, ost := defScope s_law, fns := [("_law_take", 2, φ_take), ("_law_some", 3, φ_some), ("_law_book", 4, φ_book), ("_law_near_text", 4, φ_near), ("_law_rising", 1, φ_rising), ("_law_fewest", 2, φ_fewest), ("stands_at", 2, φ_stands), ("covered", 2, φ_covered)], con := [], blt := ["all", "any", "isinstance", "len", "range", "tuple"], muts := [] }
def law_L1 (x : D) (σ : Sls) (P : Pst) : Prop := bindT C_law (forTg (((defBody s_law).drop 2).headD pz)) x σ fun σ => evB (evS 23) C_law (forBody (((defBody s_law).drop 2).headD pz)) σ P
def law_R2 (σ : Sls) (P : Pst) : Prop := evB (evS 23) C_law ((forBody (((defBody s_law).drop 2).headD pz)).drop 2) σ P
def law_L3 (x : D) (σ : Sls) (P : Pst) : Prop := bindT C_law (forTg (((forBody (((defBody s_law).drop 2).headD pz)).drop 3).headD pz)) x σ fun σ => evB (evS 22) C_law (forBody (((forBody (((defBody s_law).drop 2).headD pz)).drop 3).headD pz)) σ P
def law_R4 (σ : Sls) (P : Pst) : Prop := evB (evS 23) C_law ((forBody (((defBody s_law).drop 2).headD pz)).drop 4) σ P
def law_R5 (σ : Sls) (P : Pst) : Prop := evB (evS 23) C_law ((forBody (((defBody s_law).drop 2).headD pz)).drop 10) σ P
def law_R6 (σ : Sls) (P : Pst) : Prop := evB (evS 23) C_law ((forBody (((defBody s_law).drop 2).headD pz)).drop 11) σ P
def law_R7 (σ : Sls) (P : Pst) : Prop := evB (evS 24) C_law ((defBody s_law).drop 3) σ P
def law_B (σ : Sls) (P : Pst) : Prop := evB (evS 24) C_law ((defBody s_law).drop 1) σ P
theorem law_L1_eq (x : D) (ms : List Int) (book_d : D) (k_s : Sl) (text_s : Sl) (rows_s : Sl) (place_s : Sl) (few_s : Sl) (bare_s : Sl) (told_s : Sl) (P : Pst) : law_L1 x [.no, .im (.box ms), .im book_d, k_s, text_s, rows_s, place_s, .no, few_s, bare_s, .no, told_s, .no] P = (
  okS [97, 98] ∧ φ_take [(.box ms), (.int 15)] (fun z3 => φ_some [(.box ms), (.str [97, 98]), z3] (fun z4 => φ_take [(.box ms), (.int 2)] (fun z103 => dCmp .Eq z103 (.int 0) fun z104 => asB z104 fun c105 => ite2 c105 (okS [97, 98] ∧ φ_near [(.box ms), book_d, (.str [97, 98]), (.int 5)] (fun z106 => asI (.int 16) fun i107 => dSl z106 none (some i107) fun z108 => law_R2 [.no, .im (.box ms), .im book_d, .im x, .im z108, rows_s, place_s, .no, few_s, bare_s, .no, told_s, .no] P) P.ex) (law_R2 [.no, .im (.box ms), .im book_d, .im x, .im z4, rows_s, place_s, .no, few_s, bare_s, .no, told_s, .no] P)) P.ex) P.ex) P.ex) := by kernel_rfl
theorem law_R2_eq (ms : List Int) (book_d : D) (k_d : D) (text_d : D) (rows_s : Sl) (place_s : Sl) (few_s : Sl) (bare_s : Sl) (told_s : Sl) (P : Pst) : law_R2 [.no, .im (.box ms), .im book_d, .im k_d, .im text_d, rows_s, place_s, .no, few_s, bare_s, .no, told_s, .no] P = (
  dBlt "len" [text_d] fun z101 => rngW [z101] fun l102 => forL law_L3 l102 [.no, .im (.box ms), .im book_d, .im k_d, .im text_d, .im (.lst []), place_s, .no, few_s, bare_s, .no, told_s, .no] ({ P with nx := fun σ => law_R4 σ P })) := by kernel_rfl
theorem law_L3_eq (x : D) (ms : List Int) (book_d : D) (k_d : D) (text_d : D) (rows_d : D) (place_s : Sl) (few_s : Sl) (bare_s : Sl) (told_s : Sl) (P : Pst) : law_L3 x [.no, .im (.box ms), .im book_d, .im k_d, .im text_d, .im rows_d, place_s, .no, few_s, bare_s, .no, told_s, .no] P = (
  itemsD book_d fun l5 => compL (fun x6 k7 => asI x fun i9 => dBlt "len" [x6] fun z10 => dBin .Add x z10 fun z11 => asI z11 fun i12 => dSl text_d (some i9) (some i12) fun z13 => dCmp .Eq z13 x6 fun z14 => asB z14 fun c15 => ite2 c15 (k7 (some (.tup [x, x6]))) (k7 none)) l5 [] fun l8 => dBin .Add rows_d (.lst l8) fun z16 => P.nx [.no, .im (.box ms), .im book_d, .im k_d, .im text_d, .im z16, .im x, .no, few_s, bare_s, .no, told_s, .no]) := by kernel_rfl
theorem law_R4_eq (ms : List Int) (book_d : D) (k_d : D) (text_d : D) (rows_d : D) (place_s : Sl) (few_s : Sl) (bare_s : Sl) (told_s : Sl) (P : Pst) : law_R4 [.no, .im (.box ms), .im book_d, .im k_d, .im text_d, .im rows_d, place_s, .no, few_s, bare_s, .no, told_s, .no] P = (
  φ_stands [book_d, text_d] (fun z17 => dBlt "tuple" [rows_d] fun z18 => dCmp .NotEq z17 z18 fun z19 => asB z19 fun c20 => ite2 c20 (P.rt (.bl false)) (dBlt "len" [text_d] fun z21 => φ_fewest [rows_d, z21] (fun z22 => dBlt "len" [text_d] fun z23 => rngW [z23] fun l24 => compL (fun x25 k26 => itemsD rows_d fun l28 => compL (fun x29 k30 => asT2 x29 fun a32 a33 => dCmp .LtE a32 x25 fun z34 => asB z34 fun c35 => ite2 c35 (dBlt "len" [a33] fun z36 => dBin .Add a32 z36 fun z37 => dCmp .Lt x25 z37 fun z38 => k30 (some z38)) (k30 (some (.bl false)))) l28 [] fun l31 => dBlt "any" [(.lst l31)] fun z39 => getO (truD z39) fun c40 => ite2 (!c40) (k26 (some x25)) (k26 none)) l24 [] fun l27 => φ_covered [book_d, text_d] (fun z41 => dBlt "len" [(.lst l27)] fun z42 => dCmp .Gt z42 (.int 0) fun z43 => asB z43 fun c44 => ite2 c44 (okS [98, 97, 114, 101] ∧ dIx (.lst l27) (.int 0) fun z45 => dCmp .NotEq z41 (.tup [(.str [98, 97, 114, 101]), z45]) fun z46 => asB z46 fun c47 => ite2 c47 (P.rt (.bl false)) (P.ct [.no, .im (.box ms), .im book_d, .im k_d, .im text_d, .im rows_d, place_s, .no, .im z22, .im (.lst l27), .no, .im z41, .no])) (getO (truD (.bl (isTy "tuple" z41))) fun c86 => ite2 (!c86) (P.rt (.bl false)) (dBlt "len" [z41] fun z87 => dCmp .NotEq z87 (.int 2) fun z88 => asB z88 fun c89 => ite2 c89 (P.rt (.bl false)) (dIx z41 (.int 0) fun z90 => okS [99, 111, 118, 101, 114, 101, 100] ∧ dCmp .NotEq z90 (.str [99, 111, 118, 101, 114, 101, 100]) fun z91 => asB z91 fun c92 => ite2 c92 (P.rt (.bl false)) (dIx z41 (.int 1) fun z93 => itemsD z93 fun l94 => compL (fun x95 k96 => dCmp .In x95 rows_d fun z98 => k96 (some z98)) l94 [] fun l97 => dBlt "all" [(.lst l97)] fun z99 => getO (truD z99) fun c100 => ite2 (!c100) (P.rt (.bl false)) (law_R5 [.no, .im (.box ms), .im book_d, .im k_d, .im text_d, .im rows_d, place_s, .no, .im z22, .im (.lst l27), .no, .im z41, .no] P)))))) P.ex) P.ex)) P.ex) := by kernel_rfl
theorem law_R5_eq (ms : List Int) (book_d : D) (k_d : D) (text_d : D) (rows_d : D) (place_s : Sl) (few_d : D) (bare_d : D) (told_d : D) (P : Pst) : law_R5 [.no, .im (.box ms), .im book_d, .im k_d, .im text_d, .im rows_d, place_s, .no, .im few_d, .im bare_d, .no, .im told_d, .no] P = (
  dIx told_d (.int 1) fun z69 => dBlt "len" [z69] fun z70 => dBlt "len" [text_d] fun z71 => dIx few_d z71 fun z72 => dCmp .NotEq z70 z72 fun z73 => asB z73 fun c74 => ite2 c74 (P.rt (.bl false)) (dIx told_d (.int 1) fun z75 => itemsD z75 fun l76 => compL (fun x77 k78 => asT2 x77 fun a80 a81 => dBlt "len" [a81] fun z82 => dBin .Add a80 z82 fun z83 => k78 (some z83)) l76 [] fun l79 => φ_rising [(.lst l79)] (fun z84 => getO (truD z84) fun c85 => ite2 (!c85) (P.rt (.bl false)) (law_R6 [.no, .im (.box ms), .im book_d, .im k_d, .im text_d, .im rows_d, place_s, .no, .im few_d, .im bare_d, .no, .im told_d, .no] P)) P.ex)) := by kernel_rfl
theorem law_R6_eq (ms : List Int) (book_d : D) (k_d : D) (text_d : D) (rows_d : D) (place_s : Sl) (few_d : D) (bare_d : D) (told_d : D) (P : Pst) : law_R6 [.no, .im (.box ms), .im book_d, .im k_d, .im text_d, .im rows_d, place_s, .no, .im few_d, .im bare_d, .no, .im told_d, .no] P = (
  dBlt "len" [text_d] fun z48 => rngW [z48] fun l49 => compL (fun x50 k51 => dIx told_d (.int 1) fun z53 => itemsD z53 fun l54 => compL (fun x55 k56 => asT2 x55 fun a58 a59 => dCmp .LtE a58 x50 fun z60 => asB z60 fun c61 => ite2 c61 (dBlt "len" [a59] fun z62 => dBin .Add a58 z62 fun z63 => dCmp .Lt x50 z63 fun z64 => k56 (some z64)) (k56 (some (.bl false)))) l54 [] fun l57 => dBlt "any" [(.lst l57)] fun z65 => asB z65 fun c66 => k51 (some (.bl (!c66)))) l49 [] fun l52 => dBlt "any" [(.lst l52)] fun z67 => getO (truD z67) fun c68 => ite2 c68 (P.rt (.bl false)) (P.nx [.no, .im (.box ms), .im book_d, .im k_d, .im text_d, .im rows_d, place_s, .no, .im few_d, .im bare_d, .no, .im told_d, .no])) := by kernel_rfl
theorem law_R7_eq (ms : List Int) (book_d : D) (k_s : Sl) (text_s : Sl) (rows_s : Sl) (place_s : Sl) (few_s : Sl) (bare_s : Sl) (told_s : Sl) (P : Pst) : law_R7 [.no, .im (.box ms), .im book_d, k_s, text_s, rows_s, place_s, .no, few_s, bare_s, .no, told_s, .no] P = (
  okS [] ∧ φ_covered [book_d, (.str [])] (fun z109 => okS [99, 111, 118, 101, 114, 101, 100] ∧ dCmp .Eq z109 (.tup [(.str [99, 111, 118, 101, 114, 101, 100]), (.tup [])]) fun z110 => P.rt z110) P.ex) := by kernel_rfl
theorem law_B_eq (ms : List Int) (P : Pst) : law_B [.no, .im (.box ms), .no, .no, .no, .no, .no, .no, .no, .no, .no, .no, .no] P = (
  φ_take [(.box ms), (.int 8)] (fun z1 => okS [97, 98] ∧ φ_book [(.box ms), z1, (.str [97, 98]), (.int 4)] (fun z2 => rngW [(.int 4)] fun l111 => forL law_L1 l111 [.no, .im (.box ms), .im z2, .no, .no, .no, .no, .no, .no, .no, .no, .no, .no] ({ P with nx := fun σ => law_R7 σ P })) P.ex) P.ex) := by kernel_rfl
end Py.K33
set_option maxHeartbeats 4000000
namespace Py.K33
open PySem PySem.Spec PyProof.Rows L2
/-! ### the law's own helpers -/
theorem h_digits : ∀ ds Q Z, ds.length = 2 → φ_digits ds Q Z → evF 24 C_law_digits s_law_digits ds Q Z := by
  intro ds Q Z hl h
  obtain ⟨a, b, rfl⟩ := len2 hl
  unfold φ_digits at h
  split at h
  · rename_i c n e
    obtain ⟨rfl, h⟩ := h
    cases e
    rw [law_digits_ev, law_digits_B_eq]
    have key : ∀ num : Int, law_digits_R1 [.im (.int c), .im (.int 6), .im (.int num), .no, .no, .no] { nx := fun _ => Q .non, rt := Q, bk := fun _ => False, ct := fun _ => False, ex := Z } := by
      intro num
      rw [law_digits_R1_eq, x_pow, x_ge, x_asB, x_ite, x_rng1]
      refine ⟨⟨by decide, by decide, by decide⟩, fun _ => ⟨⟨by decide, by decide⟩, ?_⟩, fun _ => ?_⟩
      · refine forL_rng (fun i σ => i ≤ 6 ∧ ∃ (m : Int) (l : List Int) (s : Sl), l.length = i ∧ σ = [.im (.int c), .im (.int 6), .im (.int m), .ow (.lst (l.map .int)), s, .no]) ⟨by omega, num, [], .no, rfl, rfl⟩ (fun i σ N hi hI hN => ?_) (fun σ hI => ?_)
        · obtain ⟨_, m, l, s, hl, rfl⟩ := hI
          simp only [law_digits_L2_eq, x_int, x_mod, x_div, x_eq, x_eqi, x_asB, x_ite, x_fi, List.length_map]
          have next : l.length + 1 ≤ 6 := by have : (6 : Int).toNat = 6 := rfl; omega
          refine ⟨by decide, by have : LIM = 1000000 := rfl; omega, ⟨by decide, by decide⟩, ⟨trivial, trivial⟩, fun _ => ?_, fun _ => ?_⟩
          · rw [show l.map D.int ++ [D.int (m % 1000003)] = (l ++ [m % 1000003]).map D.int by simp, law_digits_R3_eq]
            exact h _ (by simp; omega)
          · exact hN _ ⟨by omega, m / 1000003, l ++ [m % 1000003], .im (.int (0 + i)), by simp [hl], by simp⟩
        · obtain ⟨_, m, l, s, hl, rfl⟩ := hI
          dsimp only
          rw [law_digits_R3_eq]
          exact h _ (by have : (6 : Int).toNat = 6 := rfl; omega)
      · rw [show ([] : List D) = ([] : List Int).map .int from rfl, law_digits_R4_eq, x_rng1]
        refine ⟨⟨by decide, by decide⟩, ?_⟩
        refine forL_rng (fun i σ => ∃ (l : List Int) (s s2 : Sl), l.length = i ∧ σ = [.im (.int c), .im (.int 6), .im (.int num), .ow (.lst (l.map .int)), s, s2]) ⟨[], .no, .no, rfl, rfl⟩ (fun i σ N hi hI hN => ?_) (fun σ hI => ?_)
        · obtain ⟨l, s, s2, hl, rfl⟩ := hI
          have h6 : (6 : Int).toNat = 6 := rfl
          simp only [law_digits_L5_eq, x_int, x_mod, x_div, x_mul, x_add, List.length_map]
          refine ⟨cm_l (by decide) (by decide), cm_r (by decide) (by decide), by decide, cm_r (by decide) (by decide), cm_l (by decide) (by decide), by decide, ⟨by decide, by decide⟩, by decide, by have : LIM = 1000000 := rfl; omega, ?_⟩
          exact hN _ ⟨l ++ [_], _, _, by simp [hl], by rw [List.map_append]; rfl⟩
        · obtain ⟨l, s, s2, hl, rfl⟩ := hI
          dsimp only
          rw [law_digits_R6_eq]
          exact h _ (by have : (6 : Int).toNat = 6 := rfl; omega)
    simp only [x_lt, x_asB, x_ite, x_sub]
    exact ⟨fun _ => key _, fun _ => key _⟩
  · exact h.elim
theorem h_take : ∀ ds Q Z, ds.length = 2 → φ_take ds Q Z → evF 24 C_law_take s_law_take ds Q Z := by
  intro ds Q Z hl h
  obtain ⟨a, b, rfl⟩ := len2 hl
  unfold φ_take at h
  split at h
  · rename_i ms n e
    cases e
    obtain ⟨⟨⟨b1, b2⟩, h0⟩, h⟩ := h
    rw [law_take_ev, law_take_B_eq]
    have hpos : 0 < ms.length := List.length_pos_iff.mpr b1
    have oat : okS [97, 116] := ⟨by decide, by decide⟩
    have orow : okS [114, 111, 119] := ⟨by decide, by decide⟩
    have hL : LIM = 1000000 := rfl
    simp only [x_at, x_row, x_put, x_add, x_int, x_mod, x_div, x_mul, x_lenl, x_ixl, List.length_map, oat, orow, true_and]
    intro k hk
    refine ⟨by omega, by omega, ?_⟩
    have h1 : 0 ≤ k % (ms.length : Int) := Int.emod_nonneg _ (by omega)
    have h2 : k % (ms.length : Int) < ms.length := Int.emod_lt_of_pos _ (by omega)
    rw [at_some h1 (by rw [List.length_map]; exact h2), x_getO, List.getElem_map]
    refine ⟨⟨by omega, by omega⟩, cm_l (by decide) (by decide), h0, ?_⟩
    exact h _ (Int.emod_nonneg _ (by omega)) (Int.emod_lt_of_pos _ h0)
  · exact h.elim
theorem h_pick : ∀ ds Q Z, ds.length = 2 → φ_pick ds Q Z → evF 24 C_law_pick s_law_pick ds Q Z := by
  intro ds Q Z hl h
  obtain ⟨a, b, rfl⟩ := len2 hl
  unfold φ_pick at h
  split at h
  · rename_i ms l e
    cases e
    obtain ⟨⟨hb, hl⟩, h⟩ := h
    rw [law_pick_ev, law_pick_B_eq, x_lenl]
    have hpos : 0 < l.length := List.length_pos_iff.mpr hl
    refine ⟨⟨hb, by omega⟩, fun v h1 h2 => ?_⟩
    dsimp only
    rw [x_ixl, at_some h1 h2, x_getO]
    exact h _ (List.getElem_mem _)
  · rename_i ms l e
    cases e
    obtain ⟨⟨hb, hl⟩, h⟩ := h
    rw [law_pick_ev, law_pick_B_eq, x_lent]
    have hpos : 0 < l.length := List.length_pos_iff.mpr hl
    refine ⟨⟨hb, by omega⟩, fun v h1 h2 => ?_⟩
    dsimp only
    rw [x_ixt, at_some h1 h2, x_getO]
    exact h _ (List.getElem_mem _)
  · rename_i ms l e
    cases e
    obtain ⟨⟨hb, hl⟩, h⟩ := h
    rw [law_pick_ev, law_pick_B_eq, x_lens]
    have hpos : 0 < l.length := List.length_pos_iff.mpr hl
    refine ⟨⟨hb, by omega⟩, fun v h1 h2 => ?_⟩
    dsimp only
    rw [x_ixs, at_some h1 h2, x_getO]
    exact h _ (List.getElem_mem _)
  · exact h.elim
--SOME
theorem h_some : ∀ ds Q Z, ds.length = 3 → φ_some ds Q Z → evF 24 C_law_some s_law_some ds Q Z := by
  intro ds Q Z hl h
  obtain ⟨a, b, c, rfl⟩ := len3 hl
  unfold φ_some at h
  split at h
  · rename_i ms l n e
    cases e
    obtain ⟨⟨hb, hl, h0, h1⟩, h⟩ := h
    rw [law_some_ev, law_some_B_eq, x_rng1]
    have hpos : 0 < l.length := List.length_pos_iff.mpr hl
    refine ⟨⟨h1, h0⟩, ?_⟩
    refine compL_all (fun d => ∃ c ∈ l, d = .str [c]) (fun x hx K hK => ?_) (fun r hr hall => ?_)
    · rw [x_lens]
      refine ⟨⟨hb, by omega⟩, fun v v1 v2 => ?_⟩
      dsimp only
      rw [x_ixs, at_some v1 v2, x_getO]
      exact hK _ ⟨_, List.getElem_mem _, rfl⟩
    · rw [x_sql]
      obtain ⟨s, rfl, hs⟩ : ∃ s : List Nat, r = s.map (fun c => .str [c]) ∧ ∀ c ∈ s, c ∈ l := by
        clear h hr
        induction r with
        | nil => exact ⟨[], rfl, fun _ z => nomatch z⟩
        | cons x r ih =>
          obtain ⟨s, rfl, hs⟩ := ih fun d hd => hall d (List.mem_cons_of_mem _ hd)
          obtain ⟨c, hc, rfl⟩ := hall x List.mem_cons_self
          exact ⟨c :: s, rfl, fun d hd => (List.mem_cons.mp hd).elim (fun z => z ▸ hc) (hs d)⟩
      have hlen : s.length = n.toNat := by rw [List.length_map, rng_len] at hr; exact hr
      have e1 : (s.map fun c => [c]).flatten = s := by
        clear hlen hs hr hall h
        induction s with
        | nil => rfl
        | cons a r ih => simp [ih]
      rw [x_strsM, x_getO, join_nil, e1]
      have hL : LIM = 1000000 := rfl
      exact ⟨⟨⟨by decide, by decide⟩, by have : (LIM : Int) = 1000000 := rfl; omega⟩, h s hlen hs⟩
  · exact h.elim
--IS
theorem h_bookof : ∀ ds Q Z, ds.length = 1 → φ_bookof ds Q Z → evF 24 C_law_book_of s_law_book_of ds Q Z := by
  rintro ds Q Z _ ⟨ws, rfl, hw, h⟩
  have hL : LIM = 1000000 := rfl
  rw [law_book_of_ev, law_book_of_B_eq, x_itl]
  refine forL_map D.str (fun i σ => i ≤ ws.length ∧ ∃ (f : List Wd) (s : Sl), σ = [.im (.lst (ws.map .str)), .ow (.lst (f.map .str)), .im (.int ((f.map List.length).sum : Nat)), s] ∧ f.Nodup ∧ (∀ w ∈ f, w ∈ ws) ∧ f.length ≤ 30 ∧ (f.map List.length).sum ≤ 200) ⟨Nat.zero_le _, [], .no, rfl, List.nodup_nil, (fun _ z => nomatch z), by simp, by simp⟩ (fun i w σ N hi hI hN => ?_) (fun σ hI => ?_)
  · obtain ⟨hi', f, s, rfl, f1, f2, f3, f4⟩ := hI
    have hlt : i < ws.length := (List.getElem?_eq_some_iff.mp hi).1
    simp only [law_book_of_L1_eq, x_nin, inD_strs, x_fs, fits_strs, x_asB, x_ite, x_i1, x_i2, x_lenl, x_lens, x_lt, x_le, x_add, List.length_map]
    refine ⟨⟨trivial, trivial⟩, fun c1 => ⟨fun c2 => ⟨fun c3 => ⟨by omega, ?_⟩, fun _ => ?_⟩, fun _ => ?_⟩, fun _ => ?_⟩
    · have c1' : w ∉ f := by simpa using c1
      have c2' := of_decide_eq_true c2
      have c3' := of_decide_eq_true c3
      refine hN _ ⟨hlt, f ++ [w], .im (.str w), by simp, ?_, ?_, ?_, ?_⟩
      · rw [List.nodup_append]
        exact ⟨f1, by simp, fun a ha b hb => by rw [List.mem_singleton.mp hb]; exact fun z => c1' (z ▸ ha)⟩
      · intro x hx
        rcases List.mem_append.mp hx with hx | hx
        · exact f2 x hx
        · rw [List.mem_singleton.mp hx]; exact List.mem_of_getElem? hi
      · rw [List.length_append, List.length_singleton]; omega
      · rw [List.map_append, List.sum_append]; simp; omega
    · exact hN _ ⟨hlt, f, _, rfl, f1, f2, f3, f4⟩
    · exact hN _ ⟨hlt, f, _, rfl, f1, f2, f3, f4⟩
    · exact hN _ ⟨hlt, f, _, rfl, f1, f2, f3, f4⟩
  · obtain ⟨_, f, s, rfl, f1, f2, f3, f4⟩ := hI
    dsimp only
    rw [law_book_of_R2_eq, x_sortS, x_tupl]
    refine h _ ⟨sorted_strict f1, by rw [(isort_perm leS f).length_eq]; exact f3, ?_⟩ fun w hw => f2 w ((isort_perm leS f).mem_iff.mp hw)
    rw [((isort_perm leS f).map List.length).sum_nat]; exact f4
theorem h_book : ∀ ds Q Z, ds.length = 4 → φ_book ds Q Z → evF 24 C_law_book s_law_book ds Q Z := by
  rintro ds Q Z _ ⟨ms, many, letters, longest, rfl, ⟨hb, m0, m1, l0, l1, hne⟩, h⟩
  have hL : (LIM : Int) = 1000000 := rfl
  have hLn : LIM = 1000000 := rfl
  rw [law_book_ev, law_book_B_eq, x_rng1]
  refine ⟨by omega, ?_⟩
  let G : List Wd → Prop := fun f => ∀ w ∈ f, (1 ≤ w.length ∧ (w.length : Int) ≤ max longest 2) ∧ ∀ c ∈ w, c ∈ letters
  refine forL_rng (fun i σ => ∃ (f : List Wd) (a b c : Sl), σ = [.im (.box ms), .im (.int many), .im (.str letters), .im (.int longest), .ow (.lst (f.map .str)), a, b, c] ∧ f.length = i ∧ G f) ⟨[], _, _, _, rfl, rfl, (fun _ z => nomatch z)⟩ (fun i σ N hi hI hN => ?_) (fun σ hI => ?_)
  · obtain ⟨f, a, b, c, rfl, f1, f2⟩ := hI
    have hil : i < 100 := by omega
    have r4 : ∀ (w : Wd) (kd : Int), 1 ≤ w.length → (∀ c ∈ w, c ∈ letters) → ∀ P : Pst, P.nx = N → law_book_R4 [.im (.box ms), .im (.int many), .im (.str letters), .im (.int longest), .ow (.lst (f.map .str)), .im (.int (0 + i)), .im (.int kd), .im (.str w)] P := by
      intro w kd h1 h2 P hP
      simp only [law_book_R4_eq, x_max, x_asI, x_sls, List.length_map]
      obtain ⟨n, hn⟩ : ∃ n : Nat, (if (2 : Int) > longest then 2 else longest) = n := ⟨(if (2 : Int) > longest then 2 else longest).toNat, by split <;> omega⟩
      have hn2 : (n : Int) = max longest 2 := by rw [← hn]; split <;> omega
      rw [hn, cut_to]
      refine ⟨by omega, ?_⟩
      rw [hP]
      refine hN _ ⟨f ++ [w.take n], _, _, _, by rw [List.map_append]; rfl, by simp [f1], fun x hx => ?_⟩
      rcases List.mem_append.mp hx with hx | hx
      · exact f2 x hx
      · rw [List.mem_singleton.mp hx, List.length_take]
        exact ⟨⟨by omega, by omega⟩, fun c hc => h2 c (List.mem_of_mem_take hc)⟩
    have mem_f : ∀ d ∈ f.map D.str, ∃ w, d = .str w ∧ (1 ≤ w.length ∧ (w.length : Int) ≤ max longest 2) ∧ ∀ c ∈ w, c ∈ letters := fun d hd => by
      obtain ⟨w, hw, rfl⟩ := List.mem_map.mp hd
      exact ⟨w, rfl, f2 w hw⟩
    have ne_f : 0 < f.length → f.map D.str ≠ [] := fun z y => by
      have := congrArg List.length y
      rw [List.length_map, List.length_nil] at this; omega
    have r3 : ∀ (w : Wd) (kd : Int), 1 ≤ w.length → (∀ c ∈ w, c ∈ letters) → ∀ P : Pst, P.nx = N → law_book_R3 [.im (.box ms), .im (.int many), .im (.str letters), .im (.int longest), .ow (.lst (f.map .str)), .im (.int (0 + i)), .im (.int kd), .im (.str w)] P := by
      intro w kd h1 h2 P hP
      simp only [law_book_R3_eq, x_lenl, List.length_map, x_gt, x_asB, x_ite, x_i1, x_eq, x_eqi, x_fi, φ_pick]
      refine ⟨fun c => ⟨⟨trivial, trivial⟩, fun c2 => ⟨⟨hb, ne_f (by have := of_decide_eq_true c; omega)⟩, fun d hd => ?_⟩, fun _ => r4 w kd h1 h2 P hP⟩, fun _ => r4 w kd h1 h2 P hP⟩
      obtain ⟨u, rfl, u1, u2⟩ := mem_f d hd
      refine ⟨x_purs, ⟨hb, ne_f (by have := of_decide_eq_true c; omega)⟩, fun e he => ?_⟩
      obtain ⟨v, rfl, v1, v2⟩ := mem_f e he
      refine ⟨x_purs, ?_⟩
      rw [x_adds]
      refine ⟨by omega, r4 (u ++ v) kd (by rw [List.length_append]; omega) (fun c hc => (List.mem_append.mp hc).elim (u2 c) (v2 c)) P hP⟩
    have r2 : ∀ (w : Wd) (kd : Int), (1 ≤ w.length ∧ (w.length : Int) ≤ 1000) → (∀ c ∈ w, c ∈ letters) → ∀ P : Pst, P.nx = N → law_book_R2 [.im (.box ms), .im (.int many), .im (.str letters), .im (.int longest), .ow (.lst (f.map .str)), .im (.int (0 + i)), .im (.int kd), .im (.str w)] P := by
      intro w kd h1 h2 P hP
      simp only [law_book_R2_eq, x_lenl, List.length_map, x_gt, x_asB, x_ite, x_i1, x_eq, x_eqi, x_fi, φ_pick]
      refine ⟨fun c => ⟨⟨trivial, trivial⟩, fun c2 => ⟨⟨hb, ne_f (by have := of_decide_eq_true c; omega)⟩, fun d hd => ?_⟩, fun _ => r3 w kd h1.1 h2 P hP⟩, fun _ => r3 w kd h1.1 h2 P hP⟩
      obtain ⟨u, rfl, u1, u2⟩ := mem_f d hd
      refine ⟨x_purs, ?_⟩
      rw [x_adds]
      exact ⟨by omega, r3 (w ++ u) kd (by rw [List.length_append]; omega) (fun c hc => (List.mem_append.mp hc).elim (h2 c) (u2 c)) P hP⟩
    simp only [law_book_L1_eq, φ_take, x_add, φ_some, x_lenl, List.length_map, x_gt, x_asB, x_ite, x_i1, x_eq, x_eqi, x_fi, φ_pick]
    refine ⟨⟨hb, by decide⟩, fun v1 v1a v1b => ⟨⟨hb, by omega⟩, fun v2 v2a v2b => ⟨⟨hb, hne, by omega, by omega⟩, fun w hw1 hw2 => ?_⟩⟩⟩
    refine ⟨fun c => ⟨⟨trivial, trivial⟩, fun c2 => ⟨⟨hb, ne_f (by have := of_decide_eq_true c; omega)⟩, fun d hd => ?_⟩, fun _ => r2 w _ ⟨by omega, by omega⟩ hw2 _ rfl⟩, fun _ => r2 w _ ⟨by omega, by omega⟩ hw2 _ rfl⟩
    obtain ⟨u, rfl, u1, u2⟩ := mem_f d hd
    refine ⟨x_purs, ?_⟩
    rw [x_adds]
    exact ⟨by omega, r2 (u ++ w) _ (by rw [List.length_append]; omega) (fun c hc => (List.mem_append.mp hc).elim (u2 c) (hw2 c)) _ rfl⟩
  · obtain ⟨f, a, b, c, rfl, f1, f2⟩ := hI
    dsimp only
    rw [law_book_R5_eq]
    exact ⟨f, rfl, by omega, fun book g1 g2 => ⟨pur_tW, h book g1 fun w hw => f2 w (g2 w hw)⟩⟩
theorem h_row : ∀ ds Q Z, ds.length = 3 → φ_row ds Q Z → evF 24 C_law_row s_law_row ds Q Z := by
  rintro ds Q Z _ ⟨ms, book, many, rfl, ⟨hb, m0, m1⟩, h⟩
  have hL : (LIM : Int) = 1000000 := rfl
  rw [law_row_ev, law_row_B_eq, x_rng1]
  refine ⟨by omega, ?_⟩
  refine compL_inv (fun i l => ∃ row : List Wd, l = row.map .str ∧ (∀ w ∈ row, w ∈ book) ∧ row.length ≤ i) _ 0 [] ⟨[], rfl, (fun _ z => nomatch z), Nat.le_refl _⟩ (fun i x acc K hx hI k1 k2 => ?_) (fun l hI => ?_)
  · obtain ⟨row, rfl, r1, r2⟩ := hI
    simp only [tW, x_lent, List.length_map, x_gt, x_asB, x_ite, φ_pick]
    refine ⟨fun c => ⟨⟨hb, fun z => ?_⟩, fun d hd => ?_⟩, fun _ => k1 ⟨row, rfl, r1, by omega⟩⟩
    · have := congrArg List.length z
      rw [List.length_map, List.length_nil] at this
      have := of_decide_eq_true c
      omega
    · obtain ⟨w, hw, rfl⟩ := List.mem_map.mp hd
      refine k2 _ ⟨row ++ [w], by simp, fun u hu => ?_, by rw [List.length_append, List.length_singleton]; omega⟩
      rcases List.mem_append.mp hu with hu | hu
      · exact r1 u hu
      · rw [List.mem_singleton.mp hu]; exact hw
  · obtain ⟨row, rfl, r1, r2⟩ := hI
    rw [x_tupl]
    rw [rng_len, Nat.zero_add] at r2
    exact h row r1 r2
theorem h_text : ∀ ds Q Z, ds.length = 1 → φ_text ds Q Z → evF 24 C_law_text s_law_text ds Q Z := by
  rintro ds Q Z _ ⟨row, h0, h1, h⟩
  have key : ∀ P : Pst, P.rt = Q → seqD (.lst (row.map .str)) (fun l1 => getO (strsOf l1) fun ss2 => (okS [] ∧ (joinD [] ss2).length ≤ LIM) ∧ P.rt (.str (joinD [] ss2))) := by
    intro P hP
    rw [x_sql, x_strs, x_getO, join_nil, hP]
    exact ⟨⟨⟨by decide, fun _ z => nomatch z⟩, h1⟩, h⟩
  rcases h0 with rfl | rfl
  · rw [law_text_ev, law_text_B_eq]
    exact key _ rfl
  · rw [law_text_ev, law_text_B_eq]
    exact key _ rfl
--NEAR
theorem h_near : ∀ ds Q Z, ds.length = 4 → φ_near ds Q Z → evF 24 C_law_near_text s_law_near_text ds Q Z := by
  rintro ds Q Z _ ⟨ms, book, letters, many, rfl, ⟨hb, m0, m1, hne, hmx⟩, h⟩
  have hL : (LIM : Int) = 1000000 := rfl
  have hLn : LIM = 1000000 := rfl
  rw [law_near_text_ev, law_near_text_B_eq]
  simp only [x_add, φ_take]
  refine ⟨⟨hb, by omega⟩, fun n n0 n1 => ?_⟩
  refine ⟨ms, book, n, rfl, ⟨hb, n0, by omega⟩, fun row r1 r2 => ?_⟩
  have hfl : row.flatten.length ≤ many.toNat * mx book := by
    have h1 := flat_len row (mx book) fun w hw => mx_le (r1 w hw)
    exact Nat.le_trans h1 (Nat.mul_le_mul_right _ (by omega))
  have hbig : many.toNat * mx book ≤ 100000 := Nat.mul_le_mul (show many.toNat ≤ 100 by omega) hmx
  refine ⟨row, .inl rfl, by omega, ?_⟩
  dsimp only
  have ok : ∀ c ∈ row.flatten, c ∈ letters ∨ ∃ w ∈ book, c ∈ w := fun c hc => by
    obtain ⟨w, hw, hc⟩ := List.mem_flatten.mp hc
    exact .inr ⟨w, r1 w hw, hc⟩
  generalize row.flatten = t at hfl ok
  simp only [x_lens, x_add]
  refine ⟨⟨hb, by decide⟩, fun k k0 k1 => ⟨⟨hb, by omega⟩, fun a a0 a1 => ?_⟩⟩
  obtain ⟨p, rfl⟩ : ∃ p : Nat, a = p := ⟨a.toNat, by omega⟩
  have e1 : ((p : Int) + 1) = ((p + 1 : Nat) : Int) := by omega
  have r2' : ∀ (s : Wd), s.length ≤ many.toNat * mx book + 1 → (k = 3 → s = t) → (∀ c ∈ s, c ∈ letters ∨ ∃ w ∈ book, c ∈ w) → law_near_text_R2 [.im (.box ms), .im (tW book), .im (.str letters), .im (.int many), .im (.str s), .im (.int k), .im (.int p)] { nx := fun _ => Q .non, rt := Q, bk := fun _ => False, ct := fun _ => False, ex := Z } := by
    intro s h1 h3 h2
    simp only [law_near_text_R2_eq, x_eq, x_eqi, x_fi, x_asB, x_ite, x_asI, x_sls, cut_to, cut_from, φ_some, x_adds]
    refine ⟨⟨trivial, trivial⟩, fun c => ?_, fun _ => h s h1 h2⟩
    have := h3 (of_decide_eq_true c)
    subst this
    refine ⟨⟨hb, hne, by omega, by omega⟩, fun u u1 u2 => ?_⟩
    have u1' : u.length = 1 := u1
    have hp : (s.take p).length + (s.drop p).length = s.length := by rw [List.length_take, List.length_drop]; omega
    refine ⟨by rw [List.length_take]; omega, by rw [List.length_append, List.length_drop, List.length_take]; omega, h _ (by rw [List.length_append, List.length_append]; omega) fun c hc => ?_⟩
    rcases List.mem_append.mp hc with hc | hc
    · rcases List.mem_append.mp hc with hc | hc
      · exact h2 c (List.mem_of_mem_take hc)
      · exact .inl (u2 c hc)
    · exact h2 c (List.mem_of_mem_drop hc)
  have r1' : ∀ (s : Wd), s.length ≤ many.toNat * mx book + 1 → (k = 3 ∨ k = 2 → s = t) → (∀ c ∈ s, c ∈ letters ∨ ∃ w ∈ book, c ∈ w) → law_near_text_R1 [.im (.box ms), .im (tW book), .im (.str letters), .im (.int many), .im (.str s), .im (.int k), .im (.int p)] { nx := fun _ => Q .non, rt := Q, bk := fun _ => False, ct := fun _ => False, ex := Z } := by
    intro s h1 h3 h2
    simp only [law_near_text_R1_eq, x_eq, x_eqi, x_fi, x_asB, x_ite, x_asI, x_sls, cut_to, x_add, e1, cut_from, x_adds]
    refine ⟨⟨trivial, trivial⟩, fun c => ?_, fun _ => r2' s h1 (fun z => h3 (.inl z)) h2⟩
    have c' := of_decide_eq_true c
    have := h3 (.inr c')
    subst this
    refine ⟨by rw [List.length_drop, List.length_take]; omega, r2' _ (by rw [List.length_append, List.length_drop, List.length_take]; omega) (fun z => by omega) fun c hc => ?_⟩
    rcases List.mem_append.mp hc with hc | hc
    · exact h2 c (List.mem_of_mem_take hc)
    · exact h2 c (List.mem_of_mem_drop hc)
  simp only [x_eq, x_eqi, x_fi, x_asB, x_ite, x_asI, x_sls, cut_to, x_add, e1, cut_from, x_adds, φ_some]
  refine ⟨⟨trivial, trivial⟩, fun c => ?_, fun _ => r1' t (by omega) (fun _ => rfl) ok⟩
  have c' := of_decide_eq_true c
  refine ⟨⟨hb, hne, by omega, by omega⟩, fun u u1 u2 => ?_⟩
  have u1' : u.length = 1 := u1
  have hp : p ≤ t.length := by omega
  refine ⟨by rw [List.length_take]; omega, by rw [List.length_append, List.length_drop, List.length_take]; omega, r1' _ (by rw [List.length_append, List.length_append, List.length_drop, List.length_take]; omega) (fun z => by omega) fun c hc => ?_⟩
  rcases List.mem_append.mp hc with hc | hc
  · rcases List.mem_append.mp hc with hc | hc
    · exact ok c (List.mem_of_mem_take hc)
    · exact .inl (u2 c hc)
  · exact ok c (List.mem_of_mem_drop hc)
--RISING
theorem h_rising : ∀ ds Q Z, ds.length = 1 → φ_rising ds Q Z → evF 24 C_law_rising s_law_rising ds Q Z := by
  rintro ds Q Z _ ⟨l, rfl, hl, h⟩
  have hL : (LIM : Int) = 1000000 := rfl
  rw [law_rising_ev, law_rising_B_eq]
  simp only [x_lenl, List.length_map, x_sub, x_rng1]
  refine ⟨by omega, ?_⟩
  rw [show ((l.length : Int) - 1).toNat = l.length - 1 by omega, rng_nat]
  refine compL_map (fun k : Nat => .bl (decide (l.getD k 0 < l.getD (k + 1) 0))) (fun k hk K hK => ?_) ?_
  · have hk := List.mem_range.mp hk
    have e1 : ((k : Int) + 1) = ((k + 1 : Nat) : Int) := by omega
    have g1 : (l.map D.int)[k]? = some (.int (l.getD k 0)) := by
      rw [List.getElem?_map, List.getD_eq_getElem?_getD, List.getElem?_eq_getElem (by omega : k < l.length)]; rfl
    have g2 : (l.map D.int)[k + 1]? = some (.int (l.getD (k + 1) 0)) := by
      rw [List.getElem?_map, List.getD_eq_getElem?_getD, List.getElem?_eq_getElem (by omega : k + 1 < l.length)]; rfl
    simp only [x_ixl, x_add, e1, at_nat, g1, g2, x_getO, x_lt]
    exact hK
  · rw [x_all, x_blsM, x_getO]
    have : (List.map (fun k => decide (l.getD k 0 < l.getD (k + 1) 0)) (List.range (l.length - 1))).all id = risingB l := by
      unfold risingB
      rw [List.all_map]; rfl
    rw [this]
    exact h
--END

end Py.K33
set_option maxHeartbeats 4000000
/-! k33: the defs, by their blocks. -/
namespace Py.K33
open PySem PySem.Spec PyProof.Rows L2
theorem h_stands : ∀ ds Q Z, ds.length = 2 → φ_stands ds Q Z → evF 24 C_stands_at s_stands_at ds Q Z := by
  rintro ds Q Z _ ⟨book, t, rfl, hb, ht, h⟩
  have hL : (LIM : Int) = 1000000 := rfl
  have hLn : LIM = 1000000 := rfl
  rw [stands_at_ev, stands_at_B_eq]
  simp only [x_lens, x_rng1, rng0]
  refine ⟨by omega, ?_⟩
  refine forL_map (fun p : Nat => .int (p : Int)) (fun i σ => ∃ a b : Sl, σ = [.im (tW book), .im (.str t), .ow (.lst (((List.range i).flatMap (rowsAt book t)).map prD)), a, b]) ⟨_, _, rfl⟩ (fun i p σ N hp hI hN => ?_) (fun σ hI => ?_)
  · obtain ⟨a, b, rfl⟩ := hI
    have hi : i < t.length := by
      have := (List.getElem?_eq_some_iff.mp hp).1
      simpa using this
    have ep : p = i := by
      rw [List.getElem?_range hi] at hp
      simpa using hp.symm
    subst ep
    have hsa := SA_len book t p
    have hmul : p * book.length ≤ 3000 := Nat.mul_le_mul (show p ≤ 100 by omega) hb
    simp only [stands_at_L1_eq, tW, x_itt]
    refine forL_map D.str (fun j σ => ∃ b : Sl, σ = [.im (tW book), .im (.str t), .ow (.lst (((List.range p).flatMap (rowsAt book t) ++ ((book.take j).filter (fitsAt t p)).map fun w => (p, w)).map prD)), .im (.int p), b]) ⟨b, by simp [tW]⟩ (fun j w σ N2 hw hJ hN2 => ?_) (fun σ hJ => ?_)
    · obtain ⟨b, rfl⟩ := hJ
      have hj : j < book.length := (List.getElem?_eq_some_iff.mp hw).1
      have hfl : ((book.take j).filter (fitsAt t p)).length ≤ book.length := by
        have := List.length_filter_le (fitsAt t p) (book.take j)
        rw [List.length_take] at this; omega
      have etake : book.take (j + 1) = book.take j ++ [w] := by rw [List.take_add_one, hw]; rfl
      have e1 : ((p : Int) + (w.length : Int)) = ((p + w.length : Nat) : Int) := by omega
      simp only [stands_at_L2_eq, x_asI, x_lens, x_add, x_sls, e1, cut_mid, x_eq, x_eqs, x_fs, x_asB, x_ite, List.length_map, List.length_append]
      rw [show p + w.length - p = w.length by omega]
      refine ⟨⟨trivial, trivial⟩, fun c => ⟨by omega, ?_⟩, fun c => ?_⟩
      · refine hN2 _ ⟨.im (.str w), ?_⟩
        have c' : fitsAt t p w = true := c
        rw [etake, List.filter_append]
        have : List.filter (fitsAt t p) [w] = [w] := by simp [c']
        rw [this]
        simp [prD, tW]
      · refine hN2 _ ⟨.im (.str w), ?_⟩
        have c' : fitsAt t p w = false := c
        rw [etake, List.filter_append]
        have : List.filter (fitsAt t p) [w] = [] := by simp [c']
        rw [this]
        simp [tW]
    · obtain ⟨b, rfl⟩ := hJ
      refine hN _ ⟨.im (.int p), b, ?_⟩
      rw [List.take_length, List.range_succ, List.flatMap_append]
      simp [rowsAt]
  · obtain ⟨a, b, rfl⟩ := hI
    dsimp only
    rw [stands_at_R3_eq, x_tupl, List.length_range]
    exact h
def trD (r : Rw) : D := .tup [.int ((r.1 + r.2.length : Nat) : Int), .int (r.1 : Int), .str r.2]
theorem trD_cmp (l : List Rw) : D.allCmp (l.map trD) = true := by
  unfold D.allCmp
  simp only [Bool.and_eq_true, List.all_eq_true, List.mem_map]
  refine ⟨⟨⟨?_, ?_⟩, ?_⟩, ?_⟩
  · rintro _ ⟨a, _, rfl⟩ _ ⟨b, _, rfl⟩; simp [trD, D.alike, D.alikes]
  · rintro _ ⟨a, _, rfl⟩; rfl
  · rintro _ ⟨a, _, rfl⟩; unfold trD; rw [x_ft]; simp [x_fi, x_fs]
  · rintro _ ⟨a, _, rfl⟩; rfl
theorem trD_max (r0 : Rw) (l : List Rw) : ∃ r ∈ r0 :: l, maxL (trD r0) (l.map trD) = trD r ∧ ∀ q ∈ r0 :: l, q.1 + q.2.length ≤ r.1 + r.2.length := by
  let f : D → Int := fun d => match d with
    | .tup (.int i :: _) => i
    | _ => 0
  obtain ⟨h1, h2⟩ := maxL_key f (fun d => ∃ r : Rw, d = trD r) (by
    rintro _ _ ⟨a, rfl⟩ ⟨b, rfl⟩
    show (D.lt (trD a) (trD b) = true → ((a.1 + a.2.length : Nat) : Int) ≤ ((b.1 + b.2.length : Nat) : Int)) ∧ _
    unfold trD
    simp only [D.lt, D.lts, x_eqi]
    by_cases e : ((a.1 + a.2.length : Nat) : Int) = ((b.1 + b.2.length : Nat) : Int)
    · rw [decide_eq_true e]
      exact ⟨fun _ => by omega, fun _ => by show ((b.1 + b.2.length : Nat) : Int) ≤ ((a.1 + a.2.length : Nat) : Int); omega⟩
    · rw [decide_eq_false e]
      dsimp only
      refine ⟨fun z => by have := of_decide_eq_true z; omega, fun z => ?_⟩
      have := of_decide_eq_false z
      show ((b.1 + b.2.length : Nat) : Int) ≤ ((a.1 + a.2.length : Nat) : Int)
      omega) (l.map trD) (trD r0) ⟨r0, rfl⟩ (fun y hy => by obtain ⟨r, _, rfl⟩ := List.mem_map.mp hy; exact ⟨r, rfl⟩)
  obtain ⟨r, hr, e⟩ : ∃ r ∈ r0 :: l, maxL (trD r0) (l.map trD) = trD r := by
    rcases List.mem_cons.mp h1 with z | z
    · exact ⟨r0, List.mem_cons_self, z⟩
    · obtain ⟨r, hr, e⟩ := List.mem_map.mp z
      exact ⟨r, List.mem_cons_of_mem _ hr, e.symm⟩
  refine ⟨r, hr, e, fun q hq => ?_⟩
  have := h2 (trD q) (by rw [← List.map_cons]; exact List.mem_map.mpr ⟨q, hq, rfl⟩)
  rw [e] at this
  have this : ((q.1 + q.2.length : Nat) : Int) ≤ ((r.1 + r.2.length : Nat) : Int) := this
  omega
theorem h_covered : ∀ ds Q Z, ds.length = 2 → φ_covered ds Q Z → evF 24 C_covered s_covered ds Q Z := by
  rintro ds Q Z _ ⟨book, t, rfl, hb, ht, h1, h2⟩
  have hL : (LIM : Int) = 1000000 := rfl
  have hLn : LIM = 1000000 := rfl
  rw [covered_ev, covered_B_eq]
  refine ⟨book, t, rfl, hb, ht, ?_⟩
  refine whileL_of (fun m σ => ∃ (ps : List Rw) (e : Nat) (a b c : Sl), σ = [.im (tW book), .im (.str t), .im (.tup ((SA book t).map prD)), .im (.int e), .ow (.lst (ps.map prD)), a, b, c] ∧ GR (SA book t) ps e ∧ e ≤ t.length ∧ m = t.length - e) t.length ⟨[], 0, _, _, _, rfl, .nil, Nat.zero_le _, rfl⟩ ?_
  rintro m σ ⟨ps, e, a, b, c, rfl, g, he, rfl⟩
  rw [covered_T1_eq, x_lens, x_lt, x_asB, x_ite]
  refine ⟨fun ce => ?_, fun ce => ?_⟩
  · have he' : e < t.length := by have := of_decide_eq_true ce; omega
    have hpos := g.pos
    simp only [covered_W1_eq, x_itt]
    refine compL_filter (fun r => decide (cov r e)) trD (fun r hr k k1 k2 => ?_) ?_
    · have ecov : decide (cov r e) = (decide ((r.1 : Int) ≤ (e : Int)) && decide ((e : Int) < ((r.1 + r.2.length : Nat) : Int))) := by
        rw [Bool.eq_iff_iff]
        simp only [Bool.and_eq_true, decide_eq_true_eq]
        unfold cov
        omega
      rw [ecov] at k1 k2
      have e1 : ((r.1 : Int) + (r.2.length : Int)) = ((r.1 + r.2.length : Nat) : Int) := by omega
      simp only [prD, x_asT2, x_le, x_asB, x_ite, x_lens, x_add, x_lt, e1]
      refine ⟨fun c1 => ⟨fun c2 => ?_, fun c2 => ?_⟩, fun c1 => ?_⟩
      · exact k1 (by rw [c1, c2]; rfl)
      · exact k2 (by rw [c1, c2]; rfl)
      · exact k2 (by rw [c1]; rfl)
    · cases hf : (SA book t).filter fun r => decide (cov r e) with
      | nil =>
        simp only [List.map_nil, x_trl, x_getO]
        refine ⟨⟨by decide, by decide⟩, ?_⟩
        refine h1 ps e g he' fun q hq hc => ?_
        have := List.filter_eq_nil_iff.mp hf q hq
        exact this (decide_eq_true hc)
      | cons r0 rl =>
        have hne : (!(List.map trD (r0 :: rl)).isEmpty) = true := rfl
        simp only [x_trl, x_getO, hne]
        rw [Bool.not_true, x_ite_f, List.map_cons, x_maxl]
        refine ⟨trD_cmp (r0 :: rl), ?_⟩
        obtain ⟨r, hr, er, hmax⟩ := trD_max r0 rl
        rw [er]
        unfold trD
        rw [x_asT3]
        have hrm : r ∈ SA book t ∧ cov r e := by
          rw [← hf, List.mem_filter] at hr
          exact ⟨hr.1, of_decide_eq_true hr.2⟩
        have hend := (SA_mem hrm.1).2.2.2
        refine ⟨by rw [List.length_map]; omega, ?_⟩
        have hlt := hrm.2.2
        refine ⟨t.length - (r.1 + r.2.length), by omega, ps ++ [r], r.1 + r.2.length, _, _, _, by rw [List.map_append]; rfl, GR.snoc r g hrm.1 hrm.2 (fun q hq hc => hmax q ?_), hend, rfl⟩
        rw [← hf, List.mem_filter]
        exact ⟨hq, decide_eq_true hc⟩
  · have he' : e = t.length := by have := of_decide_eq_false ce; omega
    subst he'
    dsimp only
    rw [covered_R2_eq, x_tupl]
    exact ⟨⟨by decide, by decide⟩, h2 ps g⟩
end Py.K33
set_option maxHeartbeats 4000000
/-! k33: _law_fewest. -/
namespace Py.K33
open PySem PySem.Spec PyProof.Rows L2
def told (l : List (Option Nat)) : List Int := l.filterMap fun o => o.map fun k : Nat => (k : Int)
theorem foldl_min (y : Int) : ∀ (ys : List Int) (x : Int), (y :: ys).foldl min x = min x (ys.foldl min y)
  | [], x => rfl
  | z :: ys, x => by
    have h1 := foldl_min z ys (min x y)
    have h2 := foldl_min z ys y
    rw [List.foldl_cons, h1, h2, Int.min_assoc]
theorem minO_told : ∀ l : List (Option Nat), (told l = [] ∧ minO l = none) ∨ ∃ x xs m, told l = x :: xs ∧ minO l = some m ∧ xs.foldl min x = ((m : Nat) : Int)
  | [] => .inl ⟨rfl, rfl⟩
  | none :: r => by
    rcases minO_told r with ⟨h1, h2⟩ | ⟨x, xs, m, h1, h2, h3⟩
    · exact .inl ⟨by simpa [told] using h1, h2⟩
    · exact .inr ⟨x, xs, m, by simpa [told] using h1, h2, h3⟩
  | some k :: r => by
    have e : told (some k :: r) = (k : Int) :: told r := by simp [told]
    rcases minO_told r with ⟨h1, h2⟩ | ⟨x, xs, m, h1, h2, h3⟩
    · exact .inr ⟨k, [], k, by rw [e, h1], by simp only [minO, h2], rfl⟩
    · refine .inr ⟨k, x :: xs, min k m, by rw [e, h1], by simp only [minO, h2], ?_⟩
      rw [foldl_min, h3]; omega
theorem oD_get {f : List (Option Nat)} {a : Nat} {tl : List D} (h : a < f.length) : (f.map oD ++ tl)[a]? = some (oD (f.getD a none)) := by
  rw [List.getElem?_append_left (by rw [List.length_map]; exact h), List.getElem?_map, List.getD_eq_getElem?_getD, List.getElem?_eq_getElem h]; rfl
def upd1 : Option Nat → Nat → Option Nat
  | none, m => some (m + 1)
  | some a, m => if m + 1 < a then some (m + 1) else some a
theorem fewStep_some {f : List (Option Nat)} {e m : Nat} {acc : Option Nat} {r : Rw} (hc : r.1 < e ∧ e ≤ r.1 + r.2.length) (hm : minO ((f.drop r.1).take (e - r.1)) = some m) : fewStep f e acc r = upd1 acc m := by
  unfold fewStep
  rw [if_pos hc, hm]
  cases acc <;> rfl
theorem h_fewest : ∀ ds Q Z, ds.length = 2 → φ_fewest ds Q Z → evF 24 C_law_fewest s_law_fewest ds Q Z := by
  rintro ds Q Z _ ⟨rows, n, rfl, hn, hr, h⟩
  have hL : (LIM : Int) = 1000000 := rfl
  have hLn : LIM = 1000000 := rfl
  rw [law_fewest_ev, law_fewest_B_eq]
  simp only [x_rng1, rng0]
  refine ⟨by omega, ?_⟩
  refine compL_map (fun _ => .non) (fun a _ k hk => hk) ?_
  rw [x_addl]
  refine ⟨by simp; omega, ?_⟩
  have e0 : newSl (.lst ([D.int 0] ++ (List.range n).map fun _ => D.non)) = .ow (.lst ((few rows 0).map oD ++ List.replicate (n - 0) .non)) := by
    have : ((List.range n).map fun _ => D.non) = List.replicate n .non := by
      apply List.ext_getElem?; intro i; simp [List.getElem?_replicate]
      by_cases hi : i < n <;> simp [hi]
    rw [this]; rfl
  rw [e0, law_fewest_R1_eq]
  simp only [x_add, x_rng2, rng1]
  refine ⟨by omega, ?_⟩
  refine forL_map (fun p : Nat => .int (p : Int)) (fun i σ => i ≤ n ∧ ∃ a b c d : Sl, σ = [.im (.lst (rows.map prD)), .im (.int n), .ow (.lst ((few rows i).map oD ++ List.replicate (n - i) .non)), a, b, c, d, .no]) ⟨Nat.zero_le _, _, _, _, _, rfl⟩ (fun i q σ N hq hI hN => ?_) (fun σ hI => ?_)
  · obtain ⟨_, a, b, c, d, rfl⟩ := hI
    have hi : i < n := by
      have := (List.getElem?_eq_some_iff.mp hq).1
      simpa using this
    have eq : q = i + 1 := by
      rw [List.getElem?_range' (by omega)] at hq
      have : 1 + i = q := by simpa using hq
      omega
    subst eq
    have hfl := few_len rows i
    simp only [law_fewest_L2_eq, x_itl]
    refine forL_map prD (fun j σ => ∃ a c d : Sl, σ = [.im (.lst (rows.map prD)), .im (.int n), .ow (.lst ((few rows i).map oD ++ (oD ((rows.take j).foldl (fewStep (few rows i) (i + 1)) none) :: List.replicate (n - i - 1) .non))), a, .im (.int ((i + 1 : Nat) : Int)), c, d, .no])
      ⟨a, c, d, ?_⟩ (fun j r σ N2 hw hJ hN2 => ?_) (fun σ hJ => ?_)
    · rw [show n - i = (n - i - 1) + 1 by omega, List.replicate_succ]; rfl
    · obtain ⟨a, c, d, rfl⟩ := hJ
      have etake : rows.take (j + 1) = rows.take j ++ [r] := by rw [List.take_add_one, hw]; rfl
      have hrm : r.1 ≤ 1000 := hr r (List.mem_of_getElem? hw)
      have acc' : (rows.take (j + 1)).foldl (fewStep (few rows i) (i + 1)) none = fewStep (few rows i) (i + 1) ((rows.take j).foldl (fewStep (few rows i) (i + 1)) none) r := by
        rw [etake, List.foldl_append]; rfl
      generalize hacc : (rows.take j).foldl (fewStep (few rows i) (i + 1)) none = acc at acc' ⊢
      have same : fewStep (few rows i) (i + 1) acc r = acc → ∀ x y z : Sl, N2 [.im (.lst (rows.map prD)), .im (.int n), .ow (.lst ((few rows i).map oD ++ (oD acc :: List.replicate (n - i - 1) .non))), x, .im (.int ((i + 1 : Nat) : Int)), y, z, .no] := fun e x y z => hN2 _ ⟨x, y, z, by rw [acc', e]⟩
      have e1 : ((r.1 : Int) + (r.2.length : Int)) = ((r.1 + r.2.length : Nat) : Int) := by omega
      simp only [law_fewest_L3_eq, prD, x_asT2, x_lt, x_asB, x_ite, x_lens, x_add, x_le, e1]
      refine ⟨fun c1 => ⟨fun c2 => ?_, fun c2 => ?_⟩, fun c1 => ?_⟩
      · have c1' : r.1 < i + 1 := by have := of_decide_eq_true c1; omega
        have c2' : i + 1 ≤ r.1 + r.2.length := by have := of_decide_eq_true c2; omega
        simp only [law_fewest_R4_eq, x_rng2, rng_to]
        refine ⟨by omega, ?_⟩
        refine compL_app (fun a : Nat => .int (a : Int)) (fun a => ((few rows i).getD a none).map fun k : Nat => .int (k : Int)) _ _ (fun a ha k hk => ?_) ?_
        · have ha := mem_r'.mp ha
          rw [x_ixl, at_nat, oD_get (by omega), x_getO, x_ixl, at_nat, oD_get (by omega), x_getO]
          cases e : (few rows i).getD a none with
          | none => rw [e] at hk; rw [oD, x_notn, x_asB, x_ite_f]; exact hk
          | some m => rw [e] at hk; rw [oD, x_notni, x_asB, x_ite_t]; exact hk
        · rw [List.nil_append]
          have eW : (List.range' r.1 (i + 1 - r.1)).filterMap (fun a => ((few rows i).getD a none).map fun k : Nat => D.int (k : Int)) = (told (((few rows i).drop r.1).take (i + 1 - r.1))).map .int := by
            have e2 : ((few rows i).drop r.1).take (i + 1 - r.1) = (List.range' r.1 (i + 1 - r.1)).map fun a => (few rows i).getD a none := by
              apply List.ext_getElem?
              intro m
              rw [List.getElem?_take, List.getElem?_map]
              by_cases hm : m < i + 1 - r.1
              · rw [if_pos hm, List.getElem?_drop, List.getElem?_range' hm, List.getElem?_eq_getElem (by omega)]
                simp only [Option.map_some, Nat.one_mul, Option.some.injEq]
                rw [List.getD_eq_getElem?_getD, List.getElem?_eq_getElem (by omega)]; rfl
              · rw [if_neg hm, List.getElem?_eq_none (by rw [List.length_range']; omega)]; rfl
            rw [e2]
            unfold told
            rw [List.filterMap_map, List.map_filterMap]
            congr 1
            funext a
            simp only [Function.comp]
            cases (few rows i).getD a none <;> rfl
          rw [eW]
          have hcond : r.1 < i + 1 ∧ i + 1 ≤ r.1 + r.2.length := ⟨c1', c2'⟩
          have hplace : ∀ (l1 : List D) (y : D) (l2 : List D) (z : D), l1.length = i + 1 → (l1 ++ (y :: l2)).set (i + 1) z = l1 ++ (z :: l2) := fun l1 y l2 z hl => by
            rw [List.set_append, if_neg (by omega), hl, Nat.sub_self]; rfl
          have hlen : ((few rows i).map oD ++ (oD acc :: List.replicate (n - i - 1) D.non)).length = n + 1 := by simp; omega
          have hat : ((few rows i).map oD ++ (oD acc :: List.replicate (n - i - 1) D.non))[i + 1]? = some (oD acc) := by
            rw [List.getElem?_append_right (by rw [List.length_map]; omega), List.length_map, hfl, Nat.sub_self]; rfl
          rcases minO_told (((few rows i).drop r.1).take (i + 1 - r.1)) with ⟨t1, t2⟩ | ⟨x, xs, m, t1, t2, t3⟩
          · rw [t1]
            simp only [List.map_nil, x_lenl, List.length_nil, x_gt, x_asB]
            rw [show decide ((0 : Int) < ((0 : Nat) : Int)) = false from rfl, x_ite_f]
            refine same ?_ _ _ _
            unfold fewStep
            rw [if_pos hcond, t2]
          · have hst : fewStep (few rows i) (i + 1) acc r = upd1 acc m := fewStep_some hcond t2
            have em : ((m : Int) + 1) = ((m + 1 : Nat) : Int) := by omega
            have hmin : ∀ Q : D → Prop, dBlt "min" [.lst ((x :: xs).map D.int)] Q = (True ∧ Q (.int (m : Int))) := fun Q => by
              rw [List.map_cons, x_minl, minL_ints, t3]
              have := allCmp_ints (x :: xs)
              rw [List.map_cons] at this
              rw [this]; simp
            have put : ∀ (v : D) (x y z : Sl), fewStep (few rows i) (i + 1) acc r = some (m + 1) → v = .int ((m + 1 : Nat) : Int) → N2 [.im (.lst (rows.map prD)), .im (.int n), .ow (.lst (((few rows i).map oD ++ (oD acc :: List.replicate (n - i - 1) D.non)).set (i + 1) v)), x, .im (.int ((i + 1 : Nat) : Int)), y, z, .no] := fun v x y z e1 e2 => by
              rw [hplace _ _ _ _ (by rw [List.length_map]; exact hfl), e2]
              exact hN2 _ ⟨x, y, z, by rw [acc', e1]; rfl⟩
            rw [t1]
            simp only [x_lenl, x_gt, x_asB]
            rw [show decide ((0 : Int) < (((x :: xs).map D.int).length : Nat)) = true from decide_eq_true (by simp), x_ite_t]
            simp only [x_ixl, at_nat, hat, x_getO]
            have hix : ixN ((few rows i).map oD ++ (oD acc :: List.replicate (n - i - 1) D.non)).length ((i + 1 : Nat) : Int) = some (i + 1) := ixN_nat (by rw [hlen]; omega)
            cases acc with
            | none =>
              simp only [oD, x_isn, x_asB, x_ite_t, hmin, x_add, em, x_asI] at hix put ⊢
              refine ⟨trivial, ?_⟩
              rw [hix]
              exact put _ _ _ _ hst rfl
            | some k =>
              simp only [oD, x_isni, x_asB, x_ite_f, hmin, x_add, em, x_asI, x_lt, x_ite] at hix put same ⊢
              refine ⟨fun z => (nomatch z), fun _ => ⟨trivial, fun c => ⟨trivial, ?_⟩, fun c => ?_⟩⟩
              · rw [hix]
                have c' : m + 1 < k := by have := of_decide_eq_true c; omega
                exact put _ _ _ _ (hst.trans (if_pos c')) rfl
              · have c' : ¬ m + 1 < k := by have := of_decide_eq_false c; omega
                exact same (hst.trans (if_neg c')) _ _ _
      · have c2' : ¬ i + 1 ≤ r.1 + r.2.length := by have := of_decide_eq_false c2; omega
        refine same ?_ _ _ _
        unfold fewStep
        rw [if_neg (fun z => c2' z.2)]
      · have c1' : ¬ r.1 < i + 1 := by have := of_decide_eq_false c1; omega
        refine same ?_ _ _ _
        unfold fewStep
        rw [if_neg (fun z => c1' z.1)]
    · obtain ⟨a, c, d, rfl⟩ := hJ
      refine hN _ ⟨hi, a, .im (.int ((i + 1 : Nat) : Int)), c, d, ?_⟩
      rw [List.take_length]
      simp only [few, List.map_append, List.map_cons, List.map_nil, List.append_assoc, List.cons_append, List.nil_append]
      rw [show n - i - 1 = n - (i + 1) by omega]
  · obtain ⟨_, a, b, c, d, rfl⟩ := hI
    dsimp only
    rw [law_fewest_R5_eq, List.length_range', Nat.sub_self]
    simpa using h
end Py.K33
set_option maxHeartbeats 4000000
/-! k33: the plain law: the greedy walk takes as few as can be. -/
namespace Py.K33
open PySem PySem.Spec PyProof.Rows L2
def en (r : Rw) : Nat := r.1 + r.2.length
def ends (ps : List Rw) : List Nat := 0 :: ps.map en
def lev (ps : List Rw) (y : Nat) : Nat := (ends ps).countP fun z => decide (z < y)
theorem lev_snoc (ps : List Rw) (r : Rw) (y : Nat) : lev (ps ++ [r]) y = lev ps y + (if en r < y then 1 else 0) := by
  unfold lev ends
  rw [List.map_append, ← List.cons_append, List.countP_append]
  congr 1
  by_cases h : en r < y <;> simp [h]
theorem lev_mono (ps : List Rw) {a b : Nat} (h : a ≤ b) : lev ps a ≤ lev ps b := by
  unfold lev
  refine List.countP_mono_left fun z _ hz => ?_
  have := of_decide_eq_true hz
  exact decide_eq_true (by omega)
section
variable {rows : List Rw}
theorem GR.ends_le {ps : List Rw} {e : Nat} (h : GR rows ps e) : (∀ z ∈ ends ps, z ≤ e) ∧ e ∈ ends ps := by
  induction h with
  | nil => exact ⟨by simp [ends], by simp [ends]⟩
  | @snoc ps e r _ _ hc _ ih =>
    have hc2 := hc.2
    refine ⟨fun z hz => ?_, by simp [ends, en]⟩
    unfold ends at hz
    rw [List.map_append, ← List.cons_append] at hz
    rcases List.mem_append.mp hz with hz | hz
    · have := ih.1 z hz; omega
    · simp only [List.map_cons, List.map_nil, List.mem_singleton] at hz
      subst hz; exact Nat.le_refl _
theorem lev_top {ps : List Rw} {e : Nat} (h : GR rows ps e) {y : Nat} (hy : e < y) : lev ps y = ps.length + 1 := by
  unfold lev
  rw [List.countP_eq_length.mpr fun z hz => decide_eq_true (by have := h.ends_le.1 z hz; omega)]
  simp [ends]
theorem lev_at {ps : List Rw} {e : Nat} (h : GR rows ps e) {y : Nat} (hy : y ≤ e) : lev ps y ≤ ps.length := by
  unfold lev
  have hl : (ends ps).countP (fun z => decide (z < y)) < (ends ps).length := by
    have h1 := List.countP_le_length (p := fun z => decide (z < y)) (l := ends ps)
    have h2 : (ends ps).countP (fun z => decide (z < y)) ≠ (ends ps).length := fun z => by
      have := (List.countP_eq_length.mp z) e h.ends_le.2
      have := of_decide_eq_true this
      omega
    omega
  simp [ends] at hl ⊢
  omega
theorem GR.mem {ps : List Rw} {e : Nat} (h : GR rows ps e) : ∀ p ∈ ps, p ∈ rows := by
  induction h with
  | nil => exact fun _ z => nomatch z
  | snoc r _ hr _ _ ih =>
    intro p hp
    rcases List.mem_append.mp hp with hp | hp
    · exact ih p hp
    · rw [List.mem_singleton.mp hp]; exact hr
theorem GR.covers {ps : List Rw} {e : Nat} (h : GR rows ps e) : ∀ x, x < e → ∃ p ∈ ps, cov p x := by
  induction h with
  | nil => intro x hx; omega
  | @snoc ps e r _ _ hc _ ih =>
    intro x hx
    by_cases hxe : x < e
    · obtain ⟨p, hp, hq⟩ := ih x hxe
      exact ⟨p, List.mem_append_left _ hp, hq⟩
    · exact ⟨r, List.mem_append_right _ (List.mem_singleton.mpr rfl), by have := hc.1; omega, hx⟩
theorem GR.rise {ps : List Rw} {e : Nat} (h : GR rows ps e) : (ps.map en).Pairwise (· < ·) ∧ ∀ z ∈ ps.map en, z ≤ e := by
  induction h with
  | nil => exact ⟨List.Pairwise.nil, fun _ z => nomatch z⟩
  | @snoc ps e r _ _ hc _ ih =>
    have hc2 := hc.2
    rw [List.map_append, List.map_cons, List.map_nil]
    refine ⟨List.pairwise_append.mpr ⟨ih.1, List.pairwise_singleton _ _, fun a ha b hb => ?_⟩, fun z hz => ?_⟩
    · rw [List.mem_singleton.mp hb]; have := ih.2 a ha; unfold en; omega
    · rcases List.mem_append.mp hz with hz | hz
      · have := ih.2 z hz; omega
      · rw [List.mem_singleton.mp hz]; exact Nat.le_refl _
/-- each place behind the start: some row reaches it at the level's cost, none at less -/
theorem GR.best {ps : List Rw} {e : Nat} (h : GR rows ps e) : ∀ x, x < e → (∃ r ∈ rows, cov r x ∧ lev ps r.1 + 1 ≤ lev ps (x + 1)) ∧ ∀ r ∈ rows, cov r x → lev ps (x + 1) ≤ lev ps r.1 + 1 := by
  induction h with
  | nil => intro x hx; omega
  | @snoc ps e r0 g hr0 hc hmax ih =>
    intro x hx
    have hc1 := hc.1
    have hc2 := hc.2
    have hen : en r0 = r0.1 + r0.2.length := rfl
    have low : ∀ y, y ≤ en r0 → lev (ps ++ [r0]) y = lev ps y := fun y hy => by rw [lev_snoc, if_neg (by omega)]; rfl
    rw [low (x + 1) (by omega)]
    by_cases hxe : x < e
    · obtain ⟨⟨r, h1, h2, h3⟩, h4⟩ := ih x hxe
      have hr1 := h2.1
      refine ⟨⟨r, h1, h2, by rw [low _ (by omega)]; exact h3⟩, fun q hq hcq => ?_⟩
      have hq1 := hcq.1
      rw [low _ (by omega)]
      exact h4 q hq hcq
    · rw [lev_top g (by omega)]
      refine ⟨⟨r0, hr0, ⟨by omega, hx⟩, ?_⟩, fun r hr hcr => ?_⟩
      · rw [low _ (by omega)]
        have := lev_at g hc1
        omega
      · have hcr1 := hcr.1
        have hcr2 := hcr.2
        rw [low _ (by omega)]
        cases g with
        | nil => simp
        | @snoc ps1 e1 r1 g1 hr1 hcc hmx =>
          have hlt : e1 < r.1 := by
            refine Nat.lt_of_not_le fun z => ?_
            have hcc2 := hcc.2
            have := hmx r hr ⟨z, by omega⟩
            omega
          rw [lev_snoc, lev_top g1 hlt, List.length_append, List.length_singleton]
          omega
theorem minO_first (f : Nat → Nat) (hf : ∀ a b, a ≤ b → f a ≤ f b) : ∀ (n a : Nat), 0 < n → minO ((List.range' a n).map fun y => some (f y)) = some (f a)
  | 0, _, h => by omega
  | 1, a, _ => rfl
  | n + 2, a, _ => by
    rw [List.range'_succ, List.map_cons]
    have ih := minO_first f hf (n + 1) (a + 1) (by omega)
    simp only [minO, ih]
    have := hf a (a + 1) (by omega)
    congr 1; omega
/-- the least of the candidates -/
theorem fold_few {f : List (Option Nat)} {e : Nat} (c : Rw → Nat) (hc : ∀ r : Rw, r.1 < e ∧ e ≤ r.1 + r.2.length → minO ((f.drop r.1).take (e - r.1)) = some (c r)) : ∀ (l : List Rw) (acc : Option Nat),
    (match l.foldl (fewStep f e) acc with
    | none => acc = none ∧ ∀ r ∈ l, ¬ (r.1 < e ∧ e ≤ r.1 + r.2.length)
    | some m => (acc = some m ∨ ∃ r ∈ l, (r.1 < e ∧ e ≤ r.1 + r.2.length) ∧ m = c r + 1) ∧ (∀ r ∈ l, (r.1 < e ∧ e ≤ r.1 + r.2.length) → m ≤ c r + 1) ∧ ∀ a, acc = some a → m ≤ a)
  | [], none => ⟨rfl, fun _ z => nomatch z⟩
  | [], some a => ⟨.inl rfl, (fun _ z => nomatch z), fun b hb => by cases hb; exact Nat.le_refl _⟩
  | r :: l, acc => by
    have ih := fold_few c hc l (fewStep f e acc r)
    rw [List.foldl_cons]
    by_cases h : r.1 < e ∧ e ≤ r.1 + r.2.length
    · rw [fewStep_some h (hc r h)] at ih ⊢
      cases q : l.foldl (fewStep f e) (upd1 acc (c r)) with
      | none =>
        rw [q] at ih
        have := ih.1
        cases acc with
        | none => cases this
        | some a => simp only [upd1] at this; split at this <;> cases this
      | some m =>
        rw [q] at ih
        obtain ⟨i1, i2, i3⟩ := ih
        have hle : m ≤ c r + 1 ∧ ∀ a, acc = some a → m ≤ a := by
          cases acc with
          | none => exact ⟨i3 _ rfl, fun a z => nomatch z⟩
          | some a =>
            simp only [upd1] at i3
            split at i3
            · rename_i hlt; have := i3 _ rfl; exact ⟨this, fun b hb => by cases hb; omega⟩
            · rename_i hlt; have := i3 _ rfl; exact ⟨by omega, fun b hb => by cases hb; exact this⟩
        refine ⟨?_, fun q hq hcq => ?_, hle.2⟩
        · rcases i1 with i1 | ⟨q, hq, hcq, e1⟩
          · cases acc with
            | none => simp only [upd1] at i1; cases i1; exact .inr ⟨r, List.mem_cons_self, h, rfl⟩
            | some a =>
              simp only [upd1] at i1
              split at i1
              · cases i1; exact .inr ⟨r, List.mem_cons_self, h, rfl⟩
              · exact .inl i1
          · exact .inr ⟨q, List.mem_cons_of_mem _ hq, hcq, e1⟩
        · rcases List.mem_cons.mp hq with rfl | hq
          · exact hle.1
          · exact i2 q hq hcq
    · have e0 : fewStep f e acc r = acc := by unfold fewStep; rw [if_neg h]
      rw [e0] at ih ⊢
      cases q : l.foldl (fewStep f e) acc with
      | none =>
        rw [q] at ih
        refine ⟨ih.1, fun q hq => ?_⟩
        rcases List.mem_cons.mp hq with rfl | hq
        · exact h
        · exact ih.2 q hq
      | some m =>
        rw [q] at ih
        obtain ⟨i1, i2, i3⟩ := ih
        refine ⟨?_, fun q hq hcq => ?_, i3⟩
        · rcases i1 with i1 | ⟨q, hq, hcq, e1⟩
          · exact .inl i1
          · exact .inr ⟨q, List.mem_cons_of_mem _ hq, hcq, e1⟩
        · rcases List.mem_cons.mp hq with rfl | hq
          · exact absurd hcq h
          · exact i2 q hq hcq
theorem few_lev {ps : List Rw} {n : Nat} (g : GR rows ps n) : ∀ x, x ≤ n → few rows x = (List.range (x + 1)).map fun y => some (lev ps y)
  | 0, _ => by
    have : lev ps 0 = 0 := by unfold lev; rw [List.countP_eq_zero]; intro z _; simp
    simp [few, this]
  | x + 1, hx => by
    have ih := few_lev g x (by omega)
    rw [List.range_succ, List.map_append, ← ih]
    simp only [few, List.map_cons, List.map_nil]
    congr 2
    have hc : ∀ r : Rw, r.1 < x + 1 ∧ x + 1 ≤ r.1 + r.2.length → minO (((few rows x).drop r.1).take (x + 1 - r.1)) = some (lev ps r.1) := fun r h => by
      have e1 : ((few rows x).drop r.1).take (x + 1 - r.1) = (List.range' r.1 (x + 1 - r.1)).map fun y => some (lev ps y) := by
        rw [ih]
        apply List.ext_getElem?
        intro m
        rw [List.getElem?_take, List.getElem?_map]
        by_cases hm : m < x + 1 - r.1
        · rw [if_pos hm, List.getElem?_drop, List.getElem?_map, List.getElem?_range' hm, List.getElem?_range (by omega)]
          simp
        · rw [if_neg hm, List.getElem?_eq_none (by rw [List.length_range']; omega)]; rfl
      rw [e1]
      exact minO_first (lev ps) (fun a b => lev_mono ps) _ _ (by omega)
    obtain ⟨⟨r, h1, h2, h3⟩, h4⟩ := g.best x (by omega)
    have key := fold_few (fun r => lev ps r.1) hc rows none
    have conv : ∀ q : Rw, (q.1 < x + 1 ∧ x + 1 ≤ q.1 + q.2.length) ↔ cov q x := fun q => by unfold cov; omega
    cases e : rows.foldl (fewStep (few rows x) (x + 1)) none with
    | none => rw [e] at key; exact absurd ((conv r).mpr h2) (key.2 r h1)
    | some m =>
      rw [e] at key
      obtain ⟨i1, i2, _⟩ := key
      congr 1
      have a1 := i2 r h1 ((conv r).mpr h2)
      rcases i1 with i1 | ⟨q, hq, hcq, e1⟩
      · cases i1
      · have := h4 q hq ((conv q).mp hcq)
        omega
theorem few_last {ps : List Rw} {n : Nat} (g : GR rows ps n) : (few rows n)[n]? = some (some ps.length) := by
  rw [few_lev g n (Nat.le_refl _), List.getElem?_map, List.getElem?_range (by omega)]
  simp only [Option.map_some, Option.some.injEq]
  cases g with
  | nil => rfl
  | @snoc ps1 e1 r1 g1 _ hc _ =>
    have := hc.2
    rw [lev_snoc, if_neg (show ¬ en r1 < r1.1 + r1.2.length from Nat.lt_irrefl _), lev_top g1 this, List.length_append, List.length_singleton]
end
end Py.K33
set_option maxHeartbeats 4000000
/-! k33: the law. -/
namespace Py.K33
open PySem PySem.Spec PyProof.Rows L2
def PL : Pst := { nx := fun _ => False, rt := fun d => d = .bl true, bk := fun _ => False, ct := fun _ => False, ex := noX }
theorem fits_pr (r : Rw) {n : Nat} : D.fits (n + 1) (prD r) = true := by unfold prD; rw [x_ft]; simp [x_fi, x_fs]
theorem fits_prs (l : List Rw) {n : Nat} : D.fits (n + 2) (.tup (l.map prD)) = true := by
  rw [x_ft, List.all_map, List.all_eq_true]; intro x _; exact fits_pr x
theorem covB (l : List Rw) (y : Nat) {f : D → (Option D → Prop) → Prop} {Q : List D → Prop} (hf : ∀ x k, f x k = asT2 x fun a b => dCmp .LtE a (.int y) fun z => asB z fun c => ite2 c (dBlt "len" [b] fun z1 => dBin .Add a z1 fun z2 => dCmp .Lt (.int y) z2 fun z3 => k (some z3)) (k (some (.bl false))))
    (h : Q (l.map fun r => .bl (decide (cov r y)))) : compL f (l.map prD) [] Q := by
  refine compL_map (fun r => .bl (decide (cov r y))) (fun r _ k hk => ?_) h
  rw [hf]
  have e1 : ((r.1 : Int) + (r.2.length : Int)) = ((r.1 + r.2.length : Nat) : Int) := by omega
  have ecov : decide (cov r y) = (decide ((r.1 : Int) ≤ (y : Int)) && decide ((y : Int) < ((r.1 + r.2.length : Nat) : Int))) := by
    rw [Bool.eq_iff_iff]
    simp only [Bool.and_eq_true, decide_eq_true_eq]
    unfold cov
    omega
  simp only [prD, x_asT2, x_le, x_asB, x_ite, x_lens, x_add, x_lt, e1]
  rw [ecov] at hk
  exact ⟨fun c => by rw [c] at hk; exact hk, fun c => by rw [c] at hk; exact hk⟩
theorem turn {ms : List Int} {book : List Wd} {t : Wd} {x : Nat} {e f g h m : Sl} {N B : Sls → Prop} {R : D → Prop} {Z : Str → Prop} (hb : book.length ≤ 30) (ht : t.length ≤ 16)
    (hN : ∀ a b c d e f g, N [.no, .im (.box ms), .im (tW book), a, b, c, d, .no, e, f, .no, g, .no]) :
    law_R2 [.no, .im (.box ms), .im (tW book), .im (.int x), .im (.str t), e, f, .no, g, h, .no, m, .no] { nx := N, rt := R, bk := B, ct := N, ex := Z } := by
  have hL : (LIM : Int) = 1000000 := rfl
  have hLn : LIM = 1000000 := rfl
  simp only [law_R2_eq, x_lens, x_rng1, rng0]
  refine ⟨by omega, ?_⟩
  refine forL_map (fun p : Nat => .int (p : Int)) (fun i σ => i ≤ t.length ∧ ∃ f : Sl, σ = [.no, .im (.box ms), .im (tW book), .im (.int x), .im (.str t), .im (.lst (((List.range i).flatMap (rowsAt book t)).map prD)), f, .no, g, h, .no, m, .no]) ⟨Nat.zero_le _, f, rfl⟩ (fun i p σ N2 hp hI hN2 => ?_) (fun σ hI => ?_)
  · obtain ⟨_, f, rfl⟩ := hI
    have hi : i < t.length := by
      have := (List.getElem?_eq_some_iff.mp hp).1
      simpa using this
    have ep : p = i := by
      rw [List.getElem?_range hi] at hp
      simpa using hp.symm
    subst ep
    simp only [law_L3_eq, tW, x_itt]
    refine compL_filter (fitsAt t p) (fun w => prD (p, w)) (fun w hw k k1 k2 => ?_) ?_
    · have e1 : ((p : Int) + (w.length : Int)) = ((p + w.length : Nat) : Int) := by omega
      simp only [x_asI, x_lens, x_add, x_sls, e1, cut_mid, x_eq, x_eqs, x_fs, x_asB, x_ite]
      rw [show p + w.length - p = w.length by omega]
      exact ⟨⟨trivial, trivial⟩, fun c => k1 c, fun c => k2 c⟩
    · rw [x_addl]
      have h1 := SA_len book t p
      have h2 : p * book.length ≤ 16 * 30 := Nat.mul_le_mul (by omega) hb
      have h3 := List.length_filter_le (fitsAt t p) book
      refine ⟨by rw [List.length_map, List.length_map]; omega, ?_⟩
      refine hN2 _ ⟨hi, .im (.int p), ?_⟩
      rw [List.range_succ, List.flatMap_append]
      simp [rowsAt, tW]
  · obtain ⟨_, f, rfl⟩ := hI
    dsimp only
    rw [List.length_range, law_R4_eq]
    show φ_stands _ _ _
    have hSA : (List.range t.length).flatMap (rowsAt book t) = SA book t := rfl
    rw [hSA]
    refine ⟨book, t, rfl, hb, by omega, ?_⟩
    dsimp only
    rw [x_tupl, ne_self (fits_prs _)]
    simp only [x_asB, x_ite_f, x_lens]
    refine ⟨SA book t, t.length, rfl, by omega, fun r hr => by have := (SA_mem hr).1; omega, ?_⟩
    simp only [x_rng1, rng0]
    refine ⟨by omega, ?_⟩
    refine compL_filter (fun y => !((SA book t).any fun r => decide (cov r y))) (fun y : Nat => .int (y : Int)) (fun y _ k k1 k2 => ?_) ?_
    · rw [x_itl]
      refine covB (SA book t) y (fun _ _ => rfl) ?_
      rw [x_any, x_blsM, x_getO, x_trb, x_getO, List.any_map]
      rw [x_ite]
      exact ⟨k1, k2⟩
    · have hbare0 : ∀ ps e, GR (SA book t) ps e → e < t.length → (∀ q ∈ SA book t, ¬ cov q e) → ∃ r, (List.range t.length).filter (fun y => !((SA book t).any fun r => decide (cov r y))) = e :: r := fun ps e g he hno => by
        rw [List.range_eq_range']
        refine filter_first t.length 0 e (Nat.zero_le _) (by omega) ?_ fun i _ hi => ?_
        · rw [Bool.not_eq_true', List.any_eq_false]
          intro q hq hc
          exact hno q hq (of_decide_eq_true hc)
        · obtain ⟨p, hp, hc⟩ := g.covers i hi
          rw [Bool.not_eq_false', List.any_eq_true]
          exact ⟨p, g.mem p hp, decide_eq_true hc⟩
      refine ⟨book, t, rfl, hb, by omega, fun ps e g he hno => ?_, fun ps g => ?_⟩
      · obtain ⟨r, hr⟩ := hbare0 ps e g he hno
        rw [hr]
        simp only [x_lenl, List.map_cons, List.length_cons, x_gt, x_asB]
        rw [show decide ((0 : Int) < (((List.map (fun y : Nat => D.int (y : Int)) r).length + 1 : Nat) : Int)) = true from decide_eq_true (by omega), x_ite_t]
        rw [x_ixl, at_0, x_getO]
        refine ⟨⟨by decide, by decide⟩, ?_⟩
        rw [show sBare = [98, 97, 114, 101] from rfl, ne_self (by rw [x_ft50]; simp [x_fs, x_fi]), x_asB, x_ite_f]
        exact hN _ _ _ _ _ _ _
      · have hnil : (List.range t.length).filter (fun y => !((SA book t).any fun r => decide (cov r y))) = [] := by
          rw [List.filter_eq_nil_iff]
          intro y hy
          obtain ⟨p, hp, hc⟩ := g.covers y (List.mem_range.mp hy)
          rw [Bool.not_eq_true', Bool.not_eq_false, List.any_eq_true]
          exact ⟨p, g.mem p hp, decide_eq_true hc⟩
        dsimp only
        rw [hnil]
        simp only [List.map_nil, x_lenl, List.length_nil, x_gt, x_asB]
        rw [show decide ((0 : Int) < ((0 : Nat) : Int)) = false from rfl, x_ite_f]
        rw [x_itup, x_trb, x_getO]
        rw [show (!true) = false from rfl, x_ite_f, x_lent]
        rw [show ((([D.str sCov, D.tup (ps.map prD)] : List D).length : Nat) : Int) = 2 from rfl, ne_self x_fi, x_asB, x_ite_f]
        rw [x_ixt, at_0, x_getO]
        refine ⟨⟨by decide, by decide⟩, ?_⟩
        rw [show sCov = [99, 111, 118, 101, 114, 101, 100] from rfl, ne_self x_fs, x_asB, x_ite_f, x_ixt, at_1, x_getO, x_itt]
        refine compL_map (fun r => .bl true) (fun r hr k hk => ?_) ?_
        · rw [x_in]
          have hin : inD (prD r) ((SA book t).map prD) = true := inD_mem (List.mem_map.mpr ⟨r, g.mem r hr, rfl⟩) (fits_pr r)
          have hf2 : D.fits 50 (.lst ((SA book t).map prD)) = true := by
            rw [x_fl50, List.all_map, List.all_eq_true]; intro x _; exact fits_pr x
          rw [hin]
          exact ⟨⟨fits_pr r, hf2⟩, hk⟩
        · rw [x_all, show (List.map (fun _ : Rw => D.bl true) ps) = (List.map (fun _ : Rw => true) ps).map D.bl by rw [List.map_map]; rfl, x_bls, x_getO, x_trb, x_getO]
          have hall : (List.map (fun _ : Rw => true) ps).all id = true := by simp
          rw [hall, show (!true) = false from rfl, x_ite_f, law_R5_eq]
          have hpos := g.pos
          simp only [x_ixt, at_1, x_getO, x_lent, x_lens, List.length_map, x_ixl, at_nat, List.getElem?_map, few_last g, Option.map_some, oD]
          rw [ne_self x_fi, x_asB, x_ite_f, x_itt]
          refine compL_map (fun r => .int ((en r : Nat) : Int)) (fun r _ k hk => ?_) ?_
          · have e1 : ((r.1 : Int) + (r.2.length : Int)) = ((en r : Nat) : Int) := by unfold en; omega
            simp only [prD, x_asT2, x_lens, x_add, e1]
            exact hk
          · refine ⟨(ps.map en).map fun z : Nat => (z : Int), by rw [List.map_map, List.map_map]; rfl, by rw [List.length_map, List.length_map]; omega, ?_⟩
            dsimp only
            rw [rising_pw g.rise.1, x_trb, x_getO, show (!true) = false from rfl, x_ite_f, law_R6_eq]
            simp only [x_lens, x_rng1, rng0]
            refine ⟨by omega, ?_⟩
            refine compL_map (fun y => .bl false) (fun y hy k hk => ?_) ?_
            · rw [x_ixt, at_1, x_getO, x_itt]
              refine covB ps y (fun _ _ => rfl) ?_
              rw [x_any, x_blsM, x_getO, x_asB, List.any_map]
              obtain ⟨p, hp, hc⟩ := g.covers y (List.mem_range.mp hy)
              have : ps.any (id ∘ fun r => decide (cov r y)) = true := by
                rw [List.any_eq_true]; exact ⟨p, hp, decide_eq_true hc⟩
              rw [this]
              exact hk
            · rw [x_any, show (List.map (fun _ : Nat => D.bl false) (List.range t.length)) = (List.map (fun _ : Nat => false) (List.range t.length)).map D.bl by rw [List.map_map]; rfl, x_bls, x_getO, x_trb, x_getO]
              have : (List.map (fun _ : Nat => false) (List.range t.length)).any id = false := by simp
              rw [this, x_ite_f]
              exact hN _ _ _ _ _ _ _
theorem h_law (ms : List Int) (hb : okB ms) : law_B [.no, .im (.box ms), .no, .no, .no, .no, .no, .no, .no, .no, .no, .no, .no] PL := by
  have hL : (LIM : Int) = 1000000 := rfl
  have hLn : LIM = 1000000 := rfl
  rw [law_B_eq]
  refine ⟨⟨hb, by decide⟩, fun v v0 v1 => ⟨⟨by decide, by decide⟩, ms, v, [97, 98], 4, rfl, ⟨hb, v0, by omega, by decide, by decide, fun z => nomatch z⟩, fun book g1 g2 => ?_⟩⟩
  dsimp only
  rw [x_rng1]
  refine ⟨by omega, ?_⟩
  have hbl : book.length ≤ 30 := g1.2.1
  have hmx : mx book ≤ 4 := mx_of fun w hw => by have := (g2 w hw).1.2; omega
  refine forL_rng (fun i σ => ∃ a b c d e f g, σ = [.no, .im (.box ms), .im (tW book), a, b, c, d, .no, e, f, .no, g, .no]) ⟨_, _, _, _, _, _, _, rfl⟩ (fun i σ N hi hI hN => ?_) (fun σ hI => ?_)
  · obtain ⟨a, b, c, d, e, f, g, rfl⟩ := hI
    have hN' : ∀ a b c d e f g, N [.no, .im (.box ms), .im (tW book), a, b, c, d, .no, e, f, .no, g, .no] := fun a b c d e f g => hN _ ⟨a, b, c, d, e, f, g, rfl⟩
    obtain ⟨x, hx⟩ : ∃ x : Nat, (0 : Int) + (i : Int) = x := ⟨i, by omega⟩
    rw [hx, law_L1_eq]
    refine ⟨⟨by decide, by decide⟩, ⟨hb, by decide⟩, fun v v0 v1 => ⟨⟨hb, (fun z => nomatch z), by omega, by omega⟩, fun s hs _ => ⟨⟨hb, by decide⟩, fun v2 _ _ => ?_⟩⟩⟩
    simp only [x_eq, x_eqi, x_fi, x_asB, x_ite]
    refine ⟨⟨trivial, trivial⟩, fun _ => ⟨⟨by decide, by decide⟩, ms, book, [97, 98], 5, rfl, ⟨hb, by decide, by decide, (fun z => nomatch z), by omega⟩, fun u _ _ => ?_⟩, fun _ => turn hbl (by omega) hN'⟩
    dsimp only
    rw [x_asI, x_sls, show cutL u none (some 16) = u.take 16 from cut_to u 16]
    exact turn hbl (by rw [List.length_take]; omega) hN'
  · obtain ⟨a, b, c, d, e, f, g, rfl⟩ := hI
    dsimp only [PL]
    rw [law_R7_eq]
    refine ⟨⟨by decide, fun _ z => nomatch z⟩, book, [], rfl, hbl, by simp, fun ps e g he _ => by simp at he, fun ps g => ⟨⟨by decide, by decide⟩, ?_⟩⟩
    have : ps = [] := List.length_eq_zero_iff.mp (by have := g.pos; simpa using this)
    subst this
    show dCmp .Eq (.tup [.str sCov, .tup []]) (.tup [.str sCov, .tup []]) _
    rw [eq_self (by rw [x_ft50]; simp [x_fs, x_ft])]
end Py.K33
set_option maxHeartbeats 4000000
namespace Py.K33
open PySem PySem.Spec PyProof.Rows L2
/-! the box; the levels; the head -/
def C_law_box : Ctx := { N := ["script", "row", "cell"], sc := defScope s_law_box, ost := defScope s_law_box, fns := [("_law_digits", 2, φ_digits)], con := [], blt := ["len"], muts := [] }
def box_body : List Stmt := forBody (((defBody s_law_box).drop 1).headD pz)
theorem box_2 (rd cd : D) (P : Pst) : evB (evS 24) C_law_box box_body [.no, .im rd, .im cd] P = (
  φ_digits [cd, (.int 6)] (fun z1 => dBin .Add rd z1 fun z2 => P.nx [.no, .im z2, .im cd]) P.ex) := by kernel_rfl
theorem box_3 (rd : D) (cs : Sl) (P : Pst) : evS 24 C_law_box (((defBody s_law_box).drop 2).headD pz) [.no, .im rd, cs] P = (
  dBlt "len" [rd] fun z3 => dCmp .Eq z3 (.int 0) fun z4 => asB z4 fun c5 => ite2 c5 (P.nx [.no, .im (.lst [(.int 5), (.int 77), (.int 1031), (.int 40009), (.int 3), (.int 900001), (.int 12)]), cs]) (P.nx [.no, .im rd, cs])) := by kernel_rfl
theorem box_1 (Q : D → Prop) : (evs 9).E C_law_box (.List [] ⟨39, 10, 39, 12⟩) [.no, .no, .no] Q noX = Q (.lst []) := by kernel_rfl
theorem box_4 (rd : D) (cs : Sl) (Q : D → Prop) : (evs 9).E C_law_box (.Constant (.str "row") 0 ⟨44, 12, 44, 17⟩) [.no, .im rd, cs] Q noX = (okS [114, 111, 119] ∧ Q (.str [114, 111, 119])) := by kernel_rfl
theorem box_5 (rd : D) (cs : Sl) (Q : D → Prop) : (evs 9).E C_law_box (.Name "row" ⟨44, 19, 44, 22⟩) [.no, .im rd, cs] Q noX = Q rd := by kernel_rfl
theorem box_6 (rd : D) (cs : Sl) (Q : D → Prop) : (evs 9).E C_law_box (.Constant (.str "at") 0 ⟨44, 24, 44, 28⟩) [.no, .im rd, cs] Q noX = (okS [97, 116] ∧ Q (.str [97, 116])) := by kernel_rfl
theorem box_7 (rd : D) (cs : Sl) (Q : D → Prop) : (evs 9).E C_law_box (.Constant (.int 0) 0 ⟨44, 30, 44, 31⟩) [.no, .im rd, cs] Q noX = Q (.int 0) := by kernel_rfl
theorem box_t (d : D) (e0 e1 e2 : Sl) (K : Sls → Prop) : bindT C_law_box (.Name "cell" ⟨40, 8, 40, 12⟩) d [e0, e1, e2] K = K [e0, e1, .im d] := by kernel_rfl
theorem box_b : defBody s_law_box = [.Assign [.Name "row" ⟨39, 4, 39, 7⟩] (.List [] ⟨39, 10, 39, 12⟩) ⟨39, 4, 39, 12⟩, .For (.Name "cell" ⟨40, 8, 40, 12⟩) (.Name "script" ⟨40, 16, 40, 22⟩) box_body [] ⟨40, 4, 41, 40⟩, ((defBody s_law_box).drop 2).headD pz, .Return (some (.Dict [some (.Constant (.str "row") 0 ⟨44, 12, 44, 17⟩), some (.Constant (.str "at") 0 ⟨44, 24, 44, 28⟩)] [.Name "row" ⟨44, 19, 44, 22⟩, (.Constant (.int 0) 0 ⟨44, 30, 44, 31⟩)] ⟨44, 11, 44, 32⟩)) ⟨44, 4, 44, 32⟩] := by kernel_rfl
theorem box_h2 (l : List Int) (c : Int) (P : Pst) (hl : l.length ≤ 1000) (h : ∀ m : List Int, m.length ≤ l.length + 6 → P.nx [.no, .im (.lst (m.map .int)), .im (.int c)]) : evB (evS 24) C_law_box box_body [.no, .im (.lst (l.map .int)), .im (.int c)] P := by
  rw [box_2]
  refine ⟨rfl, fun ns hn => ?_⟩
  dsimp only
  rw [x_addl, List.length_map, List.length_map, ← List.map_append]
  have : LIM = 1000000 := rfl
  exact ⟨by omega, h _ (by rw [List.length_append]; omega)⟩
theorem box_h3 (l : List Int) (s : Sl) (P : Pst) (hl : l.length ≤ 1000) (h : ∀ m : List Int, m ≠ [] → m.length ≤ LIM → P.nx [.no, .im (.lst (m.map .int)), s]) : evS 24 C_law_box (((defBody s_law_box).drop 2).headD pz) [.no, .im (.lst (l.map .int)), s] P := by
  rw [box_3]
  have : LIM = 1000000 := rfl
  simp only [x_lenl, x_eq, x_eqi, x_fi, x_asB, x_ite, List.length_map]
  refine ⟨⟨trivial, trivial⟩, fun _ => h [5, 77, 1031, 40009, 3, 900001, 12] (fun z => nomatch z) (by decide), fun c => h l (fun z => ?_) (by omega)⟩
  subst z
  exact absurd rfl (of_decide_eq_false c)
theorem law_b : defBody s_law = .Assign [.Name "box" ⟨102, 4, 102, 7⟩] (.Call (.Name "_law_box" ⟨102, 10, 102, 18⟩) [.Name "script" ⟨102, 19, 102, 25⟩] [] ⟨102, 10, 102, 26⟩) ⟨102, 4, 102, 26⟩ :: (defBody s_law).drop 1 := by kernel_rfl
theorem all_mk {P : Program} {w : World} {K : PySem.W.Frag} {h : Heap} {mg : Str → Option Value} {fa f_law_take f_law_some f_law_pick f_law_book_of f_law_book f_law_row f_law_text f_law_near_text f_law_rising f_law_fewest f_stands_at f_covered f_law_digits f_law_box f_law : Addr} (X : K.In h) (G : h.Ns mainGlobals mg) (hfa : mg "law" = some (.ref fa))
    {od_law_take an_law_take od_law_some an_law_some od_law_pick an_law_pick od_law_book_of an_law_book_of od_law_book an_law_book od_law_row an_law_row od_law_text an_law_text od_law_near_text an_law_near_text od_law_rising an_law_rising od_law_fewest an_law_fewest od_stands_at an_stands_at od_covered an_covered od_law_digits an_law_digits od_law_box an_law_box od_law an_law : Option Addr} {sl_law_take sl_law_some sl_law_pick sl_law_book_of sl_law_book sl_law_row sl_law_text sl_law_near_text sl_law_rising sl_law_fewest sl_stands_at sl_covered sl_law_digits sl_law_box sl_law : Array (Option Value)} {oc_law_take kV_law_take dc_law_take pm_law_take cd_law_take ct_law_take oc_law_some kV_law_some dc_law_some pm_law_some cd_law_some ct_law_some oc_law_pick kV_law_pick dc_law_pick pm_law_pick cd_law_pick ct_law_pick oc_law_book_of kV_law_book_of dc_law_book_of pm_law_book_of cd_law_book_of ct_law_book_of oc_law_book kV_law_book dc_law_book pm_law_book cd_law_book ct_law_book oc_law_row kV_law_row dc_law_row pm_law_row cd_law_row ct_law_row oc_law_text kV_law_text dc_law_text pm_law_text cd_law_text ct_law_text oc_law_near_text kV_law_near_text dc_law_near_text pm_law_near_text cd_law_near_text ct_law_near_text oc_law_rising kV_law_rising dc_law_rising pm_law_rising cd_law_rising ct_law_rising oc_law_fewest kV_law_fewest dc_law_fewest pm_law_fewest cd_law_fewest ct_law_fewest oc_stands_at kV_stands_at dc_stands_at pm_stands_at cd_stands_at ct_stands_at oc_covered kV_covered dc_covered pm_covered cd_covered ct_covered oc_law_digits kV_law_digits dc_law_digits pm_law_digits cd_law_digits ct_law_digits oc_law_box kV_law_box dc_law_box pm_law_box cd_law_box ct_law_box oc_law kV_law dc_law pm_law cd_law ct_law : Value} 
    (a_law_take : PySem.W.nsIn K mainGlobals "_law_take" = some (some (.ref f_law_take))) (l_law_take : K.lookup f_law_take = some ⟨oc_law_take, od_law_take, .func (PySem.W.fnOf "_law_take" "_law_take" (defArgs s_law_take) (defBody s_law_take) (defScope s_law_take) .none kV_law_take dc_law_take pm_law_take an_law_take cd_law_take ct_law_take), sl_law_take⟩) (c_law_take : PySem.W.codeIn K cd_law_take "_law_take" = true) (k_law_take : PySem.W.keepIn K (.ref f_law_take) = true)
    (a_law_some : PySem.W.nsIn K mainGlobals "_law_some" = some (some (.ref f_law_some))) (l_law_some : K.lookup f_law_some = some ⟨oc_law_some, od_law_some, .func (PySem.W.fnOf "_law_some" "_law_some" (defArgs s_law_some) (defBody s_law_some) (defScope s_law_some) .none kV_law_some dc_law_some pm_law_some an_law_some cd_law_some ct_law_some), sl_law_some⟩) (c_law_some : PySem.W.codeIn K cd_law_some "_law_some" = true) (k_law_some : PySem.W.keepIn K (.ref f_law_some) = true)
    (a_law_pick : PySem.W.nsIn K mainGlobals "_law_pick" = some (some (.ref f_law_pick))) (l_law_pick : K.lookup f_law_pick = some ⟨oc_law_pick, od_law_pick, .func (PySem.W.fnOf "_law_pick" "_law_pick" (defArgs s_law_pick) (defBody s_law_pick) (defScope s_law_pick) .none kV_law_pick dc_law_pick pm_law_pick an_law_pick cd_law_pick ct_law_pick), sl_law_pick⟩) (c_law_pick : PySem.W.codeIn K cd_law_pick "_law_pick" = true) (k_law_pick : PySem.W.keepIn K (.ref f_law_pick) = true)
    (a_law_book_of : PySem.W.nsIn K mainGlobals "_law_book_of" = some (some (.ref f_law_book_of))) (l_law_book_of : K.lookup f_law_book_of = some ⟨oc_law_book_of, od_law_book_of, .func (PySem.W.fnOf "_law_book_of" "_law_book_of" (defArgs s_law_book_of) (defBody s_law_book_of) (defScope s_law_book_of) .none kV_law_book_of dc_law_book_of pm_law_book_of an_law_book_of cd_law_book_of ct_law_book_of), sl_law_book_of⟩) (c_law_book_of : PySem.W.codeIn K cd_law_book_of "_law_book_of" = true) (k_law_book_of : PySem.W.keepIn K (.ref f_law_book_of) = true)
    (a_law_book : PySem.W.nsIn K mainGlobals "_law_book" = some (some (.ref f_law_book))) (l_law_book : K.lookup f_law_book = some ⟨oc_law_book, od_law_book, .func (PySem.W.fnOf "_law_book" "_law_book" (defArgs s_law_book) (defBody s_law_book) (defScope s_law_book) .none kV_law_book dc_law_book pm_law_book an_law_book cd_law_book ct_law_book), sl_law_book⟩) (c_law_book : PySem.W.codeIn K cd_law_book "_law_book" = true) (k_law_book : PySem.W.keepIn K (.ref f_law_book) = true)
    (a_law_row : PySem.W.nsIn K mainGlobals "_law_row" = some (some (.ref f_law_row))) (l_law_row : K.lookup f_law_row = some ⟨oc_law_row, od_law_row, .func (PySem.W.fnOf "_law_row" "_law_row" (defArgs s_law_row) (defBody s_law_row) (defScope s_law_row) .none kV_law_row dc_law_row pm_law_row an_law_row cd_law_row ct_law_row), sl_law_row⟩) (c_law_row : PySem.W.codeIn K cd_law_row "_law_row" = true) (k_law_row : PySem.W.keepIn K (.ref f_law_row) = true)
    (a_law_text : PySem.W.nsIn K mainGlobals "_law_text" = some (some (.ref f_law_text))) (l_law_text : K.lookup f_law_text = some ⟨oc_law_text, od_law_text, .func (PySem.W.fnOf "_law_text" "_law_text" (defArgs s_law_text) (defBody s_law_text) (defScope s_law_text) .none kV_law_text dc_law_text pm_law_text an_law_text cd_law_text ct_law_text), sl_law_text⟩) (c_law_text : PySem.W.codeIn K cd_law_text "_law_text" = true) (k_law_text : PySem.W.keepIn K (.ref f_law_text) = true)
    (a_law_near_text : PySem.W.nsIn K mainGlobals "_law_near_text" = some (some (.ref f_law_near_text))) (l_law_near_text : K.lookup f_law_near_text = some ⟨oc_law_near_text, od_law_near_text, .func (PySem.W.fnOf "_law_near_text" "_law_near_text" (defArgs s_law_near_text) (defBody s_law_near_text) (defScope s_law_near_text) .none kV_law_near_text dc_law_near_text pm_law_near_text an_law_near_text cd_law_near_text ct_law_near_text), sl_law_near_text⟩) (c_law_near_text : PySem.W.codeIn K cd_law_near_text "_law_near_text" = true) (k_law_near_text : PySem.W.keepIn K (.ref f_law_near_text) = true)
    (a_law_rising : PySem.W.nsIn K mainGlobals "_law_rising" = some (some (.ref f_law_rising))) (l_law_rising : K.lookup f_law_rising = some ⟨oc_law_rising, od_law_rising, .func (PySem.W.fnOf "_law_rising" "_law_rising" (defArgs s_law_rising) (defBody s_law_rising) (defScope s_law_rising) .none kV_law_rising dc_law_rising pm_law_rising an_law_rising cd_law_rising ct_law_rising), sl_law_rising⟩) (c_law_rising : PySem.W.codeIn K cd_law_rising "_law_rising" = true) (k_law_rising : PySem.W.keepIn K (.ref f_law_rising) = true)
    (a_law_fewest : PySem.W.nsIn K mainGlobals "_law_fewest" = some (some (.ref f_law_fewest))) (l_law_fewest : K.lookup f_law_fewest = some ⟨oc_law_fewest, od_law_fewest, .func (PySem.W.fnOf "_law_fewest" "_law_fewest" (defArgs s_law_fewest) (defBody s_law_fewest) (defScope s_law_fewest) .none kV_law_fewest dc_law_fewest pm_law_fewest an_law_fewest cd_law_fewest ct_law_fewest), sl_law_fewest⟩) (c_law_fewest : PySem.W.codeIn K cd_law_fewest "_law_fewest" = true) (k_law_fewest : PySem.W.keepIn K (.ref f_law_fewest) = true)
    (a_stands_at : PySem.W.nsIn K mainGlobals "stands_at" = some (some (.ref f_stands_at))) (l_stands_at : K.lookup f_stands_at = some ⟨oc_stands_at, od_stands_at, .func (PySem.W.fnOf "stands_at" "stands_at" (defArgs s_stands_at) (defBody s_stands_at) (defScope s_stands_at) .none kV_stands_at dc_stands_at pm_stands_at an_stands_at cd_stands_at ct_stands_at), sl_stands_at⟩) (c_stands_at : PySem.W.codeIn K cd_stands_at "stands_at" = true) (k_stands_at : PySem.W.keepIn K (.ref f_stands_at) = true)
    (a_covered : PySem.W.nsIn K mainGlobals "covered" = some (some (.ref f_covered))) (l_covered : K.lookup f_covered = some ⟨oc_covered, od_covered, .func (PySem.W.fnOf "covered" "covered" (defArgs s_covered) (defBody s_covered) (defScope s_covered) .none kV_covered dc_covered pm_covered an_covered cd_covered ct_covered), sl_covered⟩) (c_covered : PySem.W.codeIn K cd_covered "covered" = true) (k_covered : PySem.W.keepIn K (.ref f_covered) = true)
    (a_law_digits : PySem.W.nsIn K mainGlobals "_law_digits" = some (some (.ref f_law_digits))) (l_law_digits : K.lookup f_law_digits = some ⟨oc_law_digits, od_law_digits, .func (PySem.W.fnOf "_law_digits" "_law_digits" (defArgs s_law_digits) (defBody s_law_digits) (defScope s_law_digits) .none kV_law_digits dc_law_digits pm_law_digits an_law_digits cd_law_digits ct_law_digits), sl_law_digits⟩) (c_law_digits : PySem.W.codeIn K cd_law_digits "_law_digits" = true) (k_law_digits : PySem.W.keepIn K (.ref f_law_digits) = true)
    (a_law_box : PySem.W.nsIn K mainGlobals "_law_box" = some (some (.ref f_law_box))) (l_law_box : K.lookup f_law_box = some ⟨oc_law_box, od_law_box, .func (PySem.W.fnOf "_law_box" "_law_box" (defArgs s_law_box) (defBody s_law_box) (defScope s_law_box) .none kV_law_box dc_law_box pm_law_box an_law_box cd_law_box ct_law_box), sl_law_box⟩) (c_law_box : PySem.W.codeIn K cd_law_box "_law_box" = true) (k_law_box : PySem.W.keepIn K (.ref f_law_box) = true)
    (a_law : PySem.W.nsIn K mainGlobals "law" = some (some (.ref f_law))) (l_law : K.lookup f_law = some ⟨oc_law, od_law, .func (PySem.W.fnOf "law" "law" (defArgs s_law) (defBody s_law) (defScope s_law) .none kV_law dc_law pm_law an_law cd_law ct_law), sl_law⟩) (c_law : PySem.W.codeIn K cd_law "law" = true) (k_law : PySem.W.keepIn K (.ref f_law) = true)
    (z_all : PySem.W.nsIn K mainGlobals "all" = some none)
    (z_any : PySem.W.nsIn K mainGlobals "any" = some none)
    (z_int : PySem.W.nsIn K mainGlobals "int" = some none)
    (z_isinstance : PySem.W.nsIn K mainGlobals "isinstance" = some none)
    (z_len : PySem.W.nsIn K mainGlobals "len" = some none)
    (z_max : PySem.W.nsIn K mainGlobals "max" = some none)
    (z_min : PySem.W.nsIn K mainGlobals "min" = some none)
    (z_range : PySem.W.nsIn K mainGlobals "range" = some none)
    (z_sorted : PySem.W.nsIn K mainGlobals "sorted" = some none)
    (z_tuple : PySem.W.nsIn K mainGlobals "tuple" = some none) :
    ∃ fd : FuncData, (∀ (s : Shared) (v : Value), BindsTo s fd ⟨[v], []⟩ [("script", v)]) ∧ ∀ base : Heap, K.In base → base.Ns mainGlobals mg → FnOk P w K mg base (L2.CX P w) 5 fa fd ["script"] (spLaw K) := by
  have e := hfa.symm.trans (PySem.W.mg_of X G a_law)
  cases e
  have F_law_take := fun_mk (st := s_law_take) l_law_take c_law_take k_law_take
  have m_law_take := PySem.W.mg_of X G a_law_take
  have b_law_take := F_law_take.binds (ps := ["box", "many"]) fun _ _ _ _ _ _ us hl => match us, hl with | [_, _], _ => rfl
  have F_law_some := fun_mk (st := s_law_some) l_law_some c_law_some k_law_some
  have m_law_some := PySem.W.mg_of X G a_law_some
  have b_law_some := F_law_some.binds (ps := ["box", "letters", "size"]) fun _ _ _ _ _ _ us hl => match us, hl with | [_, _, _], _ => rfl
  have F_law_pick := fun_mk (st := s_law_pick) l_law_pick c_law_pick k_law_pick
  have m_law_pick := PySem.W.mg_of X G a_law_pick
  have b_law_pick := F_law_pick.binds (ps := ["box", "row"]) fun _ _ _ _ _ _ us hl => match us, hl with | [_, _], _ => rfl
  have F_law_book_of := fun_mk (st := s_law_book_of) l_law_book_of c_law_book_of k_law_book_of
  have m_law_book_of := PySem.W.mg_of X G a_law_book_of
  have b_law_book_of := F_law_book_of.binds (ps := ["words"]) fun _ _ _ _ _ _ us hl => match us, hl with | [_], _ => rfl
  have F_law_book := fun_mk (st := s_law_book) l_law_book c_law_book k_law_book
  have m_law_book := PySem.W.mg_of X G a_law_book
  have b_law_book := F_law_book.binds (ps := ["box", "many", "letters", "longest"]) fun _ _ _ _ _ _ us hl => match us, hl with | [_, _, _, _], _ => rfl
  have F_law_row := fun_mk (st := s_law_row) l_law_row c_law_row k_law_row
  have m_law_row := PySem.W.mg_of X G a_law_row
  have b_law_row := F_law_row.binds (ps := ["box", "book", "many"]) fun _ _ _ _ _ _ us hl => match us, hl with | [_, _, _], _ => rfl
  have F_law_text := fun_mk (st := s_law_text) l_law_text c_law_text k_law_text
  have m_law_text := PySem.W.mg_of X G a_law_text
  have b_law_text := F_law_text.binds (ps := ["row"]) fun _ _ _ _ _ _ us hl => match us, hl with | [_], _ => rfl
  have F_law_near_text := fun_mk (st := s_law_near_text) l_law_near_text c_law_near_text k_law_near_text
  have m_law_near_text := PySem.W.mg_of X G a_law_near_text
  have b_law_near_text := F_law_near_text.binds (ps := ["box", "book", "letters", "many"]) fun _ _ _ _ _ _ us hl => match us, hl with | [_, _, _, _], _ => rfl
  have F_law_rising := fun_mk (st := s_law_rising) l_law_rising c_law_rising k_law_rising
  have m_law_rising := PySem.W.mg_of X G a_law_rising
  have b_law_rising := F_law_rising.binds (ps := ["row"]) fun _ _ _ _ _ _ us hl => match us, hl with | [_], _ => rfl
  have F_law_fewest := fun_mk (st := s_law_fewest) l_law_fewest c_law_fewest k_law_fewest
  have m_law_fewest := PySem.W.mg_of X G a_law_fewest
  have b_law_fewest := F_law_fewest.binds (ps := ["rows", "size"]) fun _ _ _ _ _ _ us hl => match us, hl with | [_, _], _ => rfl
  have F_stands_at := fun_mk (st := s_stands_at) l_stands_at c_stands_at k_stands_at
  have m_stands_at := PySem.W.mg_of X G a_stands_at
  have b_stands_at := F_stands_at.binds (ps := ["book", "text"]) fun _ _ _ _ _ _ us hl => match us, hl with | [_, _], _ => rfl
  have F_covered := fun_mk (st := s_covered) l_covered c_covered k_covered
  have m_covered := PySem.W.mg_of X G a_covered
  have b_covered := F_covered.binds (ps := ["book", "text"]) fun _ _ _ _ _ _ us hl => match us, hl with | [_, _], _ => rfl
  have F_law_digits := fun_mk (st := s_law_digits) l_law_digits c_law_digits k_law_digits
  have m_law_digits := PySem.W.mg_of X G a_law_digits
  have b_law_digits := F_law_digits.binds (ps := ["cell", "count"]) fun _ _ _ _ _ _ us hl => match us, hl with | [_, _], _ => rfl
  have F_law_box := fun_mk (st := s_law_box) l_law_box c_law_box k_law_box
  have m_law_box := PySem.W.mg_of X G a_law_box
  have b_law_box := F_law_box.binds (ps := ["script"]) fun _ _ _ _ _ _ us hl => match us, hl with | [_], _ => rfl
  have F_law := fun_mk (st := s_law) l_law c_law k_law
  have m_law := PySem.W.mg_of X G a_law
  have y_all := PySem.W.mg_none_of X G z_all
  have y_any := PySem.W.mg_none_of X G z_any
  have y_int := PySem.W.mg_none_of X G z_int
  have y_isinstance := PySem.W.mg_none_of X G z_isinstance
  have y_len := PySem.W.mg_none_of X G z_len
  have y_max := PySem.W.mg_none_of X G z_max
  have y_min := PySem.W.mg_none_of X G z_min
  have y_range := PySem.W.mg_none_of X G z_range
  have y_sorted := PySem.W.mg_none_of X G z_sorted
  have y_tuple := PySem.W.mg_none_of X G z_tuple
  refine ⟨PySem.W.fnOf "law" "law" (defArgs s_law) (defBody s_law) (defScope s_law) .none kV_law dc_law pm_law an_law cd_law ct_law, fun s v => .of_eq rfl, fun base _ _ => ?_⟩
  have ok_law_take : FnOk P w K mg base (L2.CX P w) 1 f_law_take _ ["box", "many"] (spW mg 2 φ_take) := def_ok (n := 24) (k := 0) (C := C_law_take) F_law_take sc_law_take rfl rfl (mod_of (C := C_law_take) (by decide +kernel) (all_cons ⟨y_int, by decide +kernel, by decide +kernel⟩ (all_cons ⟨y_len, by decide +kernel, by decide +kernel⟩ (all_nil))) (con_nil)) (tab_nil) h_take
  have ok_law_some : FnOk P w K mg base (L2.CX P w) 2 f_law_some _ ["box", "letters", "size"] (spW mg 3 φ_some) := def_ok (n := 24) (k := 1) (C := C_law_some) F_law_some sc_law_some rfl rfl (mod_of (C := C_law_some) (by decide +kernel) (all_cons ⟨y_len, by decide +kernel, by decide +kernel⟩ (all_cons ⟨y_range, by decide +kernel, by decide +kernel⟩ (all_nil))) (con_nil)) (tab_cons take_mono (by decide +kernel) (by decide) ok_law_take m_law_take k_law_take b_law_take (tab_nil)) h_some
  have ok_law_pick : FnOk P w K mg base (L2.CX P w) 2 f_law_pick _ ["box", "row"] (spW mg 2 φ_pick) := def_ok (n := 24) (k := 1) (C := C_law_pick) F_law_pick sc_law_pick rfl rfl (mod_of (C := C_law_pick) (by decide +kernel) (all_cons ⟨y_len, by decide +kernel, by decide +kernel⟩ (all_nil)) (con_nil)) (tab_cons take_mono (by decide +kernel) (by decide) ok_law_take m_law_take k_law_take b_law_take (tab_nil)) h_pick
  have ok_law_book_of : FnOk P w K mg base (L2.CX P w) 1 f_law_book_of _ ["words"] (spW mg 1 φ_bookof) := def_ok (n := 24) (k := 0) (C := C_law_book_of) F_law_book_of sc_law_book_of rfl rfl (mod_of (C := C_law_book_of) (by decide +kernel) (all_cons ⟨y_len, by decide +kernel, by decide +kernel⟩ (all_cons ⟨y_sorted, by decide +kernel, by decide +kernel⟩ (all_cons ⟨y_tuple, by decide +kernel, by decide +kernel⟩ (all_nil)))) (con_nil)) (tab_nil) h_bookof
  have ok_law_book : FnOk P w K mg base (L2.CX P w) 3 f_law_book _ ["box", "many", "letters", "longest"] (spW mg 4 φ_book) := def_ok (n := 24) (k := 2) (C := C_law_book) F_law_book sc_law_book rfl rfl (mod_of (C := C_law_book) (by decide +kernel) (all_cons ⟨y_len, by decide +kernel, by decide +kernel⟩ (all_cons ⟨y_max, by decide +kernel, by decide +kernel⟩ (all_cons ⟨y_range, by decide +kernel, by decide +kernel⟩ (all_nil)))) (con_nil)) (tab_cons take_mono (by decide +kernel) (by decide) ok_law_take m_law_take k_law_take b_law_take (tab_cons pick_mono (by decide +kernel) (by decide) ok_law_pick m_law_pick k_law_pick b_law_pick (tab_cons some_mono (by decide +kernel) (by decide) ok_law_some m_law_some k_law_some b_law_some (tab_cons bookof_mono (by decide +kernel) (by decide) ok_law_book_of m_law_book_of k_law_book_of b_law_book_of (tab_nil))))) h_book
  have ok_law_row : FnOk P w K mg base (L2.CX P w) 3 f_law_row _ ["box", "book", "many"] (spW mg 3 φ_row) := def_ok (n := 24) (k := 2) (C := C_law_row) F_law_row sc_law_row rfl rfl (mod_of (C := C_law_row) (by decide +kernel) (all_cons ⟨y_len, by decide +kernel, by decide +kernel⟩ (all_cons ⟨y_range, by decide +kernel, by decide +kernel⟩ (all_cons ⟨y_tuple, by decide +kernel, by decide +kernel⟩ (all_nil)))) (con_nil)) (tab_cons pick_mono (by decide +kernel) (by decide) ok_law_pick m_law_pick k_law_pick b_law_pick (tab_nil)) h_row
  have ok_law_text : FnOk P w K mg base (L2.CX P w) 1 f_law_text _ ["row"] (spW mg 1 φ_text) := def_ok (n := 24) (k := 0) (C := C_law_text) F_law_text sc_law_text rfl rfl (mod_of (C := C_law_text) (by decide +kernel) (all_nil) (con_nil)) (tab_nil) h_text
  have ok_law_near_text : FnOk P w K mg base (L2.CX P w) 4 f_law_near_text _ ["box", "book", "letters", "many"] (spW mg 4 φ_near) := def_ok (n := 24) (k := 3) (C := C_law_near_text) F_law_near_text sc_law_near_text rfl rfl (mod_of (C := C_law_near_text) (by decide +kernel) (all_cons ⟨y_len, by decide +kernel, by decide +kernel⟩ (all_nil)) (con_nil)) (tab_cons take_mono (by decide +kernel) (by decide) ok_law_take m_law_take k_law_take b_law_take (tab_cons some_mono (by decide +kernel) (by decide) ok_law_some m_law_some k_law_some b_law_some (tab_cons row_mono (by decide +kernel) (by decide) ok_law_row m_law_row k_law_row b_law_row (tab_cons text_mono (by decide +kernel) (by decide) ok_law_text m_law_text k_law_text b_law_text (tab_nil))))) h_near
  have ok_law_rising : FnOk P w K mg base (L2.CX P w) 1 f_law_rising _ ["row"] (spW mg 1 φ_rising) := def_ok (n := 24) (k := 0) (C := C_law_rising) F_law_rising sc_law_rising rfl rfl (mod_of (C := C_law_rising) (by decide +kernel) (all_cons ⟨y_all, by decide +kernel, by decide +kernel⟩ (all_cons ⟨y_len, by decide +kernel, by decide +kernel⟩ (all_cons ⟨y_range, by decide +kernel, by decide +kernel⟩ (all_nil)))) (con_nil)) (tab_nil) h_rising
  have ok_law_fewest : FnOk P w K mg base (L2.CX P w) 1 f_law_fewest _ ["rows", "size"] (spW mg 2 φ_fewest) := def_ok (n := 24) (k := 0) (C := C_law_fewest) F_law_fewest sc_law_fewest rfl rfl (mod_of (C := C_law_fewest) (by decide +kernel) (all_cons ⟨y_len, by decide +kernel, by decide +kernel⟩ (all_cons ⟨y_min, by decide +kernel, by decide +kernel⟩ (all_cons ⟨y_range, by decide +kernel, by decide +kernel⟩ (all_nil)))) (con_nil)) (tab_nil) h_fewest
  have ok_stands_at : FnOk P w K mg base (L2.CX P w) 1 f_stands_at _ ["book", "text"] (spW mg 2 φ_stands) := def_ok (n := 24) (k := 0) (C := C_stands_at) F_stands_at sc_stands_at rfl rfl (mod_of (C := C_stands_at) (by decide +kernel) (all_cons ⟨y_len, by decide +kernel, by decide +kernel⟩ (all_cons ⟨y_range, by decide +kernel, by decide +kernel⟩ (all_cons ⟨y_tuple, by decide +kernel, by decide +kernel⟩ (all_nil)))) (con_nil)) (tab_nil) h_stands
  have ok_covered : FnOk P w K mg base (L2.CX P w) 2 f_covered _ ["book", "text"] (spW mg 2 φ_covered) := def_ok (n := 24) (k := 1) (C := C_covered) F_covered sc_covered rfl rfl (mod_of (C := C_covered) (by decide +kernel) (all_cons ⟨y_len, by decide +kernel, by decide +kernel⟩ (all_cons ⟨y_max, by decide +kernel, by decide +kernel⟩ (all_cons ⟨y_tuple, by decide +kernel, by decide +kernel⟩ (all_nil)))) (con_nil)) (tab_cons stands_mono (by decide +kernel) (by decide) ok_stands_at m_stands_at k_stands_at b_stands_at (tab_nil)) h_covered
  have ok_law_digits : FnOk P w K mg base (L2.CX P w) 1 f_law_digits _ ["cell", "count"] (spW mg 2 φ_digits) := def_ok (n := 24) (k := 0) (C := C_law_digits) F_law_digits sc_law_digits rfl rfl (mod_of (C := C_law_digits) (by decide +kernel) (all_cons ⟨y_int, by decide +kernel, by decide +kernel⟩ (all_cons ⟨y_range, by decide +kernel, by decide +kernel⟩ (all_nil))) (con_nil)) (tab_nil) h_digits
  have ok_law_box : FnOk P w K mg base (L2.CX P w) 2 f_law_box _ ["script"] (spBox K) := box_ok (n := 24) (k := 1) (C := C_law_box) F_law_box sc_law_box rfl rfl (mod_of (C := C_law_box) (by decide +kernel) (all_cons ⟨y_len, by decide +kernel, by decide +kernel⟩ (all_nil)) (con_nil)) (tab_cons digits_mono (by decide +kernel) (by decide) ok_law_digits m_law_digits k_law_digits b_law_digits (tab_nil)) rfl (by decide +kernel) (by decide +kernel) (by decide +kernel) box_b (fun Q h => by rw [box_1]; exact h) box_t box_h2 box_h3 (fun l s Q h => by rw [box_4]; exact ⟨⟨by decide, by decide⟩, h⟩) (fun l s Q h => by rw [box_5]; exact h) (fun l s Q h => by rw [box_6]; exact ⟨⟨by decide, by decide⟩, h⟩) (fun l s Q h => by rw [box_7]; exact h)
  exact law_ok (n := 24) (k := 4) (C := C_law) (rest := (defBody s_law).drop 1) F_law sc_law rfl rfl (mod_of (C := C_law) (by decide +kernel) (all_cons ⟨y_all, by decide +kernel, by decide +kernel⟩ (all_cons ⟨y_any, by decide +kernel, by decide +kernel⟩ (all_cons ⟨y_isinstance, by decide +kernel, by decide +kernel⟩ (all_cons ⟨y_len, by decide +kernel, by decide +kernel⟩ (all_cons ⟨y_range, by decide +kernel, by decide +kernel⟩ (all_cons ⟨y_tuple, by decide +kernel, by decide +kernel⟩ (all_nil))))))) (con_nil)) (tab_cons take_mono (by decide +kernel) (by decide) ok_law_take m_law_take k_law_take b_law_take (tab_cons some_mono (by decide +kernel) (by decide) ok_law_some m_law_some k_law_some b_law_some (tab_cons book_mono (by decide +kernel) (by decide) ok_law_book m_law_book k_law_book b_law_book (tab_cons near_mono (by decide +kernel) (by decide) ok_law_near_text m_law_near_text k_law_near_text b_law_near_text (tab_cons rising_mono (by decide +kernel) (by decide) ok_law_rising m_law_rising k_law_rising b_law_rising (tab_cons fewest_mono (by decide +kernel) (by decide) ok_law_fewest m_law_fewest k_law_fewest b_law_fewest (tab_cons stands_mono (by decide +kernel) (by decide) ok_stands_at m_stands_at k_stands_at b_stands_at (tab_cons covered_mono (by decide +kernel) (by decide) ok_covered m_covered k_covered b_covered (tab_nil))))))))) rfl (by decide +kernel) (by decide +kernel) (by decide +kernel) ok_law_box (by decide) m_law_box k_law_box b_law_box law_b (fun ms h1 h2 => h_law ms ⟨h1, h2⟩)
end Py.K33
open PySem PySem.W PyProof.Rows
set_option maxHeartbeats 0 in
theorem PySem.Challenge.cw_runonwords_k33_words_in_texts_holds : PySem.Challenge.rw_runonwords_k33_words_in_texts.Holds := by
  w_on; o_law; k_head; (case hw => w_witness2)
  k_fill
  refine Py.walk (l := PySem.Challenge.rw_runonwords_k33_words_in_texts) (k := 5) rfl rfl ⟨rfl, by decide, by decide⟩ (fun w h Y => PySem.W.kIn_of Y) ?F
  case F =>
    intro w mg fa h KX G hmg
    refine' Py.K33.all_mk KX G hmg ?a_law_take ?l_law_take ?c_law_take ?k_law_take ?a_law_some ?l_law_some ?c_law_some ?k_law_some ?a_law_pick ?l_law_pick ?c_law_pick ?k_law_pick ?a_law_book_of ?l_law_book_of ?c_law_book_of ?k_law_book_of ?a_law_book ?l_law_book ?c_law_book ?k_law_book ?a_law_row ?l_law_row ?c_law_row ?k_law_row ?a_law_text ?l_law_text ?c_law_text ?k_law_text ?a_law_near_text ?l_law_near_text ?c_law_near_text ?k_law_near_text ?a_law_rising ?l_law_rising ?c_law_rising ?k_law_rising ?a_law_fewest ?l_law_fewest ?c_law_fewest ?k_law_fewest ?a_stands_at ?l_stands_at ?c_stands_at ?k_stands_at ?a_covered ?l_covered ?c_covered ?k_covered ?a_law_digits ?l_law_digits ?c_law_digits ?k_law_digits ?a_law_box ?l_law_box ?c_law_box ?k_law_box ?a_law ?l_law ?c_law ?k_law ?z_all ?z_any ?z_int ?z_isinstance ?z_len ?z_max ?z_min ?z_range ?z_sorted ?z_tuple
    (case a_law_take => k_is); (case l_law_take => k_is); (case c_law_take => k_is); (case k_law_take => k_is); (case a_law_some => k_is); (case l_law_some => k_is); (case c_law_some => k_is); (case k_law_some => k_is); (case a_law_pick => k_is); (case l_law_pick => k_is); (case c_law_pick => k_is); (case k_law_pick => k_is); (case a_law_book_of => k_is); (case l_law_book_of => k_is); (case c_law_book_of => k_is); (case k_law_book_of => k_is); (case a_law_book => k_is); (case l_law_book => k_is); (case c_law_book => k_is); (case k_law_book => k_is); (case a_law_row => k_is); (case l_law_row => k_is); (case c_law_row => k_is); (case k_law_row => k_is); (case a_law_text => k_is); (case l_law_text => k_is); (case c_law_text => k_is); (case k_law_text => k_is); (case a_law_near_text => k_is); (case l_law_near_text => k_is); (case c_law_near_text => k_is); (case k_law_near_text => k_is); (case a_law_rising => k_is); (case l_law_rising => k_is); (case c_law_rising => k_is); (case k_law_rising => k_is); (case a_law_fewest => k_is); (case l_law_fewest => k_is); (case c_law_fewest => k_is); (case k_law_fewest => k_is); (case a_stands_at => k_is); (case l_stands_at => k_is); (case c_stands_at => k_is); (case k_stands_at => k_is); (case a_covered => k_is); (case l_covered => k_is); (case c_covered => k_is); (case k_covered => k_is); (case a_law_digits => k_is); (case l_law_digits => k_is); (case c_law_digits => k_is); (case k_law_digits => k_is); (case a_law_box => k_is); (case l_law_box => k_is); (case c_law_box => k_is); (case k_law_box => k_is); (case a_law => k_is); (case l_law => k_is); (case c_law => k_is); (case k_law => k_is); (case z_all => k_is); (case z_any => k_is); (case z_int => k_is); (case z_isinstance => k_is); (case z_len => k_is); (case z_max => k_is); (case z_min => k_is); (case z_range => k_is); (case z_sorted => k_is); (case z_tuple => k_is)
