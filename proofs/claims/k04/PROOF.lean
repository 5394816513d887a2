import PyProof.Rows.All
import Wide.All
import OpenK.AllK
import Wide.FinOn
import HandS.ForMost
import KE.IntTextLaws
import HandS.Exc
import HandS.ExcOwn
import HandS.ExcInit
import HandS.ExcField
import HandS.TryOnly
import HandS.TryMany
import HandS.WordsExc
import HandS.IsInst
import HandS.Flow
import HandS.Walk
import HandS.Wide
import HandS.Deep
import HandS.Zip
import HandS.ListItems
import HandS.Style
import HandS.Lambda
import HandS.Defaults
import HandS.HeadHook4
import HandS.HeadWalk
import HandS.Codes
import PyProof.ReprRoads
import PySem.Challenge.RW_partswithin_k04_whole_picture_texts
import HandS.Evl
import PyProof.ReprLen
import KE.GoesMore
import KE.GoesEnum
import KE.KStateDown
import HandS.Head0
import HandS.Head1
import HandS.Head2
import HandS.HeadEnd
set_option Elab.async false
set_option linter.all false
set_option maxRecDepth 100000
namespace Pw
open PySem TL
/-! ## The plain law: lines read sign by sign, as lists of codes -/
def figAt (t : List Nat) (p : Nat) : Bool := match t[p]? with
  | some c => decide (48 ≤ c ∧ c ≤ 57)
  | none => false
/-- one more figure is taken behind j of them that begin at b -/
def goOn (t : List Nat) (b j : Nat) : Bool := decide (j < 16) && figAt t (b + j) && (decide (j = 0) || !decide (t[b]? = some 48))
def numFrom (t : List Nat) (b : Nat) : Nat → Nat → Nat
  | 0, j => j
  | f + 1, j => if goOn t b j = true then numFrom t b f (j + 1) else j
def numLen (t : List Nat) (b : Nat) : Nat := numFrom t b 16 0
theorem numFrom_go {t : List Nat} {b j : Nat} (hj : j ≤ 16) (h : goOn t b j = true) : j < 16 ∧ numFrom t b (16 - j) j = numFrom t b (16 - (j + 1)) (j + 1) := by
  have h1 : j < 16 := by
    unfold goOn at h
    simp only [Bool.and_eq_true, decide_eq_true_eq] at h
    exact h.1.1
  refine ⟨h1, ?_⟩
  obtain ⟨f, hf⟩ : ∃ f, 16 - j = f + 1 := ⟨15 - j, by omega⟩
  have hf2 : 16 - (j + 1) = f := by omega
  rw [hf, hf2]
  show (if goOn t b j = true then numFrom t b f (j + 1) else j) = _
  rw [if_pos h]
theorem numFrom_stop {t : List Nat} {b j : Nat} (hj : j ≤ 16) (h : goOn t b j = false) : numFrom t b (16 - j) j = j := by
  cases hk : 16 - j with
  | zero => rfl
  | succ f =>
    show (if goOn t b j = true then numFrom t b f (j + 1) else j) = _
    rw [h]
    rfl
theorem numFrom_figs {t : List Nat} {b : Nat} : ∀ (f j : Nat), (∀ i, i < j → figAt t (b + i) = true) → ∀ i, i < numFrom t b f j → figAt t (b + i) = true
  | 0, j, h => h
  | f + 1, j, h => by
    intro i hi
    have hi2 : i < (if goOn t b j = true then numFrom t b f (j + 1) else j) := hi
    cases g : goOn t b j with
    | false =>
      rw [g] at hi2
      exact h i hi2
    | true =>
      rw [g] at hi2
      refine numFrom_figs f (j + 1) (fun k hk => ?_) i hi2
      by_cases e : k = j
      · rw [e]
        unfold goOn at g
        simp only [Bool.and_eq_true] at g
        exact g.1.2
      · exact h k (by omega)
theorem numFrom_le {t : List Nat} {b : Nat} : ∀ (f j : Nat), numFrom t b f j ≤ j + f
  | 0, j => Nat.le_refl _
  | f + 1, j => by
    show (if goOn t b j = true then numFrom t b f (j + 1) else j) ≤ _
    split
    · have := numFrom_le (t := t) (b := b) f (j + 1)
      omega
    · omega
theorem numLen_figs {t : List Nat} {b i : Nat} (h : i < numLen t b) : figAt t (b + i) = true := numFrom_figs 16 0 (fun i hi => absurd hi (Nat.not_lt_zero _)) i h
theorem numLen_le (t : List Nat) (b : Nat) : numLen t b ≤ 16 := by
  have := numFrom_le (t := t) (b := b) 16 0
  unfold numLen
  omega
theorem figAt_lt {t : List Nat} {p : Nat} (h : figAt t p = true) : p < t.length := by
  unfold figAt at h
  cases e : t[p]? with
  | none => rw [e] at h; cases h
  | some c => exact (List.getElem?_eq_some_iff.mp e).1
theorem numLen_end (t : List Nat) (b : Nat) (hb : b ≤ t.length) : b + numLen t b ≤ t.length := by
  cases h : numLen t b with
  | zero => omega
  | succ n =>
    have := figAt_lt (numLen_figs (t := t) (b := b) (i := n) (by omega))
    omega
/-- an integer's end, and whether it stands -/
def intE (t : List Nat) (h : Nat) : Nat × Bool :=
  if t[h]? = some 45 then (if t[h + 1]? = some 48 then (h + 1, false) else (h + 1 + numLen t (h + 1), decide (0 < numLen t (h + 1))))
  else (h + numLen t h, decide (0 < numLen t h))
def seg (t : List Nat) (a b : Nat) : List Nat := (t.drop a).take (b - a)
def valE (t : List Nat) (h p : Nat) : Int := (intText? ⟨(seg t h p).toArray⟩).getD 0
theorem seg_figs {t : List Nat} {b n : Nat} (h : ∀ i, i < n → figAt t (b + i) = true) : NumText.AllDigits (seg t b (b + n)) ∧ (seg t b (b + n)).length = n := by
  have hl : b + n ≤ t.length ∨ n = 0 := by
    cases n with
    | zero => exact .inr rfl
    | succ n => exact .inl (by have := figAt_lt (h n (by omega)); omega)
  have e : b + n - b = n := by omega
  constructor
  · intro c hc
    unfold seg at hc
    rw [e] at hc
    obtain ⟨i, hi, rfl⟩ := List.mem_iff_getElem.mp hc
    rw [List.length_take, List.length_drop] at hi
    rw [List.getElem_take, List.getElem_drop]
    have g := h i (by omega)
    unfold figAt at g
    rw [List.getElem?_eq_getElem (by omega)] at g
    exact of_decide_eq_true g
  · unfold seg
    rw [e, List.length_take, List.length_drop]
    omega
theorem seg_minus {t : List Nat} {h n : Nat} (h45 : t[h]? = some 45) : seg t h (h + 1 + n) = 45 :: seg t (h + 1) (h + 1 + n) := by
  obtain ⟨hl, e⟩ := List.getElem?_eq_some_iff.mp h45
  unfold seg
  rw [List.drop_eq_getElem_cons hl, e, show h + 1 + n - h = n + 1 by omega, show h + 1 + n - (h + 1) = n by omega, List.take_succ_cons]
theorem intE_text {t : List Nat} {h : Nat} (ok : (intE t h).2 = true) : ∃ n, intText? ⟨(seg t h (intE t h).1).toArray⟩ = some n ∧ (seg t h (intE t h).1).length ≤ 17 := by
  unfold intE at ok ⊢
  split at ok <;> rename_i h1
  · split at ok <;> rename_i h2
    · cases ok
    · rw [if_pos h1, if_neg h2]
      have hn : 0 < numLen t (h + 1) := of_decide_eq_true ok
      have hm := numLen_le t (h + 1)
      obtain ⟨s1, s2⟩ := seg_figs (t := t) (b := h + 1) (n := numLen t (h + 1)) (fun i hi => numLen_figs hi)
      have e := seg_minus (n := numLen t (h + 1)) h1
      refine ⟨_, intText_neg (cs := seg t (h + 1) (h + 1 + numLen t (h + 1))) (x := ⟨(seg t h (h + 1 + numLen t (h + 1))).toArray⟩) ?_ s1 ?_ ?_, ?_⟩
      · show seg t h (h + 1 + numLen t (h + 1)) = _
        rw [e]
      · intro z
        rw [z] at s2
        have s3 : 0 = numLen t (h + 1) := s2
        omega
      · rw [len_tl]
        show (seg t h (h + 1 + numLen t (h + 1))).length ≤ 4300
        rw [e, List.length_cons, s2]
        omega
      · show (seg t h (h + 1 + numLen t (h + 1))).length ≤ 17
        rw [e, List.length_cons, s2]
        omega
  · rw [if_neg h1]
    have hn : 0 < numLen t h := of_decide_eq_true ok
    have hm := numLen_le t h
    obtain ⟨s1, s2⟩ := seg_figs (t := t) (b := h) (n := numLen t h) (fun i hi => numLen_figs hi)
    refine ⟨_, intText_digits (x := ⟨(seg t h (h + numLen t h)).toArray⟩) s1 ?_ ?_, ?_⟩
    · show seg t h (h + numLen t h) ≠ []
      intro z
      rw [z] at s2
      have s3 : 0 = numLen t h := s2
      omega
    · rw [len_tl]
      show (seg t h (h + numLen t h)).length ≤ 4300
      rw [s2]
      omega
    · show (seg t h (h + numLen t h)).length ≤ 17
      rw [s2]
      omega
theorem intE_val {t : List Nat} {h : Nat} (ok : (intE t h).2 = true) : intText? ⟨(seg t h (intE t h).1).toArray⟩ = some (valE t h (intE t h).1) := by
  obtain ⟨n, e, _⟩ := intE_text ok
  unfold valE
  rw [e]
  rfl
theorem intE_lt {t : List Nat} {h : Nat} (ok : (intE t h).2 = true) : h < (intE t h).1 ∧ (intE t h).1 ≤ t.length := by
  unfold intE at ok ⊢
  split at ok <;> rename_i h1
  · have hl := (List.getElem?_eq_some_iff.mp h1).1
    split at ok <;> rename_i h2
    · cases ok
    · rw [if_pos h1, if_neg h2]
      have hn : 0 < numLen t (h + 1) := of_decide_eq_true ok
      have := numLen_end t (h + 1) (by omega)
      exact ⟨by show h < h + 1 + _; omega, by show h + 1 + _ ≤ _; omega⟩
  · rw [if_neg h1]
    have hn : 0 < numLen t h := of_decide_eq_true ok
    have hl := figAt_lt (numLen_figs (t := t) (b := h) (i := 0) hn)
    have := numLen_end t h (by omega)
    exact ⟨by show h < h + _; omega, by show h + _ ≤ _; omega⟩
theorem intE_le {t : List Nat} {h : Nat} (hl : h ≤ t.length) : h ≤ (intE t h).1 ∧ (intE t h).1 ≤ t.length := by
  unfold intE
  split <;> rename_i h1
  · have hl := (List.getElem?_eq_some_iff.mp h1).1
    split <;> rename_i h2
    · exact ⟨by show h ≤ h + 1; omega, by show h + 1 ≤ _; omega⟩
    · have := numLen_end t (h + 1) (by omega)
      exact ⟨by show h ≤ h + 1 + _; omega, by show h + 1 + _ ≤ _; omega⟩
  · have := numLen_end t h hl
    exact ⟨by show h ≤ h + _; omega, by show h + _ ≤ _; omega⟩
/-! ### a row -/
/-- one more shade is due behind k of them -/
def moreE (t : List Nat) (many k p : Nat) : Bool := if 0 < many then decide (k < many) else decide (t[p]? = some 32)
/-- from an integer on: where it ends, whether all stood, the shades -/
def rowE (t : List Nat) (many : Nat) : Nat → List Int → Nat → Nat × Bool × List Int
  | 0, acc, h => (h, false, acc)
  | f + 1, acc, h =>
    if (intE t h).2 = true then
      (if moreE t many (acc.length + 1) (intE t h).1 = true then
        (if t[(intE t h).1]? = some 32 then rowE t many f (acc ++ [valE t h (intE t h).1]) ((intE t h).1 + 1) else ((intE t h).1, false, acc))
      else if t[(intE t h).1]? = some 10 then ((intE t h).1 + 1, true, acc ++ [valE t h (intE t h).1]) else ((intE t h).1, false, acc))
    else ((intE t h).1, false, acc)
/-- behind an integer that stood -/
def contE (t : List Nat) (many f : Nat) (acc : List Int) (p : Nat) : Nat × Bool × List Int :=
  if moreE t many acc.length p = true then (if t[p]? = some 32 then rowE t many f acc (p + 1) else (p, false, acc))
  else if t[p]? = some 10 then (p + 1, true, acc) else (p, false, acc)
theorem rowE_ok {t : List Nat} {many f h : Nat} {acc : List Int} (ok : (intE t h).2 = true) :
    (rowE t many (f + 1) acc h).1 = (contE t many f (acc ++ [valE t h (intE t h).1]) (intE t h).1).1 ∧ (rowE t many (f + 1) acc h).2.1 = (contE t many f (acc ++ [valE t h (intE t h).1]) (intE t h).1).2.1 ∧
      ((rowE t many (f + 1) acc h).2.1 = true → (rowE t many (f + 1) acc h).2.2 = (contE t many f (acc ++ [valE t h (intE t h).1]) (intE t h).1).2.2) := by
  have el : (acc ++ [valE t h (intE t h).1]).length = acc.length + 1 := by simp
  unfold contE
  rw [el, rowE, if_pos ok]
  split
  · split
    · exact ⟨rfl, rfl, fun _ => rfl⟩
    · exact ⟨rfl, rfl, fun z => nomatch z⟩
  · split
    · exact ⟨rfl, rfl, fun _ => rfl⟩
    · exact ⟨rfl, rfl, fun z => nomatch z⟩
theorem rowE_no {t : List Nat} {many f h : Nat} {acc : List Int} (ok : (intE t h).2 = false) : rowE t many (f + 1) acc h = ((intE t h).1, false, acc) := by
  rw [rowE, if_neg (by rw [ok]; exact Bool.false_ne_true)]
/-- a row of a picture of so many columns (0: any) -/
def row1 (t : List Nat) (many : Nat) : Nat × Bool × List Int := rowE t many (t.length + 1) [] 0
theorem rowE_many {t : List Nat} {many : Nat} (hm : 0 < many) : ∀ (f : Nat) (acc : List Int) (h : Nat), acc.length < many → (rowE t many f acc h).2.1 = true → (rowE t many f acc h).2.2.length = many
  | 0, acc, h, _, z => by cases z
  | f + 1, acc, h, hl, z => by
    rw [rowE] at z ⊢
    split at z <;> rename_i h1
    · rw [if_pos h1]
      split at z <;> rename_i h2
      · rw [if_pos h2]
        split at z <;> rename_i h3
        · rw [if_pos h3]
          refine rowE_many hm f _ _ ?_ z
          unfold moreE at h2
          rw [if_pos hm] at h2
          have := of_decide_eq_true h2
          rw [List.length_append, List.length_singleton]
          exact this
        · cases z
      · rw [if_neg h2]
        split at z <;> rename_i h3
        · rw [if_pos h3]
          unfold moreE at h2
          rw [if_pos hm, decide_eq_true_eq] at h2
          show (acc ++ [_]).length = many
          rw [List.length_append, List.length_singleton]
          omega
        · cases z
    · cases z
theorem rowE_pos {t : List Nat} {many : Nat} : ∀ (f : Nat) (acc : List Int) (h : Nat), (rowE t many f acc h).2.1 = true → acc.length < (rowE t many f acc h).2.2.length
  | 0, acc, h, z => by cases z
  | f + 1, acc, h, z => by
    rw [rowE] at z ⊢
    split at z <;> rename_i h1
    · rw [if_pos h1]
      split at z <;> rename_i h2
      · rw [if_pos h2]
        split at z <;> rename_i h3
        · rw [if_pos h3]
          have := rowE_pos f _ _ z
          rw [List.length_append, List.length_singleton] at this
          omega
        · cases z
      · rw [if_neg h2]
        split at z <;> rename_i h3
        · rw [if_pos h3]
          show acc.length < (acc ++ [_]).length
          rw [List.length_append, List.length_singleton]
          omega
        · cases z
    · cases z
/-! ### all rows -/
/-- the first wrong place, and the rows -/
def rowsE : List (List Nat) → Nat → Nat → Option (Nat × Nat) × List (List Int)
  | [], _, _ => (none, [])
  | t :: r, i, many =>
    if (row1 t many).2.1 = true then ((rowsE r (i + 1) (row1 t many).2.2.length).1, (row1 t many).2.2 :: (rowsE r (i + 1) (row1 t many).2.2.length).2)
    else (some (i + 1, (row1 t many).1 + 1), [])
/-! ### lines -/
def linesL (l : List Nat) : List (List Nat) := (spl [10] 0 [] l).dropLast.map (· ++ [10]) ++ (if (spl [10] 0 [] l).getLastD [] ≠ [] then [(spl [10] 0 [] l).getLastD []] else [])
def faultL (l : List Nat) : Option (Nat × Nat) := (rowsE (linesL l) 0 0).1
def rowsL (l : List Nat) : List (List Int) := (rowsE (linesL l) 0 0).2
theorem linesL_ne {l t : List Nat} (h : t ∈ linesL l) : t ≠ [] := by
  unfold linesL at h
  rcases List.mem_append.mp h with h | h
  · obtain ⟨u, _, rfl⟩ := List.mem_map.mp h
    simp
  · split at h
    · rename_i hne
      rw [List.mem_singleton.mp h]
      exact hne
    · cases h
end Pw
set_option Elab.async false
set_option linter.all false
set_option maxRecDepth 100000
namespace Pw
open PySem PySem.Spec PyProof.Rows L2
/-! ## The text -/
def top (i : Nat) : Stmt := PySem.Challenge.pw_partswithin_k04_whole_picture_texts.main.body.getD i (.Pass ⟨0, 0, 0, 0⟩)
/-! ## A def that keeps a promise, by its name -/
/-- the def of the module's name x is the statement st -/
structure Df (K : PySem.W.Frag) (mg : Str → Option Value) (x : Str) (st : Stmt) : Prop where
  fn : ∃ fd, FunD K x x (defArgs st) (defBody st) (defScope st) [] [] (He.ga K x) fd
  gl : mg x = some (.ref (He.ga K x))
/-- the method m of the class x -/
structure Dm (K : PySem.W.Frag) (x m q : Str) (st : Stmt) : Prop where
  fn : ∃ fd, FunD K m q (defArgs st) (defBody st) (defScope st) [] [] (He.ma K (He.ga K x) m) fd
  mt : Meth K (He.ga K x) m (He.ma K (He.ga K x) m)
structure Pr (P : Program) (w : World) (K : PySem.W.Frag) (mg : Str → Option Value) (base : Heap) (CX : CXT) (k : Nat) (x : Str) (ps : List Str) (sp : Sp) : Prop where
  ok : ∃ fd, FnOk P w K mg base CX k (He.ga K x) fd ps sp ∧ Binds K fd ps []
  kp : PySem.W.keepIn K (.ref (He.ga K x)) = true
  gl : mg x = some (.ref (He.ga K x))
structure Pm (P : Program) (w : World) (K : PySem.W.Frag) (mg : Str → Option Value) (base : Heap) (CX : CXT) (k : Nat) (x m : Str) (ps : List Str) (sp : Sp) : Prop where
  ok : ∃ fd, FnOk P w K mg base CX k (He.ma K (He.ga K x) m) fd ps sp ∧ Binds K fd ps []
  mt : Meth K (He.ga K x) m (He.ma K (He.ga K x) m)
/-- .. of one parameter y, which may be named in a call -/
structure Pk (P : Program) (w : World) (K : PySem.W.Frag) (mg : Str → Option Value) (base : Heap) (CX : CXT) (k : Nat) (x y : Str) (sp : Sp) : Prop where
  ok : ∃ fd, FnOk P w K mg base CX k (He.ga K x) fd [y] sp ∧ Binds K fd [y] [] ∧ KBinds K fd [y] [y] (fun us ws => us ++ ws) (fun vs zs => vs ++ zs)
  kp : PySem.W.keepIn K (.ref (He.ga K x)) = true
  gl : mg x = some (.ref (He.ga K x))
abbrev BindsK (x : Str) (st : Stmt) (y : Str) : Prop := ∀ (kV doc pm : Value) (an : Option Addr) (cdv ct u : Value),
  bindArgs (PySem.W.fnOf x x (defArgs st) (defBody st) (defScope st) .none kV doc pm an cdv ct) ⟨[], [(y, u)]⟩ = pure [(y, u)]
abbrev BindsF (x qual : Str) (st : Stmt) (ps : List Str) : Prop := ∀ (kV doc pm : Value) (an : Option Addr) (cdv ct : Value) (us : List Value), us.length = ps.length →
  bindArgs (PySem.W.fnOf x qual (defArgs st) (defBody st) (defScope st) .none kV doc pm an cdv ct) ⟨us, []⟩ = pure (ps.zip us)
section
variable {P : Program} {w : World} {K : PySem.W.Frag} {mg : Str → Option Value} {base : Heap}
theorem Pr.of0 {x : Str} {st : Stmt} {N ps : List Str} {k : Nat} {sp : Sp} (D : Df K mg x st) (S : FnScope N ps (defScope st)) (hb : BindsF x x st ps) (len : ∀ vs H Q E, sp vs H Q E → vs.length = ps.length)
    (body : ∀ (cdv : Value) (A : Around) (outer : List Env) (s : Shared) (H : Hp) (vs : List V) (Q : VK) (E : XK), Room k (A.deeper (envOfC x (defScope st) s.heap.objs.size (He.ga K x) cdv)) → sp vs H Q E →
      ∃ t, PSs (cxOf CX0 P w K mg base N x (defScope st) (He.ga K x) cdv A outer s H E).nox (defBody st) t ∧ t { nx := fun _ H' => Q .non H', rt := Q } (start N vs) H) :
    Pr P w K mg base CX0 (k + 1) x ps sp := by
  obtain ⟨fd, F⟩ := D.fn
  refine ⟨⟨fd, F.ok S len fun cdv A outer s H vs Q E hr h => ?_, F.bindsN hb⟩, F.kp, D.gl⟩
  obtain ⟨t, h1, h2⟩ := body cdv A outer s H vs Q E hr h
  exact ⟨t, h1.nox, h2⟩
/-- .. of one that may raise -/
theorem Pr.ofX {x : Str} {st : Stmt} {N ps : List Str} {k : Nat} {sp : Sp} (D : Df K mg x st) (S : FnScope N ps (defScope st)) (hb : BindsF x x st ps) (len : ∀ vs H Q E, sp vs H Q E → vs.length = ps.length)
    (body : ∀ (cdv : Value) (A : Around) (outer : List Env) (s : Shared) (H : Hp) (vs : List V) (Q : VK) (E : XK), Room k (A.deeper (envOfC x (defScope st) s.heap.objs.size (He.ga K x) cdv)) → sp vs H Q E →
      ∃ t, PSs (cxOf (L2.CX P w) P w K mg base N x (defScope st) (He.ga K x) cdv A outer s H E) (defBody st) t ∧ t { nx := fun _ H' => Q .non H', rt := Q } (start N vs) H) :
    Pr P w K mg base (L2.CX P w) (k + 1) x ps sp := by
  obtain ⟨fd, F⟩ := D.fn
  exact ⟨⟨fd, F.ok S len body, F.bindsN hb⟩, F.kp, D.gl⟩
theorem Pm.of0 {x m q : Str} {st : Stmt} {N ps : List Str} {k : Nat} {sp : Sp} (D : Dm K x m q st) (S : FnScope N ps (defScope st)) (hb : BindsF m q st ps) (len : ∀ vs H Q E, sp vs H Q E → vs.length = ps.length)
    (body : ∀ (cdv : Value) (A : Around) (outer : List Env) (s : Shared) (H : Hp) (vs : List V) (Q : VK) (E : XK), Room k (A.deeper (envOfC q (defScope st) s.heap.objs.size (He.ma K (He.ga K x) m) cdv)) → sp vs H Q E →
      ∃ t, PSs (cxOf CX0 P w K mg base N q (defScope st) (He.ma K (He.ga K x) m) cdv A outer s H E).nox (defBody st) t ∧ t { nx := fun _ H' => Q .non H', rt := Q } (start N vs) H) :
    Pm P w K mg base CX0 (k + 1) x m ps sp := by
  obtain ⟨fd, F⟩ := D.fn
  refine ⟨⟨fd, F.ok S len fun cdv A outer s H vs Q E hr h => ?_, F.bindsN hb⟩, D.mt⟩
  obtain ⟨t, h1, h2⟩ := body cdv A outer s H vs Q E hr h
  exact ⟨t, h1.nox, h2⟩
theorem kbinds_of {x y : Str} {st : Stmt} {fd : FuncData} (hb : BindsF x x st [y]) (kb : BindsK x st y) (F : FunD K x x (defArgs st) (defBody st) (defScope st) [] [] (He.ga K x) fd) :
    KBinds K fd [y] [y] (fun us ws => us ++ ws) (fun vs zs => vs ++ zs) := by
  obtain ⟨oc, od, dV, kV, doc, pm, an, cdv, ct, osl, rfl, lk, hcd, hD, hK⟩ := F.ex
  have e : dV = .none := by
    rcases hD with ⟨_, e⟩ | ⟨e, _⟩
    · exact e
    · exact absurd rfl e
  subst e
  refine ⟨fun s us ws X hl => ?_, fun r1 r2 => r1.append r2⟩
  have h1 := hb kV doc pm an cdv ct
  have h2 := kb kV doc pm an cdv ct
  generalize PySem.W.fnOf x x (defArgs st) (defBody st) (defScope st) .none kV doc pm an cdv ct = fd at h1 h2 ⊢
  cases us with
  | nil =>
    cases ws with
    | nil => cases hl
    | cons u ws =>
      cases ws with
      | nil => exact .of_eq (h2 u)
      | cons u2 ws => simp at hl
  | cons u us =>
    have e1 : us = [] := by
      cases us with
      | nil => rfl
      | cons _ _ => simp at hl
    have e2 : ws = [] := by
      cases ws with
      | nil => rfl
      | cons _ _ => simp at hl
    subst e1 e2
    exact .of_eq (h1 [u] rfl)
theorem Pk.of {CX : CXT} {x y : Str} {st : Stmt} {k : Nat} {sp : Sp} (D : Df K mg x st) (hb : BindsF x x st [y]) (kb : BindsK x st y)
    (R : ∀ fd, FunD K x x (defArgs st) (defBody st) (defScope st) [] [] (He.ga K x) fd → FnOk P w K mg base CX k (He.ga K x) fd [y] sp) : Pk P w K mg base CX k x y sp :=
  let ⟨fd, F⟩ := D.fn
  ⟨⟨fd, R fd F, F.bindsN hb, kbinds_of hb kb F⟩, F.kp, D.gl⟩
theorem Pk.pr {CX : CXT} {x y : Str} {k : Nat} {sp : Sp} (R : Pk P w K mg base CX k x y sp) : Pr P w K mg base CX k x [y] sp := ⟨let ⟨fd, a, b, _⟩ := R.ok; ⟨fd, a, b⟩, R.kp, R.gl⟩
theorem Pk.of0 {x y : Str} {st : Stmt} {N : List Str} {k : Nat} {sp : Sp} (D : Df K mg x st) (S : FnScope N [y] (defScope st)) (hb : BindsF x x st [y]) (kb : BindsK x st y) (len : ∀ vs H Q E, sp vs H Q E → vs.length = [y].length)
    (body : ∀ (cdv : Value) (A : Around) (outer : List Env) (s : Shared) (H : Hp) (vs : List V) (Q : VK) (E : XK), Room k (A.deeper (envOfC x (defScope st) s.heap.objs.size (He.ga K x) cdv)) → sp vs H Q E →
      ∃ t, PSs (cxOf CX0 P w K mg base N x (defScope st) (He.ga K x) cdv A outer s H E).nox (defBody st) t ∧ t { nx := fun _ H' => Q .non H', rt := Q } (start N vs) H) :
    Pk P w K mg base CX0 (k + 1) x y sp := by
  refine Pk.of D hb kb fun fd F => F.ok S len fun cdv A outer s H vs Q E hr h => ?_
  obtain ⟨t, h1, h2⟩ := body cdv A outer s H vs Q E hr h
  exact ⟨t, h1.nox, h2⟩
theorem Pk.ofX {x y : Str} {st : Stmt} {N : List Str} {k : Nat} {sp : Sp} (D : Df K mg x st) (S : FnScope N [y] (defScope st)) (hb : BindsF x x st [y]) (kb : BindsK x st y) (len : ∀ vs H Q E, sp vs H Q E → vs.length = [y].length)
    (body : ∀ (cdv : Value) (A : Around) (outer : List Env) (s : Shared) (H : Hp) (vs : List V) (Q : VK) (E : XK), Room k (A.deeper (envOfC x (defScope st) s.heap.objs.size (He.ga K x) cdv)) → sp vs H Q E →
      ∃ t, PSs (cxOf (L2.CX P w) P w K mg base N x (defScope st) (He.ga K x) cdv A outer s H E) (defBody st) t ∧ t { nx := fun _ H' => Q .non H', rt := Q } (start N vs) H) :
    Pk P w K mg base (L2.CX P w) (k + 1) x y sp := Pk.of D hb kb fun fd F => F.ok S len body
theorem Pk.imp {CX : CXT} {x y : Str} {k : Nat} {sp sp' : Sp} (R : Pk P w K mg base CX k x y sp) (h : ∀ vs H Q E, sp' vs H Q E → sp vs H Q E) : Pk P w K mg base CX k x y sp' :=
  ⟨let ⟨fd, F, b, c⟩ := R.ok; ⟨fd, F.imp h, b, c⟩, R.kp, R.gl⟩
theorem Pr.mono {CX : CXT} {j k : Nat} {x : Str} {ps : List Str} {sp : Sp} (R : Pr P w K mg base CX j x ps sp) (h : j ≤ k) : Pr P w K mg base CX k x ps sp :=
  ⟨let ⟨fd, F, b⟩ := R.ok; ⟨fd, F.mono h, b⟩, R.kp, R.gl⟩
theorem Pr.imp {CX : CXT} {k : Nat} {x : Str} {ps : List Str} {sp sp' : Sp} (R : Pr P w K mg base CX k x ps sp) (h : ∀ vs H Q E, sp' vs H Q E → sp vs H Q E) : Pr P w K mg base CX k x ps sp' :=
  ⟨let ⟨fd, F, b⟩ := R.ok; ⟨fd, F.imp h, b⟩, R.kp, R.gl⟩
end
section
variable {X : Cx} {CX : CXT} {k : Nat} {ps : List Str} {sp : Sp} {E : XK} {x : Str} {p pos : Pos} {e : Expr} {es : List Expr} {t : TA}
/-- x(e, ..) -/
theorem pcall (R : Pr X.prog X.w X.K X.mg X.base CX k x ps sp) (hr : Room k X.A) (hx : Passes CX X E) (ha : PA X (e :: es) t) (hg : Gl X x := by rfl) (hdb : (x == ("__debug__" : Str)) = false := by decide)
    (he : starEach (e :: es) X.env = (false, eval e X.env) :: starEach es X.env := by rfl) (hpl : (backTo pos (starEach es X.env)).any (·.1) = false := by rfl) :
    PE X (.Call (.Name x p) (e :: es) [] pos) (tCall sp [] E t) := by
  obtain ⟨fd, F, b⟩ := R.ok
  exact pe_call F hr hg R.gl R.kp b .nil hx ha hdb he hpl
/-- x(y = e), y its one parameter -/
theorem pcallK {y : Str} {kpos : Pos} {te : TE} (R : Pk X.prog X.w X.K X.mg X.base CX k x y sp) (hr : Room k X.A) (hx : Passes CX X E) (ha : PE X e te) (hg : Gl X x := by rfl) (hdb : (x == ("__debug__" : Str)) = false := by decide)
    (hall : (backToKw pos (keywordEach [⟨some y, e, kpos⟩] X.env)).all (·.1.isSome) = true := by rfl) (hks : (backToKw pos (keywordEach [⟨some y, e, kpos⟩] X.env)).filterMap (·.1) = [y] := by rfl)
    (hpl : ((backTo pos (starEach [] X.env)).any (·.1) || (backToKw pos (keywordEach [⟨some y, e, kpos⟩] X.env)).any (·.1.isNone)) = false := by rfl) :
    PE X (.Call (.Name x p) [] [⟨some y, e, kpos⟩] pos) (tCallK sp (fun vs zs => vs ++ zs) E tNil (tCons te tNil)) := by
  obtain ⟨fd, F, _, kb⟩ := R.ok
  refine ⟨fun pins s σ H Q I h => ?_⟩
  refine wpAny_Call_Name_kw (ld_glob I hg R.gl ?_ hdb)
  refine PySem.W.callWith_KW0 (h₀ := X.base) I.ok.mod.kin R.kp hall ?_ hpl
  refine thn ((pk_cons (nm := some y) (kpos := kpos) ha pk_nil).run pos pins s σ H (fun zs H1 => sp ([] ++ zs) H1 Q E) I h) fun ws s2 ⟨zs, H2, I2, rz, q2⟩ => ⟨I2.kIn, ?_⟩
  rw [hks]
  exact run_fnk (us := []) (vs := []) F hr kb hx I2 .nil rz q2
variable {o : Expr} {m : Str} {apos : Pos} {ta : TE}
/-- o.m(e, ..), o.m() -/
theorem pmeth {pl : Sem Bool} (R : Pm X.prog X.w X.K X.mg X.base CX k x m ps sp) (c : Cls X.K (He.ga X.K x)) (hr : Room k X.A) (hx : Passes CX X E) (ho : PE X o ta) (ha : PA X (e :: es) t)
    (hst : starEach (e :: es) X.env = (false, eval e X.env) :: starEach es X.env := by rfl) (hpl : (backTo pos (starEach es X.env)).any (·.1) = false := by rfl)
    (ht : eval (.Call (.Attribute o m apos) (e :: es) [] pos) X.env = (do
      let ov ← eval o X.env
      standAt apos.atName
      let (f, first) ← holding [ov] (getMethod ov m pl)
      callWith pos f first (backTo pos (starEach (e :: es) X.env)) (backToKw pos (keywordEach [] X.env))) := by rfl) :
    PE X (.Call (.Attribute o m apos) (e :: es) [] pos) (tMeth (He.ga X.K x) m sp [] E ta t) := by
  obtain ⟨fd, F, b⟩ := R.ok
  exact pe_meth ho c R.mt F hr b .nil hx ha hst hpl ht
theorem pmeth0 {pl : Sem Bool} (R : Pm X.prog X.w X.K X.mg X.base CX k x m ps sp) (c : Cls X.K (He.ga X.K x)) (hr : Room k X.A) (hx : Passes CX X E) (ho : PE X o ta)
    (ht : eval (.Call (.Attribute o m apos) [] [] pos) X.env = (do
      let ov ← eval o X.env
      standAt apos.atName
      let (f, first) ← holding [ov] (getMethod ov m pl)
      callWith pos f first (backTo pos (starEach [] X.env)) (backToKw pos (keywordEach [] X.env))) := by rfl) :
    PE X (.Call (.Attribute o m apos) [] [] pos) (tMeth (He.ga X.K x) m sp [] E ta tNil) := by
  obtain ⟨fd, F, b⟩ := R.ok
  exact pe_meth0 ho c R.mt F hr b .nil hx ht
end
/-! ## Readings: one of two -/
section
variable {X : Cx}
def tOr (t u : TE) : TE := fun σ H Q => t σ H Q ∨ u σ H Q
theorem pe_either {e : Expr} {t u : TE} (h : PE X e t) (g : PE X e u) : PE X e (tOr t u) := ⟨fun pins s σ H Q I q => q.elim (h.run pins s σ H Q I) (g.run pins s σ H Q I)⟩
def iOr (t u : TI) : TI := fun σ H R => t σ H R ∨ u σ H R
theorem pi_either {tg e : Expr} {t u : TI} (h : PI X tg e t) (g : PI X tg e u) : PI X tg e (iOr t u) := ⟨fun pins s σ H R I q => q.elim (h.run pins s σ H R I) (g.run pins s σ H R I)⟩
end
/-! ## Heaps -/
/-- all that was tracked is as it was, but at the addresses of L -/
def But (L : Addr → Prop) (H H' : Hp) : Prop := ∀ b o, ¬ L b → H b = some o → H' b = some o
section
variable {L : Addr → Prop} {H H1 H2 : Hp}
theorem But.refl : But L H H := fun _ _ _ h => h
theorem But.trans (a : But L H H1) (b : But L H1 H2) : But L H H2 := fun c o n h => b c o n (a c o n h)
theorem But.of (s : Same H H1) : But L H H1 := fun c o _ h => s c o h
theorem Same.ofBut (s : But (fun _ => False) H H1) : Same H H1 := fun c o h => s c o (fun z => z) h
theorem But.new {p : Addr} {o : HO} (h : H p = none) : But L H (upd H p o) := fun b u _ e => by
  rw [upd_ne (ne_of_none e h)]
  exact e
theorem Same.new {p : Addr} {o : HO} (h : H p = none) : Same H (upd H p o) := fun b u e => by
  rw [upd_ne (ne_of_none e h)]
  exact e
theorem But.at_ {p : Addr} {o : HO} (h : L p) : But L H (upd H p o) := fun b u n e => by
  rw [upd_ne (fun z => n (by rw [z]; exact h))]
  exact e
theorem But.mono {L' : Addr → Prop} (a : But L H H1) (h : ∀ b, L b → L' b) : But L' H H1 := fun b o n e => a b o (fun z => n (h b z)) e
end
/-! ## Data that stand in the heap, at addresses that are not in L -/
mutual
inductive Dt (L : Addr → Prop) (H : Hp) : V → PyData → Prop
  | non : Dt L H .non .none
  | bl (b : Bool) : Dt L H (.bl b) (.bool b)
  | int (i : Int) : Dt L H (.int i) (.int i)
  | str (x : Str) : Dt L H (.str x) (.str x)
  | lst {a : Addr} {xs : List V} {ds : List PyData} : ¬ L a → H a = some (.lst xs) → DtAll L H xs ds → Dt L H (.ref a) (.list ds)
  | tup {a : Addr} {xs : List V} {ds : List PyData} : ¬ L a → H a = some (.tup xs) → DtAll L H xs ds → Dt L H (.ref a) (.tuple ds)
  | emp {a : Addr} : ¬ L a → H a = some (.dK []) → Dt L H (.ref a) (.dict [])
inductive DtAll (L : Addr → Prop) (H : Hp) : List V → List PyData → Prop
  | nil : DtAll L H [] []
  | cons {v : V} {vs : List V} {d : PyData} {ds : List PyData} : Dt L H v d → DtAll L H vs ds → DtAll L H (v :: vs) (d :: ds)
end
section
variable {L L' : Addr → Prop} {H H' : Hp}
mutual
theorem Dt.but (s : But L H H') : ∀ (d : PyData) (v : V), Dt L H v d → Dt L H' v d
  | .none, _, h => by
    cases h
    exact .non
  | .bool b, _, h => by
    cases h
    exact .bl b
  | .int i, _, h => by
    cases h
    exact .int i
  | .str x, _, h => by
    cases h
    exact .str x
  | .list ds, _, h => by
    cases h with
    | lst n e a => exact .lst n (s _ _ n e) (DtAll.but s ds _ a)
  | .tuple ds, _, h => by
    cases h with
    | tup n e a => exact .tup n (s _ _ n e) (DtAll.but s ds _ a)
  | .dict _, _, h => by
    cases h with
    | emp n e => exact .emp n (s _ _ n e)
theorem DtAll.but (s : But L H H') : ∀ (ds : List PyData) (vs : List V), DtAll L H vs ds → DtAll L H' vs ds
  | [], _, h => by
    cases h
    exact .nil
  | d :: ds, _, h => by
    cases h with
    | cons h1 h2 => exact .cons (Dt.but s d _ h1) (DtAll.but s ds _ h2)
end
mutual
theorem Dt.less (hl : ∀ a o, L' a → H a = some o → L a) : ∀ (d : PyData) (v : V), Dt L H v d → Dt L' H v d
  | .none, _, h => by
    cases h
    exact .non
  | .bool b, _, h => by
    cases h
    exact .bl b
  | .int i, _, h => by
    cases h
    exact .int i
  | .str x, _, h => by
    cases h
    exact .str x
  | .list ds, _, h => by
    cases h with
    | lst n e a => exact .lst (fun z => n (hl _ _ z e)) e (DtAll.less hl ds _ a)
  | .tuple ds, _, h => by
    cases h with
    | tup n e a => exact .tup (fun z => n (hl _ _ z e)) e (DtAll.less hl ds _ a)
  | .dict _, _, h => by
    cases h with
    | emp n e => exact .emp (fun z => n (hl _ _ z e)) e
theorem DtAll.less (hl : ∀ a o, L' a → H a = some o → L a) : ∀ (ds : List PyData) (vs : List V), DtAll L H vs ds → DtAll L' H vs ds
  | [], _, h => by
    cases h
    exact .nil
  | d :: ds, _, h => by
    cases h with
    | cons h1 h2 => exact .cons (Dt.less hl d _ h1) (DtAll.less hl ds _ h2)
end
/-- no dict in it -/
def noD : PyData → Bool
  | .list ds => noDs ds
  | .tuple ds => noDs ds
  | .dict _ => false
  | _ => true
where noDs : List PyData → Bool
  | [] => true
  | d :: ds => noD d && noDs ds
mutual
theorem Dt.dp {K : PySem.W.Frag} : ∀ (d : PyData) (v : V), noD d = true → Dt L H v d → Dp K H v d
  | .none, _, _, h => by
    cases h
    exact .non
  | .bool b, _, _, h => by
    cases h
    exact .bl b
  | .int i, _, _, h => by
    cases h
    exact .int i
  | .str x, _, _, h => by
    cases h
    exact .str x
  | .list ds, _, z, h => by
    cases h with
    | lst n e a => exact .lst (SqL.of e) (DtAll.dp ds _ (by rw [noD] at z; exact z) a)
  | .tuple ds, _, z, h => by
    cases h with
    | tup n e a => exact .tup (SqT.of e) (DtAll.dp ds _ (by rw [noD] at z; exact z) a)
  | .dict _, _, z, h => by
    rw [noD] at z
    cases z
theorem DtAll.dp {K : PySem.W.Frag} : ∀ (ds : List PyData) (vs : List V), noD.noDs ds = true → DtAll L H vs ds → DpAll K H vs ds
  | [], _, _, h => by
    cases h
    exact .nil
  | d :: ds, _, z, h => by
    cases h with
    | cons h1 h2 =>
      rw [noD.noDs, Bool.and_eq_true] at z
      exact .cons (Dt.dp d _ z.1 h1) (DtAll.dp ds _ z.2 h2)
end
theorem DtAll.len : ∀ {ds : List PyData} {vs : List V}, DtAll L H vs ds → vs.length = ds.length
  | [], _, h => by
    cases h
    rfl
  | d :: ds, _, h => by
    cases h with
    | cons h1 h2 =>
      rw [List.length_cons, List.length_cons, DtAll.len h2]
theorem DtAll.get : ∀ {ds : List PyData} {vs : List V} {i : Nat} {v : V}, DtAll L H vs ds → vs[i]? = some v → ∃ d, ds[i]? = some d ∧ Dt L H v d
  | [], _, i, v, h, e => by
    cases h
    simp at e
  | d :: ds, _, 0, v, h, e => by
    cases h with
    | cons h1 h2 =>
      have e1 := Option.some.inj e
      subst e1
      exact ⟨d, rfl, h1⟩
  | d :: ds, _, i + 1, v, h, e => by
    cases h with
    | cons h1 h2 => exact DtAll.get (ds := ds) (i := i) h2 (by simpa using e)
theorem DtAll.get' : ∀ {ds : List PyData} {vs : List V} {i : Nat} {d : PyData}, DtAll L H vs ds → ds[i]? = some d → ∃ v, vs[i]? = some v ∧ Dt L H v d
  | [], _, i, d, h, e => by simp at e
  | d0 :: ds, _, 0, d, h, e => by
    cases h with
    | cons h1 h2 =>
      have e1 := Option.some.inj e
      subst e1
      exact ⟨_, rfl, h1⟩
  | d0 :: ds, _, i + 1, d, h, e => by
    cases h with
    | cons h1 h2 => exact DtAll.get' (ds := ds) (i := i) h2 (by simpa using e)
theorem DtAll.snoc : ∀ {ds : List PyData} {vs : List V} {d : PyData} {v : V}, DtAll L H vs ds → Dt L H v d → DtAll L H (vs ++ [v]) (ds ++ [d])
  | [], _, d, v, h, e => by
    cases h
    exact .cons e .nil
  | d0 :: ds, _, d, v, h, e => by
    cases h with
    | cons h1 h2 => exact .cons h1 (DtAll.snoc h2 e)
theorem DtAll.ints : ∀ (ns : List Int), DtAll L H (ns.map V.int) (ns.map PyData.int)
  | [] => .nil
  | n :: ns => .cons (.int n) (DtAll.ints ns)
end
end Pw
set_option Elab.async false
set_option linter.all false
set_option maxRecDepth 100000
namespace Pw
open PySem PySem.Spec PyProof.Rows L2
/-- the built-in names that the text uses are no names of the module -/
structure Free (mg : Str → Option Value) : Prop where
  isinstance : mg "isinstance" = none
  list : mg "list" = none
  tuple : mg "tuple" = none
  int : mg "int" = none
  bool : mg "bool" = none
  str : mg "str" = none
  dict : mg "dict" = none
  len : mg "len" = none
  all : mg "all" = none
  range : mg "range" = none
  enumerate : mg "enumerate" = none
  zip : mg "zip" = none
  repr : mg "repr" = none
theorem bb_isinstance : bootBuiltins "isinstance" = some (.builtin "isinstance") := by decide +kernel
theorem bb_list : bootBuiltins "list" = some (.type "list") := by decide +kernel
theorem bb_tuple : bootBuiltins "tuple" = some (.type "tuple") := by decide +kernel
theorem bb_int : bootBuiltins "int" = some (.type "int") := by decide +kernel
theorem bb_bool : bootBuiltins "bool" = some (.type "bool") := by decide +kernel
theorem bb_str : bootBuiltins "str" = some (.type "str") := by decide +kernel
theorem bb_dict : bootBuiltins "dict" = some (.type "dict") := by decide +kernel
theorem bb_len : bootBuiltins "len" = some (.builtin "len") := by decide +kernel
theorem bb_all : bootBuiltins "all" = some (.builtin "all") := by decide +kernel
theorem bb_repr : bootBuiltins "repr" = some (.builtin "repr") := by decide +kernel
/-! ## what a datum is an instance of -/
def tyN : PyData → String
  | .none => "NoneType"
  | .bool _ => "bool"
  | .int _ => "int"
  | .str _ => "str"
  | .list _ => "list"
  | .tuple _ => "tuple"
  | .dict _ => "dict"
def isAn (n c : String) : Bool := n == c || (c == "int" && n == "bool")
def isA (d : PyData) (c : String) : Bool := isAn (tyN d) c
def tyNs : List String := ["NoneType", "bool", "int", "str", "list", "tuple", "dict"]
theorem tyN_mem (d : PyData) : tyN d ∈ tyNs := by cases d <;> simp [tyN, tyNs]
theorem kitN {K : PySem.W.Frag} {c : String} (h : (tyNs.all fun n => decide (kitB n c = some (isAn n c))) = true) (d : PyData) : PySem.W.kitOne K (.type (tyN d)) (.type c) = some (isA d c) :=
  kit_ty (of_decide_eq_true (List.all_eq_true.mp h (tyN d) (tyN_mem d)))
section
variable {K : PySem.W.Frag} {L : Addr → Prop} {H : Hp} {v : V} {d : PyData}
theorem Dt.ty (h : Dt L H v d) : TyX K H v (.type (tyN d)) := by
  cases h with
  | non => exact .base .non
  | bl b => exact .base (.bl b)
  | int i => exact .base (.int i)
  | str x => exact .base (.str x)
  | lst n e a => exact .base (.lst e)
  | tup n e a => exact .base (.tup e)
  | emp n e => exact .base (.dK e)
theorem kit_int : PySem.W.kitOne K (.type (tyN d)) (.type "int") = some (isA d "int") := kitN (by decide +kernel) d
theorem kit_bool : PySem.W.kitOne K (.type (tyN d)) (.type "bool") = some (isA d "bool") := kitN (by decide +kernel) d
theorem kit_str : PySem.W.kitOne K (.type (tyN d)) (.type "str") = some (isA d "str") := kitN (by decide +kernel) d
theorem kit_list : PySem.W.kitOne K (.type (tyN d)) (.type "list") = some (isA d "list") := kitN (by decide +kernel) d
theorem kit_tuple : PySem.W.kitOne K (.type (tyN d)) (.type "tuple") = some (isA d "tuple") := kitN (by decide +kernel) d
theorem kit_dict : PySem.W.kitOne K (.type (tyN d)) (.type "dict") = some (isA d "dict") := kitN (by decide +kernel) d
theorem kit_more {c : Value} {cs : List Value} {t : Value} {a b : Bool} (h : PySem.W.kitOne K t c = some a) (hr : PySem.W.kitAny K t cs = some b) : PySem.W.kitAny K t (c :: cs) = some (a || b) := by
  refine kitAny_cons h (fun e => ?_) fun e => ?_
  · rw [e, hr]
    rfl
  · rw [e]
    rfl
end
/-- a list or a tuple -/
def isSeq (d : PyData) : Bool := isA d "list" || isA d "tuple"
theorem kit_seq {K : PySem.W.Frag} {d : PyData} : PySem.W.kitAny K (.type (tyN d)) [.type "list", .type "tuple"] = some (isSeq d) := by
  have h := kit_more (K := K) (kit_list (d := d)) (kit_more (kit_tuple (d := d)) kitAny_nil)
  rw [Bool.or_false] at h
  exact h
/-! ## readings of isinstance -/
section
variable {X : Cx}
theorem CallR.to {f : Value} {r r' : List V → Hp → VK → Prop} (h : CallR X f r) (i : ∀ xs H Q, r' xs H Q → r xs H Q) : CallR X f r' := fun pins s σ H xs us Q I rv q => h pins s σ H xs us Q I rv (i xs H Q q)
/-- isinstance(v, (list, tuple)) -/
def rIsSeq : List V → Hp → VK → Prop := fun xs H Q => ∃ (v : V) (p : Addr) (L : Addr → Prop) (d : PyData), xs = [v, .ref p] ∧ H p = some (.tup [.ty "list", .ty "tuple"]) ∧ Dt L H v d ∧ Q (.bl (isSeq d)) H
def rIsA (c : String) : List V → Hp → VK → Prop := fun xs H Q => ∃ (v : V) (L : Addr → Prop) (d : PyData), xs = [v, .ty c] ∧ Dt L H v d ∧ Q (.bl (isA d c)) H
theorem call_isSeq : CallR X (.builtin "isinstance") rIsSeq := CallR.to call_isiT fun xs H Q q => by
  obtain ⟨v, p, L, d, rfl, hp, hd, q⟩ := q
  exact ⟨v, p, _, _, _, _, rfl, hp, .cons (.ty _) (.cons (.ty _) .nil), hd.ty, kit_seq, q⟩
theorem call_isA {c : String} (kit : ∀ d, PySem.W.kitOne X.K (.type (tyN d)) (.type c) = some (isA d c)) : CallR X (.builtin "isinstance") (rIsA c) := CallR.to call_isi fun xs H Q q => by
  obtain ⟨v, L, d, rfl, hd, q⟩ := q
  exact ⟨v, _, _, _, _, rfl, .ty _, hd.ty, kit d, q⟩
variable {e : Expr} {te : TE} {p p1 p2 p3 p4 p5 p6 pos : Pos} {k1 : Nat}
/-- (list, tuple) as a value -/
theorem pe_lt (F : Free X.mg) (h2 : Gl X "list" := by rfl) (h3 : Gl X "tuple" := by rfl) :
    PE X (.Tuple [.Name "list" p2, .Name "tuple" p3] k1 p4) (fun σ H Q => ∀ p, H p = none → Q (.ref p) (upd H p (.tup [.ty "list", .ty "tuple"]))) := by
  have h := pe_tup (x1 := k1) (pos := p4) (pa_cons (pe_bltn (X := X) (v := .ty "list") (pos := p2) h2 F.list bb_list rfl) (pa_cons (pe_bltn (v := .ty "tuple") (pos := p3) h3 F.tuple bb_tuple rfl) pa_nil))
  exact ⟨fun pins s σ H Q I q => h.run pins s σ H Q I ⟨by show 2 ≤ sizeLine; decide, q⟩⟩
/-- isinstance(e, (list, tuple)) -/
theorem pe_isSeq (F : Free X.mg) (he : PE X e te) (h1 : Gl X "isinstance" := by rfl) (h2 : Gl X "list" := by rfl) (h3 : Gl X "tuple" := by rfl)
    (hs : starEach (e :: [.Tuple [.Name "list" p2, .Name "tuple" p3] k1 p4]) X.env = (false, eval e X.env) :: starEach [.Tuple [.Name "list" p2, .Name "tuple" p3] k1 p4] X.env := by rfl) :
    PE X (.Call (.Name "isinstance" p1) [e, .Tuple [.Name "list" p2, .Name "tuple" p3] k1 p4] [] pos) (tCB rIsSeq (tCons te (tCons (fun σ H Q => ∀ p, H p = none → Q (.ref p) (upd H p (.tup [.ty "list", .ty "tuple"]))) tNil))) :=
  pe_callB call_isSeq h1 F.isinstance bb_isinstance (pa_cons he (pa_cons (pe_lt F h2 h3) pa_nil) hs) (by decide) (by decide) hs
/-- isinstance(e, c) -/
theorem pe_isA {c : Str} {n : String} (F : Free X.mg) (kit : ∀ d, PySem.W.kitOne X.K (.type (tyN d)) (.type n) = some (isA d n)) (hm : X.mg c = none) (bb : bootBuiltins c = some (.type n)) (he : PE X e te) (h2 : Gl X c := by rfl) (h1 : Gl X "isinstance" := by rfl)
    (hn : c ≠ "__name__" := by decide) (hd : (c == ("__debug__" : Str)) = false := by decide)
    (hs : starEach (e :: [.Name c p2]) X.env = (false, eval e X.env) :: starEach [.Name c p2] X.env := by rfl) :
    PE X (.Call (.Name "isinstance" p1) [e, .Name c p2] [] pos) (tCB (rIsA n) (tCons te (tCons (tC (.ty n)) tNil))) :=
  pe_callB (call_isA kit) h1 F.isinstance bb_isinstance (pa_cons he (pa_cons (pe_bltn (v := .ty n) h2 hm bb rfl hn hd) pa_nil) hs) (by decide) (by decide) hs
end
/-! ## is_list, is_integer -/
abbrev sIsList : Stmt := top 7
abbrev sIsInteger : Stmt := top 8
theorem scIsList : FnScope ["thing"] ["thing"] (defScope sIsList) := ⟨rfl, rfl, rfl, by decide +kernel, rfl, by decide +kernel, by decide +kernel⟩
theorem scIsInteger : FnScope ["thing"] ["thing"] (defScope sIsInteger) := ⟨rfl, rfl, rfl, by decide +kernel, rfl, by decide +kernel, by decide +kernel⟩
def spIsList : Sp := fun vs H Q _ => ∃ (v : V) (L : Addr → Prop) (d : PyData), vs = [v] ∧ Dt L H v d ∧ ∀ H', Same H H' → Q (.bl (isSeq d)) H'
def isInt (d : PyData) : Bool := isA d "int" && !isA d "bool"
def spIsInteger : Sp := fun vs H Q _ => ∃ (v : V) (L : Addr → Prop) (d : PyData), vs = [v] ∧ Dt L H v d ∧ Q (.bl (isInt d)) H
section
variable {P : Program} {w : World} {K : PySem.W.Frag} {mg : Str → Option Value} {base : Heap}
theorem ok_is_list (D : Df K mg "is_list" sIsList) (F : Free mg) : Pr P w K mg base CX0 1 "is_list" ["thing"] spIsList := by
  refine Pr.of0 D scIsList (fun _ _ _ _ _ _ us hl => match us, hl with | [_], _ => rfl) (fun vs H Q E h => ?_) fun cdv A outer s H vs Q E hr h => ?_
  · obtain ⟨v, L, d, rfl, _⟩ := h
    rfl
  · obtain ⟨v, L, d, rfl, hd, q⟩ := h
    refine ⟨_, pss_one (ps_ret (pe_isSeq F (pv 0))), ?_⟩
    exact ⟨_, rfl, fun p hp => ⟨_, _, L, d, rfl, upd_same, hd.but (.new hp), q _ (Same.new hp)⟩⟩
theorem ok_is_integer (D : Df K mg "is_integer" sIsInteger) (F : Free mg) : Pr P w K mg base CX0 1 "is_integer" ["thing"] spIsInteger := by
  refine Pr.of0 D scIsInteger (fun _ _ _ _ _ _ us hl => match us, hl with | [_], _ => rfl) (fun vs H Q E h => ?_) fun cdv A outer s H vs Q E hr h => ?_
  · obtain ⟨v, L, d, rfl, _⟩ := h
    rfl
  · obtain ⟨v, L, d, rfl, hd, q⟩ := h
    refine ⟨_, pss_one (ps_ret (pe_and (pe_isA F (fun _ => kit_int) F.int bb_int (pv 0)) (pe_one (pe_not (pe_isA F (fun _ => kit_bool) F.bool bb_bool (pv 0)))))), ?_⟩
    refine ⟨_, rfl, _, L, d, rfl, hd, _, rfl, ?_⟩
    unfold isInt at q
    cases h1 : isA d "int" with
    | false =>
      rw [h1] at q
      exact iteF q
    | true =>
      rw [h1] at q
      exact iteT ⟨_, rfl, _, L, d, rfl, hd, _, rfl, q⟩
end
end Pw
set_option Elab.async false
set_option linter.all false
set_option maxRecDepth 100000
namespace Pw
open PySem PySem.Spec PyProof.Rows L2 Evl
/-! ## Evaluations whose value is told by a word -/
/-- te gives some y of which R holds, in a heap that has grown -/
def EvR (te : TE) (σ : L2.St) (H : Hp) (R : V → Hp → Prop) : Prop := ∀ H1, Ex H H1 → ∀ Q : VK, (∀ y H2, Ex H1 H2 → R y H2 → Q y H2) → te σ H1 Q
theorem EvR.mono {te : TE} {σ : L2.St} {H H' : Hp} {R : V → Hp → Prop} (h : EvR te σ H R) (e : Ex H H') : EvR te σ H' R := fun H1 e1 Q q => h H1 (e.trans e1) Q q
theorem EvR.imp {te : TE} {σ : L2.St} {H : Hp} {R R' : V → Hp → Prop} (h : EvR te σ H R) (i : ∀ y H', Ex H H' → R y H' → R' y H') : EvR te σ H R' := fun H1 e1 Q q => h H1 e1 Q fun y H2 e2 r => q y H2 e2 (i y H2 (e1.trans e2) r)
theorem evr_of {te : TE} {σ : L2.St} {H : Hp} {v : V} (h : Ev te σ H v) : EvR te σ H fun y _ => y = v := fun H1 e Q q => h H1 e Q fun H2 e2 => q v H2 e2 rfl
/-- a list or a tuple stands there -/
def Sq (H : Hp) (a : Addr) (xs : List V) : Prop := H a = some (.lst xs) ∨ H a = some (.tup xs)
theorem Sq.ex {H H' : Hp} {a : Addr} {xs : List V} (h : Sq H a xs) (e : Ex H H') : Sq H' a xs := h.imp (e _ _) (e _ _)
theorem Sq.or {K : PySem.W.Frag} {H : Hp} {a : Addr} {xs : List V} (h : Sq H a xs) : SqL K H a xs ∨ SqT K H a xs := h.imp SqL.of SqT.of
section
variable {K : PySem.W.Frag} {σ : L2.St} {H : Hp} {tl te : TE} {tt : TT} {a : Addr} {xs : List V} {j : Nat} {vs : List Nat}
/-- what a for, a comprehension over a list or a tuple asks -/
theorem i_seq (h : Ev tl σ H (.ref a)) (hx : Sq H a xs) {R : It → Hp → Prop}
    (k : ∀ (J : It) (G : Hp → Prop) H1, Ex H H1 → Walk J xs.length G (YAt xs) → (∀ H', (∀ o, H a = some o → H' a = some o) → G H') → R J H1) : iOr (iList K tl) (iTup K tl) σ H R := by
  rcases hx with hx | hx
  · exact .inl (h H (Ex.refl H) _ fun H1 e => ⟨a, rfl, ⟨xs, SqL.of (e _ _ hx)⟩, k _ _ H1 e walk_list fun H' z => SqL.of (z _ hx)⟩)
  · exact .inr (h H (Ex.refl H) _ fun H1 e => ⟨a, rfl, ⟨xs, SqT.of (e _ _ hx)⟩, k _ _ H1 e walk_tup fun H' z => SqT.of (z _ hx)⟩)
theorem wipe1 (σ : L2.St) (j : Nat) (x : Option V) : wipe ((wipe σ [j]).set j x) [j] = wipe σ [j] := by
  show ((σ.set j none).set j x).set j none = σ.set j none
  rw [List.set_set, List.set_set]
theorem ys_snoc {ys : List V} {i : Nat} {y : V} (h : ys.length = i) {R : Nat → V → Prop} (hr : ∀ k z, ys[k]? = some z → R k z) (hy : R i y) : ∀ k z, (ys ++ [y])[k]? = some z → R k z := by
  intro k z hz
  by_cases hk : k < ys.length
  · rw [List.getElem?_append_left hk] at hz
    exact hr k z hz
  · rw [List.getElem?_append_right (by omega)] at hz
    have hk2 : k - ys.length = 0 := by
      cases hq : k - ys.length with
      | zero => rfl
      | succ m =>
        rw [hq] at hz
        simp at hz
    rw [hk2] at hz
    have e : y = z := Option.some.inj hz
    rw [← e, show k = i by omega]
    exact hy
/-- the loop of a comprehension that keeps every item; R: what holds of the i-th made thing from then on, whatever becomes of the new list at D -/
theorem lc_word {J : It} {G : Hp → Prop} {Y : Nat → Hp → V → Hp → Prop} {n : Nat} {g : TG} {H1 : Hp} {D : Addr} {Qd : Hp → Prop} (w : Walk J n G Y) (hD : H1 D = none) (hG : ∀ H', Ex H1 H' → G H') (hz : n ≤ 50000) (R : Nat → V → Hp → Prop)
    (hR : ∀ i y H' H2, R i y H' → (∀ b o, b ≠ D → H' b = some o → H2 b = some o) → R i y H2)
    (hs : ∀ i x H2 H' ys, i < n → Ex H1 H2 → H2 D = some (.lst ys) → Y i H2 x H' → ∀ Q : L2.St → Hp → Prop, (∀ σ2 H3, Ex H2 H3 → wipe σ2 vs = wipe σ vs → EvR te σ2 H3 (R i) → Q σ2 H3) → g x (wipe σ vs) H' Q)
    (hd : ∀ ys H', Ex H1 H' → ys.length = n → H' D = some (.lst ys) → (∀ k y, ys[k]? = some y → R k y H') → Qd H') :
    ∃ W : Nat → Nat → Hp → Prop, (∃ m, W 0 m (upd H1 D (.lst []))) ∧ ∀ i m H, W i m H →
      (J.stop i H ∧ Qd H) ∨ (J.go i H ∧ ∃ Nx : Hp → Prop, (∀ H', Nx H' → ∃ m', m' < m ∧ W (i + 1) m' H') ∧ ∀ x H', J.yld i H x H' → g x (wipe σ vs) H' fun σ2 H2 => wipe σ2 vs = wipe σ vs ∧ tYes σ2 H2 fun b H3 =>
        if b = true then te σ2 H3 fun y H4 => ∃ acc, H4 D = some (.lst acc) ∧ acc.length < sizeLine ∧ Nx (upd H4 D (.lst (acc ++ [y]))) else Nx H3) := by
  refine lc_it w (Pv := fun i H' => Ex H1 H' ∧ ∃ ys : List V, ys.length = i ∧ H' D = some (.lst ys) ∧ ∀ k y, ys[k]? = some y → R k y H') ⟨Ex.new hD, [], rfl, upd_same, fun k y e => by simp at e⟩ (fun i H' _ p => hG H' p.1) ?_ ?_
  · rintro i x H2 H' hi ⟨p1, ys, p2, p3, p4⟩ hy
    refine hs i x H2 H' ys hi p1 p3 hy _ fun σ2 H3 e3 hw hev => ⟨hw, ?_⟩
    unfold tYes
    simp only [↓reduceIte]
    refine (hev H3 (Ex.refl H3) _ fun y H4 e4 r => ⟨ys, e4 _ _ (e3 _ _ p3), sz_lt (by omega), ?_, ys ++ [y], by rw [List.length_append, p2]; rfl, upd_same, ?_⟩)
    · exact Ex.mut ((p1.trans e3).trans e4) hD
    · have k4 : ∀ {Ha : Hp}, Ex Ha H4 → ∀ b o, b ≠ D → Ha b = some o → upd H4 D (.lst (ys ++ [y])) b = some o := fun e b o hb hh => by
        rw [upd_ne hb]
        exact e b o hh
      exact ys_snoc (R := fun k z => R k z (upd H4 D (.lst (ys ++ [y])))) p2 (fun k z hz => hR k z _ _ (p4 k z hz) (k4 (e3.trans e4))) (hR i y _ _ r (k4 (Ex.refl H4)))
  · rintro H' ⟨p1, ys, p2, p3, p4⟩
    exact hd ys H' p1 p2 p3 p4
/-- [te for x in a list or a tuple], the items' values known -/
theorem el_seq {ys : List V} (h : Ev tl σ H (.ref a)) (hx : Sq H a xs) (hz : xs.length ≤ 50000) (hl : ys.length = xs.length)
    (he : ∀ (i : Nat) (x y : V) H1, Ex H H1 → xs[i]? = some x → ys[i]? = some y → Ev te ((wipe σ [j]).set j (some x)) H1 y) : EvL (tLc (iOr (iList K tl) (iTup K tl)) (gName j) tYes te [j]) σ H ys := fun H0 e Q q => by
  refine i_seq (K := K) (h.mono e) (hx.ex e) fun J G H1 e1 w hG D hD => ?_
  refine lc_word w hD (fun H' e' => hG H' fun o z => e' a o (e1 a o z)) hz (fun i y _ => ys[i]? = some y) (fun _ _ _ _ r _ => r) (fun i x H2 H' acc hi e2 hDs hy Q' q' => ?_) (fun zs H' e' hlen hDs hr => ?_)
  · obtain ⟨rfl, hx'⟩ := hy
    have hyi : ys[i]? = some ys[i] := List.getElem?_eq_getElem (by omega)
    exact q' _ _ (Ex.refl _) (wipe1 _ _ _) fun H3 e3 Q2 q2 => he i x _ H' ((e.trans e1).trans e2) hx' hyi H3 e3 Q2 fun H4 e4 => q2 _ H4 e4 hyi
  · have ez : zs = ys := List.ext_getElem? fun k => by
      by_cases hk : k < zs.length
      · rw [List.getElem?_eq_getElem hk]
        exact (hr k _ (List.getElem?_eq_getElem hk)).symm
      · rw [List.getElem?_eq_none (by omega), List.getElem?_eq_none (by omega)]
    rw [ez] at hDs
    exact q D H' (fresh_back e1 hD) (e1.trans e') hDs
end
/-! ## rules with the written part named: for use within a comprehension's block -/
section
variable {X : Cx} {K : PySem.W.Frag}
theorem k_all (hK : X.K = K) (hc : X.calm = true) : CallR X (.builtin "all") (rAll K) := by
  subst hK
  exact cr_all hc
theorem k_len (hK : X.K = K) : CallR X (.builtin "len") (rLenS K) := by
  subst hK
  exact call_len_seq
theorem k_ix (hK : X.K = K) : IxR X (rIx K) := by
  subst hK
  exact ix_seq
theorem k_list {tg l : Expr} {tl : TE} (hK : X.K = K) (h : PE X l tl) : PI X tg l (iList K tl) := by
  subst hK
  exact pi_list h
theorem k_seq {tg l : Expr} {tl : TE} (hK : X.K = K) (h : PE X l tl) : PI X tg l (iOr (iList K tl) (iTup K tl)) := by
  subst hK
  exact pi_either (pi_list h) (pi_tup h)
end
/-- the heap's addresses of then -/
def Old (H : Hp) : Addr → Prop := fun b => H b ≠ none
theorem new_old {H : Hp} {p : Addr} (h : H p = none) : ¬ Old H p := fun z => z h
theorem Ex.back {H H' : Hp} {p : Addr} (e : Ex H H') (h : H' p = none) : H p = none := fresh_back e h
theorem ex_same {H H' : Hp} (e : Ex H H') : Same H H' := e
theorem Dt.ex {L : Addr → Prop} {H H' : Hp} {v : V} {d : PyData} (h : Dt L H v d) (e : Ex H H') : Dt L H' v d := Dt.but (But.of e) _ _ h
theorem DtAll.ex {L : Addr → Prop} {H H' : Hp} {v : List V} {d : List PyData} (h : DtAll L H v d) (e : Ex H H') : DtAll L H' v d := DtAll.but (But.of e) _ _ h
theorem Dt.sub {L L' : Addr → Prop} {H : Hp} {v : V} {d : PyData} (h : Dt L H v d) (hl : ∀ a, L' a → L a) : Dt L' H v d := Dt.less (fun a _ z _ => hl a z) d v h
end Pw
set_option Elab.async false
set_option linter.all false
set_option maxRecDepth 100000
namespace Pw
open PySem PySem.Spec PyProof.Rows L2 Evl
/-! ## is_picture -/
def items : PyData → List PyData
  | .list ds => ds
  | .tuple ds => ds
  | _ => []
def rowOk (r : PyData) : Bool := isSeq r && decide ((0 : Int) < ((items r).length : Int))
def shadesOk (n : Nat) (r : PyData) : Bool := decide (V.int ((items r).length : Int) = V.int (n : Int)) && (items r).all isInt
def isPic (d : PyData) : Bool := (isSeq d && (items d).all rowOk) && (items d).all (shadesOk (items ((items d).headD .none)).length)
/-- lists of few items, at two depths -/
def few (d : PyData) : Prop := (items d).length ≤ 1000 ∧ ∀ r ∈ items d, (items r).length ≤ 1000
theorem isSeq_list (ds : List PyData) : isSeq (.list ds) = true := by
  show (isAn "list" "list" || isAn "list" "tuple") = true
  decide
theorem isSeq_tuple (ds : List PyData) : isSeq (.tuple ds) = true := by
  show (isAn "tuple" "list" || isAn "tuple" "tuple") = true
  decide
theorem Dt.seq {L : Addr → Prop} {H : Hp} {v : V} {d : PyData} (h : Dt L H v d) (s : isSeq d = true) : ∃ a xs, v = .ref a ∧ ¬ L a ∧ Sq H a xs ∧ DtAll L H xs (items d) := by
  cases h with
  | non => exact absurd s (by show ¬ (isAn "NoneType" "list" || isAn "NoneType" "tuple") = true; decide)
  | bl b => exact absurd s (by show ¬ (isAn "bool" "list" || isAn "bool" "tuple") = true; decide)
  | int i => exact absurd s (by show ¬ (isAn "int" "list" || isAn "int" "tuple") = true; decide)
  | str x => exact absurd s (by show ¬ (isAn "str" "list" || isAn "str" "tuple") = true; decide)
  | lst n e a => exact ⟨_, _, rfl, n, .inl e, a⟩
  | tup n e a => exact ⟨_, _, rfl, n, .inr e, a⟩
  | emp n e => exact absurd s (by show ¬ (isAn "dict" "list" || isAn "dict" "tuple") = true; decide)
section
variable {K : PySem.W.Frag} {σ : L2.St} {H : Hp} {ta te : TE} {a : Addr} {xs : List V}
theorem ev_lenS (ha : Ev ta σ H (.ref a)) (h : Sq H a xs) : Ev (tCB (rLenS K) (tCons ta tNil)) σ H (.int (xs.length : Int)) := fun H1 e Q q =>
  ha H1 e _ fun H2 e2 => ⟨a, xs, rfl, (h.ex (e.trans e2)).or, q H2 e2⟩
theorem rv_ixSq {i : Int} {v : V} (h : Sq H a xs) (hi : atI xs i = some v) : RV (rIx K) (.ref a) (.int i) H v := fun H1 e Q q => by
  rcases h.ex e with h | h
  · exact .inl ⟨a, xs, i, v, rfl, rfl, SqL.of h, hi, q H1 (Ex.refl H1)⟩
  · exact .inr (.inl ⟨a, xs, i, v, rfl, rfl, SqT.of h, hi, q H1 (Ex.refl H1)⟩)
theorem ev_all {bs : List Bool} (h : EvL te σ H (bs.map V.bl)) : Ev (tCB (rAll K) (tCons te tNil)) σ H (.bl (bs.all id)) := fun H1 e Q q =>
  h H1 e _ fun p H2 hp e2 h2 => ⟨p, bs, rfl, SqL.of h2, q H2 e2⟩
end
theorem sp_is_list {H : Hp} {v : V} {L : Addr → Prop} {d : PyData} (h : Dt L H v d) : SpV spIsList [v] H (.bl (isSeq d)) := fun H1 e Q q E => ⟨v, L, d, rfl, h.ex e, fun H2 s => q H2 s⟩
theorem sp_is_integer {H : Hp} {v : V} {L : Addr → Prop} {d : PyData} (h : Dt L H v d) : SpV spIsInteger [v] H (.bl (isInt d)) := fun H1 e Q q E => ⟨v, L, d, rfl, h.ex e, q H1 (Ex.refl H1)⟩
abbrev sIsPicture : Stmt := top 10
abbrev nIsPicture : List Str := ["thing", "row", "shade"]
theorem scIsPicture : FnScope nIsPicture ["thing"] (defScope sIsPicture) := ⟨rfl, rfl, rfl, by decide +kernel, rfl, by decide +kernel, by decide +kernel⟩
def spIsPicture : Sp := fun vs H Q _ => ∃ (v : V) (L : Addr → Prop) (d : PyData), vs = [v] ∧ Dt L H v d ∧ few d ∧ ∀ H', Same H H' → Q (.bl (isPic d)) H'
theorem all_map {α : Type} (f : α → Bool) (l : List α) : (l.map f).all id = l.all f := by
  rw [List.all_map]
  rfl
section
variable {P : Program} {w : World} {K : PySem.W.Frag} {mg : Str → Option Value} {base : Heap}
theorem ok_is_picture (D : Df K mg "is_picture" sIsPicture) (F : Free mg) (R1 : Pr P w K mg base CX0 1 "is_list" ["thing"] spIsList) (R2 : Pr P w K mg base CX0 1 "is_integer" ["thing"] spIsInteger) :
    Pr P w K mg base CX0 2 "is_picture" ["thing"] spIsPicture := by
  refine Pr.of0 D scIsPicture (fun _ _ _ _ _ _ us hl => match us, hl with | [_], _ => rfl) (fun vs H Q E h => ?_) fun cdv A outer s H vs Q E hr h => ?_
  · obtain ⟨v, L, d, rfl, _⟩ := h
    rfl
  · obtain ⟨v, L, d, rfl, hd, hf, q⟩ := h
    refine ⟨_, pss_cons (ps_if (PW.pt (pw_or (pt_not (pt_val (pcall R1 hr pass0 (pa_cons (pv 0) pa_nil))))
        (pw_or1 (pt_not (pt_val (pe_callB (k_all (K := K) rfl rfl) (by rfl) F.all bb_all (pa_cons
          (pe_lc (own := [("row", 1)]) (g := gName 1) (tt := tYes) rfl scIsPicture.nd (k_seq (K := K) rfl (pv 0)) (blkOk_by (N := nIsPicture) (sc := defScope sIsPicture) (by decide +kernel))
            (fun _ _ _ _ _ => pg_name (i := 1) scIsPicture.nd rfl (Or.inl rfl)) (fun _ _ _ _ _ => pts_nil)
            (fun _ _ _ _ _ => pe_and (pcall R1 hr pass0 (pa_cons (pv 1) pa_nil)) (pe_one (pe_cmpR op_gt (pe_callB (k_len (K := K) rfl) (by rfl) F.len bb_len (pa_cons (pv 1) pa_nil)) pe_int (nomark _)))))
          pa_nil))))))) (pss_one (ps_ret pe_bl)) pss_nil)
      (pss_one (ps_ret (pe_callB (k_all (K := K) rfl rfl) (by rfl) F.all bb_all (pa_cons
        (pe_lc (own := [("row", 1)]) (g := gName 1) (tt := tYes) rfl scIsPicture.nd (k_seq (K := K) rfl (pv 0)) (blkOk_by (N := nIsPicture) (sc := defScope sIsPicture) (by decide +kernel))
            (fun _ _ _ _ _ => pg_name (i := 1) scIsPicture.nd rfl (Or.inl rfl)) (fun _ _ _ _ _ => pts_nil)
            (fun _ _ _ _ _ => pe_and (pe_cmpR op_eq (pe_callB (k_len (K := K) rfl) (by rfl) F.len bb_len (pa_cons (pv 1) pa_nil)) (pe_callB (k_len (K := K) rfl) (by rfl) F.len bb_len (pa_cons (pe_ix (k_ix (K := K) rfl) (pv 0) pe_int (fun _ _ => rfl)) pa_nil)) (nomark _))
              (pe_one (pe_callB (k_all (K := K) rfl rfl) (by rfl) F.all bb_all (pa_cons
                (by exact (pe_lc (own := [("shade", 2)]) (g := gName 2) (tt := tYes) rfl scIsPicture.nd (k_seq (K := K) rfl (pv 1)) (blkOk_by (by kernel_rfl))
                  (fun _ _ _ _ _ => (by exact (pg_name (i := 2) scIsPicture.nd rfl (Or.inl rfl)))) (fun _ _ _ _ _ => pts_nil)
                  (fun _ _ _ _ _ => (by exact (pcall R2 hr pass0 (pa_cons (pv 2) pa_nil))))))
                pa_nil)))))
        pa_nil)))), ?_⟩
    have map_at : ∀ {f : PyData → Bool} {l : List PyData} {i : Nat} {y : V} {r : PyData}, l[i]? = some r → ((l.map f).map V.bl)[i]? = some y → y = .bl (f r) := fun {f l i y r} hr hy => by
      rw [List.getElem?_map, List.getElem?_map, hr] at hy
      exact (Option.some.inj hy).symm
    refine q_when (b := !isSeq d || !((items d).all rowOk)) (et_or (et_not (et_B (ev_call (ea_cons (ev_var rfl) ea_nil) (sp_is_list hd)))) fun hs => et_not (et_B ?_)) (fun hb H1 e1 => ?_) (fun hb H1 e1 => ?_)
    · obtain ⟨a, xs, rfl, hn, hx, ha⟩ := hd.seq (by simpa using hs)
      refine ev_is (ev_all (bs := (items d).map rowOk) (el_seq (a := a) (xs := xs) (ev_var rfl) hx (by rw [ha.len]; have := hf.1; omega) (by rw [List.length_map, List.length_map, ha.len]) fun i x y H1 e1 hxi hyi => ?_)) (by rw [all_map])
      obtain ⟨r, hri, hr1⟩ := ha.get hxi
      rw [map_at hri hyi]
      refine ev_andV (ev_call (ea_cons (ev_var rfl) ea_nil) (sp_is_list (hr1.ex e1))) fun hq => ?_
      obtain ⟨a2, ys, rfl, hn2, hy2, ha2⟩ := (hr1.ex e1).seq hq
      refine ev_is (ev_op (ev_lenS (ev_var rfl) hy2) ev_c rv_I0) ?_
      rw [ha2.len]
    · refine s_ret ev_c fun H2 e2 => ?_
      have g := q H2 (e1.trans e2)
      rw [show isPic d = false by
        unfold isPic
        cases h1 : isSeq d with
        | false => rfl
        | true =>
          rw [h1] at hb
          have h2 : (items d).all rowOk = false := by simpa using hb
          rw [h2]
          rfl] at g
      exact g
    · have h1 : isSeq d = true := by
        cases h1 : isSeq d with
        | false =>
          rw [h1] at hb
          cases hb
        | true => rfl
      have h2 : (items d).all rowOk = true := by
        rw [h1] at hb
        simpa using hb
      obtain ⟨a, xs, rfl, hn, hx, ha⟩ := hd.seq h1
      have hx1 := hx.ex e1
      have ha1 := ha.ex e1
      refine s_ret (v := .bl (isPic d)) (ev_is (ev_all (bs := (items d).map (shadesOk (items ((items d).headD .none)).length)) (el_seq (a := a) (xs := xs) (ev_var rfl) hx1 (by rw [ha.len]; have := hf.1; omega) (by rw [List.length_map, List.length_map, ha.len]) fun i x y H2 e2 hxi hyi => ?_)) ?_) fun H2 e2 => q H2 (e1.trans e2)
      · obtain ⟨r, hri, hr1⟩ := ha1.get hxi
        rw [map_at hri hyi]
        have hm := List.mem_of_getElem? hri
        have hrow : ∀ r ∈ items d, isSeq r = true := fun r hm => by
          have := List.all_eq_true.mp h2 r hm
          unfold rowOk at this
          exact (Bool.and_eq_true_iff.mp this).1
        obtain ⟨a2, ys, rfl, hn2, hy2, ha2⟩ := (hr1.ex e2).seq (hrow r hm)
        -- the first row
        have hne : items d ≠ [] := fun z => by
          rw [z] at hm
          cases hm
        obtain ⟨r0, l0, e0⟩ : ∃ r0 l0, items d = r0 :: l0 := by
          cases hi : items d with
          | nil => exact absurd hi hne
          | cons r0 l0 => exact ⟨r0, l0, rfl⟩
        have hr0 : (items d)[0]? = some r0 := by rw [e0]; rfl
        obtain ⟨x0, hx0, hd0⟩ := ha1.get' hr0
        obtain ⟨a3, zs, rfl, hn3, hz3, ha3⟩ := (hd0.ex e2).seq (hrow r0 (List.mem_of_getElem? hr0))
        refine ev_andV (ev_is (ev_op (ev_lenS (ev_var rfl) hy2) (ev_lenS (ev_op (ev_var rfl) ev_c (rv_ixSq (hx1.ex e2) (atI_nat (j := 0) hx0))) hz3) (rv_eq rfl)) ?_) fun hq => ?_
        · rw [ha2.len, ha3.len, e0]
          rfl
        · refine ev_is (ev_all (bs := (items r).map isInt) (el_seq (a := a2) (xs := ys) (ev_var rfl) hy2 (by rw [ha2.len]; have := hf.2 r hm; omega) (by rw [List.length_map, List.length_map, ha2.len]) fun k z y3 H3 e3 hzk hyk => ?_)) (by rw [all_map])
          obtain ⟨s1, hs1, hs2⟩ := ha2.get hzk
          rw [map_at hs1 hyk]
          exact ev_call (ea_cons (ev_var rfl) ea_nil) (sp_is_integer (hs2.ex e3))
      · rw [all_map]
        unfold isPic
        rw [h1, h2]
        rfl
end
end Pw
set_option Elab.async false
set_option linter.all false
set_option maxRecDepth 100000
namespace Pw
open PySem PySem.Spec PyProof.Rows L2 Evl
/-! ## the two error classes -/
/-- an error class of the module: x, with such fields, its __init__ the statement st -/
structure De (K : PySem.W.Frag) (mg : Str → Option Value) (x q : Str) (fs : List Str) (st : Stmt) : Prop where
  oex : OexC K (He.ga K x)
  xf : XfC K (He.ga K x)
  no : ∀ f ∈ fs, PySem.W.findIn K (.ref (He.ga K x)) f = some none
  gl : mg x = some (.ref (He.ga K x))
  iC : PySem.W.findIn K (.ref (He.ga K x)) "__init__" = some (some (.ref (He.ma K (He.ga K x) "__init__")))
  tI : PySem.W.typeIn K (.ref (He.ma K (He.ga K x) "__init__")) = some (.type "function")
  fn : ∃ fd, FunD K "__init__" q (defArgs st) (defBody st) (defScope st) [] [] (He.ma K (He.ga K x) "__init__") fd
/-- .. and its __init__ keeps a promise -/
structure Pe (P : Program) (w : World) (K : PySem.W.Frag) (mg : Str → Option Value) (base : Heap) (k : Nat) (x : Str) (fs : List Str) (ps : List Str) (sp : Sp) : Prop where
  oex : OexC K (He.ga K x)
  xf : XfC K (He.ga K x)
  no : ∀ f ∈ fs, PySem.W.findIn K (.ref (He.ga K x)) f = some none
  gl : mg x = some (.ref (He.ga K x))
  iC : PySem.W.findIn K (.ref (He.ga K x)) "__init__" = some (some (.ref (He.ma K (He.ga K x) "__init__")))
  tI : PySem.W.typeIn K (.ref (He.ma K (He.ga K x) "__init__")) = some (.type "function")
  ok : ∃ fd, FnOk P w K mg base CX0 k (He.ma K (He.ga K x) "__init__") fd ps sp ∧ Binds K fd ps []
section
variable {P : Program} {w : World} {K : PySem.W.Frag} {mg : Str → Option Value} {base : Heap}
theorem Pe.of {x q : Str} {fs : List Str} {st : Stmt} {N ps : List Str} {k : Nat} {sp : Sp} (D : De K mg x q fs st) (S : FnScope N ps (defScope st)) (hb : BindsF "__init__" q st ps) (len : ∀ vs H Q E, sp vs H Q E → vs.length = ps.length)
    (body : ∀ (cdv : Value) (A : Around) (outer : List Env) (s : Shared) (H : Hp) (vs : List V) (Q : VK) (E : XK), Room k (A.deeper (envOfC q (defScope st) s.heap.objs.size (He.ma K (He.ga K x) "__init__") cdv)) → sp vs H Q E →
      ∃ t, PSs (cxOf CX0 P w K mg base N q (defScope st) (He.ma K (He.ga K x) "__init__") cdv A outer s H E).nox (defBody st) t ∧ t { nx := fun _ H' => Q .non H', rt := Q } (start N vs) H) :
    Pe P w K mg base (k + 1) x fs ps sp := by
  obtain ⟨fd, F⟩ := D.fn
  refine ⟨D.oex, D.xf, D.no, D.gl, D.iC, D.tI, fd, F.ok S len fun cdv A outer s H vs Q E hr h => ?_, F.bindsN hb⟩
  obtain ⟨t, h1, h2⟩ := body cdv A outer s H vs Q E hr h
  exact ⟨t, h1.nox, h2⟩
end
section
variable {X : Cx} {k : Nat} {x : Str} {fs ps : List Str} {sp : Sp} {e : Expr} {es : List Expr} {t : TA} {p pos pos2 : Pos} {W : WX}
/-- raise x(e, ..) -/
theorem praise (D : Pe X.prog X.w X.K X.mg X.base k x fs ps sp) (hr : Room (k + 1) X.A) (hc : X.calm = true) (tk : Takes X W) (ha : PA X (e :: es) t) (hg : Gl X x := by rfl) (hdb : (x == ("__debug__" : Str)) = false := by decide)
    (he : starEach (e :: es) X.env = (false, eval e X.env) :: starEach es X.env := by rfl) (hpl : (backTo pos (starEach es X.env)).any (·.1) = false := by rfl) :
    PS X (.Raise (some (.Call (.Name x p) (e :: es) [] pos)) none pos2) (fun _ σ H => tMkO (He.ga X.K x) sp [] t σ H fun cls d H' => W cls d σ H') := by
  obtain ⟨fd, F, b⟩ := D.ok
  exact ps_raise hc tk (pmk_oex D.oex D.iC D.tI F hr b .nil (fun _ _ _ _ _ _ _ h => h.elim) hg D.gl ha hdb he hpl)
end
def spInit1 (K : PySem.W.Frag) (x f : Str) : Sp := fun vs H Q _ => ∃ (a : Addr) (v : V), vs = [.ref a, v] ∧ H a = some (exo a (He.ga K x) none) ∧
  ∀ dx, H dx = none → dx ≠ a → Q .non (upd (upd H dx (exd dx [(f, v)])) a (exo a (He.ga K x) (some dx)))
def spInit2 (K : PySem.W.Frag) (x f g : Str) : Sp := fun vs H Q _ => ∃ (a : Addr) (v u : V), vs = [.ref a, v, u] ∧ H a = some (exo a (He.ga K x) none) ∧
  ∀ dx, H dx = none → dx ≠ a → Q .non (upd (upd (upd H dx (exd dx [(f, v)])) a (exo a (He.ga K x) (some dx))) dx (exd dx [(g, u), (f, v)]))
abbrev sPicInit : Stmt := inClass (top 3) 0
abbrev sTextInit : Stmt := inClass (top 4) 0
theorem scPicInit : FnScope ["self", "thing"] ["self", "thing"] (defScope sPicInit) := ⟨rfl, rfl, rfl, by decide +kernel, rfl, by decide +kernel, by decide +kernel⟩
theorem scTextInit : FnScope ["self", "line", "sign"] ["self", "line", "sign"] (defScope sTextInit) := ⟨rfl, rfl, rfl, by decide +kernel, rfl, by decide +kernel, by decide +kernel⟩
abbrev DePic (K : PySem.W.Frag) (mg : Str → Option Value) : Prop := De K mg "BadPicture" "BadPicture.__init__" ["thing"] sPicInit
abbrev DeText (K : PySem.W.Frag) (mg : Str → Option Value) : Prop := De K mg "BadText" "BadText.__init__" ["line", "sign"] sTextInit
abbrev PePic (P : Program) (w : World) (K : PySem.W.Frag) (mg : Str → Option Value) (base : Heap) : Prop := Pe P w K mg base 1 "BadPicture" ["thing"] ["self", "thing"] (spInit1 K "BadPicture" "thing")
abbrev PeText (P : Program) (w : World) (K : PySem.W.Frag) (mg : Str → Option Value) (base : Heap) : Prop := Pe P w K mg base 1 "BadText" ["line", "sign"] ["self", "line", "sign"] (spInit2 K "BadText" "line" "sign")
section
variable {P : Program} {w : World} {K : PySem.W.Frag} {mg : Str → Option Value} {base : Heap}
theorem ok_pic_init (D : DePic K mg) : PePic P w K mg base := by
  refine Pe.of D scPicInit (fun _ _ _ _ _ _ us hl => match us, hl with | [_, _], _ => rfl) (fun vs H Q E h => ?_) fun cdv A outer s H vs Q E hr h => ?_
  · obtain ⟨a, v, rfl, _⟩ := h
    rfl
  · obtain ⟨a, v, rfl, ha, q⟩ := h
    refine ⟨_, pss_one (ps_ost (pv 0) (pv 1)), ?_⟩
    exact ⟨_, rfl, _, rfl, a, _, rfl, D.oex, D.no "thing" (by decide), .inl ⟨ha, q⟩⟩
theorem ok_text_init (D : DeText K mg) : PeText P w K mg base := by
  refine Pe.of D scTextInit (fun _ _ _ _ _ _ us hl => match us, hl with | [_, _, _], _ => rfl) (fun vs H Q E h => ?_) fun cdv A outer s H vs Q E hr h => ?_
  · obtain ⟨a, v, u, rfl, _⟩ := h
    rfl
  · obtain ⟨a, v, u, rfl, ha, q⟩ := h
    refine ⟨_, pss_cons (ps_ost (pv 0) (pv 1)) (pss_one (ps_ost (pv 0) (pv 2))), ?_⟩
    refine ⟨_, rfl, _, rfl, a, _, rfl, D.oex, D.no "line" (by decide), .inl ⟨ha, fun dx hdx hne => ?_⟩⟩
    exact ⟨_, rfl, _, rfl, a, _, rfl, D.oex, D.no "sign" (by decide), .inr ⟨dx, _, upd_same, by rw [upd_ne hne, upd_same], by simp, q dx hdx hne⟩⟩
end
/-- what a raise of the one leaves, told of the heap behind it -/
theorem mk1 {K : PySem.W.Frag} {x f : Str} {σ : L2.St} {H : Hp} {v : V} {t : TA} {Q : XK} (ht : EvA t σ H [v]) (q : ∀ d H', H d = none → Ex H H' → H' d = some (.xd [(f, v)]) → Q (.ref (He.ga K x)) (some d) H') :
    tMkO (He.ga K x) (spInit1 K x f) [] t σ H Q := by
  refine ht H (Ex.refl H) _ fun H1 e1 => ⟨by simp, fun a ha => ⟨a, v, rfl, upd_same, fun dx hdx hne => ⟨rfl, dx, _, upd_same, by rw [upd_ne hne, upd_same], ?_, ?_⟩⟩⟩
  · rw [upd_ne hne] at hdx
    exact hdx
  · rw [upd_ne hne] at hdx
    refine q dx _ (fresh_back e1 hdx) (fun b o e => ?_) upd_same
    have nb : b ≠ a := ne_of_none (e1 b o e) ha
    have nd : b ≠ dx := ne_of_none (e1 b o e) hdx
    rw [upd_ne nd, del_ne nb, upd_ne nb, upd_ne nd, upd_ne nb]
    exact e1 b o e
theorem mk2 {K : PySem.W.Frag} {x f g : Str} {σ : L2.St} {H : Hp} {v u : V} {t : TA} {Q : XK} (ht : EvA t σ H [v, u]) (q : ∀ d H', H d = none → Ex H H' → H' d = some (.xd [(g, u), (f, v)]) → Q (.ref (He.ga K x)) (some d) H') :
    tMkO (He.ga K x) (spInit2 K x f g) [] t σ H Q := by
  refine ht H (Ex.refl H) _ fun H1 e1 => ⟨by simp, fun a ha => ⟨a, v, u, rfl, upd_same, fun dx hdx hne => ⟨rfl, dx, _, by rw [upd_ne (Ne.symm hne), upd_same], upd_same, ?_, ?_⟩⟩⟩
  · rw [upd_ne hne] at hdx
    exact hdx
  · rw [upd_ne hne] at hdx
    refine q dx _ (fresh_back e1 hdx) (fun b o e => ?_) upd_same
    have nb : b ≠ a := ne_of_none (e1 b o e) ha
    have nd : b ≠ dx := ne_of_none (e1 b o e) hdx
    rw [upd_ne nd, del_ne nb, upd_ne nd, upd_ne nb, upd_ne nd, upd_ne nb]
    exact e1 b o e
/-! ## checked_picture -/
def rowsD (d : PyData) : PyData := .list ((items d).map fun r => .list (items r))
abbrev sChecked : Stmt := top 11
abbrev nChecked : List Str := ["picture", "row"]
theorem scChecked : FnScope nChecked ["picture"] (defScope sChecked) := ⟨rfl, rfl, rfl, by decide +kernel, rfl, by decide +kernel, by decide +kernel⟩
/-- how BadPicture is told -/
def BadPic (K : PySem.W.Frag) (v : V) (H : Hp) (E : XK) : Prop := ∀ d H', H d = none → Ex H H' → H' d = some (.xd [("thing", v)]) → E (.ref (He.ga K "BadPicture")) (some d) H'
def spChecked (K : PySem.W.Frag) : Sp := fun vs H Q E => ∃ (v : V) (L : Addr → Prop) (d : PyData), vs = [v] ∧ Dt L H v d ∧ few d ∧
  (isPic d = false → BadPic K v H E) ∧ (isPic d = true → ∀ u H', Ex H H' → Dt (Old H) H' u (rowsD d) → Q u H')
theorem DtAll.of {L : Addr → Prop} {H : Hp} : ∀ {ds : List PyData} {vs : List V}, vs.length = ds.length → (∀ (k : Nat) (v : V) (d : PyData), vs[k]? = some v → ds[k]? = some d → Dt L H v d) → DtAll L H vs ds
  | [], [], _, _ => .nil
  | [], _ :: _, h, _ => by simp at h
  | _ :: _, [], h, _ => by simp at h
  | d :: ds, v :: vs, h, k => .cons (k 0 v d rfl rfl) (DtAll.of (by simpa using h) fun i v d e1 e2 => k (i + 1) v d (by simpa using e1) (by simpa using e2))
theorem DtAll.flat {L L' : Addr → Prop} {H H' : Hp} : ∀ {ds : List PyData} {vs : List V}, DtAll L H vs ds → (∀ d ∈ ds, ∃ i, d = .int i) → DtAll L' H' vs ds
  | [], _, h, _ => by
    cases h
    exact .nil
  | d :: ds, _, h, k => by
    cases h with
    | cons h1 h2 =>
      obtain ⟨i, rfl⟩ := k d (List.mem_cons_self ..)
      cases h1
      exact .cons (.int i) (DtAll.flat h2 fun z hz => k z (List.mem_cons_of_mem _ hz))
theorem isInt_int {d : PyData} (h : isInt d = true) : ∃ i, d = .int i := by
  cases d with
  | int i => exact ⟨i, rfl⟩
  | none => exact absurd h (by show ¬ (isAn "NoneType" "int" && !isAn "NoneType" "bool") = true; decide)
  | bool b => exact absurd h (by show ¬ (isAn "bool" "int" && !isAn "bool" "bool") = true; decide)
  | str x => exact absurd h (by show ¬ (isAn "str" "int" && !isAn "str" "bool") = true; decide)
  | list l => exact absurd h (by show ¬ (isAn "list" "int" && !isAn "list" "bool") = true; decide)
  | tuple l => exact absurd h (by show ¬ (isAn "tuple" "int" && !isAn "tuple" "bool") = true; decide)
  | dict l => exact absurd h (by show ¬ (isAn "dict" "int" && !isAn "dict" "bool") = true; decide)
theorem isPic_int {d : PyData} (h : isPic d = true) (r : PyData) (hr : r ∈ items d) : ∀ s ∈ items r, ∃ i, s = .int i := fun s hs => by
  unfold isPic at h
  have h2 := List.all_eq_true.mp (Bool.and_eq_true_iff.mp h).2 r hr
  unfold shadesOk at h2
  exact isInt_int (List.all_eq_true.mp (Bool.and_eq_true_iff.mp h2).2 s hs)
theorem k_listof {X : Cx} {K : PySem.W.Frag} (hK : X.K = K) : CallR X (.type "list") (rListS K) := by
  subst hK
  exact call_list_of
section
variable {K : PySem.W.Frag} {σ : L2.St} {H : Hp} {ta te : TE} {a : Addr} {xs : List V}
theorem el_listS (ha : Ev ta σ H (.ref a)) (h : Sq H a xs) : EvL (tCB (rListS K) (tCons ta tNil)) σ H xs := fun H1 e Q q =>
  ha H1 e _ fun H2 e2 => ⟨a, xs, rfl, (h.ex (e.trans e2)).or, fun l hl => q l _ (fresh_back e2 hl) (e2.trans (Ex.new hl)) upd_same⟩
end
theorem sp_is_picture {H : Hp} {v : V} {L : Addr → Prop} {d : PyData} (h : Dt L H v d) (hf : few d) : SpV spIsPicture [v] H (.bl (isPic d)) := fun H1 e Q q E => ⟨v, L, d, rfl, h.ex e, hf, fun H2 s => q H2 s⟩
theorem isPic_seq {d : PyData} (h : isPic d = true) : isSeq d = true ∧ ∀ r ∈ items d, isSeq r = true := by
  unfold isPic at h
  obtain ⟨h1, _⟩ := Bool.and_eq_true_iff.mp h
  obtain ⟨h1, h2⟩ := Bool.and_eq_true_iff.mp h1
  refine ⟨h1, fun r hm => ?_⟩
  have := List.all_eq_true.mp h2 r hm
  unfold rowOk at this
  exact (Bool.and_eq_true_iff.mp this).1
section
variable {P : Program} {w : World} {K : PySem.W.Frag} {mg : Str → Option Value} {base : Heap}
theorem ok_checked (D : Df K mg "checked_picture" sChecked) (F : Free mg) (R : Pr P w K mg base CX0 2 "is_picture" ["thing"] spIsPicture) (B : PePic P w K mg base) :
    Pr P w K mg base (L2.CX P w) 3 "checked_picture" ["picture"] (spChecked K) := by
  refine Pr.ofX D scChecked (fun _ _ _ _ _ _ us hl => match us, hl with | [_], _ => rfl) (fun vs H Q E h => ?_) fun cdv A outer s H vs Q E hr h => ?_
  · obtain ⟨v, L, d, rfl, _⟩ := h
    rfl
  · obtain ⟨v, L, d, rfl, hd, hf, qE, q⟩ := h
    refine ⟨_, pss_cons (ps_if (pt_not (pt_val (pcall R hr (E := E0) (fun _ _ _ _ _ _ _ z => z.elim) (pa_cons (pv 0) pa_nil)))) (pss_one (praise B hr rfl (takes_of rfl rfl rfl rfl) (by exact (pa_cons (pv 0) pa_nil)))) pss_nil)
      (pss_one (ps_ret (pe_lc (own := [("row", 1)]) (g := gName 1) (tt := tYes) rfl scChecked.nd (k_seq (K := K) rfl (pv 0)) (blkOk_by (by kernel_rfl))
        (fun _ _ _ _ _ => pg_name (i := 1) scChecked.nd rfl (Or.inl rfl)) (fun _ _ _ _ _ => pts_nil)
        (fun _ _ _ _ _ => pe_callTy (k_listof (K := K) rfl) (by rfl) F.list bb_list (pa_cons (pv 1) pa_nil))))), ?_⟩
    refine q_when (b := !isPic d) (et_not (et_B (ev_call (ea_cons (ev_var rfl) ea_nil) (sp_is_picture hd hf)))) (fun hb H1 e1 => ?_) (fun hb H1 e1 => ?_)
    · refine mk1 (ea_cons (ev_var rfl) ea_nil) fun d' H' h1 e2 h2 => ?_
      exact qE (by simpa using hb) d' H' (fresh_back e1 h1) (e1.trans e2) h2
    · have hp : isPic d = true := by simpa using hb
      obtain ⟨hs1, hs2⟩ := isPic_seq hp
      obtain ⟨a, xs, rfl, hn, hx, ha⟩ := hd.seq hs1
      have ha1 := ha.ex e1
      refine i_seq (K := K) (a := a) (xs := xs) (ev_var rfl) (hx.ex e1) fun J G H2 e2 w hG D hD => ?_
      refine lc_word w hD (fun H' e' => hG H' fun o z => e' a o (e2 a o z)) (by rw [ha.len]; have := hf.1; omega) (fun k y H' => ∃ r, (items d)[k]? = some r ∧ Dt (fun b => Old H b ∨ b = D) H' y (.list (items r)))
        (fun k y H' H3 ⟨r, hr1, hr2⟩ st => ⟨r, hr1, Dt.but (fun b o n z => st b o (fun z2 => n (.inr z2)) z) _ _ hr2⟩) (fun i x H3 H' acc hi e3 hDs hy Q' q' => ?_) (fun zs H' e' hlen hDs hr => ?_)
      · obtain ⟨rfl, hx'⟩ := hy
        obtain ⟨r, hri, hr1⟩ := ha1.get hx'
        obtain ⟨a2, ys, rfl, hn2, hy2, ha2⟩ := hr1.seq (hs2 r (List.mem_of_getElem? hri))
        refine q' _ _ (Ex.refl _) (wipe1 _ _ _) fun H4 e4 Q2 q2 => ?_
        refine el_listS (K := K) (a := a2) (xs := ys) (ev_var rfl) (hy2.ex (e2.trans e3)) H4 e4 Q2 fun p H5 hp5 e5 h5 => q2 _ H5 e5 ⟨r, hri, .lst (fun z => ?_) h5 ?_⟩
        · rcases z with z | z
          · exact z (fresh_back (((e1.trans e2).trans e3).trans e4) hp5)
          · rw [z] at hp5
            rw [e4 _ _ hDs] at hp5
            cases hp5
        · exact ha2.flat (isPic_int hp r (List.mem_of_getElem? hri))
      · refine q hp (.ref D) H' (((e1.trans e2)).trans e') (.lst (new_old (fresh_back (e1.trans e2) hD)) hDs ?_)
        refine DtAll.of (by rw [List.length_map, hlen, ha.len]) fun k v d2 hv hd2 => ?_
        obtain ⟨r, hr1, hr2⟩ := hr k v hv
        rw [List.getElem?_map, hr1] at hd2
        have e : PyData.list (items r) = d2 := Option.some.inj hd2
        rw [← e]
        exact hr2.sub fun b z => .inl z
end
end Pw
set_option Elab.async false
set_option linter.all false
set_option maxRecDepth 100000
namespace Pw
open PySem PySem.Spec PyProof.Rows L2 Evl
/-! ## texts -/
def rAddS : R2 := fun x y H Q => ∃ i j, x = .str i ∧ y = .str j ∧ i.length + j.length ≤ sizeLine ∧ Q (.str (i ++ j)) H
def rStrI : List V → Hp → VK → Prop := fun xs H Q => ∃ i : Int, xs = [.int i] ∧ i.natAbs.log2 < 1920 ∧ Q (.str (Str.ofString (toString i))) H
def rJoin (K : PySem.W.Frag) : V → List V → Hp → VK → Prop := fun x xs H Q => ∃ a p, ∃ ys : List Str, x = .str a ∧ xs = [.ref p] ∧ (SqL K H p (ys.map V.str) ∨ SqT K H p (ys.map V.str)) ∧
  (ys.map (·.length)).sum + ys.length * a.length ≤ 16777216 ∧ Q (.str (Txt.join a ys)) H
def rSplit : V → List V → Hp → VK → Prop := fun x xs H Q => ∃ a b, x = .str a ∧ xs = [.str b] ∧ (b.length == 0) = false ∧ a.length + 2 ≤ sizeLine ∧ rNewStrs (Txt.split a b) H Q
section
variable {X : Cx} {K : PySem.W.Frag}
theorem k_join (hK : X.K = K) : MtR X "str.join" (rJoin K) := by
  subst hK
  exact mt_join
theorem k_adds : OpR X (binaryOp .Add) rAddS := op_add_str
theorem k_str : CallR X (.type "str") rStrI := call_str_int
variable {o e : Expr} {to te : TE}
theorem pjoin {apos pos : Pos} (hK : X.K = K) (ho : PE X o to) (he : PE X e te) (hs : starEach [e] X.env = [(false, eval e X.env)] := by rfl) (hbase : attributeBase o "join" X.env (eval o X.env) = eval o X.env := by rfl) (hline : (apos.endLine == pos.line) = true := by rfl) :
    PE X (.Call (.Attribute o "join" apos) [e] [] pos) (tM1 (rJoin K) to te) := pe_m1 F.slot_str_join F.type_str_join (k_join hK) ho he hs hbase hline
end
section
variable {K : PySem.W.Frag} {σ : L2.St} {H : Hp} {ta tb te to : TE} {a : Addr} {xs : List V}
theorem ev_adds {x y : Str} (ha : Ev ta σ H (.str x)) (hb : Ev tb σ H (.str y)) (hz : x.length + y.length ≤ sizeLine) : Ev (tOp rAddS ta tb) σ H (.str (x ++ y)) :=
  ev_op ha hb fun H1 _ Q q => ⟨x, y, rfl, rfl, hz, q H1 (Ex.refl H1)⟩
theorem ev_stri {i : Int} (ha : Ev ta σ H (.int i)) (hz : i.natAbs.log2 < 1920) : Ev (tCB rStrI (tCons ta tNil)) σ H (.str (Str.ofString (toString i))) := fun H1 e Q q =>
  ha H1 e _ fun H2 e2 => ⟨i, rfl, hz, q H2 e2⟩
theorem ev_joinL {s : Str} {ys : List Str} (ho : Ev to σ H (.str s)) (h : EvL te σ H (ys.map V.str)) (hz : (ys.map (·.length)).sum + ys.length * s.length ≤ 16777216) : Ev (tM1 (rJoin K) to te) σ H (.str (Txt.join s ys)) := fun H1 e Q q =>
  ho H1 e _ fun H2 e2 => ⟨⟨s, rfl⟩, h H2 (e.trans e2) _ fun p H3 hp e3 h3 => ⟨s, p, ys, rfl, rfl, .inl (SqL.of h3), hz, q H3 (e2.trans e3)⟩⟩
theorem el_split {x s : Str} (ho : Ev to σ H (.str x)) (h : Ev te σ H (.str s)) (hs : (s.length == 0) = false) (hz : x.length + 2 ≤ sizeLine) : EvL (tM1 rSplit to te) σ H ((Txt.split x s).map V.str) := fun H1 e Q q =>
  ho H1 e _ fun H2 e2 => ⟨⟨x, rfl⟩, h H2 (e.trans e2) _ fun H3 e3 => ⟨x, s, rfl, rfl, hs, hz, fun p hp => q p _ (fresh_back (e2.trans e3) hp) ((e2.trans e3).trans (Ex.new hp)) upd_same⟩⟩
theorem set_at {j : Nat} {x : Option V} (h : j < σ.length) : ((wipe σ [j]).set j x)[j]? = some x := by
  show ((σ.set j none).set j x)[j]? = some x
  rw [List.getElem?_set_self (by rw [List.length_set]; exact h)]
theorem set_off {i j : Nat} {x : Option V} (h : i ≠ j) : ((wipe σ [j]).set j x)[i]? = σ[i]? := by
  show ((σ.set j none).set j x)[i]? = σ[i]?
  rw [List.getElem?_set_ne (Ne.symm h), List.getElem?_set_ne (Ne.symm h)]
theorem set_len {j : Nat} {x : Option V} : ((wipe σ [j]).set j x).length = σ.length := by
  show ((σ.set j none).set j x).length = σ.length
  rw [List.length_set, List.length_set]
end
/-! ## a picture's text -/
def shadeS (i : Int) : Str := Str.ofString (toString i)
def rowS (ns : List Int) : Str := Txt.join (Str.ofString " ") (ns.map shadeS) ++ Str.ofString "\n"
def textR (rows : List (List Int)) : Str := Txt.join (Str.ofString "") (rows.map rowS)
def rowD (ns : List Int) : PyData := .list (ns.map .int)
def picD (rows : List (List Int)) : PyData := .list (rows.map rowD)
/-- few rows, few shades, none great -/
def Small (rows : List (List Int)) : Prop := rows.length ≤ 1000 ∧ ∀ r ∈ rows, r.length ≤ 1000 ∧ ∀ i ∈ r, i.natAbs < 10 ^ 12
theorem shadeS_len {i : Int} (h : i.natAbs < 10 ^ 12) : (shadeS i).length ≤ 13 := by
  have := PyData.shown_int_le (i := i) h
  rw [PyData.shown_int] at this
  exact this
theorem log_of {i : Int} (h : i.natAbs < 10 ^ 12) : i.natAbs.log2 < 1920 := log2_small (Nat.lt_of_lt_of_le h (Nat.le_trans (by decide : 10 ^ 12 ≤ 2 ^ 40) (Nat.pow_le_pow_right (by decide) (by decide))))
theorem sum_le {α : Type} (f : α → Nat) (b : Nat) : ∀ l : List α, (∀ x ∈ l, f x ≤ b) → (l.map f).sum ≤ l.length * b
  | [], _ => by simp
  | x :: l, h => by
    have h1 := h x (List.mem_cons_self ..)
    have h2 := sum_le f b l fun y hy => h y (List.mem_cons_of_mem _ hy)
    rw [List.map_cons, List.sum_cons, List.length_cons, Nat.succ_mul]
    omega
theorem join_len (s : Str) (ys : List Str) : (Txt.join s ys).length ≤ (ys.map (·.length)).sum + ys.length * s.length := by
  rw [TL.join_eq]
  exact StrLaws.join_length_le s ys
theorem rowS_len {ns : List Int} (h : ∀ i ∈ ns, i.natAbs < 10 ^ 12) : (rowS ns).length ≤ 14 * ns.length + 1 := by
  unfold rowS
  have h1 := join_len (Str.ofString " ") (ns.map shadeS)
  have h2 := sum_le (fun i => (shadeS i).length) 13 ns fun i hi => shadeS_len (h i hi)
  rw [List.map_map, List.length_map] at h1
  have h3 : (Str.ofString " ").length = 1 := by decide
  have h4 : (Str.ofString "\n").length = 1 := by decide
  rw [Str.length_append, h4]
  rw [h3] at h1
  have h5 : ((ns.map ((fun x => x.length) ∘ shadeS)).sum) ≤ ns.length * 13 := h2
  omega
theorem textR_sum {rows : List (List Int)} (h : Small rows) : ((rows.map rowS).map (·.length)).sum + (rows.map rowS).length * (Str.ofString "").length ≤ 16777216 := by
  have h1 := sum_le (fun r => (rowS r).length) 14001 rows fun r hr => by
    have := rowS_len (h.2 r hr).2
    have := (h.2 r hr).1
    omega
  have h3 : (Str.ofString "").length = 0 := by decide
  rw [h3, List.map_map]
  have h2 : ((rows.map ((fun x => x.length) ∘ rowS)).sum) ≤ rows.length * 14001 := h1
  have := h.1
  omega
theorem textR_len {rows : List (List Int)} {b : Nat} (h : ∀ r ∈ rows, (rowS r).length ≤ b) : (textR rows).length ≤ rows.length * b := by
  unfold textR
  have h0 := join_len (Str.ofString "") (rows.map rowS)
  have h1 := sum_le (fun r => (rowS r).length) b rows h
  have h3 : (Str.ofString "").length = 0 := by decide
  rw [h3, List.map_map] at h0
  have h2 : ((rows.map ((fun x => x.length) ∘ rowS)).sum) ≤ rows.length * b := h1
  omega
abbrev iSq (K : PySem.W.Frag) (i : Nat) : TI := iOr (iList K (tVar i)) (iTup K (tVar i))
/-- "".join([" ".join([str(x2) for x2 in x1]) + "\n" for x1 in x]), x in slot i, x1 in j1, x2 in j2 -/
def tText (K : PySem.W.Frag) (i j1 j2 : Nat) : TE := tM1 (rJoin K) (tC (.str (Str.ofString "")))
  (tLc (iSq K i) (gName j1) tYes (tOp rAddS (tM1 (rJoin K) (tC (.str (Str.ofString " "))) (tLc (iSq K j1) (gName j2) tYes (tCB rStrI (tCons (tVar j2) tNil)) [j2])) (tC (.str (Str.ofString "\n")))) [j1])
theorem ev_text {K : PySem.W.Frag} {σ : L2.St} {H : Hp} {L : Addr → Prop} {v : V} {rows : List (List Int)} {i j1 j2 : Nat} (hσ : σ[i]? = some (some v)) (h1 : j1 < σ.length) (h2 : j2 < σ.length) (hd : Dt L H v (picD rows)) (hs : Small rows) :
    Ev (tText K i j1 j2) σ H (.str (textR rows)) := by
  cases hd with
  | lst n e ha =>
    refine ev_joinL (ys := rows.map rowS) ev_c (el_seq (ev_var hσ) (.inl e) (by rw [ha.len, List.length_map]; have := hs.1; omega) (by rw [ha.len, List.length_map, List.length_map, List.length_map]) fun k x y H1 e1 hx hy => ?_) (textR_sum hs)
    obtain ⟨d, hd1, hd2⟩ := ha.get hx
    rw [List.getElem?_map] at hd1
    rw [List.getElem?_map, List.getElem?_map] at hy
    cases hr : rows[k]? with
    | none =>
      rw [hr] at hd1
      cases hd1
    | some r =>
      rw [hr] at hd1 hy
      have ed : rowD r = d := Option.some.inj hd1
      have ey : V.str (rowS r) = y := Option.some.inj hy
      subst ed ey
      have hrs := hs.2 r (List.mem_of_getElem? hr)
      have hz := rowS_len hrs.2
      have hrow : rowS r = Txt.join (Str.ofString " ") (r.map shadeS) ++ Str.ofString "\n" := rfl
      rw [hrow, Str.length_append] at hz
      cases hd2 with
      | lst n2 e2 ha2 =>
        have hsum : ((r.map shadeS).map (·.length)).sum + (r.map shadeS).length * (Str.ofString " ").length ≤ 16777216 := by
          have q2 := sum_le (fun i => (shadeS i).length) 13 r fun i hi => shadeS_len (hrs.2 i hi)
          have h3 : (Str.ofString " ").length = 1 := by decide
          have h5 : ((r.map ((fun x => x.length) ∘ shadeS)).sum) ≤ r.length * 13 := q2
          have := hrs.1
          rw [h3, List.map_map, List.length_map]
          omega
        rw [hrow]
        refine ev_adds (ev_joinL (ys := r.map shadeS) ev_c (el_seq (ev_var (set_at h1)) (Sq.ex (.inl e2) e1) (by rw [ha2.len, List.length_map]; have := hrs.1; omega) (by rw [ha2.len, List.length_map, List.length_map, List.length_map]) fun k2 x2 y2 H2 e2' hx2 hy2 => ?_) hsum) ev_c
          (Nat.le_trans hz (by rw [sizeLine_eq]; have := hrs.1; omega))
        obtain ⟨d2, hd3, hd4⟩ := ha2.get hx2
        rw [List.getElem?_map] at hd3
        rw [List.getElem?_map, List.getElem?_map] at hy2
        cases hi : r[k2]? with
        | none =>
          rw [hi] at hd3
          cases hd3
        | some z =>
          rw [hi] at hd3 hy2
          have ed2 : PyData.int z = d2 := Option.some.inj hd3
          have ey2 : V.str (shadeS z) = y2 := Option.some.inj hy2
          subst ed2 ey2
          cases hd4
          exact ev_stri (ev_var (set_at (by rw [set_len]; exact h2))) (log_of (hrs.2 z (List.mem_of_getElem? hi)))
/-! ## picture_text -/
def intI : PyData → Int
  | .int i => i
  | _ => 0
def rowsI (d : PyData) : List (List Int) := (items d).map fun r => (items r).map intI
theorem map_intI : ∀ {ds : List PyData}, (∀ s ∈ ds, ∃ i, s = .int i) → (ds.map intI).map PyData.int = ds
  | [], _ => rfl
  | d :: ds, h => by
    obtain ⟨i, rfl⟩ := h d (List.mem_cons_self ..)
    show PyData.int i :: (ds.map intI).map PyData.int = _
    rw [map_intI fun s hs => h s (List.mem_cons_of_mem _ hs)]
theorem rowsD_pic {d : PyData} (h : isPic d = true) : rowsD d = picD (rowsI d) := by
  unfold rowsD picD rowsI
  rw [List.map_map]
  congr 1
  refine List.map_congr_left fun r hr => ?_
  show PyData.list (items r) = rowD ((items r).map intI)
  unfold rowD
  rw [map_intI (isPic_int h r hr)]
abbrev sPictureText : Stmt := top 17
abbrev nPictureText : List Str := ["picture", "rows", "row", "shade"]
theorem scPictureText : FnScope nPictureText ["picture"] (defScope sPictureText) := ⟨rfl, rfl, rfl, by decide +kernel, rfl, by decide +kernel, by decide +kernel⟩
def spPictureText (K : PySem.W.Frag) : Sp := fun vs H Q E => ∃ (v : V) (L : Addr → Prop) (d : PyData), vs = [v] ∧ Dt L H v d ∧ few d ∧ (isPic d = true → Small (rowsI d)) ∧
  (isPic d = false → BadPic K v H E) ∧ (isPic d = true → ∀ H', Ex H H' → Q (.str (textR (rowsI d))) H')
section
variable {P : Program} {w : World} {K : PySem.W.Frag} {mg : Str → Option Value} {base : Heap}
theorem ok_picture_text (D : Df K mg "picture_text" sPictureText) (F : Free mg) (R : Pr P w K mg base (L2.CX P w) 3 "checked_picture" ["picture"] (spChecked K)) :
    Pk P w K mg base (L2.CX P w) 4 "picture_text" "picture" (spPictureText K) := by
  refine Pk.ofX D scPictureText (fun _ _ _ _ _ _ us hl => match us, hl with | [_], _ => rfl) (fun _ _ _ _ _ _ _ => rfl) (fun vs H Q E h => ?_) fun cdv A outer s H vs Q E hr h => ?_
  · obtain ⟨v, L, d, rfl, _⟩ := h
    rfl
  · obtain ⟨v, L, d, rfl, hd, hf, hs, qE, q⟩ := h
    refine ⟨_, pss_cons (ps_set (i := 1) scPictureText.nd rfl (.inl rfl) (pcall R hr (E := E) (passes_call (W := fun cls d _ H => E cls d H) (takes_of rfl rfl rfl rfl) fun _ _ _ _ z => z) (pa_cons (pv 0) pa_nil)))
      (pss_one (ps_ret (pjoin (K := K) rfl pe_str
        (pe_lc (own := [("row", 2)]) (g := gName 2) (tt := tYes) rfl scPictureText.nd (k_seq (K := K) rfl (pv 1)) (blkOk_by (by kernel_rfl)) (fun _ _ _ _ _ => pg_name (i := 2) scPictureText.nd rfl (Or.inl rfl)) (fun _ _ _ _ _ => pts_nil)
          (fun _ _ _ _ _ => pe_op k_adds (pjoin (K := K) rfl pe_str
            (by exact (pe_lc (own := [("shade", 3)]) (g := gName 3) (tt := tYes) rfl scPictureText.nd (k_seq (K := K) rfl (pv 2)) (blkOk_by (by kernel_rfl)) (fun _ _ _ _ _ => (by exact (pg_name (i := 3) scPictureText.nd rfl (Or.inl rfl)))) (fun _ _ _ _ _ => pts_nil)
              (fun _ _ _ _ _ => (by exact (pe_callTy k_str (by rfl) F.str bb_str (pa_cons (pv 3) pa_nil)))))))
            pe_str))))), ?_⟩
    refine ⟨_, rfl, v, L, d, rfl, hd, hf, qE, fun hp u H1 e1 hu => ?_⟩
    rw [rowsD_pic hp] at hu
    show tRet (tText K 1 2 3) _ _ _
    exact s_ret (ev_text rfl (by show 2 < 4; decide) (by show 3 < 4; decide) hu (hs hp)) fun H2 e2 => q hp H2 (e1.trans e2)
end
end Pw
set_option Elab.async false
set_option linter.all false
set_option maxRecDepth 100000
namespace Pw
open PySem PySem.Spec PyProof.Rows L2 Evl
/-! ## The class Reader: its fields -/
structure RdT (K : PySem.W.Frag) (mg : Str → Option Value) : Prop where
  cl : Cls K (He.ga K "Reader")
  na : ∀ f ∈ (["text", "here", "wrong", "rest"] : List Str), NoAttr K (He.ga K "Reader") f
  made : Mk K (He.ga K "Reader") (He.ma K (He.ga K "Reader") "__init__")
  gl : mg "Reader" = some (.ref (He.ga K "Reader"))
  figs : ∃ t, mg "FIGURES" = some (.str "0123456789" t)
  most : ∃ t, mg "MOST" = some (.int 16 t)
def rdF (t : Str) (h : Int) (w r : V) : List (Str × V) := [("text", .str t), ("here", .int h), ("wrong", w), ("rest", r)]
/-- the reader's wrong: none while it is on -/
def wV : Option Nat → V
  | none => .non
  | some p => .int (p : Int)
/-- a reader at a, over t, at h -/
def Rdr (K : PySem.W.Frag) (H : Hp) (a : Addr) (t : Str) (h : Nat) (w : Option Nat) : Prop := ∃ dx r, H a = some (.ins (He.ga K "Reader") dx (rdF t (h : Int) (wV w) r))
theorem Rdr.ex {K : PySem.W.Frag} {H H' : Hp} {a : Addr} {t : Str} {h : Nat} {w : Option Nat} (x : Rdr K H a t h w) (e : Ex H H') : Rdr K H' a t h w := let ⟨dx, r, q⟩ := x; ⟨dx, r, e _ _ q⟩
theorem put_here (t : Str) (h k : Int) (w r : V) : putF "here" (.int k) (rdF t h w r) = rdF t k w r := rfl
theorem put_wrong (t : Str) (h : Int) (w r u : V) : putF "wrong" u (rdF t h w r) = rdF t h u r := rfl
theorem put_rest (t : Str) (h : Int) (w r u : V) : putF "rest" u (rdF t h w r) = rdF t h w u := rfl
/-- all but the object at a stays -/
abbrev Off (a : Addr) : Hp → Hp → Prop := But (fun b => b = a)
theorem off_of {H H' : Hp} {a : Addr} (e : Ex H H') : Off a H H' := But.of e
theorem Off.upd {H : Hp} {a : Addr} {o : HO} : Off a H (upd H a o) := But.at_ rfl
theorem Off.put {H H' : Hp} {a : Addr} {o : HO} (e : Off a H H') : Off a H (L2.upd H' a o) := e.trans Off.upd
def gFld (K : PySem.W.Frag) (to : TE) (f : Str) : TG := fun v σ H Q => to σ H fun x H1 => ∃ a C dx fs, x = .ref a ∧ H1 a = some (.ins C dx fs) ∧ Cls K C ∧ NoAttr K C f ∧ fs.length < 1000 ∧ Q σ (upd H1 a (.ins C dx (putF f v fs)))
section
variable {X : Cx} {o : Expr} {to : TE} {f : Str} {pos : Pos}
/-- o.f = .., within a row of targets -/
theorem pg_fld (ho : PE X o to) (ha : ∀ v, assign (.Attribute o f pos) X.env v = (do
      let ov ← holding [v] (eval o X.env)
      standAt pos.atName
      holding [v, ov] (setAttr ov f v)
      release [v, ov] []) := by intro _; rfl) : PG X (.Attribute o f pos) (gFld X.K to f) := by
  constructor
  intro pins s σ H v u Q I r h
  rw [ha]
  refine wpAny_bind (wpAny_holding (thn (ho.run pins s σ H _ I h) fun ov s1 ⟨x, H1, I1, r1, a, C, dx, fs, ex, ea, c, n, l, q⟩ => wpAny_bind (wpAny_standAt (wpAny_bind (wpAny_holding ?_)))))
  cases ex
  cases r1
  exact setattr_ok I1 ea c n l r fun s3 I3 => wpAny_release ⟨σ, _, I3, q⟩
end
section
variable {K : PySem.W.Frag} {mg : Str → Option Value} {σ : L2.St} {H : Hp} {ta : TE} {a : Addr} {t : Str} {h : Nat} {w : Option Nat}
theorem ev_fld {f : Str} {v : V} {C dx : Addr} {fs : List (Str × V)} (ha : Ev ta σ H (.ref a)) (hi : H a = some (.ins C dx fs)) (c : Cls K C) (n : NoAttr K C f) (l : fs.lookup f = some v) : Ev (tFld K ta f) σ H v := fun H1 e Q q =>
  ha H1 e _ fun H2 e2 => ⟨a, C, dx, fs, v, rfl, (e.trans e2) _ _ hi, c, n, l, q H2 e2⟩
theorem ev_text_of (T : RdT K mg) (ha : Ev ta σ H (.ref a)) (x : Rdr K H a t h w) : Ev (tFld K ta "text") σ H (.str t) := let ⟨_, _, q⟩ := x; ev_fld ha q T.cl (T.na "text" (by decide)) rfl
theorem ev_here_of (T : RdT K mg) (ha : Ev ta σ H (.ref a)) (x : Rdr K H a t h w) : Ev (tFld K ta "here") σ H (.int (h : Int)) := let ⟨_, _, q⟩ := x; ev_fld ha q T.cl (T.na "here" (by decide)) rfl
theorem ev_wrong_of (T : RdT K mg) (ha : Ev ta σ H (.ref a)) (x : Rdr K H a t h w) : Ev (tFld K ta "wrong") σ H (wV w) := let ⟨_, _, q⟩ := x; ev_fld ha q T.cl (T.na "wrong" (by decide)) rfl
theorem ev_meth {C : Addr} {m : Str} {sp : Sp} {E : XK} {tt : TA} {vs : List V} {z : V} {dx : Addr} {fs : List (Str × V)} (ha : Ev ta σ H (.ref a)) (hi : H a = some (.ins C dx fs)) (hl : fs.lookup m = none) (ht : EvA tt σ H vs) (hs : SpV sp (.ref a :: vs) H z) :
    Ev (tMeth C m sp [] E ta tt) σ H z := fun H1 e Q q =>
  ha H1 e _ fun H2 e2 => ⟨a, dx, fs, rfl, (e.trans e2) _ _ hi, hl, ht H2 (e.trans e2) _ fun H3 e3 => by
    have hq := hs H3 ((e.trans e2).trans e3) Q (fun H4 e4 => q H4 ((e2.trans e3).trans e4)) E
    rw [List.append_nil]
    exact hq⟩
end
/-- o.m(..) with an end of its own -/
theorem t_meth {C : Addr} {m : Str} {sp : Sp} {E : XK} {ta : TE} {tt : TA} {σ : L2.St} {H : Hp} {Q : VK} {a : Addr} {vs : List V} {dx : Addr} {fs : List (Str × V)} (ha : Ev ta σ H (.ref a)) (hi : H a = some (.ins C dx fs)) (hl : fs.lookup m = none) (ht : EvA tt σ H vs)
    (hs : ∀ H1, Ex H H1 → sp (.ref a :: vs) H1 Q E) : tMeth C m sp [] E ta tt σ H Q :=
  ha H (Ex.refl H) _ fun H2 e2 => ⟨a, dx, fs, rfl, e2 _ _ hi, hl, ht H2 e2 _ fun H3 e3 => by
    rw [List.append_nil]
    exact hs H3 (e2.trans e3)⟩
theorem ev_go {te : TE} {σ : L2.St} {H : Hp} {v : V} {Q : VK} (h : Ev te σ H v) (k : ∀ H1, Ex H H1 → Q v H1) : te σ H Q := h H (Ex.refl H) Q k
theorem et_go {t : TT} {σ : L2.St} {H : Hp} {b : Bool} {Q : Bool → Hp → Prop} (h : EvT t σ H b) (k : ∀ H1, Ex H H1 → Q b H1) : t σ H Q := h H (Ex.refl H) Q k
theorem ea_go {t : TA} {σ : L2.St} {H : Hp} {vs : List V} {Q : List V → Hp → Prop} (h : EvA t σ H vs) (k : ∀ H1, Ex H H1 → Q vs H1) : t σ H Q := h H (Ex.refl H) Q k
theorem el_go {te : TE} {σ : L2.St} {H : Hp} {xs : List V} {Q : VK} (h : EvL te σ H xs) (k : ∀ p H1, H p = none → Ex H H1 → H1 p = some (.lst xs) → Q (.ref p) H1) : te σ H Q := h H (Ex.refl H) Q k
/-! ## places in a text -/
theorem sIx_at {n k : Nat} (h : k ≤ n) (d : Nat) : HT.sIx n d (some (k : Int)) = k := by
  rw [HT.sIx_nat]
  omega
theorem tl_cut (z : Str) (lo hi : Option Int) : TL.tl (cutS z lo hi) = ((TL.tl z).drop (HT.sIx z.length 0 lo)).take (HT.sIx z.length z.length hi - HT.sIx z.length 0 lo) := rfl
theorem cut_seg {z : Str} {a b : Nat} (h1 : a ≤ b) (h2 : b ≤ z.length) : cutS z (some (a : Int)) (some (b : Int)) = ⟨(seg (TL.tl z) a b).toArray⟩ := by
  refine TL.ext_tl ?_
  rw [tl_cut, sIx_at (show a ≤ z.length by omega) 0, sIx_at h2 z.length]
  rfl
/-- one sign at k, or nothing -/
theorem cut_one {z : Str} {k : Nat} (h : k ≤ z.length) : TL.tl (cutS z (some (k : Int)) (some ((k : Int) + 1))) = (TL.tl z)[k]?.toList := by
  have e : ((k : Int) + 1) = ((k + 1 : Nat) : Int) := by omega
  rw [tl_cut, e, sIx_at h 0, HT.sIx_nat]
  have hl := TL.len_tl z
  by_cases hk : k < z.length
  · rw [show min (k + 1) z.length - k = 1 by omega, List.getElem?_eq_getElem (by omega), List.drop_eq_getElem_cons (by omega)]
    rfl
  · rw [show min (k + 1) z.length - k = 0 by omega, List.getElem?_eq_none (by omega)]
    rfl
def signS (c : Nat) : Str := ⟨#[c]⟩
theorem cut_sign {z : Str} {k c : Nat} (h : k ≤ z.length) : decide (V.str (cutS z (some (k : Int)) (some ((k : Int) + 1))) = V.str (signS c)) = decide ((TL.tl z)[k]? = some c) := by
  have hi := cut_one h
  cases hc : (TL.tl z)[k]? with
  | none =>
    rw [hc] at hi
    rw [decide_eq_false, decide_eq_false]
    · intro e
      cases e
    · intro e
      have e1 := V.str.inj e
      rw [e1] at hi
      cases hi
  | some d =>
    rw [hc] at hi
    by_cases hd : d = c
    · subst hd
      rw [decide_eq_true, decide_eq_true rfl]
      congr 1
      exact TL.ext_tl hi
    · rw [decide_eq_false, decide_eq_false]
      · intro e
        exact hd (Option.some.inj e)
      · intro e
        have e1 := V.str.inj e
        rw [e1] at hi
        have h2 : [c] = [d] := hi
        injection h2 with h3 _
        exact hd h3.symm
theorem figs_mem (c : Nat) : decide (c ∈ (Str.ofString "0123456789").cps.toList) = decide (48 ≤ c ∧ c ≤ 57) := by
  have e : (Str.ofString "0123456789").cps.toList = [48, 49, 50, 51, 52, 53, 54, 55, 56, 57] := by decide +kernel
  rw [e]
  by_cases h : 48 ≤ c ∧ c ≤ 57
  · rw [decide_eq_true h, decide_eq_true]
    simp only [List.mem_cons, List.not_mem_nil, or_false]
    omega
  · rw [decide_eq_false h, decide_eq_false]
    simp only [List.mem_cons, List.not_mem_nil, or_false]
    omega
/-! ## is_on, is_ended, sees, sees_figure -/
abbrev sRd (j : Nat) : Stmt := inClass (top 14) j
abbrev DmR (K : PySem.W.Frag) (m q : Str) (j : Nat) : Prop := Dm K "Reader" m q (sRd j)
abbrev PmR (P : Program) (w : World) (K : PySem.W.Frag) (mg : Str → Option Value) (base : Heap) (k : Nat) (m : Str) (ps : List Str) (sp : Sp) : Prop := Pm P w K mg base CX0 k "Reader" m ps sp
theorem scRd0 : FnScope ["self", "text"] ["self", "text"] (defScope (sRd 0)) := ⟨rfl, rfl, rfl, by decide +kernel, rfl, by decide +kernel, by decide +kernel⟩
theorem scRd1 : FnScope ["self"] ["self"] (defScope (sRd 1)) := ⟨rfl, rfl, rfl, by decide +kernel, rfl, by decide +kernel, by decide +kernel⟩
theorem scRd2 : FnScope ["self"] ["self"] (defScope (sRd 2)) := ⟨rfl, rfl, rfl, by decide +kernel, rfl, by decide +kernel, by decide +kernel⟩
theorem scRd3 : FnScope ["self", "rest"] ["self", "rest"] (defScope (sRd 3)) := ⟨rfl, rfl, rfl, by decide +kernel, rfl, by decide +kernel, by decide +kernel⟩
theorem scRd5 : FnScope ["self", "sign"] ["self", "sign"] (defScope (sRd 5)) := ⟨rfl, rfl, rfl, by decide +kernel, rfl, by decide +kernel, by decide +kernel⟩
theorem scRd6 : FnScope ["self"] ["self"] (defScope (sRd 6)) := ⟨rfl, rfl, rfl, by decide +kernel, rfl, by decide +kernel, by decide +kernel⟩
theorem scRd7 : FnScope ["self", "due", "rest", "at", "sign"] ["self", "due", "rest"] (defScope (sRd 7)) := ⟨rfl, rfl, rfl, by decide +kernel, rfl, by decide +kernel, by decide +kernel⟩
theorem scRd11 : FnScope ["self", "rest", "begin"] ["self", "rest"] (defScope (sRd 11)) := ⟨rfl, rfl, rfl, by decide +kernel, rfl, by decide +kernel, by decide +kernel⟩
theorem scRd12 : FnScope ["self", "rest"] ["self", "rest"] (defScope (sRd 12)) := ⟨rfl, rfl, rfl, by decide +kernel, rfl, by decide +kernel, by decide +kernel⟩
def isOn (w : Option Nat) : Bool := decide (wV w = .non)
def spIsOn (K : PySem.W.Frag) : Sp := fun vs H Q _ => ∃ (a : Addr) (t : Str) (h : Nat) (w : Option Nat), vs = [.ref a] ∧ Rdr K H a t h w ∧ ∀ H', Ex H H' → Q (.bl (isOn w)) H'
def spIsEnded (K : PySem.W.Frag) : Sp := fun vs H Q _ => ∃ (a : Addr) (t : Str) (h : Nat) (w : Option Nat), vs = [.ref a] ∧ Rdr K H a t h w ∧ t.length ≤ 100000 ∧ ∀ H', Ex H H' → Q (.bl (decide (h = t.length))) H'
def spSees (K : PySem.W.Frag) : Sp := fun vs H Q _ => ∃ (a : Addr) (t : Str) (h c : Nat) (w : Option Nat), vs = [.ref a, .str (signS c)] ∧ Rdr K H a t h w ∧ h ≤ t.length ∧ t.length ≤ 100000 ∧
  ∀ H', Ex H H' → Q (.bl (isOn w && decide ((TL.tl t)[h]? = some c))) H'
def spSeesFig (K : PySem.W.Frag) : Sp := fun vs H Q _ => ∃ (a : Addr) (t : Str) (h : Nat) (w : Option Nat), vs = [.ref a] ∧ Rdr K H a t h w ∧ h ≤ t.length ∧ t.length ≤ 100000 ∧
  ∀ H', Ex H H' → Q (.bl (isOn w && figAt (TL.tl t) h)) H'
theorem isOn_none : isOn none = true := rfl
theorem isOn_some (p : Nat) : isOn (some p) = false := rfl
theorem ev_isN {K : PySem.W.Frag} {σ : L2.St} {H : Hp} {ta : TE} {v : V} (h : Ev ta σ H v) : Ev (tIsN ta) σ H (.bl (decide (v = .non))) := fun H1 e Q q => h H1 e _ fun H2 e2 => q H2 e2
section
variable {K : PySem.W.Frag} {σ : L2.St} {H : Hp} {ta : TE} {z : Str}
theorem ev_lenStr (ha : Ev ta σ H (.str z)) (hz : z.length ≤ 100000) {r : List V → Hp → VK → Prop} (hr : ∀ H1 Q, Q (.int (z.length : Int)) H1 → r [.str z] H1 Q) : Ev (tCB r (tCons ta tNil)) σ H (.int (z.length : Int)) := fun H1 e Q q =>
  ha H1 e _ fun H2 e2 => hr H2 Q (q H2 e2)
theorem ev_cutS {tl th : TO} {lo hi : Option Int} (ha : Ev ta σ H (.str z)) (h1 : EvO tl σ H lo) (h2 : EvO th σ H hi) (hz : z.length ≤ 100000) : Ev (tSl rSlS ta tl th) σ H (.str (cutS z lo hi)) := fun H1 e Q q =>
  ha H1 e _ fun H2 e2 => h1 H2 (e.trans e2) _ fun H3 e3 => h2 H3 ((e.trans e2).trans e3) _ fun H4 e4 => ⟨z, rfl, sz_of hz, q H4 ((e2.trans e3).trans e4)⟩
end
def rLenStr : List V → Hp → VK → Prop := fun xs H Q => ∃ z : Str, xs = [.str z] ∧ z.length ≤ sizeLine ∧ Q (.int (z.length : Int)) H
theorem k_lenStr {X : Cx} : CallR X (.builtin "len") rLenStr := CallR.to call_len_str fun xs H Q ⟨z, h1, h2, h3⟩ => ⟨z, h1, h2, h3⟩
theorem r_lenStr {z : Str} (hz : z.length ≤ 100000) (H1 : Hp) (Q : VK) (q : Q (.int (z.length : Int)) H1) : rLenStr [.str z] H1 Q := ⟨z, rfl, sz_of hz, q⟩
section
variable {P : Program} {w : World} {K : PySem.W.Frag} {mg : Str → Option Value} {base : Heap}
theorem ok_is_on (D : DmR K "is_on" "Reader.is_on" 1) (T : RdT K mg) : PmR P w K mg base 1 "is_on" ["self"] (spIsOn K) := by
  refine Pm.of0 D scRd1 (fun _ _ _ _ _ _ us hl => match us, hl with | [_], _ => rfl) (fun vs H Q E h => ?_) fun cdv A outer s H vs Q E hr h => ?_
  · obtain ⟨a, t, h, w, rfl, _⟩ := h
    rfl
  · obtain ⟨a, t, h, w, rfl, x, q⟩ := h
    refine ⟨_, pss_one (ps_ret (pe_cmp (pc_isN (pe_fld (pv 0) rfl)) rfl)), ?_⟩
    exact s_ret (ev_isN (K := K) (ev_wrong_of T (ev_var rfl) x)) q
theorem ok_is_ended (D : DmR K "is_ended" "Reader.is_ended" 2) (T : RdT K mg) (F : Free mg) : PmR P w K mg base 1 "is_ended" ["self"] (spIsEnded K) := by
  refine Pm.of0 D scRd2 (fun _ _ _ _ _ _ us hl => match us, hl with | [_], _ => rfl) (fun vs H Q E h => ?_) fun cdv A outer s H vs Q E hr h => ?_
  · obtain ⟨a, t, h, w, rfl, _⟩ := h
    rfl
  · obtain ⟨a, t, h, w, rfl, x, hz, q⟩ := h
    refine ⟨_, pss_one (ps_ret (pe_cmpR op_eq (pe_fld (pv 0) rfl) (pe_callB k_lenStr (by rfl) F.len bb_len (pa_cons (pe_fld (pv 0) rfl) pa_nil)) (nomark _))), ?_⟩
    refine s_ret (ev_is (ev_op (ev_here_of T (ev_var rfl) x) (ev_lenStr (ev_text_of T (ev_var rfl) x) hz (r_lenStr hz)) (rv_eq rfl)) ?_) q
    congr 1
    rw [dec_int, Bool.eq_iff_iff]
    simp only [beq_iff_eq, decide_eq_true_eq]
    omega
theorem sp_is_on {H : Hp} {a : Addr} {t : Str} {h : Nat} {w : Option Nat} (x : Rdr K H a t h w) : SpV (spIsOn K) [.ref a] H (.bl (isOn w)) := fun H1 e Q q E => ⟨a, t, h, w, rfl, x.ex e, q⟩
theorem sp_is_ended {H : Hp} {a : Addr} {t : Str} {h : Nat} {w : Option Nat} (x : Rdr K H a t h w) (hz : t.length ≤ 100000) : SpV (spIsEnded K) [.ref a] H (.bl (decide (h = t.length))) := fun H1 e Q q E => ⟨a, t, h, w, rfl, x.ex e, hz, q⟩
theorem sp_sees {H : Hp} {a : Addr} {t : Str} {h : Nat} {w : Option Nat} (x : Rdr K H a t h w) (hh : h ≤ t.length) (hz : t.length ≤ 100000) (c : Nat) : SpV (spSees K) [.ref a, .str (signS c)] H (.bl (isOn w && decide ((TL.tl t)[h]? = some c))) :=
  fun H1 e Q q E => ⟨a, t, h, c, w, rfl, x.ex e, hh, hz, q⟩
theorem sp_sees_fig {H : Hp} {a : Addr} {t : Str} {h : Nat} {w : Option Nat} (x : Rdr K H a t h w) (hh : h ≤ t.length) (hz : t.length ≤ 100000) : SpV (spSeesFig K) [.ref a] H (.bl (isOn w && figAt (TL.tl t) h)) :=
  fun H1 e Q q E => ⟨a, t, h, w, rfl, x.ex e, hh, hz, q⟩
theorem ev_rm {σ : L2.St} {H : Hp} {ta : TE} {a : Addr} {t : Str} {h : Nat} {w : Option Nat} {m : Str} {sp : Sp} {E : XK} {tt : TA} {vs : List V} {z : V} (x : Rdr K H a t h w) (ha : Ev ta σ H (.ref a)) (ht : EvA tt σ H vs) (hs : SpV sp (.ref a :: vs) H z)
    (hl : ∀ (w r : V), (rdF t (h : Int) w r).lookup m = none := by intro _ _; rfl) : Ev (tMeth (He.ga K "Reader") m sp [] E ta tt) σ H z := let ⟨_, _, q⟩ := x; ev_meth ha q (hl _ _) ht hs
theorem ok_sees (D : DmR K "sees" "Reader.sees" 5) (T : RdT K mg) (R : PmR P w K mg base 1 "is_on" ["self"] (spIsOn K)) : PmR P w K mg base 2 "sees" ["self", "sign"] (spSees K) := by
  refine Pm.of0 D scRd5 (fun _ _ _ _ _ _ us hl => match us, hl with | [_, _], _ => rfl) (fun vs H Q E h => ?_) fun cdv A outer s H vs Q E hr h => ?_
  · obtain ⟨a, t, h, c, w, rfl, _⟩ := h
    rfl
  · obtain ⟨a, t, h, c, w, rfl, x, hh, hz, q⟩ := h
    refine ⟨_, pss_one (ps_ret (pe_and (pmeth0 R T.cl hr pass0 (pv 0)) (pe_one (pe_cmpR op_eq (pe_slice sl_str (pe_fld (pv 0) rfl) (po_some (pe_fld (pv 0) rfl)) (po_some (pe_op op_add (pe_fld (pv 0) rfl) pe_int))) (pv 1) (nomark _))))), ?_⟩
    refine s_ret (ev_andV (ev_rm x (ev_var rfl) ea_nil (sp_is_on x)) fun _ => ev_is (ev_op (ev_cutS (ev_text_of T (ev_var rfl) x) (eo_some (ev_here_of T (ev_var rfl) x)) (eo_some (ev_op (ev_here_of T (ev_var rfl) x) ev_c rv_I0)) hz) (ev_var rfl) (rv_eq rfl)) ?_) q
    rw [cut_sign hh]
theorem ok_sees_fig (D : DmR K "sees_figure" "Reader.sees_figure" 6) (T : RdT K mg) (R : PmR P w K mg base 1 "is_on" ["self"] (spIsOn K)) (R2 : PmR P w K mg base 1 "is_ended" ["self"] (spIsEnded K)) : PmR P w K mg base 2 "sees_figure" ["self"] (spSeesFig K) := by
  refine Pm.of0 D scRd6 (fun _ _ _ _ _ _ us hl => match us, hl with | [_], _ => rfl) (fun vs H Q E h => ?_) fun cdv A outer s H vs Q E hr h => ?_
  · obtain ⟨a, t, h, w, rfl, _⟩ := h
    rfl
  · obtain ⟨a, t, h, w, rfl, x, hh, hz, q⟩ := h
    obtain ⟨tk, hf⟩ := T.figs
    refine ⟨_, pss_one (ps_ret (pe_and (pmeth0 R T.cl hr pass0 (pv 0)) (pe_and (pe_not (pmeth0 R2 T.cl hr pass0 (pv 0))) (pe_one (pe_cmpR op_in_sign (pe_ix (k_ix (K := K) rfl) (pe_fld (pv 0) rfl) (pe_fld (pv 0) rfl) (fun _ _ => rfl)) (pe_glob (v := .str "0123456789") rfl hf ⟨_, rfl⟩) rfl))))), ?_⟩
    have e : (isOn w && figAt (TL.tl t) h) = (isOn w && (!decide (h = t.length) && figAt (TL.tl t) h)) := by
      by_cases hl : h = t.length
      · have : figAt (TL.tl t) h = false := by
          unfold figAt
          rw [List.getElem?_eq_none (by rw [← TL.len_tl]; omega)]
        rw [this]
        simp
      · simp [hl]
    rw [e] at q
    refine s_ret (ev_andV (ev_rm x (ev_var rfl) ea_nil (sp_is_on x)) fun _ => ev_andV (ev_notV (ev_rm x (ev_var rfl) ea_nil (sp_is_ended x hz))) fun hne => ?_) q
    have hlt : h < (TL.tl t).length := by
      rw [← TL.len_tl]
      have : ¬ h = t.length := by simpa using hne
      omega
    refine ev_is (ev_op (x := .str (signS (TL.tl t)[h])) (ev_op (ev_text_of T (ev_var rfl) x) (ev_here_of T (ev_var rfl) x) fun H1 e Q q => .inr (.inr ⟨t, (h : Int), _, rfl, rfl, sz_of hz, atI_nat (List.getElem?_eq_getElem hlt), q H1 (Ex.refl H1)⟩)) ev_c
      (fun H1 _ Q q => ⟨(TL.tl t)[h], "0123456789", rfl, rfl, q H1 (Ex.refl H1)⟩)) ?_
    rw [figs_mem]
    unfold figAt
    rw [List.getElem?_eq_getElem hlt]
end
end Pw
set_option Elab.async false
set_option linter.all false
set_option maxRecDepth 100000
namespace Pw
open PySem PySem.Spec PyProof.Rows L2 Evl
/-! ## enumerate(a text): each sign in a new pair -/
def ItES (x : Str) : It where
  go := fun i _ => i < x.cps.size
  yld := fun i H v H' => ∃ T c, v = .ref T ∧ H T = none ∧ H' = upd H T (.tup [.int (i : Nat), .str (signS c)]) ∧ x.cps[i]? = some c
  stop := fun i _ => i = x.cps.size
theorem turn_es {P : Program} {w : World} {K : PySem.W.Frag} {elts : List Expr} {kk : Nat} {tpos : Pos} (x : Str) (t : Tok) (e it : Addr) :
    Turn P w K (.Tuple elts kk tpos) (ItES x) [e, it] e (fun i h => (∃ old, IsEnum h e it ((i : Nat) : Int) old) ∧ h.IsStrIter it (strIterType x) x t i ∧ e ≠ it) where
  mem := List.mem_cons_self ..
  obj := by
    rintro i h ⟨⟨old, h1⟩, ⟨o, h2, h3, h4⟩, _⟩ b hb
    rcases List.mem_cons.mp hb with rfl | hb
    · exact ⟨_, h1, fun v z => nomatch z⟩
    · cases List.mem_singleton.mp hb
      exact ⟨o, h2, fun v z => by
        rw [h4] at z
        cases z⟩
  keep := by
    rintro i h h' ⟨⟨old, h1⟩, ⟨o, h2, h3⟩, h5⟩ k
    exact ⟨⟨old, k e (by simp) _ h1⟩, ⟨o, k it (by simp) o h2, h3⟩, h5⟩
  item := by
    intro X hP hw hK hc i pins s σ H E I hf st hg
    cases hP
    cases hw
    cases hK
    obtain ⟨⟨old, h1⟩, h2, hne⟩ := st
    have le : e < s.heap.objs.size := Heap.lt_size h1
    have li : it < s.heap.objs.size := by
      obtain ⟨_, q, _⟩ := h2
      exact Heap.lt_size q
    refine wpAny_pyNext_enum_itemC (c := (i : Int)) (Draws.text (A := X.A.in1) (I.ok.hd hc) it x t) h1 h2 hg hne (fun z => hne (List.mem_singleton.mp z)) fun v h' tk hv ho st' hT hsz hk => ⟨_, rfl, ?_⟩
    obtain ⟨c, u, hcx, rfl⟩ := hv
    refine wpAny_letOwnedTupleGo_enum (s := { s with heap := h', toks := tk + 1 }) ho fun h2' he2 sb => ?_
    have gT : h2'.get? s.heap.objs.size = some { cls := .type "tuple", data := .seq #[.int i tk, .str ⟨#[c]⟩ u] } := (sb.2 _ (Nat.ne_of_gt le)).trans hT
    have made : ObjOk X.prog X.w (upd H s.heap.objs.size (.tup [.int (i : Nat), .str (signS c)])) h2' s.heap.objs.size (.tup [.int (i : Nat), .str (signS c)]) :=
      ⟨by show 2 ≤ sizeLine; decide, [.int i tk, .str ⟨#[c]⟩ u], .cons ⟨tk, rfl⟩ (.cons ⟨u, rfl⟩ .nil), _, gT, rfl, _, rfl⟩
    have J := I.turnedNew (t' := tk + 1) (ch := [e, it]) (h' := h2') (fun b o hb q => by
      have n1 : b ≠ e := fun z => hb (by rw [z]; exact List.mem_cons_self ..)
      have n2 : b ≠ it := fun z => hb (by rw [z]; exact List.mem_cons_of_mem _ (List.mem_singleton.mpr rfl))
      exact (sb.2 b n1).trans (hk b o n1 n2 q)) hf (Nat.le_refl _) made
    refine ⟨.ref s.heap.objs.size, _, J, rfl, ⟨_, c, rfl, I.hok.fresh (Nat.le_refl _), rfl, hcx⟩, ⟨⟨.str ⟨#[c]⟩ u, ?_⟩, ?_, hne⟩, fun b hb => ?_⟩
    · rw [show ((i + 1 : Nat) : Int) = (i : Int) + 1 by omega]
      exact he2
    · obtain ⟨o, q1, q2⟩ := st'
      exact ⟨o, (sb.2 it (Ne.symm hne)).trans q1, q2⟩
    · have hlt : b < s.heap.objs.size := by
        rcases List.mem_cons.mp hb with rfl | hb
        · exact le
        · rw [List.mem_singleton.mp hb]
          exact li
      rw [upd_ne (Nat.ne_of_lt hlt)]
      exact (hf b hb).1
  done := by
    intro X hP hw hK hc i pins s σ H E I hf st hg
    cases hP
    cases hw
    cases hK
    have hg : i = x.cps.size := hg
    subst hg
    obtain ⟨⟨old, h1⟩, h2, hne⟩ := st
    obtain ⟨f0, f1, f2, f3, f4, f5⟩ := hf it (by simp)
    exact wpAny_pyNext_enum_endD (Draws.text (A := X.A.in1) (I.ok.hd hc) it x t) h1 h2 fun h' eb => ⟨rfl, I.turned (t' := s.toks) (fun b o hb q => eb b o hb q) f0 f1 f3 f4 f5⟩
  self := fun A i s Q E st h => by
    obtain ⟨⟨_, h1⟩, _⟩ := st
    exact wpAny_pyIter_enum h1 h
def iEnumS (ta : TA) : TI := fun σ H R => ta σ H fun vs H1 => ∃ x : Str, vs = [.str x] ∧ R (ItES x) H1
theorem pi_enumS {X : Cx} {e : Expr} {ta : TA} {p pos tpos : Pos} {elts : List Expr} {kk : Nat} (hm : X.mg "enumerate" = none) (ha : PA X [e] ta) (hg : Gl X "enumerate" := by rfl) (hs : starEach [e] X.env = [(false, eval e X.env)] := by rfl) :
    PI X (.Tuple elts kk tpos) (.Call (.Name "enumerate" p) [e] [] pos) (iEnumS ta) := by
  constructor
  intro pins s σ H R I h
  refine Call_ (ld_blt I hg hm boot_enumerate (PyProof.Rows.callWith_type1 (thn (ha.run pos pins s σ H _ I h) fun us s1 hus => ?_) hs rfl))
  obtain ⟨vs, H1, I1, rv, x, rfl, q⟩ := hus
  obtain ⟨u, rfl, t, rfl⟩ := vals1 rv
  refine call_enumerate_str fun h' h1 h2 hsz hk => wpAny_pyIter_enum h1 ?_
  have J := I1.kept (t' := s1.toks) hk
  refine ⟨s1.heap.objs.size + 1, [s1.heap.objs.size + 1, s1.heap.objs.size], _, _, H1, rfl, J, turn_es x t _ _, ⟨⟨.none, h1⟩, h2, Nat.succ_ne_self _⟩, fun b hb => ?_, q⟩
  have hle : s1.heap.objs.size ≤ b := by
    rcases List.mem_cons.mp hb with rfl | hb
    · exact Nat.le_succ _
    · exact Nat.le_of_eq (List.mem_singleton.mp hb).symm
  exact I1.fpOk hle (I1.hok.fresh hle)
theorem walk_es {x : Str} : Walk (ItES x) x.cps.size (fun _ => True) (YPair (fun i => some (.int (i : Nat))) (fun i => x.cps[i]?.map fun c => .str (signS c))) := by
  refine ⟨fun _ _ hi _ => hi, fun _ _ => rfl, fun i H v H' _ _ y => ?_⟩
  obtain ⟨T, c, h1, h2, h3, h4⟩ := y
  exact ⟨T, .int (i : Nat), .str (signS c), h1, h2, h3, rfl, by
    show x.cps[i]?.map _ = _
    rw [h4]
    rfl⟩
end Pw
set_option Elab.async false
set_option linter.all false
set_option maxRecDepth 100000
namespace Pw
open PySem PySem.Spec PyProof.Rows L2 Evl
/-! ## __init__, stop, signs -/
def spRdInit (K : PySem.W.Frag) : Sp := fun vs H Q _ => ∃ (a dx : Addr) (t : Str), vs = [.ref a, .str t] ∧ H a = some (.ins (He.ga K "Reader") dx []) ∧
  ∀ H', Off a H H' → H' a = some (.ins (He.ga K "Reader") dx (rdF t 0 .non .non)) → Q .non H'
def spStop (K : PySem.W.Frag) : Sp := fun vs H Q _ => ∃ (a : Addr) (t : Str) (h : Nat) (w : Option Nat) (v : V), vs = [.ref a, v] ∧ Rdr K H a t h w ∧ t.length ≤ 100000 ∧
  ∀ H', Off a H H' → Rdr K H' a t h (some h) → Q .non H'
/-- a due sign -/
def signM (t : List Nat) (c h : Nat) : Option Nat → Nat × Option Nat
  | some p => (h, some p)
  | none => if t[h]? = some c then (h + 1, none) else (h, some h)
def spSigns (K : PySem.W.Frag) : Sp := fun vs H Q _ => ∃ (a : Addr) (t r : Str) (h c : Nat) (w : Option Nat), vs = [.ref a, .str (signS c), .str r] ∧ Rdr K H a t h w ∧ h ≤ t.length ∧ t.length ≤ 100000 ∧ r.length ≤ 100 ∧
  ∀ H', Off a H H' → Rdr K H' a t (signM (TL.tl t) c h w).1 (signM (TL.tl t) c h w).2 → Q .non H'
section
variable {P : Program} {w : World} {K : PySem.W.Frag} {mg : Str → Option Value} {base : Heap}
theorem ok_rd_init (D : DmR K "__init__" "Reader.__init__" 0) (T : RdT K mg) : PmR P w K mg base 1 "__init__" ["self", "text"] (spRdInit K) := by
  refine Pm.of0 D scRd0 (fun _ _ _ _ _ _ us hl => match us, hl with | [_, _], _ => rfl) (fun vs H Q E h => ?_) fun cdv A outer s H vs Q E hr h => ?_
  · obtain ⟨a, dx, t, rfl, _⟩ := h
    rfl
  · obtain ⟨a, dx, t, rfl, x, q⟩ := h
    refine ⟨_, pss_cons (ps_asg (pe_tup (pa_cons (pv 1) (pa_cons pe_int pa_nil))) (pg_tup rfl (pgs_cons (pg_fld (pv 0)) (pgs_cons (pg_fld (pv 0)) pgs_nil))))
      (pss_one (ps_asg (pe_tup (pa_cons pe_non (pa_cons pe_non pa_nil))) (pg_tup rfl (pgs_cons (pg_fld (pv 0)) (pgs_cons (pg_fld (pv 0)) pgs_nil))))), ?_⟩
    refine ⟨_, rfl, by show 2 ≤ sizeLine; decide, fun p hp => ⟨p, _, rfl, SqT.of upd_same, rfl, _, _, rfl, _, rfl, a, _, dx, [], rfl, ?_, T.cl, T.na "text" (by decide), by decide, _, _, rfl, _, rfl, a, _, dx, _, rfl, upd_same, T.cl, T.na "here" (by decide), ?_, rfl, ?_⟩⟩
    · rw [upd_ne (ne_of_none x hp)]
      exact x
    · show 1 < 1000
      decide
    · refine ⟨by show 2 ≤ sizeLine; decide, fun p2 hp2 => ⟨p2, _, rfl, SqT.of upd_same, rfl, _, _, rfl, _, rfl, a, _, dx, [("text", .str t), ("here", .int 0)], rfl, ?_, T.cl, T.na "wrong" (by decide), ?_, _, _, rfl, _, rfl, a, _, dx, _, rfl, upd_same, T.cl, T.na "rest" (by decide), ?_, rfl, ?_⟩⟩
      · rw [upd_ne (ne_of_none upd_same hp2)]
        exact upd_same
      · show 2 < 1000
        decide
      · show 3 < 1000
        decide
      · have n1 : p ≠ a := fun z => by
          rw [z, x] at hp
          cases hp
        refine q _ (Off.put (Off.put (But.trans (Off.put (Off.put (But.new hp))) (But.new hp2)))) ?_
        rw [upd_same]
        rfl
theorem ok_stop (D : DmR K "stop" "Reader.stop" 3) (T : RdT K mg) (R : PmR P w K mg base 1 "is_ended" ["self"] (spIsEnded K)) : PmR P w K mg base 2 "stop" ["self", "rest"] (spStop K) := by
  refine Pm.of0 D scRd3 (fun _ _ _ _ _ _ us hl => match us, hl with | [_, _], _ => rfl) (fun vs H Q E h => ?_) fun cdv A outer s H vs Q E hr h => ?_
  · obtain ⟨a, t, h, w, v, rfl, _⟩ := h
    rfl
  · obtain ⟨a, t, h, w, v, rfl, x, hz, q⟩ := h
    refine ⟨_, pss_cons (ps_fld (pv 0) (pe_fld (pv 0) rfl) rfl) (pss_one (ps_fld (pv 0) (pe_ifExp (pt_val (pmeth0 R T.cl hr pass0 (pv 0))) (pv 1) pe_non) rfl)), ?_⟩
    refine ev_go (ev_here_of T (ev_var rfl) x) fun H1 e1 => ?_
    obtain ⟨dx, r, y⟩ := x.ex e1
    refine ⟨_, rfl, a, _, dx, _, rfl, y, T.cl, T.na "wrong" (by decide), by show 4 < 1000; decide, ?_⟩
    have y2 : Rdr K (upd H1 a (.ins (He.ga K "Reader") dx (putF "wrong" (.int (h : Int)) (rdF t (h : Int) (wV w) r)))) a t h (some h) := ⟨dx, r, upd_same⟩
    have ends : ∀ u H2, Ex (upd H1 a (.ins (He.ga K "Reader") dx (putF "wrong" (.int (h : Int)) (rdF t (h : Int) (wV w) r)))) H2 → tVar 0 (start ["self", "rest"] [.ref a, v]) H2 fun x H2 => ∃ a C dx fs, x = .ref a ∧ H2 a = some (.ins C dx fs) ∧ Cls K C ∧ NoAttr K C "rest" ∧ fs.length < 1000 ∧
        Q .non (upd H2 a (.ins C dx (putF "rest" u fs))) := fun u H2 e2 => by
      obtain ⟨dx2, r2, y3⟩ := y2.ex e2
      refine ⟨_, rfl, a, _, dx2, _, rfl, y3, T.cl, T.na "rest" (by decide), by show 4 < 1000; decide, ?_⟩
      exact q _ (Off.put ((Off.put (off_of e1)).trans (off_of e2))) ⟨dx2, u, upd_same⟩
    refine ev_go (ev_rm y2 (ev_var rfl) ea_nil (sp_is_ended y2 hz)) fun H2 e2 => ⟨_, rfl, ite2 (fun _ => ?_) (fun _ => ?_)⟩
    · exact ⟨v, rfl, ends v H2 e2⟩
    · exact ends .non H2 e2
theorem sp_stop {H : Hp} {a : Addr} {t : Str} {h : Nat} {w : Option Nat} {v : V} {Q : VK} {E : XK} (x : Rdr K H a t h w) (hz : t.length ≤ 100000) (q : ∀ H', Off a H H' → Rdr K H' a t h (some h) → Q .non H') : spStop K [.ref a, v] H Q E := ⟨a, t, h, w, v, rfl, x, hz, q⟩
theorem t_rm {m : Str} {sp : Sp} {E : XK} {ta : TE} {tt : TA} {σ : L2.St} {H : Hp} {Q : VK} {a : Addr} {vs : List V} {t : Str} {h : Nat} {w : Option Nat} (x : Rdr K H a t h w) (ha : Ev ta σ H (.ref a)) (ht : EvA tt σ H vs) (hs : ∀ H1, Ex H H1 → sp (.ref a :: vs) H1 Q E)
    (hl : ∀ (w r : V), (rdF t (h : Int) w r).lookup m = none := by intro _ _; rfl) : tMeth (He.ga K "Reader") m sp [] E ta tt σ H Q := let ⟨_, _, q⟩ := x; t_meth ha q (hl _ _) ht hs
/-- self.here += 1 -/
theorem t_here {ta : TE} {σ : L2.St} {H : Hp} {D : Ends} {a : Addr} {t : Str} {h : Nat} {w : Option Nat} (T : RdT K mg) (x : Rdr K H a t h w) (ha : Ev ta σ H (.ref a)) (k : ∀ H', Off a H H' → Rdr K H' a t (h + 1) w → D.nx σ H') :
    sFldAug K ta (tC (.int 1)) rAdd "here" D σ H := ha H (Ex.refl H) _ fun H1 e1 => by
  obtain ⟨dx, r, y⟩ := x.ex e1
  refine ⟨a, _, dx, _, _, rfl, y, T.cl, T.na "here" (by decide), rfl, (h : Int), 1, rfl, rfl, dx, _, y, by show 4 < 1000; decide, ?_⟩
  refine k _ (Off.put (off_of e1)) ⟨dx, r, ?_⟩
  rw [upd_same, put_here, show (h : Int) + 1 = ((h + 1 : Nat) : Int) by omega]
theorem ok_signs (D : DmR K "signs" "Reader.signs" 7) (T : RdT K mg) (F : Free mg) (R1 : PmR P w K mg base 2 "sees" ["self", "sign"] (spSees K)) (R2 : PmR P w K mg base 1 "is_on" ["self"] (spIsOn K)) (R3 : PmR P w K mg base 2 "stop" ["self", "rest"] (spStop K)) :
    PmR P w K mg base 3 "signs" ["self", "due", "rest"] (spSigns K) := by
  refine Pm.of0 D scRd7 (fun _ _ _ _ _ _ us hl => match us, hl with | [_, _, _], _ => rfl) (fun vs H Q E h => ?_) fun cdv A outer s H vs Q E hr h => ?_
  · obtain ⟨a, t, r, h, c, w, rfl, _⟩ := h
    rfl
  · obtain ⟨a, t, r, h, c, w, rfl, x, hh, hz, hrl, q⟩ := h
    refine ⟨_, pss_one (ps_for PassesOwn.never rfl (pi_enumS F.enumerate (pa_cons (pv 1) pa_nil)) (pg_tup rfl (pgs_cons (pg_name (i := 3) scRd7.nd rfl (.inl rfl)) (pgs_cons (pg_name (i := 4) scRd7.nd rfl (.inl rfl)) pgs_nil)))
      (pss_one (ps_if (pt_val (pmeth R1 T.cl hr pass0 (pv 0) (pa_cons (pv 4) pa_nil))) (pss_one (ps_fldaug (pv 0) pe_int in_add))
        (pss_one (ps_if (pt_val (pmeth0 R2 T.cl (hr.mono (by decide)) pass0 (pv 0))) (pss_one (ps_expr (pmeth R3 T.cl hr pass0 (pv 0) (pa_cons (pe_op k_adds (pe_slice sl_str (pv 1) (po_some (pv 3)) po_none) (pv 2)) pa_nil)))) pss_nil))))), ?_⟩
    refine ⟨_, rfl, signS c, rfl, for_it walk_es (fun i σ H' => (i = 0 ∧ σ = start ["self", "due", "rest", "at", "sign"] [.ref a, .str (signS c), .str r] ∧ Ex H H') ∨ (i = 1 ∧ Off a H H' ∧ Rdr K H' a t (signM (TL.tl t) c h w).1 (signM (TL.tl t) c h w).2)) (.inl ⟨rfl, rfl, Ex.refl H⟩) (fun _ _ _ _ _ => trivial) ?_ ?_⟩
    · rintro i v σ H1 H2 hi hP ⟨T1, x1, x2, rfl, hT, rfl, hx1, hx2⟩
      have hi1 : i < 1 := hi
      obtain ⟨rfl, rfl, e1⟩ : i = 0 ∧ σ = start ["self", "due", "rest", "at", "sign"] [.ref a, .str (signS c), .str r] ∧ Ex H H1 := by
        rcases hP with h | h
        · exact h
        · omega
      have ex1 : V.int 0 = x1 := Option.some.inj hx1
      have ex2 : V.str (signS c) = x2 := Option.some.inj hx2
      subst ex1 ex2
      have e2 : Ex H (upd H1 T1 (.tup [.int 0, .str (signS c)])) := e1.trans (Ex.new hT)
      generalize hH : upd H1 T1 (.tup [.int 0, .str (signS c)]) = H3 at e2 ⊢
      refine ⟨T1, _, rfl, SqT.of (by rw [← hH]; exact upd_same), rfl, _, _, rfl, _, _, rfl, rfl, ?_⟩
      have x3 := x.ex e2
      refine s_if (b := isOn w && decide ((TL.tl t)[h]? = some c)) (et_B (ev_rm x3 (ev_var rfl) (ea_cons (ev_var rfl) ea_nil) (sp_sees x3 hh hz c))) (fun hb H4 e4 => ?_) (fun hb H4 e4 => ?_)
      · obtain ⟨h1, h2⟩ := Bool.and_eq_true_iff.mp hb
        have hw : w = none := by
          cases w with
          | none => rfl
          | some p => cases h1
        subst hw
        refine t_here T (x3.ex e4) (ev_var rfl) fun H5 o5 x5 => .inr ⟨rfl, (off_of (e2.trans e4)).trans o5, ?_⟩
        unfold signM
        rw [if_pos (of_decide_eq_true h2)]
        exact x5
      · refine s_if (b := isOn w) (et_B (ev_rm (x3.ex e4) (ev_var rfl) ea_nil (sp_is_on (x3.ex e4)))) (fun hon H5 e5 => ?_) (fun hoff H5 e5 => ?_)
        · have hw : w = none := by
            cases w with
            | none => rfl
            | some p => cases hon
          subst hw
          have hne : ¬ (TL.tl t)[h]? = some c := by
            rw [hon, Bool.true_and] at hb
            exact of_decide_eq_false hb
          refine t_rm ((x3.ex e4).ex e5) (ev_var rfl) (ea_cons (ev_adds (ev_cutS (ev_var rfl) (eo_some (ev_var rfl)) eo_none (by show 1 ≤ 100000; decide)) (ev_var rfl) ?_) ea_nil) fun H6 e6 => sp_stop (((x3.ex e4).ex e5).ex e6) hz fun H7 o7 x7 => .inr ⟨rfl, (off_of (((e2.trans e4).trans e5).trans e6)).trans o7, ?_⟩
          · have h1 := cutS_length (signS c) (some 0) none
            have h2 : (signS c).length = 1 := rfl
            rw [sizeLine_eq]
            omega
          · unfold signM
            rw [if_neg hne]
            exact x7
        · refine .inr ⟨rfl, off_of ((e2.trans e4).trans e5), ?_⟩
          cases w with
          | none => cases hoff
          | some p => exact (x3.ex e4).ex e5
    · rintro σ H' hP
      rcases hP with ⟨h, _⟩ | ⟨_, o, y⟩
      · exact absurd h (by show ¬ (1 : Nat) = 0; decide)
      · exact q H' o y
end
end Pw
set_option Elab.async false
set_option linter.all false
set_option maxRecDepth 100000
namespace Pw
open PySem PySem.Spec PyProof.Rows L2 Evl
/-! ## figures, one after the other -/
structure NumInv (t : List Nat) (b j : Nat) : Prop where
  le : j ≤ 16
  eq : numFrom t b (16 - j) j = numLen t b
  figs : ∀ i, i < j → figAt t (b + i) = true
  zero : 2 ≤ j → t[b]? ≠ some 48
theorem NumInv.start (t : List Nat) (b : Nat) : NumInv t b 0 := ⟨Nat.zero_le _, rfl, fun i h => absurd h (Nat.not_lt_zero _), fun h => absurd h (by decide)⟩
theorem NumInv.next {t : List Nat} {b j : Nat} (v : NumInv t b j) (g : goOn t b j = true) : NumInv t b (j + 1) ∧ j < 16 := by
  obtain ⟨h1, h2⟩ := numFrom_go v.le g
  unfold goOn at g
  simp only [Bool.and_eq_true] at g
  refine ⟨⟨h1, h2 ▸ v.eq, fun i hi => ?_, fun hj => ?_⟩, h1⟩
  · by_cases e : i = j
    · rw [e]
      exact g.1.2
    · exact v.figs i (by omega)
  · have g2 := g.2
    rw [decide_eq_false (by omega), Bool.false_or] at g2
    simpa using g2
theorem NumInv.stop {t : List Nat} {b j : Nat} (v : NumInv t b j) (g : goOn t b j = false) : numLen t b = j := by
  rw [← v.eq, numFrom_stop v.le g]
theorem NumInv.lt {t : List Nat} {b j : Nat} (v : NumInv t b j) (hb : b ≤ t.length) : b + j ≤ t.length := by
  cases j with
  | zero => omega
  | succ j =>
    have := figAt_lt (v.figs j (by omega))
    omega
theorem str_eq_list {l : List Nat} {z : Str} : (V.str ⟨l.toArray⟩ = V.str z) ↔ l = TL.tl z := by
  constructor
  · intro e
    have e1 := V.str.inj e
    rw [← e1]
  · intro e
    rw [e, TL.mk_tl]
theorem NumInv.cond {t : List Nat} {b j : Nat} (v : NumInv t b j) :
    (figAt t (b + j) && (!decide (V.str ⟨(seg t b (b + j)).toArray⟩ = V.str "0") && decide (((b + j : Nat) : Int) - (b : Int) < 16))) = goOn t b j := by
  obtain ⟨s1, s2⟩ := seg_figs v.figs
  have e0 : TL.tl (Str.ofString "0") = [48] := by decide +kernel
  have ed : decide (V.str ⟨(seg t b (b + j)).toArray⟩ = V.str "0") = decide (seg t b (b + j) = [48]) := by
    rw [Bool.eq_iff_iff, decide_eq_true_eq, decide_eq_true_eq, str_eq_list, e0]
  have e16 : decide (((b + j : Nat) : Int) - (b : Int) < 16) = decide (j < 16) := by
    rw [Bool.eq_iff_iff, decide_eq_true_eq, decide_eq_true_eq]
    omega
  rw [ed, e16]
  unfold goOn
  have key : decide (seg t b (b + j) = [48]) = !(decide (j = 0) || !decide (t[b]? = some 48)) := by
    by_cases h0 : j = 0
    · subst h0
      rw [decide_eq_false]
      · rfl
      · intro z
        rw [z] at s2
        cases s2
    · by_cases h1 : j = 1
      · subst h1
        have hlt : b < t.length := figAt_lt (by
          have := v.figs 0 (by omega)
          rw [Nat.add_zero] at this
          exact this)
        have es : seg t b (b + 1) = [t[b]] := by
          unfold seg
          rw [show b + 1 - b = 1 by omega, List.drop_eq_getElem_cons hlt]
          rfl
        rw [es, List.getElem?_eq_getElem hlt]
        by_cases hc : t[b] = 48
        · rw [hc]
          rfl
        · rw [decide_eq_false (by intro z; exact hc (by simpa using z)), decide_eq_false (by decide), decide_eq_false (by intro z; exact hc (Option.some.inj z))]
          rfl
      · have hz := v.zero (by omega)
        rw [decide_eq_false, decide_eq_false h0, decide_eq_false hz]
        · rfl
        · intro z
          rw [z] at s2
          have s3 : 1 = j := s2
          omega
  rw [key]
  cases figAt t (b + j) <;> cases decide (j < 16) <;> cases (decide (j = 0) || !decide (t[b]? = some 48)) <;> rfl
/-- an integer behind its minus -/
theorem val_minus {t : List Nat} {h : Nat} (h45 : t[h]? = some 45) (hn : 0 < numLen t (h + 1)) : valE t h (h + 1 + numLen t (h + 1)) = -valE t (h + 1) (h + 1 + numLen t (h + 1)) := by
  obtain ⟨s1, s2⟩ := seg_figs (t := t) (b := h + 1) (n := numLen t (h + 1)) (fun i hi => numLen_figs hi)
  have hm := numLen_le t (h + 1)
  have ne : seg t (h + 1) (h + 1 + numLen t (h + 1)) ≠ [] := fun z => by
    rw [z] at s2
    have s3 : 0 = numLen t (h + 1) := s2
    omega
  have e := seg_minus (n := numLen t (h + 1)) h45
  have a1 := intText_neg (cs := seg t (h + 1) (h + 1 + numLen t (h + 1))) (x := ⟨(seg t h (h + 1 + numLen t (h + 1))).toArray⟩) e s1 ne (by
    rw [TL.len_tl]
    show (seg t h (h + 1 + numLen t (h + 1))).length ≤ 4300
    rw [e, List.length_cons, s2]
    omega)
  have a2 := intText_digits (x := ⟨(seg t (h + 1) (h + 1 + numLen t (h + 1))).toArray⟩) s1 ne (by
    rw [TL.len_tl]
    show (seg t (h + 1) (h + 1 + numLen t (h + 1))).length ≤ 4300
    rw [s2]
    omega)
  unfold valE
  rw [a1, a2]
  rfl
/-! ## number, integer -/
def spNumber (K : PySem.W.Frag) : Sp := fun vs H Q _ => ∃ (a : Addr) (t r : Str) (h : Nat) (w : Option Nat), vs = [.ref a, .str r] ∧ Rdr K H a t h w ∧ h ≤ t.length ∧ t.length ≤ 100000 ∧ r.length ≤ 100 ∧
  (isOn w = false → ∀ H', Ex H H' → Q (.int 0) H') ∧
  (isOn w = true → numLen (TL.tl t) h = 0 → ∀ H', Off a H H' → Rdr K H' a t h (some h) → Q (.int 0) H') ∧
  (isOn w = true → 0 < numLen (TL.tl t) h → ∀ H', Off a H H' → Rdr K H' a t (h + numLen (TL.tl t) h) none → Q (.int (valE (TL.tl t) h (h + numLen (TL.tl t) h))) H')
def spInteger (K : PySem.W.Frag) : Sp := fun vs H Q _ => ∃ (a : Addr) (t r : Str) (h : Nat) (w : Option Nat), vs = [.ref a, .str r] ∧ Rdr K H a t h w ∧ h ≤ t.length ∧ t.length ≤ 100000 ∧ r.length ≤ 99 ∧ isOn w = true ∧
  ((intE (TL.tl t) h).2 = false → ∀ H' i, Off a H H' → Rdr K H' a t (intE (TL.tl t) h).1 (some (intE (TL.tl t) h).1) → Q (.int i) H') ∧
  ((intE (TL.tl t) h).2 = true → ∀ H', Off a H H' → Rdr K H' a t (intE (TL.tl t) h).1 none → Q (.int (valE (TL.tl t) h (intE (TL.tl t) h).1)) H')
def rIntStr : List V → Hp → VK → Prop := fun xs H Q => ∃ a n, xs = [.str a] ∧ PySem.intText? a = some n ∧ a.length ≤ 640 ∧ Q (.int n) H
theorem k_intStr {X : Cx} : CallR X (.type "int") rIntStr := CallR.to call_int_str fun xs H Q ⟨a, n, h⟩ => ⟨a, n, h⟩
theorem ev_intStr {σ : L2.St} {H : Hp} {ta : TE} {z : Str} {n : Int} (ha : Ev ta σ H (.str z)) (h1 : intText? z = some n) (h2 : z.length ≤ 640) : Ev (tCB rIntStr (tCons ta tNil)) σ H (.int n) := fun H1 e Q q =>
  ha H1 e _ fun H2 e2 => ⟨z, n, rfl, h1, h2, q H2 e2⟩
theorem on_none {w : Option Nat} (h : isOn w = true) : w = none := by
  cases w with
  | none => rfl
  | some p => cases h
theorem on_some {w : Option Nat} (h : isOn w = false) : ∃ p, w = some p := by
  cases w with
  | none => cases h
  | some p => exact ⟨p, rfl⟩
theorem fig0 {t : List Nat} {b : Nat} : (0 < numLen t b) ↔ figAt t b = true := by
  have v := NumInv.start t b
  have e : goOn t b 0 = figAt t b := by
    unfold goOn
    simp
  cases g : goOn t b 0 with
  | false =>
    have := v.stop g
    rw [e] at g
    rw [g, this]
    simp
  | true =>
    obtain ⟨v1, _⟩ := v.next g
    rw [e] at g
    constructor
    · exact fun _ => g
    · intro _
      cases h : numLen t b with
      | zero =>
        have h2 := v1.eq
        have h3 : ∀ f, 1 ≤ numFrom t b f 1 := by
          have gen : ∀ f j, j ≤ numFrom t b f j := by
            intro f
            induction f with
            | zero => exact fun j => Nat.le_refl _
            | succ f ih =>
              intro j
              show j ≤ if goOn t b j = true then numFrom t b f (j + 1) else j
              split
              · have := ih (j + 1)
                omega
              · omega
          exact fun f => gen f 1
        have := h3 (16 - (0 + 1))
        rw [h2, h] at this
        omega
      | succ n => omega
section
variable {P : Program} {w : World} {K : PySem.W.Frag} {mg : Str → Option Value} {base : Heap}
theorem ok_number (D : DmR K "number" "Reader.number" 11) (T : RdT K mg) (F : Free mg) (R1 : PmR P w K mg base 1 "is_on" ["self"] (spIsOn K)) (R2 : PmR P w K mg base 2 "sees_figure" ["self"] (spSeesFig K)) (R3 : PmR P w K mg base 2 "stop" ["self", "rest"] (spStop K)) :
    PmR P w K mg base 3 "number" ["self", "rest"] (spNumber K) := by
  refine Pm.of0 D scRd11 (fun _ _ _ _ _ _ us hl => match us, hl with | [_, _], _ => rfl) (fun vs H Q E h => ?_) fun cdv A outer s H vs Q E hr h => ?_
  · obtain ⟨a, t, r, h, w, rfl, _⟩ := h
    rfl
  · obtain ⟨a, t, r, h, w, rfl, x, hh, hz, hrl, q0, q1, q2⟩ := h
    obtain ⟨tk, hM⟩ := T.most
    refine ⟨_, pss_cons (ps_set (i := 2) scRd11.nd rfl (.inl rfl) (pe_fld (pv 0) rfl))
      (Evl.pss_cut (ps_if (PW.pt (pw_and (pt_val (pmeth0 R1 T.cl (hr.mono (by decide)) pass0 (pv 0))) (pw_and1 (pt_not (pt_val (pmeth0 R2 T.cl hr pass0 (pv 0)))))))
        (pss_one (ps_expr (pmeth R3 T.cl hr pass0 (pv 0) (pa_cons (pe_op k_adds pe_str (pv 1)) pa_nil)))) pss_nil)
      (pss_cons (ps_while PassesOwn.never (PW.pt (pw_and (pt_val (pmeth0 R2 T.cl hr pass0 (pv 0))) (pw_and (pt_cmpR op_ne (pe_slice sl_str (pe_fld (pv 0) rfl) (po_some (pv 2)) (po_some (pe_fld (pv 0) rfl))) pe_str (nomark _))
          (pw_and1 (pt_cmpR op_lt (pe_op op_sub (pe_fld (pv 0) rfl) (pv 2)) (pe_glob (v := .int 16) rfl hM ⟨_, rfl⟩) (nomark _))))))
        (pss_one (ps_fldaug (pv 0) pe_int in_add)))
      (pss_one (ps_ret (pe_ifExp (pt_val (pmeth0 R1 T.cl (hr.mono (by decide)) pass0 (pv 0))) (pe_callTy k_intStr (by rfl) F.int bb_int (pa_cons (pe_slice sl_str (pe_fld (pv 0) rfl) (po_some (pv 2)) (po_some (pe_fld (pv 0) rfl))) pa_nil)) pe_int))))), ?_⟩
    refine q_asg (ev_here_of T (ev_var rfl) x) fun H1 e1 => ?_
    have x1 := x.ex e1
    refine q_cut (M := fun σ' H' => σ' = [some (.ref a), some (.str r), some (.int (h : Int))] ∧ ((∃ p, Rdr K H' a t h (some p) ∧ ((isOn w = false ∧ Ex H H') ∨ (isOn w = true ∧ numLen (TL.tl t) h = 0 ∧ p = h ∧ Off a H H'))) ∨ (isOn w = true ∧ Ex H H' ∧ 0 < numLen (TL.tl t) h ∧ Rdr K H' a t h none))) ?_ ?_
    · -- the first figure
      refine s_when (b := isOn w && !(isOn w && figAt (TL.tl t) h)) (et_and (et_B (ev_rm x1 (ev_var rfl) ea_nil (sp_is_on x1))) fun _ => et_not (et_B (ev_rm x1 (ev_var rfl) ea_nil (sp_sees_fig x1 hh hz)))) (fun hb H2 e2 => ?_) (fun hb H2 e2 => ?_)
      · have x2 := x1.ex e2
        refine t_rm x2 (ev_var rfl) (ea_cons (ev_adds ev_c (ev_var rfl) ?_) ea_nil) fun H3 e3 => sp_stop (x2.ex e3) hz fun H4 o4 x4 => ⟨rfl, .inl ⟨h, x4, .inr ?_⟩⟩
        · have h1 : (Str.ofString "1").length = 1 := by decide
          rw [sizeLine_eq, h1]
          omega
        · cases hon : isOn w with
          | false =>
            rw [hon] at hb
            cases hb
          | true =>
            rw [hon] at hb
            refine ⟨rfl, ?_, rfl, (off_of ((e1.trans e2).trans e3)).trans o4⟩
            have hf : figAt (TL.tl t) h = false := by simpa using hb
            refine Nat.eq_zero_of_not_pos fun h0 => ?_
            have := (fig0 (t := TL.tl t) (b := h)).mp h0
            rw [hf] at this
            cases this
      · refine ⟨rfl, ?_⟩
        cases hon : isOn w with
        | false =>
          obtain ⟨p, rfl⟩ := on_some hon
          exact .inl ⟨p, x1.ex e2, .inl ⟨rfl, e1.trans e2⟩⟩
        | true =>
          have hw := on_none hon
          subst hw
          rw [hon] at hb
          exact .inr ⟨rfl, e1.trans e2, fig0.mpr (by simpa using hb), x1.ex e2⟩
    · rintro σ' H' ⟨rfl, hM'⟩
      rcases hM' with ⟨p, xp, hp⟩ | ⟨hon, eH, hn, xn⟩
      · -- off: nothing more is read
        refine q_while (fun m σ H2 => σ = [some (.ref a), some (.str r), some (.int (h : Int))] ∧ Ex H' H2) 0 ⟨rfl, Ex.refl H'⟩ fun m σ H2 hW => ?_
        obtain ⟨rfl, e2⟩ := hW
        have x2 := xp.ex e2
        refine ⟨false, ?_, (fun z => nomatch z), fun _ H3 e3 => ?_⟩
        · exact et_is (et_and (et_B (ev_rm x2 (ev_var rfl) ea_nil (sp_sees_fig x2 hh hz))) (b := false) (fun z => nomatch z)) (by rw [isOn_some]; rfl)
        · have x3 := x2.ex e3
          refine et_go (et_B (ev_rm x3 (ev_var rfl) ea_nil (sp_is_on x3))) fun H4 e4 => ?_
          rw [isOn_some]
          refine iteF ?_
          have e5 : Ex H' H4 := (e2.trans e3).trans e4
          rcases hp with ⟨h1, h2⟩ | ⟨h1, h2, rfl, h3⟩
          · exact q0 h1 H4 (h2.trans e5)
          · exact q1 h1 h2 H4 (h3.trans (off_of e5)) (x3.ex e4)
      · -- on: figure by figure
        have hw := on_none hon
        subst hw
        have hl := TL.len_tl t
        refine q_while (fun m σ H2 => ∃ j, σ = [some (.ref a), some (.str r), some (.int (h : Int))] ∧ Off a H' H2 ∧ Rdr K H2 a t (h + j) none ∧ NumInv (TL.tl t) h j ∧ m = 16 - j) 16 ⟨0, rfl, But.refl, xn, NumInv.start _ _, rfl⟩ fun m σ H2 hW => ?_
        obtain ⟨j, rfl, o2, x2, v, rfl⟩ := hW
        have hj : h + j ≤ t.length := by
          rw [hl]
          exact v.lt (by omega)
        refine ⟨goOn (TL.tl t) h j, ?_, fun hg H3 e3 => ?_, fun hg H3 e3 => ?_⟩
        · refine et_is (et_and (et_B (ev_rm x2 (ev_var rfl) ea_nil (sp_sees_fig x2 hj hz))) fun _ => et_and (et_test (ev_op (ev_cutS (ev_text_of T (ev_var rfl) x2) (eo_some (ev_var rfl)) (eo_some (ev_here_of T (ev_var rfl) x2)) hz) ev_c (rv_ne rfl))) fun _ => et_test (ev_op (ev_op (ev_here_of T (ev_var rfl) x2) (ev_var rfl) rv_I0) ev_c rv_I0)) ?_
          rw [isOn_none, Bool.true_and, cut_seg (show h ≤ h + j by omega) hj]
          exact v.cond
        · obtain ⟨v2, hj2⟩ := v.next hg
          refine ⟨fun σ2 H4 => ∃ j', j' = j + 1 ∧ σ2 = [some (.ref a), some (.str r), some (.int (h : Int))] ∧ Off a H' H4 ∧ Rdr K H4 a t (h + j') none, fun σ2 H4 hN => ?_, ?_⟩
          · obtain ⟨j', rfl, rfl, o4, x4⟩ := hN
            exact ⟨16 - (j + 1), by omega, j + 1, rfl, o4, x4, v2, rfl⟩
          · exact t_here T (x2.ex e3) (ev_var rfl) fun H4 o4 x4 => ⟨j + 1, rfl, rfl, (o2.trans (off_of e3)).trans o4, x4⟩
        · have hN := v.stop hg
          subst hN
          have x3 := x2.ex e3
          refine et_go (et_B (ev_rm x3 (ev_var rfl) ea_nil (sp_is_on x3))) fun H4 e4 => ?_
          rw [isOn_none]
          refine iteT ?_
          have x4 := x3.ex e4
          obtain ⟨s1, s2⟩ := seg_figs v.figs
          have hm := numLen_le (TL.tl t) h
          have ne : seg (TL.tl t) h (h + numLen (TL.tl t) h) ≠ [] := fun z => by
            rw [z] at s2
            have s3 : 0 = numLen (TL.tl t) h := s2
            omega
          have hv := intText_digits (x := ⟨(seg (TL.tl t) h (h + numLen (TL.tl t) h)).toArray⟩) s1 ne (by
            rw [TL.len_tl]
            show (seg (TL.tl t) h (h + numLen (TL.tl t) h)).length ≤ 4300
            rw [s2]
            omega)
          refine ev_go (ev_intStr (n := valE (TL.tl t) h (h + numLen (TL.tl t) h)) (ev_cutS (ev_text_of T (ev_var rfl) x4) (eo_some (ev_var rfl)) (eo_some (ev_here_of T (ev_var rfl) x4)) hz) ?_ ?_) fun H5 e5 => ?_
          · rw [cut_seg (show h ≤ h + numLen (TL.tl t) h by omega) hj]
            unfold valE
            rw [hv]
            rfl
          · rw [cut_seg (show h ≤ h + numLen (TL.tl t) h by omega) hj, TL.len_tl]
            show (seg (TL.tl t) h (h + numLen (TL.tl t) h)).length ≤ 640
            rw [s2]
            omega
          · exact q2 rfl hn H5 (((off_of eH).trans o2).trans (off_of ((e3.trans e4).trans e5))) (x4.ex e5)
theorem ok_integer (D : DmR K "integer" "Reader.integer" 12) (T : RdT K mg) (R1 : PmR P w K mg base 2 "sees" ["self", "sign"] (spSees K)) (R2 : PmR P w K mg base 3 "number" ["self", "rest"] (spNumber K)) (R3 : PmR P w K mg base 2 "stop" ["self", "rest"] (spStop K)) :
    PmR P w K mg base 4 "integer" ["self", "rest"] (spInteger K) := by
  refine Pm.of0 D scRd12 (fun _ _ _ _ _ _ us hl => match us, hl with | [_, _], _ => rfl) (fun vs H Q E h => ?_) fun cdv A outer s H vs Q E hr h => ?_
  · obtain ⟨a, t, r, h, w, rfl, _⟩ := h
    rfl
  · obtain ⟨a, t, r, h, w, rfl, x, hh, hz, hrl, hon, q1, q2⟩ := h
    have hw := on_none hon
    subst hw
    refine ⟨_, pss_cons (ps_if (pt_not (pt_val (pmeth R1 T.cl (hr.mono (by decide)) pass0 (pv 0) (pa_cons pe_str pa_nil)))) (pss_one (ps_ret (pmeth R2 T.cl hr pass0 (pv 0) (pa_cons (pv 1) pa_nil)))) pss_nil)
      (pss_cons (ps_fldaug (pv 0) pe_int in_add)
      (Evl.pss_cut (ps_if (pt_val (pmeth R1 T.cl (hr.mono (by decide)) pass0 (pv 0) (pa_cons pe_str pa_nil))) (pss_one (ps_expr (pmeth R3 T.cl (hr.mono (by decide)) pass0 (pv 0) (pa_cons pe_str pa_nil)))) pss_nil)
      (pss_one (ps_ret (pe_un un_neg (pmeth R2 T.cl hr pass0 (pv 0) (pa_cons (pv 1) pa_nil))))))), ?_⟩
    have hl := TL.len_tl t
    refine q_when (b := !(isOn none && decide ((TL.tl t)[h]? = some 45))) (et_not (et_B (ev_rm x (ev_var rfl) (ea_cons (x := .str (signS 45)) ev_c ea_nil) (sp_sees x hh hz 45)))) (fun hb H1 e1 => ?_) (fun hb H1 e1 => ?_)
    · have hne : ¬ (TL.tl t)[h]? = some 45 := by
        rw [isOn_none] at hb
        simpa using hb
      have x1 := x.ex e1
      have hi : intE (TL.tl t) h = (h + numLen (TL.tl t) h, decide (0 < numLen (TL.tl t) h)) := if_neg hne
      rw [hi] at q1 q2
      refine t_rm x1 (ev_var rfl) (ea_cons (ev_var rfl) ea_nil) fun H2 e2 => ⟨a, t, r, h, none, rfl, x1.ex e2, hh, hz, by omega, (fun z => nomatch z), fun _ h0 H3 o3 x3 => ?_, fun _ h0 H3 o3 x3 => ?_⟩
      · refine q1 (by rw [h0]; rfl) H3 0 ((off_of (e1.trans e2)).trans o3) ?_
        rw [h0]
        exact x3
      · exact q2 (decide_eq_true h0) H3 ((off_of (e1.trans e2)).trans o3) x3
    · have h45 : (TL.tl t)[h]? = some 45 := by
        rw [isOn_none] at hb
        simpa using hb
      have hlt := (List.getElem?_eq_some_iff.mp h45).1
      have hh1 : h + 1 ≤ t.length := by omega
      refine t_here T (x.ex e1) (ev_var rfl) fun H2 o2 x2 => ?_
      have o2' : Off a H H2 := (off_of e1).trans o2
      refine q_cut (M := fun σ' H' => σ' = start ["self", "rest"] [.ref a, .str r] ∧ Off a H H' ∧ Rdr K H' a t (h + 1) (if (TL.tl t)[h + 1]? = some 48 then some (h + 1) else none)) ?_ ?_
      · refine s_when (b := isOn none && decide ((TL.tl t)[h + 1]? = some 48)) (et_B (ev_rm x2 (ev_var rfl) (ea_cons (x := .str (signS 48)) ev_c ea_nil) (sp_sees x2 hh1 hz 48))) (fun hb H3 e3 => ?_) (fun hb H3 e3 => ?_)
        · have h48 : (TL.tl t)[h + 1]? = some 48 := by
            rw [isOn_none] at hb
            simpa using hb
          refine t_rm (x2.ex e3) (ev_var rfl) (ea_cons ev_c ea_nil) fun H4 e4 => sp_stop ((x2.ex e3).ex e4) hz fun H5 o5 x5 => ⟨rfl, (o2'.trans (off_of (e3.trans e4))).trans o5, ?_⟩
          rw [if_pos h48]
          exact x5
        · have h48 : ¬ (TL.tl t)[h + 1]? = some 48 := by
            rw [isOn_none] at hb
            simpa using hb
          refine ⟨rfl, o2'.trans (off_of e3), ?_⟩
          rw [if_neg h48]
          exact x2.ex e3
      · rintro σ' H' ⟨rfl, o3, x3⟩
        by_cases h48 : (TL.tl t)[h + 1]? = some 48
        · rw [if_pos h48] at x3
          have hi : intE (TL.tl t) h = (h + 1, false) := (if_pos h45).trans (if_pos h48)
          rw [hi] at q1
          refine t_rm x3 (ev_var rfl) (ea_cons (ev_var rfl) ea_nil) fun H4 e4 => ⟨a, t, r, h + 1, _, rfl, x3.ex e4, hh1, hz, by omega, fun _ H5 e5 => ⟨0, rfl, ?_⟩, (fun z => nomatch z), (fun z => nomatch z)⟩
          exact q1 rfl H5 _ (o3.trans (off_of (e4.trans e5))) ((x3.ex e4).ex e5)
        · rw [if_neg h48] at x3
          have hi : intE (TL.tl t) h = (h + 1 + numLen (TL.tl t) (h + 1), decide (0 < numLen (TL.tl t) (h + 1))) := (if_pos h45).trans (if_neg h48)
          rw [hi] at q1 q2
          refine t_rm x3 (ev_var rfl) (ea_cons (ev_var rfl) ea_nil) fun H4 e4 => ⟨a, t, r, h + 1, _, rfl, x3.ex e4, hh1, hz, by omega, (fun z => nomatch z), fun _ h0 H5 o5 x5 => ⟨0, rfl, ?_⟩, fun _ h0 H5 o5 x5 => ⟨_, rfl, ?_⟩⟩
          · refine q1 (by rw [h0]; rfl) H5 _ ((o3.trans (off_of e4)).trans o5) ?_
            rw [h0]
            exact x5
          · have g := q2 (decide_eq_true h0) H5 ((o3.trans (off_of e4)).trans o5) x5
            rw [val_minus h45 h0] at g
            exact g
end
end Pw
set_option Elab.async false
set_option linter.all false
set_option maxRecDepth 100000
namespace Pw
open PySem PySem.Spec PyProof.Rows L2 Evl
/-! ## more evaluations of lists -/
section
variable {K : PySem.W.Frag} {σ : L2.St} {H : Hp} {ta tb tl te : TE} {tt : TT} {xs ys : List V} {j : Nat}
theorem el_cat (ha : EvL ta σ H xs) (hb : EvL tb σ H ys) (hz : xs.length + ys.length ≤ 200000) : EvL (tOp rCat ta tb) σ H (xs ++ ys) := fun H1 e Q q =>
  ha H1 e _ fun p H2 hp e2 h2 => hb H2 (e.trans e2) _ fun p3 H3 hp3 e3 h3 => ⟨p, p3, xs, ys, rfl, rfl, e3 p _ h2, h3, by rw [sizeLine_eq]; omega, fun l hl => q l _ (fresh_back (e2.trans e3) hl) ((e2.trans e3).trans (Ex.new hl)) upd_same⟩
theorem el_if {b : Bool} (h : EvT tt σ H b) (h1 : b = true → EvL ta σ H xs) (h2 : b = false → EvL tb σ H xs) : EvL (tIf tt ta tb) σ H xs := fun H1 e Q q => h H1 e _ fun H2 e2 => by
  cases b with
  | true =>
    show ta σ H2 Q
    exact h1 rfl H2 (e.trans e2) Q fun p H3 hp e3 => q p H3 (fresh_back e2 hp) (e2.trans e3)
  | false =>
    show tb σ H2 Q
    exact h2 rfl H2 (e.trans e2) Q fun p H3 hp e3 => q p H3 (fresh_back e2 hp) (e2.trans e3)
theorem el_is {zs : List V} (h : EvL ta σ H xs) (e : xs = zs) : EvL ta σ H zs := e ▸ h
/-- over a new list, the items' values known -/
theorem el_seqL (h : EvL tl σ H xs) (hz : xs.length ≤ 50000) (hl : ys.length = xs.length)
    (he : ∀ (i : Nat) (x y : V) H1, Ex H H1 → xs[i]? = some x → ys[i]? = some y → Ev te ((wipe σ [j]).set j (some x)) H1 y) : EvL (tLc (iList K tl) (gName j) tYes te [j]) σ H ys := fun H0 e Q q => by
  refine h H0 e _ fun a H1 ha e1 h1 => ⟨a, rfl, ⟨xs, SqL.of h1⟩, fun D hD => ?_⟩
  refine lc_word (walk_list (K := K) (xs := xs) (a := a)) hD (fun H' e' => SqL.of (e' _ _ h1)) hz (fun i y _ => ys[i]? = some y) (fun _ _ _ _ r _ => r) (fun i x H2 H' acc hi e2 hDs hy Q' q' => ?_) (fun zs H' e' hlen hDs hr => ?_)
  · obtain ⟨rfl, hx'⟩ := hy
    have hyi : ys[i]? = some ys[i] := List.getElem?_eq_getElem (by omega)
    exact q' _ _ (Ex.refl _) (wipe1 _ _ _) fun H3 e3 Q2 q2 => he i x _ H' ((e.trans e1).trans e2) hx' hyi H3 e3 Q2 fun H4 e4 => q2 _ H4 e4 hyi
  · have ez : zs = ys := List.ext_getElem? fun k => by
      by_cases hk : k < zs.length
      · rw [List.getElem?_eq_getElem hk]
        exact (hr k _ (List.getElem?_eq_getElem hk)).symm
      · rw [List.getElem?_eq_none (by omega), List.getElem?_eq_none (by omega)]
    rw [ez] at hDs
    exact q D H' (fresh_back e1 hD) (e1.trans e') hDs
end
theorem cutV_init (xs : List V) (z : V) : cutV (xs ++ [z]) none (some (-1)) = xs := by
  unfold cutV
  have e : HT.sIx (xs ++ [z]).length (xs ++ [z]).length (some (-1)) = xs.length := by
    rw [List.length_append, List.length_singleton]
    unfold HT.sIx
    simp
    omega
  rw [e]
  show ((xs ++ [z]).drop 0).take (xs.length - 0) = xs
  rw [List.drop_zero, Nat.sub_zero, List.take_left]
/-! ## lines -/
def mkS (l : List Nat) : Str := ⟨l.toArray⟩
theorem tl_mkS (l : List Nat) : TL.tl (mkS l) = l := rfl
theorem mkS_tl (x : Str) : mkS (TL.tl x) = x := TL.mk_tl x
theorem mkS_app (a b : List Nat) : mkS a ++ mkS b = mkS (a ++ b) := TL.ext_tl (by rw [TL.tl_append]; rfl)
theorem mkS_len (l : List Nat) : (mkS l).length = l.length := by rw [TL.len_tl]; rfl
theorem nl_eq : Str.ofString "\n" = mkS [10] := TL.ext_tl (by decide +kernel)
theorem mkS_inj {a b : List Nat} (h : mkS a = mkS b) : a = b := by
  have := congrArg TL.tl h
  exact this
theorem mkS_nil : mkS [] = Str.ofString "" := TL.ext_tl (by decide +kernel)
theorem split_mk (x : Str) : Txt.split x (Str.ofString "\n") = (TL.spl [10] 0 [] (TL.tl x)).map mkS := by
  have e0 : TL.tl (Str.ofString "\n") = [10] := by decide +kernel
  have e := TL.split_spl x (Str.ofString "\n") (by rw [e0]; simp) (TL.kind_ok (by decide +kernel))
  rw [e0] at e
  rw [← e, List.map_map]
  have : (mkS ∘ TL.tl) = id := funext fun y => mkS_tl y
  rw [this, List.map_id]
theorem spl_ne (l : List Nat) : ∀ (k : Nat) (acc : List Nat), TL.spl [10] k acc l ≠ [] := by
  induction l with
  | nil =>
    intro k acc
    rw [TL.spl_nil]
    simp
  | cons c r ih =>
    intro k acc
    cases k with
    | zero =>
      cases h : TL.pre [10] (c :: r) with
      | true =>
        rw [TL.spl_hit h]
        simp
      | false =>
        rw [TL.spl_miss h]
        exact ih _ _
    | succ k => exact ih k acc
/-- the pieces' sum and number -/
theorem spl_sum (l : List Nat) : ∀ (k : Nat) (acc : List Nat), (TL.spl [10] k acc l).length ≤ l.length + 1 ∧ ∀ p ∈ TL.spl [10] k acc l, p.length ≤ acc.length + l.length := by
  induction l with
  | nil =>
    intro k acc
    rw [TL.spl_nil]
    exact ⟨by simp, fun p hp => by rw [List.mem_singleton.mp hp]; omega⟩
  | cons c r ih =>
    intro k acc
    cases k with
    | zero =>
      cases h : TL.pre [10] (c :: r) with
      | true =>
        rw [TL.spl_hit h]
        obtain ⟨h1, h2⟩ := ih 0 []
        refine ⟨by show (TL.spl [10] 0 [] r).length + 1 ≤ r.length + 1 + 1; omega, fun p hp => ?_⟩
        rcases List.mem_cons.mp hp with rfl | hp
        · rw [List.length_cons]
          omega
        · have := h2 p hp
          rw [List.length_nil] at this
          rw [List.length_cons]
          omega
      | false =>
        rw [TL.spl_miss h]
        obtain ⟨h1, h2⟩ := ih 0 (acc ++ [c])
        refine ⟨by rw [List.length_cons]; omega, fun p hp => ?_⟩
        have := h2 p hp
        rw [List.length_append, List.length_singleton] at this
        rw [List.length_cons]
        omega
    | succ k =>
      obtain ⟨h1, h2⟩ := ih k acc
      refine ⟨by rw [List.length_cons]; exact Nat.le_trans h1 (by omega), fun p hp => ?_⟩
      have := h2 p hp
      rw [List.length_cons]
      omega
theorem linesL_len (l : List Nat) : (linesL l).length ≤ l.length + 1 ∧ ∀ p ∈ linesL l, p.length ≤ l.length + 1 := by
  obtain ⟨h1, h2⟩ := spl_sum l 0 []
  have hne := spl_ne l 0 []
  unfold linesL
  have h3 : 0 < (TL.spl [10] 0 [] l).length := List.length_pos_iff.mpr hne
  constructor
  · rw [List.length_append, List.length_map, List.length_dropLast]
    split
    · rw [List.length_singleton]
      omega
    · rw [List.length_nil]
      omega
  · intro p hp
    rcases List.mem_append.mp hp with hp | hp
    · obtain ⟨q, hq, rfl⟩ := List.mem_map.mp hp
      have := h2 q (List.dropLast_subset _ hq)
      rw [List.length_append, List.length_singleton]
      rw [List.length_nil] at this
      omega
    · split at hp
      · rw [List.mem_singleton.mp hp]
        have e : (TL.spl [10] 0 [] l).getLastD [] ∈ TL.spl [10] 0 [] l := by
          rw [List.getLastD_eq_getLast?, List.getLast?_eq_some_getLast hne]
          exact List.getLast_mem hne
        have := h2 _ e
        rw [List.length_nil] at this
        omega
      · cases hp
def linesV (t : Str) : List V := (linesL (TL.tl t)).map fun l => V.str (mkS l)
def tLines (K : PySem.W.Frag) : TS := tSeq (tAsg (tM1 rSplit (tVar 0) (tC (.str "\n"))) (gName 1))
  (tRet (tOp rCat (tLc (iList K (tSl (rSlL K) (tVar 1) tNoPart (tPart (tUn (rU fun i => .int (-i)) (tC (.int 1)))))) (gName 2) tYes (tOp rAddS (tVar 2) (tC (.str "\n"))) [2])
    (tIf (tTest (tOp rNe (tOp (rIxL K) (tVar 1) (tUn (rU fun i => .int (-i)) (tC (.int 1)))) (tC (.str "")))) (tLst (tCons (tOp (rIxL K) (tVar 1) (tUn (rU fun i => .int (-i)) (tC (.int 1)))) tNil)) (tLst tNil))))
def spLines : Sp := fun vs H Q _ => ∃ t : Str, vs = [.str t] ∧ t.length ≤ 40000 ∧ RetL (linesV t) H Q
theorem lines_read {K : PySem.W.Frag} {t : Str} {x : Str} {a b : Str} {H : Hp} {D : Ends} (hz : t.length ≤ 40000) (q : RetL (linesV t) H D.rt) : tLines K D [some (.str t), none, none] H := by
  have hne := spl_ne (TL.tl t) 0 []
  obtain ⟨n1, n2⟩ := spl_sum (TL.tl t) 0 []
  have hl := TL.len_tl t
  refine q_asgL (el_split (ev_var rfl) ev_c (by decide +kernel) (by rw [sizeLine_eq]; omega)) fun p H1 hp e1 h1 => ?_
  have hlast : (TL.spl [10] 0 [] (TL.tl t)).dropLast ++ [(TL.spl [10] 0 [] (TL.tl t)).getLastD []] = TL.spl [10] 0 [] (TL.tl t) := by
    rw [List.getLastD_eq_getLast?, List.getLast?_eq_some_getLast hne]
    exact List.dropLast_concat_getLast hne
  have hlen : (TL.spl [10] 0 [] (TL.tl t)).dropLast.length = (TL.spl [10] 0 [] (TL.tl t)).length - 1 := List.length_dropLast
  unfold linesV linesL at q
  rw [split_mk, ← hlast] at h1
  generalize (TL.spl [10] 0 [] (TL.tl t)).getLastD [] = z at h1 q hlast
  generalize (TL.spl [10] 0 [] (TL.tl t)).dropLast = ps at h1 q hlast hlen
  have hz2 : z.length ≤ 40000 := by
    have := n2 z (by rw [← hlast]; simp)
    rw [List.length_nil] at this
    omega
  have e2 : ((ps ++ [z]).map mkS).map V.str = (ps.map fun l => V.str (mkS l)) ++ [V.str (mkS z)] := by
    simp [List.map_map, Function.comp_def]
  rw [e2] at h1
  have hix : ∀ {H2}, Ex H1 H2 → Ev (tOp (rIxL K) (tVar 1) (tUn (rU fun i => .int (-i)) (tC (.int 1)))) [some (.str t), some (.ref p), none] H2 (.str (mkS z)) := fun e =>
    ev_op (ev_var rfl) (ev_un ev_c ru_neg) (rv_ixL (SqL.of (e _ _ h1)) (atI_last _ _))
  have hcat : EvL (tOp rCat (tLc (iList K (tSl (rSlL K) (tVar 1) tNoPart (tPart (tUn (rU fun i => .int (-i)) (tC (.int 1)))))) (gName 2) tYes (tOp rAddS (tVar 2) (tC (.str "\n"))) [2])
    (tIf (tTest (tOp rNe (tOp (rIxL K) (tVar 1) (tUn (rU fun i => .int (-i)) (tC (.int 1)))) (tC (.str "")))) (tLst (tCons (tOp (rIxL K) (tVar 1) (tUn (rU fun i => .int (-i)) (tC (.int 1)))) tNil)) (tLst tNil)))
      [some (.str t), some (.ref p), none] H1 ((ps.map fun l => V.str (mkS (l ++ [10]))) ++ (if z ≠ [] then [V.str (mkS z)] else [])) := by
    refine el_cat (el_seqL (xs := ps.map fun l => V.str (mkS l)) ?_ ?_ ?_ ?_) (el_if (b := !decide (V.str (mkS z) = V.str "")) (et_test (ev_op (hix (Ex.refl _)) ev_c (rv_ne rfl))) ?_ ?_) ?_
    · exact el_is (el_sl (ev_var rfl) eo_none (eo_some (ev_un ev_c ru_neg)) (SqL.of h1)) (cutV_init _ _)
    · rw [List.length_map]
      omega
    · simp
    · intro i x y H2 e3 hx hy
      rw [List.getElem?_map] at hx hy
      cases hi : ps[i]? with
      | none =>
        rw [hi] at hx
        cases hx
      | some l =>
        rw [hi] at hx hy
        have ex := Option.some.inj hx
        have ey := Option.some.inj hy
        subst ex ey
        have hm : l ∈ TL.spl [10] 0 [] (TL.tl t) := by
          rw [← hlast]
          exact List.mem_append_left _ (List.mem_of_getElem? hi)
        have := n2 l hm
        rw [List.length_nil] at this
        refine ev_is (ev_adds (ev_var rfl) ev_c ?_) ?_
        · have h1 : (Str.ofString "\n").length = 1 := by decide
          rw [mkS_len, h1, sizeLine_eq]
          omega
        · show V.str (mkS l ++ Str.ofString "\n") = _
          rw [nl_eq, mkS_app]
    · intro hb
      have hzn : z ≠ [] := fun zz => by
        subst zz
        rw [show mkS [] = Str.ofString "" from mkS_nil] at hb
        simp at hb
      rw [if_pos hzn]
      exact el_lst (ea_cons (hix (Ex.refl _)) ea_nil) (by show 1 ≤ 100000; decide)
    · intro hb
      have hzn : z = [] := by
        have h2 : V.str (mkS z) = V.str "" := by simpa using hb
        have h3 : mkS z = mkS [] := by
          rw [mkS_nil]
          exact V.str.inj h2
        exact mkS_inj h3
      rw [if_neg (fun k => k hzn)]
      exact el_lst ea_nil (by show 0 ≤ 100000; decide)
    · rw [List.length_map]
      split <;> simp <;> omega
  refine s_retL hcat fun p2 H2 hp2 e3 h2 => q p2 H2 (fresh_back e1 hp2) (e1.trans e3) ?_
  rw [h2]
  congr 2
  rw [List.map_append, List.map_map]
  congr 1
  split <;> rfl
abbrev sLines : Stmt := top 15
abbrev nLines : List Str := ["text", "pieces", "piece"]
theorem scLines : FnScope nLines ["text"] (defScope sLines) := ⟨rfl, rfl, rfl, by decide +kernel, rfl, by decide +kernel, by decide +kernel⟩
abbrev sALines : Stmt := top 27
abbrev nALines : List Str := ["_law_text", "_law_rows", "_law_row"]
theorem scALines : FnScope nALines ["_law_text"] (defScope sALines) := ⟨rfl, rfl, rfl, by decide +kernel, rfl, by decide +kernel, by decide +kernel⟩
section
variable {P : Program} {w : World} {K : PySem.W.Frag} {mg : Str → Option Value} {base : Heap}
theorem k_split {X : Cx} {o e : Expr} {to te : TE} {apos pos : Pos} (ho : PE X o to) (he : PE X e te) (hs : starEach [e] X.env = [(false, eval e X.env)] := by rfl) (hbase : attributeBase o "split" X.env (eval o X.env) = eval o X.env := by rfl) (hline : (apos.endLine == pos.line) = true := by rfl) :
    PE X (.Call (.Attribute o "split" apos) [e] [] pos) (tM1 rSplit to te) := pe_split ho he hs hbase hline
theorem ok_lines (D : Df K mg "lines_of" sLines) : Pr P w K mg base CX0 1 "lines_of" ["text"] spLines := by
  refine Pr.of0 D scLines (fun _ _ _ _ _ _ us hl => match us, hl with | [_], _ => rfl) (fun vs H Q E h => ?_) fun cdv A outer s H vs Q E hr h => ?_
  · obtain ⟨t, rfl, _⟩ := h
    rfl
  · obtain ⟨t, rfl, hz, q⟩ := h
    refine ⟨tLines K, pss_cons (ps_set (i := 1) scLines.nd rfl (.inl rfl) (k_split (pv 0) pe_str))
      (pss_one (ps_ret (pe_op op_cat (pe_lc (own := [("piece", 2)]) (g := gName 2) (tt := tYes) rfl scLines.nd (pi_list (pe_slice sl_list (pv 1) po_none (po_some (pe_un un_neg pe_int)))) (blkOk_by (by kernel_rfl)) (fun _ _ _ _ _ => pg_name (i := 2) scLines.nd rfl (Or.inl rfl)) (fun _ _ _ _ _ => pts_nil)
          (fun _ _ _ _ _ => pe_op k_adds (pv 2) pe_str))
        (pe_ifExp (pt_cmpR op_ne (pe_ix ix_list (pv 1) (pe_un un_neg pe_int) (fun _ _ => rfl)) pe_str (nomark _)) (pe_lst (pa_cons (pe_ix ix_list (pv 1) (pe_un un_neg pe_int) (fun _ _ => rfl)) pa_nil)) (pe_lst pa_nil))))), ?_⟩
    exact lines_read (x := t) (a := t) (b := t) hz q
theorem ok_alines (D : Df K mg "_law_a_lines" sALines) : Pr P w K mg base CX0 1 "_law_a_lines" ["_law_text"] spLines := by
  refine Pr.of0 D scALines (fun _ _ _ _ _ _ us hl => match us, hl with | [_], _ => rfl) (fun vs H Q E h => ?_) fun cdv A outer s H vs Q E hr h => ?_
  · obtain ⟨t, rfl, _⟩ := h
    rfl
  · obtain ⟨t, rfl, hz, q⟩ := h
    refine ⟨tLines K, pss_cons (ps_set (i := 1) scALines.nd rfl (.inl rfl) (k_split (pv 0) pe_str))
      (pss_one (ps_ret (pe_op op_cat (pe_lc (own := [("_law_row", 2)]) (g := gName 2) (tt := tYes) rfl scALines.nd (pi_list (pe_slice sl_list (pv 1) po_none (po_some (pe_un un_neg pe_int)))) (blkOk_by (by kernel_rfl)) (fun _ _ _ _ _ => pg_name (i := 2) scALines.nd rfl (Or.inl rfl)) (fun _ _ _ _ _ => pts_nil)
          (fun _ _ _ _ _ => pe_op k_adds (pv 2) pe_str))
        (pe_ifExp (pt_cmpR op_ne (pe_ix ix_list (pv 1) (pe_un un_neg pe_int) (fun _ _ => rfl)) pe_str (nomark _)) (pe_lst (pa_cons (pe_ix ix_list (pv 1) (pe_un un_neg pe_int) (fun _ _ => rfl)) pa_nil)) (pe_lst pa_nil))))), ?_⟩
    exact lines_read (x := t) (a := t) (b := t) hz q
end
end Pw
set_option Elab.async false
set_option linter.all false
set_option maxRecDepth 100000
namespace Pw
open PySem PySem.Spec PyProof.Rows L2 Evl
/-! ## an own class's object made; xs == [], xs != []; xs.append of what changes the heap -/
theorem pmake {X : Cx} {k : Nat} {ps : List Str} {sp : Sp} {x : Str} {p pos : Pos} {e : Expr} {es : List Expr} {t : TA} (R : Pm X.prog X.w X.K X.mg X.base CX0 k x "__init__" ps sp) (M : Mk X.K (He.ga X.K x) (He.ma X.K (He.ga X.K x) "__init__")) (gl : X.mg x = some (.ref (He.ga X.K x)))
    (hr : Room (k + 1) X.A) (ha : PA X (e :: es) t) (hg : Gl X x := by rfl) (hdb : (x == ("__debug__" : Str)) = false := by decide)
    (he : starEach (e :: es) X.env = (false, eval e X.env) :: starEach es X.env := by rfl) (hpl : (backTo pos (starEach es X.env)).any (·.1) = false := by rfl) :
    PE X (.Call (.Name x p) (e :: es) [] pos) (tMake (He.ga X.K x) sp [] E0 t) := by
  obtain ⟨fd, F, b⟩ := R.ok
  exact pe_make M F hr hg gl b .nil pass0 ha hdb he hpl
theorem eqv_nil (ds : List PyData) : PyData.eqv (.list ds) (.list []) = decide (ds = []) := by
  cases ds with
  | nil => simp [PyData.eqv, PyData.eqvAll]
  | cons d ds => simp [PyData.eqv, PyData.eqvAll]
theorem shaped_nil : SeqAt.shaped (.list []) = true := by decide +kernel
/-- how deep, that it may be compared: by its parts -/
def Shp (n : Nat) (d : PyData) : Prop := d.canLay0 = true ∧ d.depth ≤ n
theorem Shp.shaped {n : Nat} {d : PyData} (h : Shp n d) (hn : n ≤ 64) : SeqAt.shaped d = true := by
  show (d.canLay0 && decide (d.depth ≤ 64)) = true
  rw [Bool.and_eq_true]
  exact ⟨h.1, decide_eq_true (Nat.le_trans h.2 hn)⟩
theorem shp_all {n : Nat} : ∀ {ds : List PyData}, (∀ d ∈ ds, Shp n d) → PyData.canLayAll0 ds = true ∧ PyData.depthAll ds ≤ n
  | [], _ => ⟨by simp [PyData.canLayAll0], by simp [PyData.depthAll]⟩
  | d :: ds, h => by
    obtain ⟨h1, h2⟩ := h d (List.mem_cons_self ..)
    obtain ⟨h3, h4⟩ := shp_all fun z hz => h z (List.mem_cons_of_mem _ hz)
    exact ⟨by simp [PyData.canLayAll0, h1, h3], by simp only [PyData.depthAll]; omega⟩
theorem Shp.list {n : Nat} {ds : List PyData} (h : ∀ d ∈ ds, Shp n d) : Shp (n + 1) (.list ds) := by
  obtain ⟨h1, h2⟩ := shp_all h
  exact ⟨by simp only [PyData.canLay0]; exact h1, by simp only [PyData.depth]; omega⟩
theorem Shp.tuple {n : Nat} {ds : List PyData} (h : ∀ d ∈ ds, Shp n d) : Shp (n + 1) (.tuple ds) := by
  obtain ⟨h1, h2⟩ := shp_all h
  exact ⟨by simp only [PyData.canLay0]; exact h1, by simp only [PyData.depth]; omega⟩
theorem Shp.int (i : Int) : Shp 0 (.int i) := ⟨by simp [PyData.canLay0], by simp [PyData.depth]⟩
theorem Shp.row (ns : List Int) : Shp 1 (.list (ns.map .int)) := Shp.list fun d hd => by
  obtain ⟨i, _, rfl⟩ := List.mem_map.mp hd
  exact Shp.int i
theorem Shp.pic (rows : List (List Int)) : Shp 2 (picD rows) := Shp.list fun d hd => by
  obtain ⟨r, _, rfl⟩ := List.mem_map.mp hd
  exact Shp.row r
theorem noD_ints : ∀ ns : List Int, noD.noDs (ns.map .int) = true
  | [] => rfl
  | n :: ns => by
    rw [List.map_cons, noD.noDs, noD_ints ns]
    rfl
theorem noD_row (ns : List Int) : noD (rowD ns) = true := by
  rw [rowD, noD]
  exact noD_ints ns
theorem noD_rows : ∀ rs : List (List Int), noD.noDs (rs.map rowD) = true
  | [] => rfl
  | n :: ns => by
    rw [List.map_cons, noD.noDs, noD_rows ns, noD_row]
    rfl
theorem noD_pic (rs : List (List Int)) : noD (picD rs) = true := by
  rw [picD, noD]
  exact noD_rows rs
section
variable {K : PySem.W.Frag} {σ : L2.St} {H : Hp} {ta te : TE} {a : Addr} {xs : List V} {ds : List PyData} {L : Addr → Prop}
theorem ev_eqNil (ha : Ev ta σ H (.ref a)) (hd : Dt L H (.ref a) (.list ds)) (hn : noD (.list ds) = true) (hs : SeqAt.shaped (.list ds) = true) : Ev (tOp (rEqD K) ta (tLst tNil)) σ H (.bl (decide (ds = []))) :=
  ev_opL ha (el_lst ea_nil (by show 0 ≤ 100000; decide)) fun p H1 hp e H2 e2 Q q => ⟨_, .list [], Dt.dp (K := K) _ _ hn (hd.ex (e.trans e2)), .lst (SqL.of (e2 _ _ hp)) .nil, hs, shaped_nil, by rw [eqv_nil]; exact q H2 (Ex.refl H2)⟩
theorem ev_neNil (ha : Ev ta σ H (.ref a)) (hd : Dt L H (.ref a) (.list ds)) (hn : noD (.list ds) = true) (hs : SeqAt.shaped (.list ds) = true) : Ev (tOp (rNeD K) ta (tLst tNil)) σ H (.bl (!decide (ds = []))) :=
  ev_opL ha (el_lst ea_nil (by show 0 ≤ 100000; decide)) fun p H1 hp e H2 e2 Q q => ⟨_, .list [], Dt.dp (K := K) _ _ hn (hd.ex (e.trans e2)), .lst (SqL.of (e2 _ _ hp)) .nil, hs, shaped_nil, by rw [eqv_nil]; exact q H2 (Ex.refl H2)⟩
/-- of a list of ints -/
theorem ev_eqNilI {ns : List Int} (ha : Ev ta σ H (.ref a)) (hd : H a = some (.lst (ns.map .int))) : Ev (tOp (rEqD K) ta (tLst tNil)) σ H (.bl (decide (ns = []))) :=
  ev_is (ev_eqNil (L := fun _ => False) ha (.lst (fun z => z) hd (DtAll.ints ns)) (noD_row ns) ((Shp.row ns).shaped (by decide))) (by simp)
theorem ev_neNilI {ns : List Int} (ha : Ev ta σ H (.ref a)) (hd : H a = some (.lst (ns.map .int))) : Ev (tOp (rNeD K) ta (tLst tNil)) σ H (.bl (!decide (ns = []))) :=
  ev_is (ev_neNil (L := fun _ => False) ha (.lst (fun z => z) hd (DtAll.ints ns)) (noD_row ns) ((Shp.row ns).shaped (by decide))) (by simp)
theorem s_appX {D : Ends} {l : Addr} (hl : H l = some (.lst xs)) (ha : Ev ta σ H (.ref l)) (ht : ∀ H1, Ex H H1 → te σ H1 fun v H2 => ∃ ys, H2 l = some (.lst ys) ∧ ys.length < sizeLine ∧ D.nx σ (upd H2 l (.lst (ys ++ [v])))) :
    tDrop (tBM K "list" rAppend ta (tCons te tNil)) D σ H := ha H (Ex.refl H) _ fun H1 e1 => by
  refine ⟨Or.inl ⟨rfl, xs, SqL.of (e1 l _ hl)⟩, ?_⟩
  have h := ht H1 e1
  revert h
  generalize hG : (fun v H2 => ∃ ys, H2 l = some (.lst ys) ∧ ys.length < sizeLine ∧ D.nx σ (upd H2 l (.lst (ys ++ [v])))) = G
  have hG2 : G = fun x H2 => tNil σ H2 fun xs H3 => rAppend (.ref l) (x :: xs) H3 fun v H1 => (fun _ H1 => D.nx σ H1) v H1 := by
    rw [← hG]
    funext v H2
    refine propext ⟨fun ⟨ys, h1, h2, h3⟩ => ⟨l, ys, v, rfl, rfl, h1, h2, h3⟩, fun h => ?_⟩
    obtain ⟨l', ys, v', e1, e2, h1, h2, h3⟩ := h
    cases e1
    cases e2
    exact ⟨ys, h1, h2, h3⟩
  intro h
  rw [hG2] at h
  exact h
end
/-! ## read_row -/
theorem Off.ex {H0 H H' : Hp} {a : Addr} (e : Ex H0 H) (n : H0 a = none) (o : Off a H H') : Ex H0 H' := fun b u hb => o b u (fun z => by rw [z, n] at hb; cases hb) (e b u hb)
theorem Rdr.off {K : PySem.W.Frag} {H : Hp} {a F : Addr} {t : Str} {h : Nat} {w : Option Nat} {o : HO} (x : Rdr K H a t h w) (n : a ≠ F) : Rdr K (upd H F o) a t h w := by
  obtain ⟨dx, r, q⟩ := x
  exact ⟨dx, r, by rw [upd_ne n]; exact q⟩
def Agr (t : List Nat) (many : Nat) (r : Nat × Bool × List Int) : Prop := (row1 t many).1 = r.1 ∧ (row1 t many).2.1 = r.2.1 ∧ (r.2.1 = true → (row1 t many).2.2 = r.2.2)
theorem Agr.to {t : List Nat} {many : Nat} {r s : Nat × Bool × List Int} (a : Agr t many r) (h1 : r.1 = s.1) (h2 : r.2.1 = s.2.1) (h3 : r.2.1 = true → r.2.2 = s.2.2) : Agr t many s :=
  ⟨a.1.trans h1, a.2.1.trans h2, fun z => by
    rw [← h2] at z
    exact (a.2.2 z).trans (h3 z)⟩
theorem Agr.off {t : List Nat} {many p : Nat} {l m : List Int} (a : Agr t many (p, false, l)) : Agr t many (p, false, m) := ⟨a.1, a.2.1, fun z => nomatch z⟩
/-- the reader's wrong behind a row -/
def wrongE (r : Nat × Bool × List Int) : Option Nat := if r.2.1 = true then none else some r.1
def spReadRow (K : PySem.W.Frag) : Sp := fun vs H Q _ => ∃ (t : Str) (m : Nat), vs = [.str t, .int (m : Int)] ∧ t.length ≤ 40001 ∧
  ∀ (a F T : Addr) (ns : List Int) (H' : Hp), Ex H H' → H a = none → H F = none → H T = none → Rdr K H' a t (row1 (TL.tl t) m).1 (wrongE (row1 (TL.tl t) m)) → H' F = some (.lst (ns.map .int)) → ((row1 (TL.tl t) m).2.1 = true → ns = (row1 (TL.tl t) m).2.2) →
    H' T = some (.tup [.ref a, .ref F]) → Q (.ref T) H'
abbrev sReadRow : Stmt := top 18
abbrev nReadRow : List Str := ["text", "many", "reader", "found"]
theorem scReadRow : FnScope nReadRow ["text", "many"] (defScope sReadRow) := ⟨rfl, rfl, rfl, by decide +kernel, rfl, by decide +kernel, by decide +kernel⟩
def RowSt (t : Str) (m : Nat) (a F : Addr) (H0 : Hp) (σ : L2.St) (H : Hp) (ns : List Int) : Prop := σ = [some (.str t), some (.int (m : Int)), some (.ref a), some (.ref F)] ∧ Ex H0 H ∧ H F = some (.lst (ns.map .int))
theorem ev_lenI {K : PySem.W.Frag} {σ : L2.St} {H : Hp} {ta : TE} {a : Addr} {ns : List Int} (ha : Ev ta σ H (.ref a)) (h : H a = some (.lst (ns.map .int))) : Ev (tCB (rLenS K) (tCons ta tNil)) σ H (.int (ns.length : Int)) := ev_is (ev_len ha (SqL.of h)) (by rw [List.length_map])
theorem q_appX {K : PySem.W.Frag} {σ : L2.St} {H : Hp} {ta te : TE} {xs : List V} {D : Ends} {tz : TS} {l : Addr} (hl : H l = some (.lst xs)) (ha : Ev ta σ H (.ref l)) (ht : ∀ H1, Ex H H1 → te σ H1 fun v H2 => ∃ ys, H2 l = some (.lst ys) ∧ ys.length < sizeLine ∧ tz D σ (upd H2 l (.lst (ys ++ [v])))) :
    tSeq (tDrop (tBM K "list" rAppend ta (tCons te tNil))) tz D σ H := s_appX (D := { D with nx := tz D }) hl ha ht
/-- the loop's word: the rest by m' -/
def RowW (K : PySem.W.Frag) (t : Str) (m : Nat) (a F : Addr) (H0 : Hp) (m' : Nat) (σ : L2.St) (H : Hp) : Prop := ∃ ns p w, RowSt t m a F H0 σ H ns ∧ Rdr K H a t p w ∧ p ≤ t.length ∧
  ((ns = [] ∧ w = none ∧ p = 0 ∧ m' = t.length + 5) ∨ (w = none ∧ ns ≠ [] ∧ ∃ f, t.length - p ≤ f ∧ (0 < m → ns.length < m) ∧ Agr (TL.tl t) m (contE (TL.tl t) m f ns p) ∧ m' = f + 1 ∧ ns.length + f ≤ t.length + 1) ∨ (w = some p ∧ Agr (TL.tl t) m (p, false, []) ∧ m' = 0))
def RowFin (K : PySem.W.Frag) (t : Str) (m : Nat) (a F : Addr) (H0 : Hp) (σ : L2.St) (H : Hp) : Prop := ∃ ns p w, RowSt t m a F H0 σ H ns ∧ Rdr K H a t p w ∧ p ≤ t.length ∧
  ((w = none ∧ Agr (TL.tl t) m (if (TL.tl t)[p]? = some 10 then (p + 1, true, ns) else (p, false, ns))) ∨ (w = some p ∧ Agr (TL.tl t) m (p, false, [])))
def RowMid (K : PySem.W.Frag) (t : Str) (m : Nat) (a F : Addr) (H0 : Hp) (m' : Nat) (ns : List Int) (σ : L2.St) (H : Hp) : Prop := ∃ p w, RowSt t m a F H0 σ H ns ∧ Rdr K H a t p w ∧ p ≤ t.length ∧ ns.length ≤ 50000 ∧
  ((w = none ∧ ∃ f, t.length - p ≤ f ∧ (0 < m → ns.length < m) ∧ Agr (TL.tl t) m (rowE (TL.tl t) m (f + 1) ns p) ∧ f + 1 < m' ∧ ns.length + f + 1 ≤ t.length + 1) ∨ (w = some p ∧ Agr (TL.tl t) m (p, false, []) ∧ 0 < m'))
section
variable {P : Program} {w : World} {K : PySem.W.Frag} {mg : Str → Option Value} {base : Heap}
theorem ok_read_row (D : Df K mg "read_row" sReadRow) (T : RdT K mg) (F : Free mg) (R0 : PmR P w K mg base 1 "__init__" ["self", "text"] (spRdInit K)) (R1 : PmR P w K mg base 1 "is_on" ["self"] (spIsOn K)) (R2 : PmR P w K mg base 2 "sees" ["self", "sign"] (spSees K))
    (R3 : PmR P w K mg base 3 "signs" ["self", "due", "rest"] (spSigns K)) (R4 : PmR P w K mg base 4 "integer" ["self", "rest"] (spInteger K)) : Pr P w K mg base CX0 5 "read_row" ["text", "many"] (spReadRow K) := by
  refine Pr.of0 D scReadRow (fun _ _ _ _ _ _ us hl => match us, hl with | [_, _], _ => rfl) (fun vs H Q E h => ?_) fun cdv A outer s H vs Q E hr h => ?_
  · obtain ⟨t, m, rfl, _⟩ := h
    rfl
  · obtain ⟨t, m, rfl, hz, q⟩ := h
    refine ⟨_, pss_cons (ps_par (i := 2) (j := 3) rfl scReadRow.nd rfl rfl (by decide) rfl rfl (pa_cons (pmake R0 T.made T.gl (hr.mono (by decide)) (pa_cons (pv 0) pa_nil)) (pa_cons (pe_lst pa_nil) pa_nil)) rfl)
      (pss_cut (ps_while PassesOwn.never (PW.pt (pw_and (pt_val (pmeth0 R1 T.cl (hr.mono (by decide)) pass0 (pv 2))) (pw_and1 (PW.pt (pw_or (pt_cmpR (op_eqD hr.units) (pv 3) (pe_lst pa_nil) (nomark _)) (pw_or (pt_val (pmeth R2 T.cl (hr.mono (by decide)) pass0 (pv 2) (pa_cons pe_str pa_nil))) (pw_or1 (pt_cmpR op_lt (pe_callB call_len_seq (by rfl) F.len bb_len (pa_cons (pv 3) pa_nil)) (pv 1) (nomark _)))))))))
        (pss_cut (ps_if (pt_cmpR (op_neD hr.units) (pv 3) (pe_lst pa_nil) (nomark _)) (pss_one (ps_expr (pmeth R3 T.cl (hr.mono (by decide)) pass0 (pv 2) (pa_cons pe_str (pa_cons pe_str pa_nil))))) pss_nil)
        (pss_cons (ps_expr (pe_bm PySem.F.plainAttrs_list PySem.F.slot_list_append PySem.F.type_list_append mt_append (pv 3) (pa_cons (pe_ifExp (pt_val (pmeth0 R1 T.cl (hr.mono (by decide)) pass0 (pv 2))) (pmeth R4 T.cl hr pass0 (pv 2) (pa_cons pe_str pa_nil)) pe_int) pa_nil)))
        (pss_one (ps_if (pt_cmpR op_eq (pe_callB call_len_seq (by rfl) F.len bb_len (pa_cons (pv 3) pa_nil)) (pv 1) (nomark _)) (pss_one ps_break) pss_nil)))))
      (pss_cons (ps_expr (pmeth R3 T.cl (hr.mono (by decide)) pass0 (pv 2) (pa_cons pe_str (pa_cons pe_str pa_nil))))
      (pss_one (ps_ret (pe_tup (pa_cons (pv 2) (pa_cons (pv 3) pa_nil)))))) ), ?_⟩
    refine ⟨_, rfl, fun a dx ha hdx hne => ⟨a, dx, t, rfl, upd_same, fun H1 o1 h1 => ⟨rfl, by show 0 ≤ sizeLine; decide, fun Fo hF => ⟨_, _, rfl, ?_⟩⟩⟩⟩
    have e0 : Ex H (upd (upd H dx (.own a)) a (.ins (He.ga K "Reader") dx [])) := (Ex.new hdx).trans (Ex.new (by rw [upd_ne (Ne.symm hne)]; exact ha))
    have e1 : Ex H H1 := Off.ex e0 ha o1
    have naF : a ≠ Fo := ne_of_none h1 hF
    have hF0 : H Fo = none := fresh_back e1 hF
    have hl := TL.len_tl t
    have x1 : Rdr K (upd H1 Fo (.lst [])) a t 0 none := ⟨dx, .non, by rw [upd_ne naF]; exact h1⟩
    refine q_cut (M := RowFin K t m a Fo H) ?_ ?_
    · refine s_while (RowW K t m a Fo H) (t.length + 5) ⟨[], 0, none, ⟨rfl, e1.trans (Ex.new hF), upd_same⟩, x1, Nat.zero_le _, .inl ⟨rfl, rfl, rfl, rfl⟩⟩ fun m' σ' H2 hW => ?_
      obtain ⟨ns, p, w, ⟨rfl, e2, hf2⟩, x2, hp, hC⟩ := hW
      refine ⟨isOn w && (decide (ns = []) || ((isOn w && decide ((TL.tl t)[p]? = some 32)) || decide ((ns.length : Int) < (m : Int)))), ?_, fun hb H3 e3 => ⟨fun σ2 H4 => ∃ m2, m2 < m' ∧ RowW K t m a Fo H m2 σ2 H4, fun σ2 H4 z => z, ?_⟩, fun hb H3 e3 => ?_⟩
      · exact et_and (et_B (ev_rm x2 (ev_var rfl) ea_nil (sp_is_on x2))) fun _ => et_or (et_test (ev_eqNilI (ev_var rfl) hf2)) fun _ => et_or (et_B (ev_rm x2 (ev_var rfl) (ea_cons (x := .str (signS 32)) ev_c ea_nil) (sp_sees x2 hp (by omega) 32))) fun _ => et_test (ev_op (ev_lenI (ev_var rfl) hf2) (ev_var rfl) rv_I0)
      · have hon : isOn w = true := (Bool.and_eq_true_iff.mp hb).1
        have hw := on_none hon
        subst hw
        rw [isOn_none, Bool.true_and, Bool.true_and] at hb
        have e3' := e2.trans e3
        have x3 := x2.ex e3
        refine q_cut (M := RowMid K t m a Fo H m' ns) ?_ ?_
        · refine s_when (b := !decide (ns = [])) (et_test (ev_neNilI (ev_var rfl) (e3 _ _ hf2))) (fun hb2 H4 e4 => ?_) (fun hb2 H4 e4 => ?_)
          · have hne2 : ns ≠ [] := by simpa using hb2
            rcases hC with ⟨z, _⟩ | ⟨_, _, f, c1, c2, c3, c4, c5⟩ | ⟨z, _⟩
            · exact absurd z hne2
            · refine t_rm (x3.ex e4) (ev_var rfl) (ea_cons (x := .str (signS 32)) ev_c (ea_cons ev_c ea_nil)) fun H5 e5 => ⟨a, t, _, p, 32, none, rfl, (x3.ex e4).ex e5, hp, by omega, by decide, fun H6 o6 x6 => ?_⟩
              have e6 : Ex H H6 := Off.ex ((e3'.trans e4).trans e5) ha o6
              have hf6 : H6 Fo = some (.lst (ns.map .int)) := o6 _ _ (Ne.symm naF) ((e4.trans e5) _ _ (e3 _ _ hf2))
              by_cases h32 : (TL.tl t)[p]? = some 32
              · have hs : signM (TL.tl t) 32 p none = (p + 1, none) := if_pos h32
                rw [hs] at x6
                have hpl := (List.getElem?_eq_some_iff.mp h32).1
                have hm : moreE (TL.tl t) m ns.length p = true := by
                  unfold moreE
                  split
                  · rename_i h0
                    exact decide_eq_true (c2 h0)
                  · exact decide_eq_true h32
                obtain ⟨f', rfl⟩ : ∃ f', f = f' + 1 := ⟨f - 1, by omega⟩
                refine ⟨p + 1, none, ⟨rfl, e6, hf6⟩, x6, by omega, by omega, .inl ⟨rfl, f', by omega, c2, ?_, by omega, by omega⟩⟩
                have e : contE (TL.tl t) m (f' + 1) ns p = rowE (TL.tl t) m (f' + 1) ns (p + 1) := (if_pos hm).trans (if_pos h32)
                rw [← e]
                exact c3
              · have hs : signM (TL.tl t) 32 p none = (p, some p) := if_neg h32
                rw [hs] at x6
                refine ⟨p, some p, ⟨rfl, e6, hf6⟩, x6, hp, by omega, .inr ⟨rfl, ?_, by omega⟩⟩
                have hm : moreE (TL.tl t) m ns.length p = true := by
                  unfold moreE
                  split
                  · rename_i h0
                    exact decide_eq_true (c2 h0)
                  · rename_i h0
                    have hm0 : m = 0 := by omega
                    rw [decide_eq_false hne2, decide_eq_false h32, Bool.false_or, Bool.false_or, decide_eq_true_eq] at hb
                    omega
                have e : contE (TL.tl t) m f ns p = (p, false, ns) := (if_pos hm).trans (if_neg h32)
                rw [e] at c3
                exact c3.off
            · cases z
          · have hne2 : ns = [] := by simpa using hb2
            rcases hC with ⟨_, _, rfl, c4⟩ | ⟨_, z, _⟩ | ⟨z, _⟩
            · subst hne2
              refine ⟨0, none, ⟨rfl, e3'.trans e4, (e3.trans e4) _ _ hf2⟩, x3.ex e4, Nat.zero_le _, Nat.zero_le _, .inl ⟨rfl, t.length, by omega, fun z => z, ?_, by omega, by show 0 + t.length + 1 ≤ _; omega⟩⟩
              have e : row1 (TL.tl t) m = rowE (TL.tl t) m (t.length + 1) [] 0 := by
                unfold row1
                rw [hl]
              exact ⟨by rw [e], by rw [e], fun _ => by rw [e]⟩
            · exact absurd hne2 z
            · cases z
        · rintro σ' H4 ⟨p, w, ⟨rfl, e4, hf4⟩, x4, hp, hn, hM⟩
          have fin : ∀ (ns' : List Int) (H9 : Hp) (p' : Nat) (w' : Option Nat), Ex H H9 → H9 Fo = some (.lst (ns'.map .int)) → Rdr K H9 a t p' w' → p' ≤ t.length →
              ((w' = none ∧ ns' ≠ [] ∧ ∃ f, t.length - p' ≤ f ∧ (0 < m → ns'.length ≤ m) ∧ Agr (TL.tl t) m (contE (TL.tl t) m f ns' p') ∧ f + 1 < m' ∧ ns'.length + f ≤ t.length + 1) ∨ (w' = some p' ∧ Agr (TL.tl t) m (p', false, []) ∧ 0 < m')) →
              tIfS (tTest (tOp rEq (tCB (rLenS K) (tCons (tVar 3) tNil)) (tVar 1))) tBreak tNext { nx := fun σ2 H4 => ∃ m2, m2 < m' ∧ RowW K t m a Fo H m2 σ2 H4, ct := fun σ2 H4 => ∃ m2, m2 < m' ∧ RowW K t m a Fo H m2 σ2 H4, bk := RowFin K t m a Fo H, rt := Q } [some (.str t), some (.int (m : Int)), some (.ref a), some (.ref Fo)] H9 := by
            intro ns' H9 p' w' e9 hf9 x9 hp9 hD
            refine s_when (b := decide (V.int (ns'.length : Int) = V.int (m : Int))) (et_test (ev_op (ev_lenI (ev_var rfl) hf9) (ev_var rfl) (rv_eq rfl))) (fun hb H10 e10 => ?_) (fun hb H10 e10 => ?_)
            · have hlm : ns'.length = m := by
                have := V.int.inj (of_decide_eq_true hb)
                omega
              refine ⟨ns', p', w', ⟨rfl, e9.trans e10, e10 _ _ hf9⟩, x9.ex e10, hp9, ?_⟩
              rcases hD with ⟨rfl, d1, f, d2, d3, d4, d5, d6⟩ | ⟨rfl, d1, d2⟩
              · have hpos : 0 < ns'.length := List.length_pos_iff.mpr d1
                have hmo : ¬ moreE (TL.tl t) m ns'.length p' = true := by
                  unfold moreE
                  rw [if_pos (by omega), decide_eq_true_eq]
                  omega
                have e : contE (TL.tl t) m f ns' p' = (if (TL.tl t)[p']? = some 10 then (p' + 1, true, ns') else (p', false, ns')) := if_neg hmo
                rw [e] at d4
                exact .inl ⟨rfl, d4⟩
              · exact .inr ⟨rfl, d1⟩
            · have hlm : ns'.length ≠ m := fun z => by
                rw [z] at hb
                simp at hb
              rcases hD with ⟨rfl, d1, f, d2, d3, d4, d5, d6⟩ | ⟨rfl, d1, d2⟩
              · exact ⟨f + 1, d5, ns', p', none, ⟨rfl, e9.trans e10, e10 _ _ hf9⟩, x9.ex e10, hp9, .inr (.inl ⟨rfl, d1, f, d2, fun h0 => by have := d3 h0; omega, d4, rfl, d6⟩)⟩
              · exact ⟨0, d2, ns', p', some p', ⟨rfl, e9.trans e10, e10 _ _ hf9⟩, x9.ex e10, hp9, .inr (.inr ⟨rfl, d1, rfl⟩)⟩
          have hsz : (ns.map V.int).length < sizeLine := by
            rw [List.length_map, sizeLine_eq]
            omega
          have snoc : ∀ i : Int, (ns ++ [i]).map V.int = ns.map V.int ++ [.int i] := fun i => by rw [List.map_append]; rfl
          refine q_appX hf4 (ev_var rfl) fun H5 e5 => ?_
          refine et_go (et_B (ev_rm (x4.ex e5) (ev_var rfl) ea_nil (sp_is_on (x4.ex e5)))) fun H6 e6 => ?_
          have x6 := (x4.ex e5).ex e6
          have e6' := (e4.trans e5).trans e6
          have hf6 := (e5.trans e6) _ _ hf4
          rcases hM with ⟨rfl, f, d1, d2, d3, d4, d5⟩ | ⟨rfl, d1, d2⟩
          · rw [isOn_none]
            refine iteT ?_
            refine t_rm x6 (ev_var rfl) (ea_cons ev_c ea_nil) fun H7 e7 => ⟨a, t, _, p, none, rfl, x6.ex e7, hp, by omega, by decide, rfl, fun hno H8 i o8 x8 => ?_, fun hok H8 o8 x8 => ?_⟩
            · have hf8 := o8 _ _ (Ne.symm naF) (e7 _ _ hf6)
              refine ⟨_, hf8, hsz, ?_⟩
              have e8 : Ex H H8 := Off.ex (e6'.trans e7) ha o8
              rw [rowE_no hno] at d3
              refine fin (ns ++ [i]) _ _ _ (e8.mut hF0) (by rw [upd_same, snoc]) (x8.off naF) ?_ (.inr ⟨rfl, d3.off, by omega⟩)
              have := (intE_le (t := TL.tl t) (h := p) (by omega)).2
              omega
            · have hf8 := o8 _ _ (Ne.symm naF) (e7 _ _ hf6)
              refine ⟨_, hf8, hsz, ?_⟩
              have e8 : Ex H H8 := Off.ex (e6'.trans e7) ha o8
              obtain ⟨g1, g2⟩ := intE_lt hok
              obtain ⟨r1, r2, r3⟩ := rowE_ok (many := m) (f := f) (acc := ns) hok
              refine fin (ns ++ [valE (TL.tl t) p (intE (TL.tl t) p).1]) _ _ _ (e8.mut hF0) (by rw [upd_same, snoc]) (x8.off naF) (by omega) (.inl ⟨rfl, by simp, f, by omega, ?_, d3.to r1 r2 r3, by omega, ?_⟩)
              · intro h0
                have := d2 h0
                rw [List.length_append, List.length_singleton]
                omega
              · rw [List.length_append, List.length_singleton]
                omega
          · rw [isOn_some]
            refine iteF ?_
            refine ⟨_, hf6, hsz, ?_⟩
            exact fin (ns ++ [0]) _ _ _ (e6'.mut hF0) (by rw [upd_same, snoc]) (x6.off naF) hp (.inr ⟨rfl, d1, d2⟩)
      · refine ⟨ns, p, w, ⟨rfl, e2.trans e3, e3 _ _ hf2⟩, x2.ex e3, hp, ?_⟩
        rcases hC with ⟨rfl, rfl, _⟩ | ⟨rfl, c0, f, c1, c2, c3, c4, c5⟩ | ⟨rfl, c1, c2⟩
        · rw [isOn_none] at hb
          simp at hb
        · rw [isOn_none, decide_eq_false c0, Bool.true_and, Bool.true_and, Bool.false_or, Bool.or_eq_false_iff] at hb
          have hlt : ¬ ns.length < m := by
            have := of_decide_eq_false hb.2
            omega
          have hm0 : ¬ 0 < m := fun z => hlt (c2 z)
          have hmo : ¬ moreE (TL.tl t) m ns.length p = true := by
            unfold moreE
            rw [if_neg hm0, decide_eq_true_eq]
            exact of_decide_eq_false hb.1
          have e : contE (TL.tl t) m f ns p = (if (TL.tl t)[p]? = some 10 then (p + 1, true, ns) else (p, false, ns)) := if_neg hmo
          rw [e] at c3
          exact .inl ⟨rfl, c3⟩
        · exact .inr ⟨rfl, c1⟩
    · rintro σ' H2 ⟨ns, p, w, ⟨rfl, e2, hf2⟩, x2, hp, hC⟩
      refine t_rm x2 (ev_var rfl) (ea_cons (x := .str (signS 10)) ev_c (ea_cons ev_c ea_nil)) fun H3 e3 => ⟨a, t, _, p, 10, w, rfl, x2.ex e3, hp, by omega, by decide, fun H4 o4 x4 => ?_⟩
      have e4 : Ex H H4 := Off.ex (e2.trans e3) ha o4
      have hf4 := o4 _ _ (Ne.symm naF) (e3 _ _ hf2)
      refine s_retU (eu_tup (ea_cons (ev_var rfl) (ea_cons (ev_var rfl) ea_nil)) (by show 2 ≤ 100000; decide)) fun T H5 hT e5 h5 => ?_
      have hq : ∀ r : Nat × Bool × List Int, Agr (TL.tl t) m r → Rdr K H4 a t r.1 (wrongE r) → (r.2.1 = true → ns = r.2.2) → Q (.ref T) H5 := fun r ⟨g1, g2, g3⟩ xr hr2 => by
        refine q a Fo T ns H5 (e4.trans e5) ha hF0 (fresh_back e4 hT) ?_ (e5 _ _ hf4) (fun z => ?_) h5
        · unfold wrongE at xr ⊢
          rw [g1, g2]
          exact xr.ex e5
        · rw [g2] at z
          exact (hr2 z).trans (g3 z).symm
      rcases hC with ⟨rfl, g⟩ | ⟨rfl, g⟩
      · by_cases h10 : (TL.tl t)[p]? = some 10
        · rw [if_pos h10] at g
          have hs : signM (TL.tl t) 10 p none = (p + 1, none) := if_pos h10
          rw [hs] at x4
          exact hq _ g x4 fun _ => rfl
        · rw [if_neg h10] at g
          have hs : signM (TL.tl t) 10 p none = (p, some p) := if_neg h10
          rw [hs] at x4
          exact hq _ g x4 fun z => nomatch z
      · exact hq _ g x4 fun z => nomatch z
end
end Pw
set_option Elab.async false
set_option linter.all false
set_option maxRecDepth 100000
namespace Pw
open PySem PySem.Spec PyProof.Rows L2 Evl
/-! ## read_rows -/
def faultD : Option (Nat × Nat) → PyData
  | none => .none
  | some (i, j) => .tuple [.int (i : Int), .int (j : Int)]
def spReadRows : Sp := fun vs H Q _ => ∃ t : Str, vs = [.str t] ∧ t.length ≤ 40000 ∧
  ∀ (T : Addr) (u : V) (F : Addr) (H' : Hp), Ex H H' → H T = none → H' T = some (.tup [u, .ref F]) → Dt (Old H) H' u (faultD (faultL (TL.tl t))) → (faultL (TL.tl t) = none → Dt (Old H) H' (.ref F) (picD (rowsL (TL.tl t)))) → Q (.ref T) H'
abbrev sReadRows : Stmt := top 19
abbrev nReadRows : List Str := ["text", "found", "number", "line", "reader", "row"]
theorem scReadRows : FnScope nReadRows ["text"] (defScope sReadRows) := ⟨rfl, rfl, rfl, by decide +kernel, rfl, by decide +kernel, by decide +kernel⟩
/-- the rows found ahead of the i-th line, and how many columns are due -/
structure RowsInv (ls : List (List Nat)) (i many : Nat) (rows : List (List Int)) : Prop where
  len : rows.length = i
  zero : rows = [] → many = 0
  first : ∀ r, rows[0]? = some r → many = r.length ∧ 0 < many
  eq1 : (rowsE ls 0 0).1 = (rowsE (ls.drop i) i many).1
  eq2 : (rowsE ls 0 0).2 = rows ++ (rowsE (ls.drop i) i many).2
theorem RowsInv.start (ls : List (List Nat)) : RowsInv ls 0 0 [] := ⟨rfl, fun _ => rfl, (fun r h => by cases h), rfl, rfl⟩
theorem RowsInv.next {ls : List (List Nat)} {i many : Nat} {rows : List (List Int)} {l : List Nat} (v : RowsInv ls i many rows) (h : ls[i]? = some l) (ok : (row1 l many).2.1 = true) : RowsInv ls (i + 1) (row1 l many).2.2.length (rows ++ [(row1 l many).2.2]) := by
  obtain ⟨hl, he⟩ := List.getElem?_eq_some_iff.mp h
  have ed : ls.drop i = l :: ls.drop (i + 1) := by rw [List.drop_eq_getElem_cons hl, he]
  have er : rowsE (l :: ls.drop (i + 1)) i many = ((rowsE (ls.drop (i + 1)) (i + 1) (row1 l many).2.2.length).1, (row1 l many).2.2 :: (rowsE (ls.drop (i + 1)) (i + 1) (row1 l many).2.2.length).2) := by
    rw [rowsE, if_pos ok]
  have hpos : 0 < (row1 l many).2.2.length := rowE_pos _ [] 0 ok
  refine ⟨by rw [List.length_append, v.len]; rfl, fun z => by simp at z, fun r hr => ?_, ?_, ?_⟩
  · cases rows with
    | nil =>
      have e : (row1 l many).2.2 = r := Option.some.inj hr
      rw [← e]
      exact ⟨rfl, hpos⟩
    | cons r0 rows =>
      have e : r0 = r := Option.some.inj hr
      obtain ⟨h1, h2⟩ := v.first r0 rfl
      refine ⟨?_, hpos⟩
      rw [← e, ← h1]
      exact rowE_many h2 _ [] 0 h2 ok
  · rw [v.eq1, ed, er]
  · rw [v.eq2, ed, er, List.append_assoc]
    rfl
theorem RowsInv.bad {ls : List (List Nat)} {i many : Nat} {rows : List (List Int)} {l : List Nat} (v : RowsInv ls i many rows) (h : ls[i]? = some l) (ok : (row1 l many).2.1 = false) : (rowsE ls 0 0).1 = some (i + 1, (row1 l many).1 + 1) := by
  obtain ⟨hl, he⟩ := List.getElem?_eq_some_iff.mp h
  have ed : ls.drop i = l :: ls.drop (i + 1) := by rw [List.drop_eq_getElem_cons hl, he]
  rw [v.eq1, ed, rowsE, if_neg (by rw [ok]; exact Bool.false_ne_true)]
theorem RowsInv.done {ls : List (List Nat)} {many : Nat} {rows : List (List Int)} (v : RowsInv ls ls.length many rows) : (rowsE ls 0 0).1 = none ∧ (rowsE ls 0 0).2 = rows := by
  have h1 := v.eq1
  have h2 := v.eq2
  rw [List.drop_length, rowsE] at h1 h2
  exact ⟨h1, by rw [h2]; simp⟩
theorem eu_go {te : TE} {σ : L2.St} {H : Hp} {xs : List V} {Q : VK} (h : EvU te σ H xs) (k : ∀ p H1, H p = none → Ex H H1 → H1 p = some (.tup xs) → Q (.ref p) H1) : te σ H Q := h H (Ex.refl H) Q k
theorem q_asgCall {sp : Sp} {dvs vs : List V} {E : XK} {ta : TA} {g : TG} {tz : TS} {D : Ends} {σ : L2.St} {H : Hp} (h : EvA ta σ H vs) (k : ∀ H1, Ex H H1 → sp (vs ++ dvs) H1 (fun v H2 => g v σ H2 fun σ2 H3 => tz D σ2 H3) E) : tSeq (tAsg (tCall sp dvs E ta) g) tz D σ H := h H (Ex.refl H) _ k
/-- return (a new tuple, v) -/
theorem s_retUV {te tb : TE} {D : Ends} {σ : L2.St} {H : Hp} {xs : List V} {v : V} (h : EvU te σ H xs) (h2 : Ev tb σ H v) (k : ∀ p T H1, H p = none → H T = none → Ex H H1 → H1 p = some (.tup xs) → H1 T = some (.tup [.ref p, v]) → D.rt (.ref T) H1) :
    tRet (tTup (tCons te (tCons tb tNil))) D σ H := h H (Ex.refl H) _ fun p H1 hp e1 h1 => h2 H1 e1 _ fun H2 e2 => ⟨by show 2 ≤ sizeLine; decide, fun T hT => k p T _ hp (fresh_back (e1.trans e2) hT) ((e1.trans e2).trans (Ex.new hT)) (Ex.new hT _ _ (e2 _ _ h1)) upd_same⟩
def RowsP (t : Str) (F : Addr) (A : Addr) (H0 : Hp) (i : Nat) (σ : L2.St) (H : Hp) : Prop := ∃ x2 x3 x4 x5 vs rows many, σ = [some (.str t), some (.ref F), x2, x3, x4, x5] ∧ Ex H0 H ∧ H F = some (.lst vs) ∧ H A = some (.lst (linesV t)) ∧
  DtAll (fun b => Old H0 b ∨ b = F) H vs (rows.map rowD) ∧ RowsInv (linesL (TL.tl t)) i many rows
theorem isOn_wrong (r : Nat × Bool × List Int) : isOn (wrongE r) = r.2.1 := by
  unfold wrongE
  split
  · rename_i h
    rw [h]
    rfl
  · rename_i h
    rw [isOn_some]
    cases hb : r.2.1
    · rfl
    · exact absurd hb h
section
variable {P : Program} {w : World} {K : PySem.W.Frag} {mg : Str → Option Value} {base : Heap}
theorem sp_lines {H : Hp} {t : Str} (hz : t.length ≤ 40000) : SpL spLines [.str t] H (linesV t) := fun H1 e Q q E => ⟨t, rfl, hz, q⟩
theorem ok_read_rows (D : Df K mg "read_rows" sReadRows) (T : RdT K mg) (F : Free mg) (R0 : Pr P w K mg base CX0 1 "lines_of" ["text"] spLines) (R1 : PmR P w K mg base 1 "is_on" ["self"] (spIsOn K)) (R2 : Pr P w K mg base CX0 5 "read_row" ["text", "many"] (spReadRow K)) :
    Pr P w K mg base CX0 6 "read_rows" ["text"] spReadRows := by
  refine Pr.of0 D scReadRows (fun _ _ _ _ _ _ us hl => match us, hl with | [_], _ => rfl) (fun vs H Q E h => ?_) fun cdv A outer s H vs Q E hr h => ?_
  · obtain ⟨t, rfl, _⟩ := h
    rfl
  · obtain ⟨t, rfl, hz, q⟩ := h
    refine ⟨_, pss_cons (ps_set (i := 1) scReadRows.nd rfl (.inl rfl) (pe_lst pa_nil))
      (pss_cons (ps_for PassesOwn.never rfl (pi_enum rfl F.enumerate (pa_cons (pcall R0 (hr.mono (by decide)) pass0 (pa_cons (pv 0) pa_nil)) pa_nil)) (pg_tup rfl (pgs_cons (pg_name (i := 2) scReadRows.nd rfl (.inl rfl)) (pgs_cons (pg_name (i := 3) scReadRows.nd rfl (.inl rfl)) pgs_nil)))
        (pss_cons (ps_asg (pcall R2 hr pass0 (pa_cons (pv 3) (pa_cons (pe_ifExp (pt_cmpR (op_neD hr.units) (pv 1) (pe_lst pa_nil) (nomark _)) (pe_callB call_len_seq (by rfl) F.len bb_len (pa_cons (pe_ix ix_list (pv 1) pe_int (fun _ _ => rfl)) pa_nil)) pe_int) pa_nil)))
            (pg_tup rfl (pgs_cons (pg_name (i := 4) scReadRows.nd rfl (.inl rfl)) (pgs_cons (pg_name (i := 5) scReadRows.nd rfl (.inl rfl)) pgs_nil))))
        (pss_cons (ps_expr (pe_bm PySem.F.plainAttrs_list PySem.F.slot_list_append PySem.F.type_list_append mt_append (pv 1) (pa_cons (pv 5) pa_nil)))
        (pss_one (ps_if (pt_not (pt_val (pmeth0 R1 T.cl (hr.mono (by decide)) pass0 (pv 4)))) (pss_one (ps_ret (pe_tup (pa_cons (pe_tup (pa_cons (pe_op op_add (pv 2) pe_int) (pa_cons (pe_op op_add (pe_fld (pv 4) rfl) pe_int) pa_nil))) (pa_cons (pv 1) pa_nil))))) pss_nil)))))
      (pss_one (ps_ret (pe_tup (pa_cons pe_non (pa_cons (pv 1) pa_nil)))))), ?_⟩
    have hl := TL.len_tl t
    obtain ⟨n1, n2⟩ := linesL_len (TL.tl t)
    refine q_asgL (el_lst ea_nil (by show 0 ≤ 100000; decide)) fun Fo H1 hF e1 h1 => ?_
    refine el_go (el_call (ea_cons (ev_var rfl) ea_nil) (sp_lines hz)) fun p H2 hp e2 h2 => ⟨p, linesV t, rfl, SqL.of h2, for_it (walk_enum (xs := linesV t)) (RowsP t Fo p H) ⟨none, none, none, none, [], [], 0, rfl, e1.trans e2, e2 _ _ h1, h2, .nil, RowsInv.start _⟩ (fun i σ H' _ hP => ?_) ?_ ?_⟩
    · obtain ⟨_, _, _, _, _, _, _, _, _, _, z, _⟩ := hP
      exact SqL.of z
    · rintro i v σ H3 H4 hi ⟨x2, x3, x4, x5, vs, rows, many, rfl, e3, f3, g3, a3, inv⟩ ⟨T1, y1, y2, rfl, hT, rfl, hy1, hy2⟩
      have ey1 : V.int (i : Nat) = y1 := Option.some.inj hy1
      subst ey1
      have hy2 : ((linesL (TL.tl t)).map fun l => V.str (mkS l))[i]? = some y2 := hy2
      rw [List.getElem?_map] at hy2
      cases hli : (linesL (TL.tl t))[i]? with
      | none =>
        rw [hli] at hy2
        cases hy2
      | some l =>
        rw [hli] at hy2
        have ey2 : V.str (mkS l) = y2 := Option.some.inj hy2
        subst ey2
        have hll := n2 l (List.mem_of_getElem? hli)
        have hi2 := (List.getElem?_eq_some_iff.mp hli).1
        have e4 : Ex H3 (upd H3 T1 (.tup [.int (i : Nat), .str (mkS l)])) := Ex.new hT
        generalize hH : upd H3 T1 (.tup [.int (i : Nat), .str (mkS l)]) = H4 at e4 ⊢
        refine ⟨T1, _, rfl, SqT.of (by rw [← hH]; exact upd_same), rfl, _, _, rfl, _, _, rfl, rfl, ?_⟩
        have hsub : ∀ {Hx : Hp}, Ex H3 Hx → Dt (fun _ => False) Hx (.ref Fo) (.list (rows.map rowD)) := fun e => .lst (fun z => z) (e _ _ f3) (DtAll.less (fun _ _ z => z.elim) _ _ (a3.ex e))
        refine q_asgCall (vs := [.str (mkS l), .int (many : Int)]) (ea_cons (ev_var rfl) (ea_cons (ev_if (et_test (ev_neNil (ev_var rfl) (hsub e4) (noD_pic rows) ((Shp.pic rows).shaped (by decide)))) (fun hb => ?_) fun hb => ?_) ea_nil)) fun H5 e5 => ?_
        · have hne : rows ≠ [] := by simpa using hb
          cases rows with
          | nil => exact absurd rfl hne
          | cons r0 rows' =>
            obtain ⟨m1, m2⟩ := inv.first r0 rfl
            obtain ⟨u, hu, hd⟩ := a3.get' (i := 0) (d := rowD r0) rfl
            cases hd with
            | lst nL hg ha =>
              refine ev_is (ev_len (ev_op (ev_var rfl) ev_c (rv_ixL (i := ((0 : Nat) : Int)) (SqL.of (e4 _ _ f3)) (atI_nat hu))) (SqL.of (e4 _ _ hg))) ?_
              rw [ha.len, List.length_map, m1]
        · have hne : rows = [] := by simpa using hb
          rw [inv.zero hne]
          exact ev_c
        · refine ⟨mkS l, many, rfl, by rw [mkS_len]; omega, fun a Fr T2 ns H6 e6 na nF nT x6 f6 hok t6 => ⟨T2, _, rfl, SqT.of t6, rfl, _, _, rfl, _, _, rfl, rfl, ?_⟩⟩
          have e7 := (e4.trans e5).trans e6
          refine q_app (e7 _ _ f3) (ev_var rfl) (ev_var rfl) (by rw [a3.len, List.length_map, inv.len]; omega) fun H7 e8 => ?_
          have fr0 : H Fo = none := hF
          have e9 : Ex H (upd H7 Fo (.lst (vs ++ [.ref Fr]))) := (((e3.trans e7).trans e8)).mut fr0
          have frF : Fr ≠ Fo := Ne.symm (ne_of_none ((e4.trans e5) _ _ f3) nF)
          have aF : a ≠ Fo := Ne.symm (ne_of_none ((e4.trans e5) _ _ f3) na)
          have x7 : Rdr K (upd H7 Fo (.lst (vs ++ [.ref Fr]))) a (mkS l) (row1 l many).1 (wrongE (row1 l many)) := (x6.ex e8).off aF
          have frO : ¬ Old H Fr := new_old (fresh_back ((e3.trans e4).trans e5) nF)
          have hrow : Dt (fun b => Old H b ∨ b = Fo) (upd H7 Fo (.lst (vs ++ [.ref Fr]))) (.ref Fr) (rowD ns) := .lst (fun z => z.elim frO frF) (by rw [upd_ne frF]; exact e8 _ _ f6) (DtAll.ints ns)
          have hall : DtAll (fun b => Old H b ∨ b = Fo) (upd H7 Fo (.lst (vs ++ [.ref Fr]))) (vs ++ [.ref Fr]) ((rows ++ [ns]).map rowD) := by
            rw [List.map_append]
            exact (DtAll.but (But.at_ (.inr rfl)) _ _ ((a3.ex e7).ex e8)).snoc hrow
          refine s_when (b := !isOn (wrongE (row1 l many))) (et_not (et_B (ev_rm x7 (ev_var rfl) ea_nil (sp_is_on x7)))) (fun hb H8 e10 => ?_) (fun hb H8 e10 => ?_)
          · rw [isOn_wrong] at hb
            have hbad : (row1 l many).2.1 = false := by simpa using hb
            have hw : wrongE (row1 l many) = some (row1 l many).1 := if_neg (by rw [hbad]; exact Bool.false_ne_true)
            rw [hw] at x7
            have x8 := x7.ex e10
            refine s_retUV (xs := [.int ((i : Int) + 1), .int (((row1 l many).1 : Int) + 1)]) (eu_tup (ea_cons (ev_op (ev_var rfl) ev_c rv_I0) (ea_cons (ev_op (x := .int ((row1 l many).1 : Int)) (ev_wrong_of T (ev_var rfl) x8) ev_c rv_I0) ea_nil)) (by show 2 ≤ 100000; decide)) (ev_var rfl) fun Pa T3 H9 hP hT3 e11 h9 h10 => ?_
            have hbad2 := inv.bad hli hbad
            have e12 := e9.trans e10
            refine q T3 (.ref Pa) Fo H9 (e12.trans e11) (fresh_back e12 hT3) h10 ?_ (fun z => ?_)
            · rw [show faultL (TL.tl t) = some (i + 1, (row1 l many).1 + 1) from hbad2]
              refine .tup (xs := [.int ((i : Int) + 1), .int (((row1 l many).1 : Int) + 1)]) (new_old (fresh_back e12 hP)) h9 ?_
              have c1 : ((i : Int) + 1) = ((i + 1 : Nat) : Int) := by omega
              have c2 : (((row1 l many).1 : Int) + 1) = (((row1 l many).1 + 1 : Nat) : Int) := by omega
              rw [c1, c2]
              exact .cons (.int _) (.cons (.int _) .nil)
            · rw [show faultL (TL.tl t) = some (i + 1, (row1 l many).1 + 1) from hbad2] at z
              cases z
          · rw [isOn_wrong] at hb
            have hgood : (row1 l many).2.1 = true := by simpa using hb
            have hns := hok hgood
            subst hns
            exact ⟨_, _, _, _, _, rows ++ [(row1 l many).2.2], (row1 l many).2.2.length, rfl, e9.trans e10, e10 _ _ upd_same, e10 _ _ (by rw [upd_ne (Ne.symm (ne_of_none h1 hp))]; exact (e7.trans e8) _ _ g3), hall.ex e10, inv.next hli hgood⟩
    · rintro σ H3 ⟨x2, x3, x4, x5, vs, rows, many, rfl, e3, f3, g3, a3, inv⟩
      have hlen : (linesV t).length = (linesL (TL.tl t)).length := List.length_map ..
      rw [hlen] at inv
      obtain ⟨d1, d2⟩ := inv.done
      refine s_retU (eu_tup (ea_cons ev_c (ea_cons (ev_var rfl) ea_nil)) (by show 2 ≤ 100000; decide)) fun T3 H4 hT e4 h4 => q T3 .non Fo H4 (e3.trans e4) (fresh_back e3 hT) h4 ?_ fun _ => ?_
      · rw [show faultL (TL.tl t) = none from d1]
        exact .non
      · rw [show rowsL (TL.tl t) = rows from d2]
        exact .lst (new_old hF) (e4 _ _ f3) (DtAll.less (fun _ _ z _ => .inl z) _ _ (a3.ex e4))
end
end Pw
set_option Elab.async false
set_option linter.all false
set_option maxRecDepth 100000
namespace Pw
open PySem PySem.Spec PyProof.Rows L2 Evl
/-! ## picture_fault, read_picture -/
def faultOf : PyData → Option (Nat × Nat)
  | .str t => faultL (TL.tl t)
  | _ => some (0, 0)
def short : PyData → Prop
  | .str t => t.length ≤ 40000
  | _ => True
def rowsOf : PyData → List (List Int)
  | .str t => rowsL (TL.tl t)
  | _ => []
def spFault : Sp := fun vs H Q _ => ∃ (v : V) (L : Addr → Prop) (d : PyData), vs = [v] ∧ Dt L H v d ∧ short d ∧ ∀ u H', Ex H H' → Dt (Old H) H' u (faultD (faultOf d)) → Q u H'
def BadTxt (K : PySem.W.Frag) (i j : Nat) (H : Hp) (E : XK) : Prop := ∀ d H', H d = none → Ex H H' → H' d = some (.xd [("sign", .int (j : Int)), ("line", .int (i : Int))]) → E (.ref (He.ga K "BadText")) (some d) H'
def spReadPic (K : PySem.W.Frag) : Sp := fun vs H Q E => ∃ (v : V) (L : Addr → Prop) (d : PyData), vs = [v] ∧ Dt L H v d ∧ short d ∧ (∀ i j, faultOf d = some (i, j) → BadTxt K i j H E) ∧
  (faultOf d = none → ∀ u H', Ex H H' → Dt (Old H) H' u (picD (rowsOf d)) → Q u H')
abbrev sFault : Stmt := top 20
abbrev sReadPic : Stmt := top 21
theorem scFault : FnScope ["text"] ["text"] (defScope sFault) := ⟨rfl, rfl, rfl, by decide +kernel, rfl, by decide +kernel, by decide +kernel⟩
theorem scReadPic : FnScope ["text", "fault"] ["text"] (defScope sReadPic) := ⟨rfl, rfl, rfl, by decide +kernel, rfl, by decide +kernel, by decide +kernel⟩
theorem Dt.less2 {L : Addr → Prop} {H H0 : Hp} {v : V} {d : PyData} (h : Dt (Old H) H0 v d) {H1 : Hp} (e : Ex H1 H) : Dt (Old H1) H0 v d := h.sub fun a z hn => by
  cases h1 : H1 a with
  | none => exact z h1
  | some o =>
    rw [e _ _ h1] at hn
    cases hn
section
variable {K : PySem.W.Frag} {σ : L2.St} {H : Hp} {ta : TE} {v : V} {L : Addr → Prop} {d : PyData}
theorem ev_isA {n : String} (ha : Ev ta σ H v) (hd : Dt L H v d) : Ev (tCB (rIsA n) (tCons ta (tCons (tC (.ty n)) tNil))) σ H (.bl (isA d n)) := fun H1 e Q q =>
  ha H1 e _ fun H2 e2 => ⟨v, L, d, rfl, hd.ex (e.trans e2), q H2 e2⟩
theorem q_asgCallN {sp : Sp} {dvs vs : List V} {E : XK} {ta : TA} {i : Nat} {tz : TS} {D : Ends} (h : EvA ta σ H vs) (k : ∀ H1, Ex H H1 → sp (vs ++ dvs) H1 (fun v H2 => tz D (σ.set i (some v)) H2) E) : tSeq (tAsg (tCall sp dvs E ta) (gName i)) tz D σ H := h H (Ex.refl H) _ k
theorem ev_notN (ha : Ev ta σ H v) : Ev (tNotN ta) σ H (.bl (!decide (v = .non))) := fun H1 e Q q => ha H1 e _ fun H2 e2 => q H2 e2
end
section
variable {P : Program} {w : World} {K : PySem.W.Frag} {mg : Str → Option Value} {base : Heap}
theorem ok_fault (D : Df K mg "picture_fault" sFault) (F : Free mg) (R : Pr P w K mg base CX0 6 "read_rows" ["text"] spReadRows) : Pk P w K mg base CX0 7 "picture_fault" "text" spFault := by
  refine Pk.of0 D scFault (fun _ _ _ _ _ _ us hl => match us, hl with | [_], _ => rfl) (fun _ _ _ _ _ _ _ => rfl) (fun vs H Q E h => ?_) fun cdv A outer s H vs Q E hr h => ?_
  · obtain ⟨v, L, d, rfl, _⟩ := h
    rfl
  · obtain ⟨v, L, d, rfl, hd, hs, q⟩ := h
    refine ⟨_, pss_one (ps_ret (pe_ifExp (pt_val (pe_isA F (fun _ => kit_str) F.str bb_str (pv 0))) (pe_ix ix_tup (pcall R hr pass0 (pa_cons (pv 0) pa_nil)) pe_int (fun _ _ => rfl)) (pe_tup (pa_cons pe_int (pa_cons pe_int pa_nil))))), ?_⟩
    refine et_go (et_B (ev_isA (ev_var rfl) hd)) fun H1 e1 => ite2 (fun hb => ?_) (fun hb => ?_)
    · cases d with
      | str t =>
        cases hd
        refine ⟨_, rfl, t, rfl, hs, fun T u Fo H2 e2 nT hT hu _ => ⟨T, _, _, u, rfl, rfl, SqT.of hT, atI_nat (j := 0) rfl, ?_⟩⟩
        exact q u H2 (e1.trans e2) (hu.less2 (L := L) e1)
      | none => exact absurd hb (by show ¬ isAn "NoneType" "str" = true; decide)
      | bool b => exact absurd hb (by show ¬ isAn "bool" "str" = true; decide)
      | int b => exact absurd hb (by show ¬ isAn "int" "str" = true; decide)
      | list b => exact absurd hb (by show ¬ isAn "list" "str" = true; decide)
      | tuple b => exact absurd hb (by show ¬ isAn "tuple" "str" = true; decide)
      | dict b => exact absurd hb (by show ¬ isAn "dict" "str" = true; decide)
    · have hf : faultOf d = some (0, 0) := by
        cases d with
        | str t => exact absurd (show isAn "str" "str" = true by decide) hb
        | _ => rfl
      refine eu_go (eu_tup (ea_cons ev_c (ea_cons ev_c ea_nil)) (by show 2 ≤ 100000; decide)) fun T H2 hT e2 h2 => q (.ref T) H2 (e1.trans e2) ?_
      rw [hf]
      exact .tup (new_old (fresh_back e1 hT)) h2 (.cons (.int _) (.cons (.int _) .nil))
theorem ok_read_pic (D : Df K mg "read_picture" sReadPic) (B : PeText P w K mg base) (R : Pk P w K mg base CX0 7 "picture_fault" "text" spFault) (R2 : Pr P w K mg base CX0 6 "read_rows" ["text"] spReadRows) :
    Pk P w K mg base (L2.CX P w) 8 "read_picture" "text" (spReadPic K) := by
  refine Pk.ofX D scReadPic (fun _ _ _ _ _ _ us hl => match us, hl with | [_], _ => rfl) (fun _ _ _ _ _ _ _ => rfl) (fun vs H Q E h => ?_) fun cdv A outer s H vs Q E hr h => ?_
  · obtain ⟨v, L, d, rfl, _⟩ := h
    rfl
  · obtain ⟨v, L, d, rfl, hd, hs, qE, q⟩ := h
    refine ⟨_, pss_cons (ps_set (i := 1) scReadPic.nd rfl (.inl rfl) (pcall R.pr hr pass0 (pa_cons (pv 0) pa_nil)))
      (pss_cons (ps_if (pt_cmp (pc_notN (pv 1)) rfl) (pss_one (praise B (hr.mono (by decide)) rfl (takes_of rfl rfl rfl rfl) (by exact (pa_cons (pe_ix ix_tup (pv 1) pe_int (fun _ _ => rfl)) (pa_cons (pe_ix ix_tup (pv 1) pe_int (fun _ _ => rfl)) pa_nil))))) pss_nil)
      (pss_one (ps_ret (pe_ix ix_tup (pcall R2 (hr.mono (by decide)) pass0 (pa_cons (pv 0) pa_nil)) pe_int (fun _ _ => rfl))))), ?_⟩
    refine q_asgCallN (vs := [v]) (ea_cons (ev_var rfl) ea_nil) fun H0 e0 => ⟨v, L, d, rfl, hd.ex e0, hs, fun u H1 e1 hu => ?_⟩
    replace e1 := e0.trans e1
    cases hf : faultOf d with
    | none =>
      rw [hf] at hu
      cases hu
      refine q_when (b := !decide (V.non = V.non)) (et_B (ev_notN (ev_var rfl))) (fun hb => by simp at hb) (fun _ H2 e2 => ?_)
      cases d with
      | str t =>
        cases hd
        refine ⟨_, rfl, t, rfl, hs, fun T u Fo H3 e3 nT hT _ hF => ⟨T, _, _, .ref Fo, rfl, rfl, SqT.of hT, atI_nat (j := 1) rfl, ?_⟩⟩
        exact q hf (.ref Fo) H3 ((e1.trans e2).trans e3) ((hF hf).less2 (L := L) (e1.trans e2))
      | _ => cases hf
    | some z =>
      obtain ⟨i, j⟩ := z
      rw [hf] at hu
      cases hu with
      | tup n h ha =>
        cases ha with
        | cons a1 a2 =>
          cases a1
          cases a2 with
          | cons b1 b2 =>
            cases b1
            cases b2
            refine q_when (b := !decide (V.ref _ = V.non)) (et_B (ev_notN (ev_var rfl))) (fun _ H2 e2 => ?_) (fun hb => by simp at hb)
            refine mk2 (ea_cons (ev_op (ev_var rfl) ev_c (rv_ixT (i := ((0 : Nat) : Int)) (SqT.of (e2 _ _ h)) (atI_nat rfl))) (ea_cons (ev_op (ev_var rfl) ev_c (rv_ixT (i := ((1 : Nat) : Int)) (SqT.of (e2 _ _ h)) (atI_nat rfl))) ea_nil)) fun dd H' h1 e3 h3 => ?_
            exact qE i j hf dd H' (fresh_back (e1.trans e2) h1) ((e1.trans e2).trans e3) h3
end
end Pw
set_option Elab.async false
set_option linter.all false
set_option maxRecDepth 100000
namespace Pw
open PySem PySem.Spec PyProof.Rows L2 Evl
/-! ## the law's own reader: a list of a row, a place, whether all stood -/
def Wk (H : Hp) (a : Addr) (t : Str) (h : Nat) (ok : Bool) : Prop := H a = some (.lst [.str t, .int (h : Int), .bl ok])
theorem Wk.ex {H H' : Hp} {a : Addr} {t : Str} {h : Nat} {ok : Bool} (x : Wk H a t h ok) (e : Ex H H') : Wk H' a t h ok := e _ _ x
section
variable {K : PySem.W.Frag} {σ : L2.St} {H : Hp} {a : Addr} {t : Str} {h : Nat} {ok : Bool}
theorem ev_w0 (hσ : σ[0]? = some (some (.ref a))) (x : Wk H a t h ok) : Ev (tOp (rIxL K) (tVar 0) (tC (.int 0))) σ H (.str t) := ev_op (ev_var hσ) ev_c (rv_ixL (i := ((0 : Nat) : Int)) (SqL.of x) (atI_nat rfl))
theorem ev_w1 (hσ : σ[0]? = some (some (.ref a))) (x : Wk H a t h ok) : Ev (tOp (rIxL K) (tVar 0) (tC (.int 1))) σ H (.int (h : Int)) := ev_op (ev_var hσ) ev_c (rv_ixL (i := ((1 : Nat) : Int)) (SqL.of x) (atI_nat rfl))
theorem ev_w2 (hσ : σ[0]? = some (some (.ref a))) (x : Wk H a t h ok) : Ev (tOp (rIxL K) (tVar 0) (tC (.int 2))) σ H (.bl ok) := ev_op (ev_var hσ) ev_c (rv_ixL (i := ((2 : Nat) : Int)) (SqL.of x) (atI_nat rfl))
/-- walk[0][walk[1]:walk[1] + 1] -/
abbrev tSign (K : PySem.W.Frag) : TE := tSl rSlS (tOp (rIxL K) (tVar 0) (tC (.int 0))) (tPart (tOp (rIxL K) (tVar 0) (tC (.int 1)))) (tPart (tOp (rI0 fun i j => .int (i + j)) (tOp (rIxL K) (tVar 0) (tC (.int 1))) (tC (.int 1))))
theorem ev_wsign (hσ : σ[0]? = some (some (.ref a))) (x : Wk H a t h ok) (hz : t.length ≤ 100000) : Ev (tSign K) σ H (.str (cutS t (some (h : Int)) (some ((h : Int) + 1)))) :=
  ev_cutS (ev_w0 hσ x) (eo_some (ev_w1 hσ x)) (eo_some (ev_op (ev_w1 hσ x) ev_c rv_I0)) hz
end
theorem q_par {i j : Nat} {ta : TA} {v u : V} {tz : TS} {D : Ends} {σ : L2.St} {H : Hp} (h : EvA ta σ H [v, u]) (k : ∀ H1, Ex H H1 → tz D ((σ.set i (some v)).set j (some u)) H1) : tSeq (tPar i j ta) tz D σ H := h H (Ex.refl H) _ fun H1 e1 => ⟨v, u, rfl, k H1 e1⟩
def spASees : Sp := fun vs H Q _ => ∃ (a : Addr) (t : Str) (h c : Nat) (ok : Bool), vs = [.ref a, .str (signS c)] ∧ Wk H a t h ok ∧ h ≤ t.length ∧ t.length ≤ 100000 ∧ ∀ H', Ex H H' → Q (.bl (ok && decide ((TL.tl t)[h]? = some c))) H'
def dueM (t : List Nat) (c h : Nat) (ok : Bool) : Nat × Bool := if ok = true ∧ t[h]? = some c then (h + 1, true) else (h, false)
def spADue : Sp := fun vs H Q _ => ∃ (a : Addr) (t z : Str) (h : Nat) (ok : Bool), vs = [.ref a, .str z] ∧ Wk H a t h ok ∧ h ≤ t.length ∧ t.length ≤ 100000 ∧
  ((z = "" ∧ ∀ H', Ex H H' → Q .non H') ∨ (∃ c, z = signS c ∧ ∀ H', Off a H H' → Wk H' a t (dueM (TL.tl t) c h ok).1 (dueM (TL.tl t) c h ok).2 → Q .non H'))
def spAInt : Sp := fun vs H Q _ => ∃ (a : Addr) (t : Str) (h : Nat), vs = [.ref a, .bl true] ∧ Wk H a t h true ∧ h ≤ t.length ∧ t.length ≤ 100000 ∧ ∀ n H', Off a H H' → Wk H' a t (intE (TL.tl t) h).1 (intE (TL.tl t) h).2 → Q (.int n) H'
abbrev sADue : Stmt := top 26
abbrev sASees : Stmt := top 28
abbrev sAInt : Stmt := top 29
abbrev nADue : List Str := ["_law_walk", "_law_due", "_law_sign"]
abbrev nASees : List Str := ["_law_walk", "_law_sign"]
abbrev nAInt : List Str := ["_law_walk", "_law_is_signed", "_law_begin", "_law_at", "_law_is_more", "_law_k", "_law_sign"]
theorem scADue : FnScope nADue ["_law_walk", "_law_due"] (defScope sADue) := ⟨rfl, rfl, rfl, by decide +kernel, rfl, by decide +kernel, by decide +kernel⟩
theorem scASees : FnScope nASees ["_law_walk", "_law_sign"] (defScope sASees) := ⟨rfl, rfl, rfl, by decide +kernel, rfl, by decide +kernel, by decide +kernel⟩
theorem scAInt : FnScope nAInt ["_law_walk", "_law_is_signed"] (defScope sAInt) := ⟨rfl, rfl, rfl, by decide +kernel, rfl, by decide +kernel, by decide +kernel⟩
theorem sp_asees {H : Hp} {a : Addr} {t : Str} {h : Nat} {ok : Bool} (x : Wk H a t h ok) (hh : h ≤ t.length) (hz : t.length ≤ 100000) (c : Nat) : SpV spASees [.ref a, .str (signS c)] H (.bl (ok && decide ((TL.tl t)[h]? = some c))) := fun H1 e Q q E => ⟨a, t, h, c, ok, rfl, x.ex e, hh, hz, q⟩
/-- one turn of the sixteen -/
def turnB (t : List Nat) (at_ j k : Nat) (b : Bool) : Bool := b && ((t[at_ + j]?).isSome && (figAt t (at_ + j) && (decide (k = 0) || !decide (t[at_]? = some 48))))
theorem turnB_go {t : List Nat} {b j : Nat} (hj : j < 16) : turnB t b j j true = goOn t b j := by
  unfold turnB goOn
  rw [decide_eq_true hj]
  cases hf : figAt t (b + j) with
  | false => simp
  | true =>
    have := figAt_lt hf
    rw [List.getElem?_eq_getElem this]
    simp
section
variable {P : Program} {w : World} {K : PySem.W.Frag} {mg : Str → Option Value} {base : Heap}
theorem ok_asees (D : Df K mg "_law_a_sees" sASees) : Pr P w K mg base CX0 1 "_law_a_sees" ["_law_walk", "_law_sign"] spASees := by
  refine Pr.of0 D scASees (fun _ _ _ _ _ _ us hl => match us, hl with | [_, _], _ => rfl) (fun vs H Q E h => ?_) fun cdv A outer s H vs Q E hr h => ?_
  · obtain ⟨a, t, h, c, ok, rfl, _⟩ := h
    rfl
  · obtain ⟨a, t, h, c, ok, rfl, x, hh, hz, q⟩ := h
    refine ⟨_, pss_one (ps_ret (pe_and (pe_ix ix_list (pv 0) pe_int (fun _ _ => rfl)) (pe_one (pe_cmpR op_eq (pe_slice sl_str (pe_ix ix_list (pv 0) pe_int (fun _ _ => rfl)) (po_some (pe_ix ix_list (pv 0) pe_int (fun _ _ => rfl))) (po_some (pe_op op_add (pe_ix ix_list (pv 0) pe_int (fun _ _ => rfl)) pe_int))) (pv 1) (nomark _))))), ?_⟩
    refine s_ret (ev_andV (ev_w2 rfl x) fun _ => ev_is (ev_op (ev_wsign rfl x hz) (ev_var rfl) (rv_eq rfl)) ?_) q
    rw [cut_sign hh]
theorem ok_adue (D : Df K mg "_law_a_due" sADue) : Pr P w K mg base CX0 1 "_law_a_due" ["_law_walk", "_law_due"] spADue := by
  refine Pr.of0 D scADue (fun _ _ _ _ _ _ us hl => match us, hl with | [_, _], _ => rfl) (fun vs H Q E h => ?_) fun cdv A outer s H vs Q E hr h => ?_
  · obtain ⟨a, t, z, h, ok, rfl, _⟩ := h
    rfl
  · obtain ⟨a, t, z, h, ok, rfl, x, hh, hz, q⟩ := h
    refine ⟨_, pss_one (ps_for PassesOwn.never rfl (pi_str (pv 1)) (pg_name (i := 2) scADue.nd rfl (.inl rfl))
      (pss_one (ps_if (PW.pt (pw_and (pt_val (pe_ix ix_list (pv 0) pe_int (fun _ _ => rfl))) (pw_and1 (pt_cmpR op_eq (pe_slice sl_str (pe_ix ix_list (pv 0) pe_int (fun _ _ => rfl)) (po_some (pe_ix ix_list (pv 0) pe_int (fun _ _ => rfl))) (po_some (pe_op op_add (pe_ix ix_list (pv 0) pe_int (fun _ _ => rfl)) pe_int))) (pv 2) (nomark _)))))
        (pss_one (ps_asg (pe_op op_add (pe_ix ix_list (pv 0) pe_int (fun _ _ => rfl)) pe_int) (pg_sub (pv 0) pe_int set_list))) (pss_one (ps_asg pe_bl (pg_sub (pv 0) pe_int set_list)))))), ?_⟩
    rcases q with ⟨rfl, q⟩ | ⟨c, rfl, q⟩
    · refine ⟨_, rfl, "", rfl, for_it walk_str (fun i σ H' => Ex H H') (Ex.refl H) (fun _ _ _ _ _ => trivial) (fun i v σ H1 H2 hi _ _ => ?_) fun σ H' e => q H' e⟩
      exact absurd hi (by show ¬ i < 0; omega)
    · refine ⟨_, rfl, signS c, rfl, for_it walk_str (fun i σ H' => (i = 0 ∧ σ = start nADue [.ref a, .str (signS c)] ∧ Ex H H') ∨ (i = 1 ∧ Off a H H' ∧ Wk H' a t (dueM (TL.tl t) c h ok).1 (dueM (TL.tl t) c h ok).2)) (.inl ⟨rfl, rfl, Ex.refl H⟩) (fun _ _ _ _ _ => trivial) ?_ ?_⟩
      · rintro i v σ H1 H2 hi hP ⟨rfl, c2, hc2, rfl⟩
        have hi1 : i < 1 := hi
        obtain ⟨rfl, rfl, e1⟩ : i = 0 ∧ σ = start nADue [.ref a, .str (signS c)] ∧ Ex H H2 := by
          rcases hP with h | h
          · exact h
          · omega
        have ec : c = c2 := Option.some.inj hc2
        subst ec
        have x1 := x.ex e1
        refine s_if (b := ok && decide ((TL.tl t)[h]? = some c)) (et_and (et_B (ev_w2 rfl x1)) fun _ => et_is (et_test (ev_op (ev_wsign rfl x1 hz) (y := .str (signS c)) (ev_var rfl) (rv_eq rfl))) (cut_sign hh)) (fun hb H3 e3 => ?_) (fun hb H3 e3 => ?_)
        · obtain ⟨h1, h2⟩ := Bool.and_eq_true_iff.mp hb
          refine s_setL (j := 1) (x1.ex e3) (ev_op (ev_w1 rfl (x1.ex e3)) ev_c rv_I0) (ev_var rfl) ev_c (by show 1 < 3; decide) fun H4 e4 => .inr ⟨rfl, Off.put (off_of ((e1.trans e3).trans e4)), ?_⟩
          unfold dueM
          rw [if_pos ⟨h1, of_decide_eq_true h2⟩]
          unfold Wk
          rw [upd_same]
          show some (HO.lst [.str t, .int ((h : Int) + 1), .bl ok]) = _
          rw [h1, show (h : Int) + 1 = ((h + 1 : Nat) : Int) by omega]
        · refine s_setL (j := 2) (x1.ex e3) ev_c (ev_var rfl) ev_c (by show 2 < 3; decide) fun H4 e4 => .inr ⟨rfl, Off.put (off_of ((e1.trans e3).trans e4)), ?_⟩
          unfold dueM
          rw [if_neg (fun z => by
            rw [z.1, decide_eq_true z.2] at hb
            cases hb)]
          unfold Wk
          rw [upd_same]
          rfl
      · rintro σ H' hP
        rcases hP with ⟨h, _⟩ | ⟨_, o, y⟩
        · exact absurd h (by show ¬ (1 : Nat) = 0; decide)
        · exact q H' o y
theorem ok_aint (D : Df K mg "_law_a_integer" sAInt) (F : Free mg) (R : Pr P w K mg base CX0 1 "_law_a_sees" ["_law_walk", "_law_sign"] spASees) : Pr P w K mg base CX0 2 "_law_a_integer" ["_law_walk", "_law_is_signed"] spAInt := by
  refine Pr.of0 D scAInt (fun _ _ _ _ _ _ us hl => match us, hl with | [_, _], _ => rfl) (fun vs H Q E h => ?_) fun cdv A outer s H vs Q E hr h => ?_
  · obtain ⟨a, t, h, rfl, _⟩ := h
    rfl
  · obtain ⟨a, t, h, rfl, x, hh, hz, q⟩ := h
    refine ⟨_, pss_cons (ps_set (i := 2) scAInt.nd rfl (.inl rfl) (pe_ix ix_list (pv 0) pe_int (fun _ _ => rfl)))
      (pss_cut (ps_if (PW.pt (pw_and (pt_val (pv 1)) (pw_and1 (pt_val (pcall R hr pass0 (pa_cons (pv 0) (pa_cons pe_str pa_nil)))))))
        (pss_cons (ps_asg (pe_op op_add (pv 2) pe_int) (pg_sub (pv 0) pe_int set_list)) (pss_one (ps_asg (pe_not (pcall R hr pass0 (pa_cons (pv 0) (pa_cons pe_str pa_nil)))) (pg_sub (pv 0) pe_int set_list)))) pss_nil)
      (pss_cons (ps_par (i := 3) (j := 4) rfl scAInt.nd rfl rfl (by decide) rfl rfl (pa_cons (pe_ix ix_list (pv 0) pe_int (fun _ _ => rfl)) (pa_cons (pe_ix ix_list (pv 0) pe_int (fun _ _ => rfl)) pa_nil)) rfl)
      (pss_cons (ps_for PassesOwn.never rfl (pi_range1 rfl F.range (pa_cons pe_int pa_nil)) (pg_name (i := 5) scAInt.nd rfl (.inl rfl))
        (pss_cons (ps_set (i := 6) scAInt.nd rfl (.inl rfl) (pe_slice sl_str (pe_ix ix_list (pv 0) pe_int (fun _ _ => rfl)) (po_some (pe_ix ix_list (pv 0) pe_int (fun _ _ => rfl))) (po_some (pe_op op_add (pe_ix ix_list (pv 0) pe_int (fun _ _ => rfl)) pe_int))))
        (pss_cons (ps_set (i := 4) scAInt.nd rfl (.inl rfl) (pe_and (pv 4) (pe_and (pe_cmpR op_ne (pv 6) pe_str (nomark _)) (pe_and (pe_cmpR op_in_sign (pv 6) pe_str rfl) (pe_one (pe_or (pe_cmpR op_eq (pv 5) pe_int (nomark _)) (pe_one (pe_cmpR op_ne (pe_ix (k_ix (K := K) rfl) (pe_ix ix_list (pv 0) pe_int (fun _ _ => rfl)) (pv 3) (fun _ _ => rfl)) pe_str (nomark _)))))))))
        (pss_one (ps_asg (pe_op op_add (pe_ix ix_list (pv 0) pe_int (fun _ _ => rfl)) (pe_ifExp (pt_val (pv 4)) pe_int pe_int)) (pg_sub (pv 0) pe_int set_list))))))
      (pss_cons (ps_asg (pe_and (pe_ix ix_list (pv 0) pe_int (fun _ _ => rfl)) (pe_one (pe_cmpR op_gt (pe_ix ix_list (pv 0) pe_int (fun _ _ => rfl)) (pv 3) (nomark _)))) (pg_sub (pv 0) pe_int set_list))
      (pss_one (ps_ret (pe_ifExp (pt_val (pe_ix ix_list (pv 0) pe_int (fun _ _ => rfl))) (pe_callTy k_intStr (by rfl) F.int bb_int (pa_cons (pe_slice sl_str (pe_ix ix_list (pv 0) pe_int (fun _ _ => rfl)) (po_some (pv 2)) (po_some (pe_ix ix_list (pv 0) pe_int (fun _ _ => rfl)))) pa_nil)) pe_int))))))), ?_⟩
    have hl := TL.len_tl t
    refine q_asg (ev_w1 rfl x) fun H1 e1 => ?_
    have x1 := x.ex e1
    refine q_cut (M := fun σ' H' => σ' = [some (.ref a), some (.bl true), some (.int (h : Int)), none, none, none, none] ∧ Off a H H' ∧ ∃ h1 ok1, Wk H' a t h1 ok1 ∧ h ≤ h1 ∧ h1 ≤ t.length ∧ ((ok1 = true ∧ intE (TL.tl t) h = (h1 + numLen (TL.tl t) h1, decide (0 < numLen (TL.tl t) h1))) ∨ (ok1 = false ∧ intE (TL.tl t) h = (h1, false)))) ?_ ?_
    · refine s_when (b := true && (true && decide ((TL.tl t)[h]? = some 45))) (et_and (et_B (ev_var rfl)) fun _ => et_B (ev_call (ea_cons (ev_var rfl) (ea_cons (x := .str (signS 45)) ev_c ea_nil)) (sp_asees x1 hh hz 45))) (fun hb H2 e2 => ?_) (fun hb H2 e2 => ?_)
      · have h45 : (TL.tl t)[h]? = some 45 := by simpa using hb
        have hlt := (List.getElem?_eq_some_iff.mp h45).1
        refine q_setL (j := 1) (x1.ex e2) (ev_op (ev_var rfl) ev_c rv_I0) (ev_var rfl) ev_c (by show 1 < 3; decide) fun H3 e3 => ?_
        have x3 : Wk (upd H3 a (.lst ([V.str t, .int (h : Int), .bl true].set 1 (.int ((h : Int) + 1))))) a t (h + 1) true := by
          unfold Wk
          rw [upd_same]
          show some (HO.lst [.str t, .int ((h : Int) + 1), .bl true]) = _
          rw [show (h : Int) + 1 = ((h + 1 : Nat) : Int) by omega]
        have o3 : Off a H (upd H3 a (.lst ([V.str t, .int (h : Int), .bl true].set 1 (.int ((h : Int) + 1))))) := Off.put (off_of ((e1.trans e2).trans e3))
        generalize upd H3 a (.lst ([V.str t, .int (h : Int), .bl true].set 1 (.int ((h : Int) + 1)))) = H4 at x3 o3 ⊢
        refine s_setL (j := 2) x3 (ev_notV (ev_call (ea_cons (ev_var rfl) (ea_cons (x := .str (signS 48)) ev_c ea_nil)) (sp_asees x3 (by omega) hz 48))) (ev_var rfl) ev_c (by show 2 < 3; decide) fun H5 e5 => ⟨rfl, Off.put (o3.trans (off_of e5)), h + 1, !(true && decide ((TL.tl t)[h + 1]? = some 48)), ?_, by omega, by omega, ?_⟩
        · unfold Wk
          rw [upd_same]
          rfl
        · by_cases h48 : (TL.tl t)[h + 1]? = some 48
          · refine .inr ⟨by rw [decide_eq_true h48]; rfl, ?_⟩
            exact (if_pos h45).trans (if_pos h48)
          · refine .inl ⟨by rw [decide_eq_false h48]; rfl, ?_⟩
            exact (if_pos h45).trans (if_neg h48)
      · have h45 : ¬ (TL.tl t)[h]? = some 45 := by simpa using hb
        exact ⟨rfl, off_of (e1.trans e2), h, true, x1.ex e2, Nat.le_refl _, hh, .inl ⟨rfl, if_neg h45⟩⟩
    · rintro σ' H2 ⟨rfl, o2, h1, ok1, x2, hge, hle, hC⟩
      refine q_par (ea_cons (ev_w1 rfl x2) (ea_cons (ev_w2 rfl x2) ea_nil)) fun H3 e3 => ?_
      have x3 := x2.ex e3
      refine q_forR1 (ea_cons ev_c ea_nil) (by decide) (fun k σ' H' => ∃ j b x5 x6, σ' = [some (.ref a), some (.bl true), some (.int (h : Int)), some (.int (h1 : Int)), some (.bl b), x5, x6] ∧ Off a H H' ∧ Wk H' a t (h1 + j) ok1 ∧ h1 + j ≤ t.length ∧ j ≤ k ∧ NumInv (TL.tl t) h1 j ∧ (b = true → j = k) ∧
        (b = false → ok1 = true → numLen (TL.tl t) h1 = j) ∧ (ok1 = false → j = 0 ∧ b = false)) (fun H4 e4 => ⟨0, ok1, none, none, rfl, (o2.trans (off_of e3)).trans (off_of e4), x3.ex e4, hle, Nat.le_refl _, NumInv.start _ _, fun _ => rfl, (fun z1 z2 => by rw [z1] at z2; cases z2), fun z => ⟨rfl, z⟩⟩) ?_ ?_
      · rintro k σ' H4 hk ⟨j, b, x5, x6, rfl, o4, x4, hj, hjk, v, b1, b2, b3⟩
        have hk16 : k < 16 := by omega
        refine q_asg (ev_wsign rfl x4 hz) fun H5 e5 => ?_
        have x5' := x4.ex e5
        have hone := cut_one (z := t) (k := h1 + j) hj
        generalize hsg : cutS t (some ((h1 + j : Nat) : Int)) (some (((h1 + j : Nat) : Int) + 1)) = sg at hone ⊢
        have esg : ∀ c, (TL.tl t)[h1 + j]? = some c → sg = signS c := fun c hc => by
          rw [hc] at hone
          exact TL.ext_tl hone
        refine q_asg (v := .bl (turnB (TL.tl t) h1 j k b)) (ev_andV (ev_var rfl) fun hb => ev_andV (b := figAt (TL.tl t) (h1 + j) && (decide (k = 0) || !decide ((TL.tl t)[h1]? = some 48))) (ev_is (ev_op (ev_var rfl) ev_c (rv_ne rfl)) ?_) fun hs => ev_andV ?_ fun hf => ev_orV (ev_is (ev_op (ev_var rfl) ev_c (rv_eq rfl)) ?_) fun hk0 => ?_) fun H6 e6 => ?_
        · congr 1
          cases hc : (TL.tl t)[h1 + j]? with
          | none =>
            rw [hc] at hone
            have : sg = mkS [] := TL.ext_tl hone
            rw [this, mkS_nil]
            rfl
          | some c =>
            rw [esg c hc]
            show (!decide (V.str (signS c) = V.str "")) = true
            rw [decide_eq_false]
            · rfl
            · intro z
              have z2 := congrArg TL.tl (V.str.inj z)
              have z3 : [c] = [] := z2
              cases z3
        · cases hc : (TL.tl t)[h1 + j]? with
          | none =>
            rw [hc] at hs
            cases hs
          | some c =>
            have e := esg c hc
            refine ev_is (ev_op (x := .str (signS c)) (ev_is (ev_var rfl) (by rw [e])) ev_c (fun H1 _ Q q => ⟨c, "0123456789", rfl, rfl, q H1 (Ex.refl H1)⟩)) ?_
            rw [figs_mem]
            unfold figAt
            rw [hc]
        · congr 1
          rw [dec_int, Bool.eq_iff_iff]
          simp only [beq_iff_eq, decide_eq_true_eq]
          omega
        · have hj2 := b1 hb
          have hk2 : k ≠ 0 := of_decide_eq_false hk0
          have hf0 := v.figs 0 (by omega)
          have hlt := figAt_lt hf0
          rw [Nat.add_zero] at hlt
          refine ev_is (ev_op (x := .str (signS (TL.tl t)[h1])) (ev_op (ev_w0 rfl x5') (ev_var rfl) fun H1 e Q q => .inr (.inr ⟨t, (h1 : Int), _, rfl, rfl, sz_of hz, atI_nat (List.getElem?_eq_getElem hlt), q H1 (Ex.refl H1)⟩)) ev_c (rv_ne rfl)) ?_
          rw [List.getElem?_eq_getElem hlt]
          congr 2
          rw [Bool.eq_iff_iff, decide_eq_true_eq, decide_eq_true_eq]
          have e0 : TL.tl (Str.ofString "0") = [48] := by decide +kernel
          constructor
          · intro z
            have z2 := congrArg TL.tl (V.str.inj z)
            rw [e0] at z2
            have z3 : [(TL.tl t)[h1]] = [48] := z2
            injection z3 with z4 _
            rw [z4]
          · intro z
            have z2 := Option.some.inj z
            rw [z2]
            exact congrArg V.str (TL.ext_tl e0.symm)
        · have x6' := x5'.ex e6
          have o6 := (o4.trans (off_of e5)).trans (off_of e6)
          cases hb2 : turnB (TL.tl t) h1 j k b with
          | true =>
            refine s_setL (j := 1) x6' (ev_op (ev_w1 rfl x6') (ev_if (v := .int 1) (et_B (ev_var rfl)) (fun _ => ev_c) fun z => nomatch z) rv_I0) (ev_var rfl) ev_c (by show 1 < 3; decide) fun H7 e7 => ?_
            have hbt : b = true := by
              unfold turnB at hb2
              exact (Bool.and_eq_true_iff.mp hb2).1
            have hjk2 := b1 hbt
            subst hbt hjk2
            rw [turnB_go hk16] at hb2
            obtain ⟨v2, _⟩ := v.next hb2
            refine ⟨j + 1, true, _, _, rfl, Off.put (o6.trans (off_of e7)), ?_, ?_, Nat.le_refl _, v2, fun _ => rfl, (fun z => nomatch z), fun z => by have := (b3 z).2; cases this⟩
            · unfold Wk
              rw [upd_same]
              show some (HO.lst [.str t, .int (((h1 + j : Nat) : Int) + 1), .bl ok1]) = _
              rw [show (((h1 + j : Nat) : Int) + 1) = ((h1 + (j + 1) : Nat) : Int) by omega]
            · have := v2.lt (t := TL.tl t) (b := h1) (by omega)
              omega
          | false =>
            refine s_setL (j := 1) x6' (ev_op (ev_w1 rfl x6') (ev_if (v := .int 0) (et_B (ev_var rfl)) (fun z => nomatch z) fun _ => ev_c) rv_I0) (ev_var rfl) ev_c (by show 1 < 3; decide) fun H7 e7 => ?_
            refine ⟨j, false, _, _, rfl, Off.put (o6.trans (off_of e7)), ?_, hj, by omega, v, (fun z => nomatch z), fun _ hok => ?_, fun z => ⟨(b3 z).1, rfl⟩⟩
            · unfold Wk
              rw [upd_same]
              show some (HO.lst [.str t, .int (((h1 + j : Nat) : Int) + 0), .bl ok1]) = _
              rw [Int.add_zero]
            · cases hbb : b with
              | false => exact b2 hbb hok
              | true =>
                have hjk2 := b1 hbb
                subst hbb hjk2
                rw [turnB_go hk16] at hb2
                exact v.stop hb2
      · rintro σ' H4 ⟨j, b, x5, x6, rfl, o4, x4, hj, hjk, v, b1, b2, b3⟩
        have hnum : ok1 = true → numLen (TL.tl t) h1 = j := fun hok => by
          cases hbb : b with
          | false => exact b2 hbb hok
          | true =>
            have h16 : j = 16 := b1 hbb
            have e := v.eq
            rw [h16] at e ⊢
            exact e.symm
        have hI : intE (TL.tl t) h = (h1 + j, ok1 && decide (((h1 + j : Nat) : Int) > (h1 : Int))) := by
          rcases hC with ⟨rfl, hi⟩ | ⟨rfl, hi⟩
          · rw [hi, hnum rfl, Bool.true_and]
            congr 1
            rw [Bool.eq_iff_iff, decide_eq_true_eq, decide_eq_true_eq]
            omega
          · rw [hi, (b3 rfl).1]
            rfl
        refine q_setL (j := 2) x4 (ev_andV (ev_w2 rfl x4) fun _ => ev_op (ev_w1 rfl x4) (ev_var rfl) rv_I0) (ev_var rfl) ev_c (by show 2 < 3; decide) fun H5 e5 => ?_
        have x5' : Wk (upd H5 a (.lst ([V.str t, .int ((h1 + j : Nat) : Int), .bl ok1].set 2 (.bl (ok1 && decide (((h1 + j : Nat) : Int) > (h1 : Int))))))) a t (h1 + j) (ok1 && decide (((h1 + j : Nat) : Int) > (h1 : Int))) := by
          unfold Wk
          rw [upd_same]
          rfl
        have o5 : Off a H (upd H5 a (.lst ([V.str t, .int ((h1 + j : Nat) : Int), .bl ok1].set 2 (.bl (ok1 && decide (((h1 + j : Nat) : Int) > (h1 : Int))))))) := Off.put (o4.trans (off_of e5))
        generalize upd H5 a (.lst ([V.str t, .int ((h1 + j : Nat) : Int), .bl ok1].set 2 (.bl (ok1 && decide (((h1 + j : Nat) : Int) > (h1 : Int)))))) = H6 at x5' o5 ⊢
        rw [hI] at q
        refine et_go (et_B (ev_w2 rfl x5')) fun H7 e7 => ite2 (fun hb => ?_) (fun hb => ?_)
        · have hok : (intE (TL.tl t) h).2 = true := by
            rw [hI]
            exact hb
          obtain ⟨n, hn, hn2⟩ := intE_text hok
          rw [hI] at hn hn2
          have x7 := x5'.ex e7
          refine ev_go (ev_intStr (n := n) (ev_cutS (ev_w0 rfl x7) (eo_some (ev_var rfl)) (eo_some (ev_w1 rfl x7)) hz) ?_ ?_) fun H8 e8 => q n H8 (o5.trans (off_of (e7.trans e8))) (x7.ex e8)
          · rw [cut_seg (show h ≤ h1 + j by omega) hj]
            exact hn
          · rw [cut_seg (show h ≤ h1 + j by omega) hj, TL.len_tl]
            show (seg (TL.tl t) h (h1 + j)).length ≤ 640
            have hn3 : (seg (TL.tl t) h (h1 + j)).length ≤ 17 := hn2
            omega
        · exact q 0 H7 (o5.trans (off_of e7)) (x5'.ex e7)
end
end Pw
set_option Elab.async false
set_option linter.all false
set_option maxRecDepth 100000
namespace Pw
open PySem PySem.Spec PyProof.Rows L2 Evl
section
variable {K : PySem.W.Frag} {σ : L2.St} {H : Hp} {a : Addr} {t : Str} {h : Nat} {ok : Bool} {ta tb : TE}
theorem ev_x1 (ha : Ev ta σ H (.ref a)) (x : Wk H a t h ok) : Ev (tOp (rIxL K) ta (tC (.int 1))) σ H (.int (h : Int)) := ev_op ha ev_c (rv_ixL (i := ((1 : Nat) : Int)) (SqL.of x) (atI_nat rfl))
theorem ev_x2 (ha : Ev ta σ H (.ref a)) (x : Wk H a t h ok) : Ev (tOp (rIxL K) ta (tC (.int 2))) σ H (.bl ok) := ev_op ha ev_c (rv_ixL (i := ((2 : Nat) : Int)) (SqL.of x) (atI_nat rfl))
/-- i, j, l = [..], u, v -/
theorem q_par3L {i j l : Nat} {te tc : TE} {xs : List V} {u v : V} {tz : TS} {D : Ends} (h : EvL te σ H xs) (hb : Ev tb σ H u) (hc : Ev tc σ H v) (k : ∀ p H1, H p = none → Ex H H1 → H1 p = some (.lst xs) → tz D (((σ.set i (some (.ref p))).set j (some u)).set l (some v)) H1) :
    tSeq (tPar3 i j l (tCons te (tCons tb (tCons tc tNil)))) tz D σ H := h H (Ex.refl H) _ fun p H1 hp e1 h1 => hb H1 e1 _ fun H2 e2 => hc H2 (e1.trans e2) _ fun H3 e3 => ⟨_, _, _, rfl, k p H3 hp ((e1.trans e2).trans e3) ((e2.trans e3) _ _ h1)⟩
theorem q_dropCall {sp : Sp} {dvs vs : List V} {E : XK} {ta : TA} {tz : TS} {D : Ends} (h : EvA ta σ H vs) (k : ∀ H1, Ex H H1 → sp (vs ++ dvs) H1 (fun _ H2 => tz D σ H2) E) : tSeq (tDrop (tCall sp dvs E ta)) tz D σ H := h H (Ex.refl H) _ k
theorem s_dropCall {sp : Sp} {dvs vs : List V} {E : XK} {ta : TA} {D : Ends} (h : EvA ta σ H vs) (k : ∀ H1, Ex H H1 → sp (vs ++ dvs) H1 (fun _ H2 => D.nx σ H2) E) : tDrop (tCall sp dvs E ta) D σ H := h H (Ex.refl H) _ k
end
def spWrong : Sp := fun vs H Q _ => ∃ t : Str, vs = [.str t] ∧ t.length ≤ 40000 ∧ ∀ u H', Ex H H' → Dt (Old H) H' u (faultD (faultL (TL.tl t))) → Q u H'
abbrev sWrong : Stmt := top 36
abbrev nWrong : List Str := ["_law_text", "_law_many", "_law_number", "_law_row", "_law_walk", "_law_here", "_law_is_more", "_law_k"]
theorem scWrong : FnScope nWrong ["_law_text"] (defScope sWrong) := ⟨rfl, rfl, rfl, by decide +kernel, rfl, by decide +kernel, by decide +kernel⟩
def WrP (t : Str) (A : Addr) (H0 : Hp) (i : Nat) (σ : L2.St) (H : Hp) : Prop := ∃ many x2 x3 x4 x5 x6 x7, σ = [some (.str t), some (.int ((many : Nat) : Int)), x2, x3, x4, x5, x6, x7] ∧ Ex H0 H ∧ H A = some (.lst (linesV t)) ∧
  faultL (TL.tl t) = (rowsE ((linesL (TL.tl t)).drop i) i many).1
/-- within a row, behind k turns -/
def WrQ (t : Str) (l : List Nat) (W : Addr) (H0 : Hp) (many i k : Nat) (σ : L2.St) (H : Hp) : Prop := ∃ (here : Nat) (b : Bool) (h : Nat) (ok : Bool) (x7 : Option V),
  σ = [some (.str t), some (.int (many : Int)), some (.int (i : Int)), some (.str (mkS l)), some (.ref W), some (.int (here : Int)), some (.bl b), x7] ∧ Ex H0 H ∧ Wk H W (mkS l) h ok ∧ h ≤ l.length ∧
  ((b = true ∧ ok = true ∧ k ≤ l.length ∧ 2 * k ≤ h ∧ ∃ ns, here = ns.length ∧ Agr l many (rowE l many (l.length + 1 - k) ns h)) ∨
    ((b && ok) = false ∧ ok = true ∧ ∃ ns, here = ns.length ∧ Agr l many (if l[h]? = some 10 then (h + 1, true, ns) else (h, false, ns))) ∨
    (ok = false ∧ Agr l many (h, false, [])))
section
variable {P : Program} {w : World} {K : PySem.W.Frag} {mg : Str → Option Value} {base : Heap}
theorem ok_wrong (D : Df K mg "_law_wrong" sWrong) (F : Free mg) (R0 : Pr P w K mg base CX0 1 "_law_a_lines" ["_law_text"] spLines) (R1 : Pr P w K mg base CX0 1 "_law_a_sees" ["_law_walk", "_law_sign"] spASees) (R2 : Pr P w K mg base CX0 1 "_law_a_due" ["_law_walk", "_law_due"] spADue)
    (R3 : Pr P w K mg base CX0 2 "_law_a_integer" ["_law_walk", "_law_is_signed"] spAInt) : Pr P w K mg base CX0 3 "_law_wrong" ["_law_text"] spWrong := by
  refine Pr.of0 D scWrong (fun _ _ _ _ _ _ us hl => match us, hl with | [_], _ => rfl) (fun vs H Q E h => ?_) fun cdv A outer s H vs Q E hr h => ?_
  · obtain ⟨t, rfl, _⟩ := h
    rfl
  · obtain ⟨t, rfl, hz, q⟩ := h
    refine ⟨_, pss_cons (ps_set (i := 1) scWrong.nd rfl (.inl rfl) pe_int)
      (pss_cons (ps_for PassesOwn.never rfl (pi_enum rfl F.enumerate (pa_cons (pcall R0 (hr.mono (by decide)) pass0 (pa_cons (pv 0) pa_nil)) pa_nil)) (pg_tup rfl (pgs_cons (pg_name (i := 2) scWrong.nd rfl (.inl rfl)) (pgs_cons (pg_name (i := 3) scWrong.nd rfl (.inl rfl)) pgs_nil)))
        (pss_cons (ps_par3 (i := 4) (j := 5) (l := 6) rfl scWrong.nd rfl rfl rfl (by decide) (by decide) (by decide) rfl rfl rfl (pa_cons (pe_lst (pa_cons (pv 3) (pa_cons pe_int (pa_cons pe_bl pa_nil)))) (pa_cons pe_int (pa_cons pe_bl pa_nil))) rfl)
        (pss_cons (ps_for PassesOwn.never rfl (pi_range1 rfl F.range (pa_cons (pe_callB k_lenStr (by rfl) F.len bb_len (pa_cons (pv 3) pa_nil)) pa_nil)) (pg_name (i := 7) scWrong.nd rfl (.inl rfl))
          (pss_one (ps_if (PW.pt (pw_and (pt_val (pv 6)) (pw_and1 (pt_val (pe_ix ix_list (pv 4) pe_int (fun _ _ => rfl))))))
            (pss_cons (ps_expr (pcall R3 hr pass0 (pa_cons (pv 4) (pa_cons pe_bl pa_nil))))
            (pss_cons (ps_set (i := 5) scWrong.nd rfl (.inl rfl) (pe_op op_add (pv 5) pe_int))
            (pss_cons (ps_set (i := 6) scWrong.nd rfl (.inl rfl) (pe_ifExp (pt_cmpR op_gt (pv 1) pe_int (nomark _)) (pe_cmpR op_lt (pv 5) (pv 1) (nomark _)) (pcall R1 (hr.mono (by decide)) pass0 (pa_cons (pv 4) (pa_cons pe_str pa_nil)))))
            (pss_one (ps_expr (pcall R2 (hr.mono (by decide)) pass0 (pa_cons (pv 4) (pa_cons (pe_ifExp (pt_val (pv 6)) pe_str pe_str) pa_nil))))))))
            pss_nil)))
        (pss_cons (ps_expr (pcall R2 (hr.mono (by decide)) pass0 (pa_cons (pv 4) (pa_cons pe_str pa_nil))))
        (pss_cons (ps_set (i := 1) scWrong.nd rfl (.inl rfl) (pv 5))
        (pss_one (ps_if (pt_not (pt_val (pe_ix ix_list (pv 4) pe_int (fun _ _ => rfl)))) (pss_one (ps_ret (pe_tup (pa_cons (pe_op op_add (pv 2) pe_int) (pa_cons (pe_op op_add (pe_ix ix_list (pv 4) pe_int (fun _ _ => rfl)) pe_int) pa_nil))))) pss_nil)))))))
      (pss_one (ps_ret pe_non))), ?_⟩
    have hl := TL.len_tl t
    obtain ⟨n1, n2⟩ := linesL_len (TL.tl t)
    refine q_asg ev_c fun H1 e1 => ?_
    refine el_go (el_call (ea_cons (ev_var rfl) ea_nil) (sp_lines hz)) fun p H2 hp e2 h2 => ⟨p, linesV t, rfl, SqL.of h2, for_it (walk_enum (xs := linesV t)) (WrP t p H) ⟨0, none, none, none, none, none, none, rfl, e1.trans e2, h2, rfl⟩ (fun i σ H' _ hP => ?_) ?_ ?_⟩
    · obtain ⟨_, _, _, _, _, _, _, _, _, z, _⟩ := hP
      exact SqL.of z
    · rintro i v σ H3 H4 hi ⟨many, x2, x3, x4, x5, x6, x7, rfl, e3, g3, hfl⟩ ⟨T1, y1, y2, rfl, hT, rfl, hy1, hy2⟩
      have ey1 : V.int (i : Nat) = y1 := Option.some.inj hy1
      subst ey1
      have hy2 : ((linesL (TL.tl t)).map fun l => V.str (mkS l))[i]? = some y2 := hy2
      rw [List.getElem?_map] at hy2
      cases hli : (linesL (TL.tl t))[i]? with
      | none =>
        rw [hli] at hy2
        cases hy2
      | some l =>
        rw [hli] at hy2
        have ey2 : V.str (mkS l) = y2 := Option.some.inj hy2
        subst ey2
        have hm := List.mem_of_getElem? hli
        have hll := n2 l hm
        have hlne := linesL_ne hm
        have hl0 : 0 < l.length := List.length_pos_iff.mpr hlne
        have hzl : (mkS l).length = l.length := mkS_len l
        have hz1 : (mkS l).length ≤ 100000 := by omega
        have ed : (linesL (TL.tl t)).drop i = l :: (linesL (TL.tl t)).drop (i + 1) := by
          obtain ⟨hl2, he⟩ := List.getElem?_eq_some_iff.mp hli
          rw [List.drop_eq_getElem_cons hl2, he]
        have e4 : Ex H3 (upd H3 T1 (.tup [.int (i : Nat), .str (mkS l)])) := Ex.new hT
        generalize hH : upd H3 T1 (.tup [.int (i : Nat), .str (mkS l)]) = H4 at e4 ⊢
        refine ⟨T1, _, rfl, SqT.of (by rw [← hH]; exact upd_same), rfl, _, _, rfl, _, _, rfl, rfl, ?_⟩
        have e34 := e3.trans e4
        refine q_par3L (el_lst (ea_cons (ev_var rfl) (ea_cons ev_c (ea_cons ev_c ea_nil))) (by show 3 ≤ 100000; decide)) ev_c ev_c fun W H5 hW e5 h5 => ?_
        have hW0 : H W = none := fresh_back e34 hW
        have nWp : W ≠ p := Ne.symm (ne_of_none (e4 _ _ g3) hW)
        have hp0 : H p = none := fresh_back e1 hp
        -- the list of lines stays: it is kept in the frame
        have key : ∀ {Hx : Hp}, Ex H5 Hx ∨ (∀ b o, b ≠ W → H5 b = some o → Hx b = some o) → Hx p = some (.lst (linesV t)) := fun z => z.elim (fun e => e _ _ (e5 _ _ (e4 _ _ g3))) (fun k => k _ _ (Ne.symm nWp) (e5 _ _ (e4 _ _ g3)))
        have o5 : Off W H5 H5 := But.refl
        refine q_forR1 (n := (l.length : Int)) (ea_cons (ev_is (ev_lenStr (ev_var rfl) hz1 (r_lenStr hz1)) (by rw [hzl])) ea_nil) ⟨by omega, by omega⟩ (fun k σ' H' => WrQ t l W H many i k σ' H' ∧ Off W H5 H') (fun H6 e6 => ⟨⟨0, true, 0, true, x7, rfl, (e34.trans e5).trans e6, e6 _ _ h5, Nat.zero_le _, .inl ⟨rfl, rfl, Nat.zero_le _, Nat.le_refl _, [], rfl, ⟨rfl, rfl, fun _ => rfl⟩⟩⟩, off_of e6⟩) ?_ ?_
        · rintro k σ' H6 hk ⟨⟨here, b, h, ok, x7, rfl, e6, x6, hle, hC⟩, o6⟩
          have hk2 : k < l.length := by omega
          refine s_when (b := b && ok) (et_and (et_B (ev_var rfl)) fun _ => et_B (ev_x2 (ev_var rfl) x6)) (fun hb H7 e7 => ?_) (fun hb H7 e7 => ?_)
          · obtain ⟨rfl, rfl⟩ := Bool.and_eq_true_iff.mp hb
            rcases hC with ⟨_, _, _, c4, ns, rfl, c6⟩ | ⟨z, _⟩ | ⟨z, _⟩
            · obtain ⟨f, hf⟩ : ∃ f, l.length + 1 - k = f + 1 := ⟨l.length - k, by omega⟩
              rw [hf] at c6
              refine q_dropCall (vs := [.ref W, .bl true]) (ea_cons (ev_var rfl) (ea_cons ev_c ea_nil)) fun H8 e8 => ⟨W, mkS l, h, rfl, (x6.ex e7).ex e8, by omega, hz1, fun n H9 o9 x9 => ?_⟩
              have x9 : Wk H9 W (mkS l) (intE l h).1 (intE l h).2 := x9
              have e9 : Ex H H9 := Off.ex ((e6.trans e7).trans e8) hW0 o9
              have o9' : Off W H5 H9 := ((o6.trans (off_of e7)).trans (off_of e8)).trans o9
              have hile := (intE_le (t := l) hle).2
              refine q_asg (v := .int ((ns.length : Int) + 1)) (ev_op (ev_var rfl) ev_c rv_I0) fun H10 e10 => ?_
              have x10 := x9.ex e10
              have hb2 : ∃ b2 : Bool, b2 = (if 0 < many then decide (ns.length + 1 < many) else ((intE l h).2 && decide (l[(intE l h).1]? = some 32))) := ⟨_, rfl⟩
              obtain ⟨b2, hb2⟩ := hb2
              refine q_asg (v := .bl b2) (ev_if (b := decide (((many : Nat) : Int) > 0)) (et_test (ev_op (ev_var rfl) ev_c rv_I0)) (fun hm1 => ?_) fun hm1 => ?_) fun H11 e11 => ?_
              · have hm2 : 0 < many := by
                  have := of_decide_eq_true hm1
                  omega
                rw [hb2, if_pos hm2]
                refine ev_is (ev_op (ev_var rfl) (ev_var rfl) rv_I0) ?_
                congr 1
                rw [Bool.eq_iff_iff, decide_eq_true_eq, decide_eq_true_eq]
                omega
              · have hm2 : ¬ 0 < many := by
                  have := of_decide_eq_false hm1
                  omega
                rw [hb2, if_neg hm2]
                exact ev_call (ea_cons (ev_var rfl) (ea_cons (x := .str (signS 32)) ev_c ea_nil)) (sp_asees x10 (by omega) hz1 32)
              · have x11 := x10.ex e11
                have e11' := (e9.trans e10).trans e11
                have o11 : Off W H5 H11 := (o9'.trans (off_of e10)).trans (off_of e11)
                refine s_dropCall (vs := [.ref W, .str (if b2 = true then signS 32 else "")]) (ea_cons (ev_var rfl) (ea_cons (ev_if (et_B (ev_var rfl)) (fun z => ?_) fun z => ?_) ea_nil)) fun H12 e12 => ?_
                · rw [if_pos z]
                  exact ev_c
                · rw [if_neg (by rw [z]; exact Bool.false_ne_true)]
                  exact ev_c
                · have x12 := x11.ex e12
                  have e12' := e11'.trans e12
                  have o12 : Off W H5 H12 := o11.trans (off_of e12)
                  have hcast : ((ns.length : Int) + 1) = ((ns.length + 1 : Nat) : Int) := by omega
                  rw [hcast]
                  refine ⟨W, mkS l, _, (intE l h).1, (intE l h).2, rfl, x12, by omega, hz1, ?_⟩
                  cases hok : (intE l h).2 with
                  | false =>
                    rw [rowE_no hok] at c6
                    rw [hok] at x12
                    have hd : dueM l 32 (intE l h).1 false = ((intE l h).1, false) := if_neg (fun z => by cases z.1)
                    cases b2 with
                    | true =>
                      refine .inr ⟨32, rfl, fun H13 o13 x13 => ?_⟩
                      have x13 : Wk H13 W (mkS l) (dueM l 32 (intE l h).1 false).1 (dueM l 32 (intE l h).1 false).2 := x13
                      rw [hd] at x13
                      exact ⟨⟨_, true, _, false, _, rfl, Off.ex e12' hW0 o13, x13, hile, .inr (.inr ⟨rfl, c6.off⟩)⟩, o12.trans o13⟩
                    | false =>
                      exact .inl ⟨rfl, fun H13 e13 => ⟨⟨_, false, _, false, _, rfl, e12'.trans e13, x12.ex e13, hile, .inr (.inr ⟨rfl, c6.off⟩)⟩, o12.trans (off_of e13)⟩⟩
                  | true =>
                    rw [hok] at x12 hb2
                    obtain ⟨g1, g2⟩ := intE_lt hok
                    obtain ⟨r1, r2, r3⟩ := rowE_ok (many := many) (f := f) (acc := ns) hok
                    have c7 := c6.to r1 r2 r3
                    have hlen : (ns ++ [valE l h (intE l h).1]).length = ns.length + 1 := by simp
                    have hmo : moreE l many (ns ++ [valE l h (intE l h).1]).length (intE l h).1 = b2 := by
                      rw [hb2, hlen, Bool.true_and]
                      rfl
                    cases b2 with
                    | true =>
                      refine .inr ⟨32, rfl, fun H13 o13 x13 => ?_⟩
                      have x13 : Wk H13 W (mkS l) (dueM l 32 (intE l h).1 true).1 (dueM l 32 (intE l h).1 true).2 := x13
                      by_cases h32 : l[(intE l h).1]? = some 32
                      · have hd : dueM l 32 (intE l h).1 true = ((intE l h).1 + 1, true) := if_pos ⟨rfl, h32⟩
                        rw [hd] at x13
                        have hpl := (List.getElem?_eq_some_iff.mp h32).1
                        have ec : contE l many f (ns ++ [valE l h (intE l h).1]) (intE l h).1 = rowE l many f (ns ++ [valE l h (intE l h).1]) ((intE l h).1 + 1) := (if_pos hmo).trans (if_pos h32)
                        rw [ec] at c7
                        refine ⟨⟨ns.length + 1, true, _, true, _, rfl, Off.ex e12' hW0 o13, x13, by omega, .inl ⟨rfl, rfl, by omega, by omega, _, hlen.symm, ?_⟩⟩, o12.trans o13⟩
                        rw [show l.length + 1 - (k + 1) = f by omega]
                        exact c7
                      · have hd : dueM l 32 (intE l h).1 true = ((intE l h).1, false) := if_neg fun z => h32 z.2
                        rw [hd] at x13
                        have ec : contE l many f (ns ++ [valE l h (intE l h).1]) (intE l h).1 = ((intE l h).1, false, ns ++ [valE l h (intE l h).1]) := (if_pos hmo).trans (if_neg h32)
                        rw [ec] at c7
                        exact ⟨⟨_, true, _, false, _, rfl, Off.ex e12' hW0 o13, x13, hile, .inr (.inr ⟨rfl, c7.off⟩)⟩, o12.trans o13⟩
                    | false =>
                      have ec : contE l many f (ns ++ [valE l h (intE l h).1]) (intE l h).1 = (if l[(intE l h).1]? = some 10 then ((intE l h).1 + 1, true, ns ++ [valE l h (intE l h).1]) else ((intE l h).1, false, ns ++ [valE l h (intE l h).1])) := if_neg (by rw [hmo]; exact Bool.false_ne_true)
                      rw [ec] at c7
                      exact .inl ⟨rfl, fun H13 e13 => ⟨⟨ns.length + 1, false, _, true, _, rfl, e12'.trans e13, x12.ex e13, hile, .inr (.inl ⟨rfl, rfl, _, hlen.symm, c7⟩)⟩, o12.trans (off_of e13)⟩⟩
            · cases z
            · cases z
          · refine ⟨⟨here, b, h, ok, _, rfl, e6.trans e7, x6.ex e7, hle, ?_⟩, o6.trans (off_of e7)⟩
            rcases hC with ⟨rfl, rfl, _⟩ | hC | hC
            · cases hb
            · exact .inr (.inl hC)
            · exact .inr (.inr hC)
        · rintro σ' H6 ⟨⟨here, b, h, ok, x7', rfl, e6, x6, hle, hC⟩, o6⟩
          refine q_dropCall (vs := [.ref W, .str (signS 10)]) (ea_cons (ev_var rfl) (ea_cons (x := .str (signS 10)) ev_c ea_nil)) fun H7 e7 => ⟨W, mkS l, _, h, ok, rfl, x6.ex e7, by omega, hz1, .inr ⟨10, rfl, fun H8 o8 x8 => ?_⟩⟩
          have e8 : Ex H H8 := Off.ex (e6.trans e7) hW0 o8
          have o8' : Off W H5 H8 := (o6.trans (off_of e7)).trans o8
          have x8 : Wk H8 W (mkS l) (dueM l 10 h ok).1 (dueM l 10 h ok).2 := x8
          have fin : ∃ p', Wk H8 W (mkS l) p' (row1 l many).2.1 ∧ (row1 l many).1 = p' ∧ ((row1 l many).2.1 = true → here = (row1 l many).2.2.length) := by
            rcases hC with ⟨_, _, c3, c4, _⟩ | ⟨_, rfl, ns, rfl, c3⟩ | ⟨rfl, c3⟩
            · have : l.length = l.length := rfl
              omega
            · by_cases h10 : l[h]? = some 10
              · have hd : dueM l 10 h true = (h + 1, true) := if_pos ⟨rfl, h10⟩
                rw [hd] at x8
                rw [if_pos h10] at c3
                obtain ⟨d1, d2, d3⟩ := c3
                exact ⟨h + 1, by rw [d2]; exact x8, d1, fun _ => by rw [d3 rfl]⟩
              · have hd : dueM l 10 h true = (h, false) := if_neg fun z => h10 z.2
                rw [hd] at x8
                rw [if_neg h10] at c3
                obtain ⟨d1, d2, d3⟩ := c3
                exact ⟨h, by rw [d2]; exact x8, d1, fun z => by rw [d2] at z; cases z⟩
            · have hd : dueM l 10 h false = (h, false) := if_neg fun z => by cases z.1
              rw [hd] at x8
              obtain ⟨d1, d2, d3⟩ := c3
              exact ⟨h, by rw [d2]; exact x8, d1, fun z => by rw [d2] at z; cases z⟩
          obtain ⟨p', xf, hp', hhere⟩ := fin
          refine q_asg (ev_var rfl) fun H9 e9 => ?_
          refine s_when (b := !(row1 l many).2.1) (et_not (et_B (ev_x2 (ev_var rfl) (xf.ex e9)))) (fun hb H10 e10 => ?_) (fun hb H10 e10 => ?_)
          · have hbad : (row1 l many).2.1 = false := by simpa using hb
            have eb : faultL (TL.tl t) = some (i + 1, p' + 1) := by
              rw [hfl, ed, rowsE, if_neg (by rw [hbad]; exact Bool.false_ne_true), hp']
            have xg := (xf.ex e9).ex e10
            refine s_retU (eu_tup (ea_cons (ev_op (ev_var rfl) ev_c rv_I0) (ea_cons (ev_op (ev_x1 (ev_var rfl) xg) ev_c rv_I0) ea_nil)) (by show 2 ≤ 100000; decide)) fun T H11 hT e11 h11 => ?_
            have eall := (e8.trans e9).trans e10
            refine q (.ref T) H11 (eall.trans e11) ?_
            rw [eb]
            refine .tup (new_old (fresh_back eall hT)) h11 ?_
            have c1 : ((i : Int) + 1) = ((i + 1 : Nat) : Int) := by omega
            have c2 : ((p' : Int) + 1) = ((p' + 1 : Nat) : Int) := by omega
            rw [c1, c2]
            exact .cons (.int _) (.cons (.int _) .nil)
          · have hgood : (row1 l many).2.1 = true := by simpa using hb
            have hh := hhere hgood
            subst hh
            refine ⟨(row1 l many).2.2.length, _, _, _, _, _, _, rfl, (e8.trans e9).trans e10, (e9.trans e10) _ _ (key (.inr fun b o n z => o8' b o n z)), ?_⟩
            rw [hfl, ed, rowsE, if_pos hgood]
    · rintro σ H3 ⟨many, x2, x3, x4, x5, x6, x7, rfl, e3, g3, hfl⟩
      have hlen : (linesV t).length = (linesL (TL.tl t)).length := List.length_map ..
      rw [hlen, List.drop_length, rowsE] at hfl
      show Q .non H3
      refine q .non H3 e3 ?_
      rw [hfl]
      exact .non
end
end Pw
set_option Elab.async false
set_option linter.all false
set_option maxRecDepth 100000
namespace Pw
open PySem PySem.Spec PyProof.Rows L2 Evl
/-! ## the stream of draws -/
/-- a stream at S over the cells at C, at most N draws so far -/
def Stm (H : Hp) (S C : Addr) (N : Nat) : Prop := S ≠ C ∧ ∃ (b m : Int) (n : Nat) (ns : List Int), 0 ≤ b ∧ 0 ≤ m ∧ m < 2147483647 ∧ n ≤ N ∧ H S = some (.lst [.ref C, .int b, .int (n : Int), .int m]) ∧ H C = some (.lst (ns.map .int))
theorem Stm.ex {H H' : Hp} {S C : Addr} {N : Nat} (x : Stm H S C N) (e : Ex H H') : Stm H' S C N := by
  obtain ⟨h, b, m, n, ns, h1, h2, h3, h4, h5, h6⟩ := x
  exact ⟨h, b, m, n, ns, h1, h2, h3, h4, e _ _ h5, e _ _ h6⟩
theorem Stm.mono {H : Hp} {S C : Addr} {N N' : Nat} (x : Stm H S C N) (e : N ≤ N') : Stm H S C N' := by
  obtain ⟨h, b, m, n, ns, h1, h2, h3, h4, h5, h6⟩ := x
  exact ⟨h, b, m, n, ns, h1, h2, h3, Nat.le_trans h4 e, h5, h6⟩
/-- all but the stream stays -/
abbrev Str2 (S C : Addr) : Addr → Prop := fun b => b = S ∨ b = C
abbrev OffS (S C : Addr) : Hp → Hp → Prop := But (Str2 S C)
theorem offS_of {H H' : Hp} {S C : Addr} (e : Ex H H') : OffS S C H H' := But.of e
def spStart (K : PySem.W.Frag) : Sp := fun vs H Q _ => ∃ (a : Addr) (ns : List Int), vs = [.ref a] ∧ SqL K H a (ns.map .int) ∧ ∀ S C H', Ex H H' → H S = none → H C = none → Stm H' S C 0 → Q (.ref S) H'
def spDraw : Sp := fun vs H Q _ => ∃ (S C : Addr) (N many : Nat), vs = [.ref S, .int (many : Int)] ∧ Stm H S C N ∧ N < 1000000000 ∧ 0 < many ∧ many < 1000000000 ∧
  ∀ (r : Nat) H', r < many → OffS S C H H' → Stm H' S C (N + 1) → Q (.int (r : Int)) H'
def spPick (K : PySem.W.Frag) : Sp := fun vs H Q _ => ∃ (S C a : Addr) (N : Nat) (xs : List V), vs = [.ref S, .ref a] ∧ Stm H S C N ∧ N < 1000000000 ∧ H a = some (.lst xs) ∧ a ≠ S ∧ a ≠ C ∧ xs ≠ [] ∧ xs.length < 1000000000 ∧
  ∀ (v : V) H', v ∈ xs → OffS S C H H' → Stm H' S C (N + 1) → Q v H'
abbrev sStart : Stmt := top 30
abbrev sDraw : Stmt := top 31
abbrev sPick : Stmt := top 32
abbrev nDraw : List Str := ["_law_stream", "_law_many", "_law_cell", "_law_digit", "_law_mixed"]
theorem scStart : FnScope ["_law_script"] ["_law_script"] (defScope sStart) := ⟨rfl, rfl, rfl, by decide +kernel, rfl, by decide +kernel, by decide +kernel⟩
theorem scDraw : FnScope nDraw ["_law_stream", "_law_many"] (defScope sDraw) := ⟨rfl, rfl, rfl, by decide +kernel, rfl, by decide +kernel, by decide +kernel⟩
theorem scPick : FnScope ["_law_stream", "_law_some"] ["_law_stream", "_law_some"] (defScope sPick) := ⟨rfl, rfl, rfl, by decide +kernel, rfl, by decide +kernel, by decide +kernel⟩
def rInt1 : List V → Hp → VK → Prop := fun xs H Q => ∃ i, xs = [.int i] ∧ Q (.int i) H
theorem k_int1 {X : Cx} : CallR X (.type "int") rInt1 := CallR.to call_int1 fun xs H Q ⟨i, h1, h2⟩ => .inl ⟨i, h1, h2⟩
section
variable {K : PySem.W.Frag} {σ : L2.St} {H : Hp} {ta : TE} {S : Addr}
theorem ev_int1 {i : Int} (ha : Ev ta σ H (.int i)) : Ev (tCB rInt1 (tCons ta tNil)) σ H (.int i) := fun H1 e Q q => ha H1 e _ fun H2 e2 => ⟨i, rfl, q H2 e2⟩
theorem ev_at {a : Addr} {xs : List V} {v : V} {j : Nat} {tb : TE} (ha : Ev ta σ H (.ref a)) (hb : Ev tb σ H (.int (j : Int))) (h : H a = some (.lst xs)) (hj : xs[j]? = some v) : Ev (tOp (rIxL K) ta tb) σ H v := ev_op ha hb (rv_ixL (SqL.of h) (atI_nat hj))
theorem q_pop0 {l : Addr} {x : V} {xs : List V} {i : Nat} {tz : TS} {D : Ends} (ha : Ev ta σ H (.ref l)) (hl : H l = some (.lst (x :: xs))) (k : ∀ H1, Ex H H1 → tz D (σ.set i (some x)) (upd H1 l (.lst xs))) :
    tSeq (tAsg (tBM K "list" rPopAt ta (tCons (tC (.int 0)) tNil)) (gName i)) tz D σ H := ha H (Ex.refl H) _ fun H1 e1 =>
  ⟨.inl ⟨rfl, _, SqL.of (e1 _ _ hl)⟩, l, x :: xs, 0, 0, x, rfl, rfl, e1 _ _ hl, by decide, by decide, by simp [seqIndex?], rfl, k H1 e1⟩
end
section
variable {P : Program} {w : World} {K : PySem.W.Frag} {mg : Str → Option Value} {base : Heap}
theorem ok_start (D : Df K mg "_law_start" sStart) (F : Free mg) : Pr P w K mg base CX0 1 "_law_start" ["_law_script"] (spStart K) := by
  refine Pr.of0 D scStart (fun _ _ _ _ _ _ us hl => match us, hl with | [_], _ => rfl) (fun vs H Q E h => ?_) fun cdv A outer s H vs Q E hr h => ?_
  · obtain ⟨a, ns, rfl, _⟩ := h
    rfl
  · obtain ⟨a, ns, rfl, hx, q⟩ := h
    refine ⟨_, pss_one (ps_ret (pe_lst (pa_cons (pe_callTy (k_listof (K := K) rfl) (by rfl) F.list bb_list (pa_cons (pv 0) pa_nil)) (pa_cons pe_int (pa_cons pe_int (pa_cons pe_int pa_nil)))))), ?_⟩
    refine ⟨_, rfl, a, _, rfl, .inl hx, fun C hC => ⟨by show 4 ≤ sizeLine; decide, fun S hS => ?_⟩⟩
    have hS0 := hS
    have hSC : S ≠ C := Ne.symm (ne_of_none upd_same hS)
    rw [upd_ne hSC] at hS
    refine q S C _ ((Ex.new hC).trans (Ex.new hS0)) hS hC ⟨hSC, 0, 11, 0, ns, by decide, by decide, by decide, Nat.le_refl _, upd_same, ?_⟩
    rw [upd_ne (Ne.symm hSC), upd_same]
theorem ok_draw (D : Df K mg "_law_draw" sDraw) (F : Free mg) : Pr P w K mg base CX0 1 "_law_draw" ["_law_stream", "_law_many"] spDraw := by
  refine Pr.of0 D scDraw (fun _ _ _ _ _ _ us hl => match us, hl with | [_, _], _ => rfl) (fun vs H Q E h => ?_) fun cdv A outer s H vs Q E hr h => ?_
  · obtain ⟨S, C, N, many, rfl, _⟩ := h
    rfl
  · obtain ⟨S, C, N, many, rfl, ⟨hSC, b, m, n, ns, hb, hm0, hm1, hn, hS, hC⟩, hN, hmp, hmq, q⟩ := h
    refine ⟨_, pss_cons (ps_asg (pe_op op_add (pe_ix ix_list (pv 0) pe_int (fun _ _ => rfl)) pe_int) (pg_sub (pv 0) pe_int set_list))
      (pss_cons (ps_while PassesOwn.never (PW.pt (pw_and (pt_cmpR op_eq (pe_ix ix_list (pv 0) pe_int (fun _ _ => rfl)) pe_int (nomark _)) (pw_and1 (pt_cmpR (op_neD hr.units) (pe_ix ix_list (pv 0) pe_int (fun _ _ => rfl)) (pe_lst pa_nil) (nomark _)))))
        (pss_cons (ps_set (i := 2) scDraw.nd rfl (.inl rfl) (pe_bm PySem.F.plainAttrs_list PySem.F.slot_list_pop PySem.F.type_list_pop mt_popAt (pe_ix ix_list (pv 0) pe_int (fun _ _ => rfl)) (pa_cons pe_int pa_nil)))
        (pss_cons (ps_asg (pe_op op_mod (pe_callTy k_int1 (by rfl) F.int bb_int (pa_cons (pe_op op_add (pe_op op_add (pe_op op_mul (pe_ix ix_list (pv 0) pe_int (fun _ _ => rfl)) pe_int) (pv 2)) pe_int) pa_nil)) pe_int) (pg_sub (pv 0) pe_int set_list))
        (pss_one (ps_asg (pe_ifExp (pt_cmpR op_ge (pv 2) (pe_op op_pow pe_int pe_int) (nomark _)) (pv 2) pe_int) (pg_sub (pv 0) pe_int set_list))))))
      (pss_cons (ps_if (pt_cmpR op_gt (pe_ix ix_list (pv 0) pe_int (fun _ _ => rfl)) pe_int (nomark _))
        (pss_cons (ps_set (i := 3) scDraw.nd rfl (.inl rfl) (pe_op op_mod (pe_callTy k_int1 (by rfl) F.int bb_int (pa_cons (pe_ix ix_list (pv 0) pe_int (fun _ _ => rfl)) pa_nil)) (pv 1)))
        (pss_cons (ps_asg (pe_op op_fdiv (pe_ix ix_list (pv 0) pe_int (fun _ _ => rfl)) (pv 1)) (pg_sub (pv 0) pe_int set_list))
        (pss_one (ps_ret (pv 3))))) pss_nil)
      (pss_cons (ps_set (i := 4) scDraw.nd rfl (.inl rfl) (pe_op op_mod (pe_callTy k_int1 (by rfl) F.int bb_int (pa_cons (pe_op op_pow (pe_op op_add (pe_op op_add (pe_ix ix_list (pv 0) pe_int (fun _ _ => rfl)) (pe_op op_mul pe_int (pe_ix ix_list (pv 0) pe_int (fun _ _ => rfl)))) pe_int) pe_int) pa_nil)) pe_int))
      (pss_one (ps_ret (pe_op op_mod (pe_op op_mod (pe_callTy k_int1 (by rfl) F.int bb_int (pa_cons (pe_op op_pow (pe_op op_add (pe_op op_add (pe_op op_mul (pv 4) pe_int) (pe_op op_mul pe_int (pe_ix ix_list (pv 0) pe_int (fun _ _ => rfl)))) pe_int) pe_int) pa_nil)) pe_int) (pv 1))))))), ?_⟩
    refine q_setL (j := 2) hS (ev_op (ev_at (j := 2) (ev_var rfl) ev_c hS rfl) ev_c rv_I0) (ev_var rfl) ev_c (by show 2 < 4; decide) fun H1 e1 => ?_
    have hcast : (n : Int) + 1 = ((n + 1 : Nat) : Int) := by omega
    refine q_while (fun m' σ' H' => ∃ b m ns x2, m' = ns.length ∧ σ' = [some (.ref S), some (.int (many : Int)), x2, none, none] ∧ OffS S C H H' ∧ 0 ≤ b ∧ 0 ≤ m ∧ m < 2147483647 ∧ H' S = some (.lst [.ref C, .int b, .int ((n + 1 : Nat) : Int), .int m]) ∧ H' C = some (.lst (List.map V.int ns))) ns.length
      ⟨b, m, ns, none, rfl, rfl, (offS_of e1).trans (But.at_ (.inl rfl)), hb, hm0, hm1, by rw [upd_same, ← hcast]; rfl, by rw [upd_ne (Ne.symm hSC)]; exact e1 _ _ hC⟩ ?_
    rintro m' σ' H2 ⟨b, m, ns, x2, rfl, rfl, o2, hb, hm0, hm1, hS2, hC2⟩
    refine ⟨decide (V.int b = V.int 0) && !decide (ns = []), et_and (et_test (ev_op (ev_at (j := 1) (ev_var rfl) ev_c hS2 rfl) ev_c (rv_eq rfl))) fun _ => et_test (ev_neNilI (ev_at (j := 0) (ev_var rfl) ev_c hS2 rfl) hC2), fun hb2 H3 e3 => ?_, fun hb2 H3 e3 => ?_⟩
    · obtain ⟨t1, t2⟩ := Bool.and_eq_true_iff.mp hb2
      cases ns with
      | nil => simp at t2
      | cons c ns =>
        refine ⟨fun σ' H' => ∃ m2, m2 < (c :: ns).length ∧ (∃ b m ns x2, m2 = ns.length ∧ σ' = [some (.ref S), some (.int (many : Int)), x2, none, none] ∧ OffS S C H H' ∧ 0 ≤ b ∧ 0 ≤ m ∧ m < 2147483647 ∧ H' S = some (.lst [.ref C, .int b, .int ((n + 1 : Nat) : Int), .int m]) ∧ H' C = some (.lst (List.map V.int ns))), fun σ2 H4 z => z, ?_⟩
        have hS3 := e3 _ _ hS2
        have hC3 := e3 _ _ hC2
        -- the cell is taken
        refine q_pop0 (ev_at (j := 0) (ev_var rfl) ev_c hS3 rfl) hC3 fun H4 e4 => ?_
        have hS5 : upd H4 C (.lst (ns.map V.int)) S = some (.lst [.ref C, .int b, .int ((n + 1 : Nat) : Int), .int m]) := by
          rw [upd_ne hSC]
          exact e4 _ _ hS3
        have hC5 : upd H4 C (.lst (ns.map V.int)) C = some (.lst (ns.map V.int)) := upd_same
        have o5 : OffS S C H (upd H4 C (.lst (ns.map V.int))) := (o2.trans (offS_of (e3.trans e4))).trans (But.at_ (.inr rfl))
        generalize upd H4 C (.lst (ns.map V.int)) = H5 at hS5 hC5 o5 ⊢
        refine q_setL (j := 3) hS5 (ev_op (ev_int1 (ev_op (ev_op (ev_op (ev_at (j := 3) (ev_var rfl) ev_c hS5 rfl) ev_c (rv_I (.inl ⟨by omega, by omega⟩))) (ev_var rfl) rv_I0) ev_c rv_I0)) ev_c (rv_I (show (0 : Int) < 2147483647 by decide))) (ev_var rfl) ev_c (by show 3 < 4; decide) fun H6 e6 => ?_
        have hm3 := Int.emod_nonneg (m * 8191 + c + 3) (show (2147483647 : Int) ≠ 0 by decide)
        have hm4 := Int.emod_lt_of_pos (m * 8191 + c + 3) (show (0 : Int) < 2147483647 by decide)
        generalize (m * 8191 + c + 3) % 2147483647 = mm at hm3 hm4 ⊢
        have hS7 : upd H6 S (.lst ([V.ref C, .int b, .int ((n + 1 : Nat) : Int), .int m].set 3 (.int mm))) S = some (.lst [.ref C, .int b, .int ((n + 1 : Nat) : Int), .int mm]) := upd_same
        have hC7 : upd H6 S (.lst ([V.ref C, .int b, .int ((n + 1 : Nat) : Int), .int m].set 3 (.int mm))) C = some (.lst (ns.map V.int)) := by
          rw [upd_ne (Ne.symm hSC)]
          exact e6 _ _ hC5
        have o7 : OffS S C H (upd H6 S (.lst ([V.ref C, .int b, .int ((n + 1 : Nat) : Int), .int m].set 3 (.int mm)))) := (o5.trans (offS_of e6)).trans (But.at_ (.inl rfl))
        generalize upd H6 S (.lst ([V.ref C, .int b, .int ((n + 1 : Nat) : Int), .int m].set 3 (.int mm))) = H7 at hS7 hC7 o7 ⊢
        refine s_setL (j := 1) hS7 (v := .int (if (10 : Int) ^ (18 : Int).toNat ≤ c then c else 0)) (ev_if (b := decide ((10 : Int) ^ (18 : Int).toNat ≤ c)) (et_test (ev_op (ev_var rfl) (ev_op ev_c ev_c (rv_I ⟨by decide, by decide, by decide⟩)) rv_I0)) (fun z => ?_) fun z => ?_) (ev_var rfl) ev_c (by show 1 < 4; decide) fun H8 e8 => ⟨ns.length, by rw [List.length_cons]; omega, _, mm, ns, _, rfl, rfl, (o7.trans (offS_of e8)).trans (But.at_ (.inl rfl)), ?_, hm3, hm4, upd_same, by rw [upd_ne (Ne.symm hSC)]; exact e8 _ _ hC7⟩
        · rw [if_pos (of_decide_eq_true z)]
          exact ev_var rfl
        · rw [if_neg (of_decide_eq_false z)]
          exact ev_c
        · split
          · rename_i z
            exact Int.le_trans (by decide) z
          · exact Int.le_refl 0
    · have hS3 := e3 _ _ hS2
      have hC3 := e3 _ _ hC2
      have o3 := o2.trans (offS_of e3)
      have hmany : (0 : Int) < (many : Int) := by omega
      refine q_when (b := decide (0 < b)) (et_test (ev_op (ev_at (j := 1) (ev_var rfl) ev_c hS3 rfl) ev_c rv_I0)) (fun hb3 H4 e4 => ?_) (fun hb3 H4 e4 => ?_)
      · have hS4 := e4 _ _ hS3
        have hC4 := e4 _ _ hC3
        refine q_asg (ev_op (ev_int1 (ev_at (j := 1) (ev_var rfl) ev_c hS4 rfl)) (ev_var rfl) (rv_I hmany)) fun H5 e5 => ?_
        have hS5 := e5 _ _ hS4
        have hC5 := e5 _ _ hC4
        refine q_setL (j := 1) hS5 (ev_op (ev_at (j := 1) (ev_var rfl) ev_c hS5 rfl) (ev_var rfl) (rv_I ⟨hmany, by omega⟩)) (ev_var rfl) ev_c (by show 1 < 4; decide) fun H6 e6 => ?_
        have hr1 := Int.emod_nonneg b (show (many : Int) ≠ 0 by omega)
        have hr2 := Int.emod_lt_of_pos b hmany
        have hqn : 0 ≤ b / (many : Int) := Int.ediv_nonneg hb (by omega)
        refine s_ret (ev_var rfl) fun H7 e7 => ?_
        have er : b % (many : Int) = (((b % (many : Int)).toNat : Nat) : Int) := by omega
        rw [er]
        refine q _ H7 (by omega) ((((o3.trans (offS_of e4)).trans (offS_of e5)).trans (offS_of e6)).trans ((But.at_ (.inl rfl)).trans (offS_of e7))) ⟨hSC, b / (many : Int), m, n + 1, ns, hqn, hm0, hm1, by omega, e7 _ _ upd_same, e7 _ _ (by rw [upd_ne (Ne.symm hSC)]; exact e6 _ _ hC5)⟩
      · have hS4 := e4 _ _ hS3
        have hC4 := e4 _ _ hC3
        refine q_asg (ev_op (ev_int1 (ev_op (ev_op (ev_op (ev_at (j := 3) (ev_var rfl) ev_c hS4 rfl) (ev_op ev_c (ev_at (j := 2) (ev_var rfl) ev_c hS4 rfl) (rv_I (.inl ⟨by decide, by decide⟩))) rv_I0) ev_c rv_I0) ev_c (rv_I ⟨by decide, by decide, by omega⟩))) ev_c (rv_I (show (0 : Int) < 2147483629 by decide))) fun H5 e5 => ?_
        have hx1 := Int.emod_nonneg ((m + 7919 * ((n + 1 : Nat) : Int) + 104729) ^ (5 : Int).toNat) (show (2147483629 : Int) ≠ 0 by decide)
        have hx2 := Int.emod_lt_of_pos ((m + 7919 * ((n + 1 : Nat) : Int) + 104729) ^ (5 : Int).toNat) (show (0 : Int) < 2147483629 by decide)
        generalize (m + 7919 * ((n + 1 : Nat) : Int) + 104729) ^ (5 : Int).toNat % 2147483629 = mx at hx1 hx2 ⊢
        have hS5 := e5 _ _ hS4
        have hC5 := e5 _ _ hC4
        refine s_ret (ev_op (ev_op (ev_int1 (ev_op (ev_op (ev_op (ev_op (ev_var rfl) ev_c (rv_I (.inl ⟨by omega, by omega⟩))) (ev_op ev_c (ev_at (j := 2) (ev_var rfl) ev_c hS5 rfl) (rv_I (.inl ⟨by decide, by decide⟩))) rv_I0) ev_c rv_I0) ev_c (rv_I ⟨by decide, by decide, by omega⟩))) ev_c (rv_I (show (0 : Int) < 1000000007 by decide))) (ev_var rfl) (rv_I hmany)) fun H6 e6 => ?_
        generalize (mx * 48271 + 30011 * ((n + 1 : Nat) : Int) + 29) ^ (3 : Int).toNat % 1000000007 = zz
        have hr1 := Int.emod_nonneg zz (show (many : Int) ≠ 0 by omega)
        have hr2 := Int.emod_lt_of_pos zz hmany
        have er : zz % (many : Int) = (((zz % (many : Int)).toNat : Nat) : Int) := by omega
        rw [er]
        exact q _ H6 (by omega) (((o3.trans (offS_of e4)).trans (offS_of e5)).trans (offS_of e6)) ⟨hSC, b, m, n + 1, ns, hb, hm0, hm1, by omega, e6 _ _ hS5, e6 _ _ hC5⟩
theorem ok_pick (D : Df K mg "_law_pick" sPick) (F : Free mg) (R : Pr P w K mg base CX0 1 "_law_draw" ["_law_stream", "_law_many"] spDraw) : Pr P w K mg base CX0 2 "_law_pick" ["_law_stream", "_law_some"] (spPick K) := by
  refine Pr.of0 D scPick (fun _ _ _ _ _ _ us hl => match us, hl with | [_, _], _ => rfl) (fun vs H Q E h => ?_) fun cdv A outer s H vs Q E hr h => ?_
  · obtain ⟨S, C, a, N, xs, rfl, _⟩ := h
    rfl
  · obtain ⟨S, C, a, N, xs, rfl, x, hN, ha, aS, aC, hne, hlen, q⟩ := h
    refine ⟨_, pss_one (ps_ret (pe_ix ix_list (pv 1) (pcall R hr pass0 (pa_cons (pv 0) (pa_cons (pe_callB call_len_seq (by rfl) F.len bb_len (pa_cons (pv 1) pa_nil)) pa_nil))) (fun _ _ => rfl))), ?_⟩
    have hpos : 0 < xs.length := List.length_pos_iff.mpr hne
    refine ⟨_, rfl, _, rfl, _, rfl, a, xs, rfl, .inl (SqL.of ha), S, C, N, xs.length, rfl, x, hN, hpos, hlen, fun r H' hr2 o x2 => ?_⟩
    exact ⟨a, xs, (r : Int), xs[r], rfl, rfl, SqL.of (o _ _ (fun z => z.elim aS aC) ha), atI_nat (List.getElem?_eq_getElem hr2), q _ H' (List.getElem_mem hr2) o x2⟩
end
end Pw
set_option Elab.async false
set_option linter.all false
set_option maxRecDepth 100000
namespace Pw
open PySem PySem.Spec PyProof.Rows L2 Evl RZ LiI
/-! ## zip in a comprehension -/
theorem walk_zipT {K : PySem.W.Frag} {a b : Addr} {xs ys : List V} {n : Nat} (hn : n = min xs.length ys.length) : Walk (ItzT K a b) n (fun H => SqT K H a xs ∧ SqT K H b ys) (YPair (fun i => xs[i]?) (fun i => ys[i]?)) := by
  subst hn
  refine ⟨fun i _ hi q => ?_, fun _ q => ⟨xs, ys, q.1, q.2, by omega⟩, fun i H v H' _ q y => ?_⟩
  · have h1 : i < xs.length := by omega
    have h2 : i < ys.length := by omega
    exact ⟨xs, ys, xs[i], ys[i], q.1, q.2, by simp [h1], by simp [h2]⟩
  · obtain ⟨T, x, z, h1, h2, h3, h4, h5⟩ := y
    exact ⟨T, x, z, h1, h2, h3, h4 xs q.1, h5 ys q.2⟩
section
variable {K : PySem.W.Frag} {σ : L2.St} {H : Hp} {ta tb te : TE} {a b : Addr} {xs ys zs : List V} {i1 i2 : Nat}
theorem el_zip_go {J : It} {G : Hp → Prop} {H0 H1 : Hp} {Q : VK} {D : Addr} (w : Walk J xs.length G (YPair (fun i => xs[i]?) (fun i => ys[i]?))) (e1 : Ex H0 H1) (hG : ∀ H', Ex H1 H' → G H') (hz : xs.length ≤ 50000) (hl : zs.length = xs.length) (hD : H1 D = none)
    (hw : ∀ x y, wipe (((wipe σ [i1, i2]).set i1 x).set i2 y) [i1, i2] = wipe σ [i1, i2]) (he : ∀ (i : Nat) (x y z : V) H2, Ex H1 H2 → xs[i]? = some x → ys[i]? = some y → zs[i]? = some z → Ev te (((wipe σ [i1, i2]).set i1 (some x)).set i2 (some y)) H2 z)
    (q : ∀ p H2, H0 p = none → Ex H0 H2 → H2 p = some (.lst zs) → Q (.ref p) H2) :
    ∃ W : Nat → Nat → Hp → Prop, (∃ m, W 0 m (upd H1 D (.lst []))) ∧ ∀ i m H, W i m H →
      (J.stop i H ∧ Q (.ref D) H) ∨ (J.go i H ∧ ∃ Nx : Hp → Prop, (∀ H', Nx H' → ∃ m', m' < m ∧ W (i + 1) m' H') ∧ ∀ x H', J.yld i H x H' → gTup K 2 (gCons (gName i1) (gCons (gName i2) gNil)) x (wipe σ [i1, i2]) H' fun σ2 H2 => wipe σ2 [i1, i2] = wipe σ [i1, i2] ∧ tYes σ2 H2 fun b H3 =>
        if b = true then te σ2 H3 fun y H4 => ∃ acc, H4 D = some (.lst acc) ∧ acc.length < sizeLine ∧ Nx (upd H4 D (.lst (acc ++ [y]))) else Nx H3) := by
  refine lc_word w hD hG hz (fun i y _ => zs[i]? = some y) (fun _ _ _ _ r _ => r) (fun i x H2 H' acc hi e2 hDs hy Q' q' => ?_) (fun us H' e' hlen hDs hr => ?_)
  · obtain ⟨T, x1, y1, rfl, hT, rfl, hx, hy⟩ := hy
    have hzi : zs[i]? = some zs[i] := List.getElem?_eq_getElem (by omega)
    have e3 : Ex H2 (upd H2 T (.tup [x1, y1])) := Ex.new hT
    refine ⟨T, _, rfl, SqT.of upd_same, rfl, _, _, rfl, _, _, rfl, rfl, ?_⟩
    exact q' _ _ e3 (hw _ _) fun H4 e4 Q2 q2 => he i x1 y1 _ _ (e2.trans e3) hx hy hzi H4 e4 Q2 fun H5 e5 => q2 _ H5 e5 hzi
  · have ez : us = zs := List.ext_getElem? fun k => by
      by_cases hk : k < us.length
      · rw [List.getElem?_eq_getElem hk]
        exact (hr k _ (List.getElem?_eq_getElem hk)).symm
      · rw [List.getElem?_eq_none (by omega), List.getElem?_eq_none (by omega)]
    rw [ez] at hDs
    exact q D H' (fresh_back e1 hD) (e1.trans e') hDs
theorem el_zip (ha : Ev ta σ H (.ref a)) (hb : Ev tb σ H (.ref b)) (h : (H a = some (.lst xs) ∧ H b = some (.lst ys)) ∨ (H a = some (.tup xs) ∧ H b = some (.tup ys))) (hxy : xs.length = ys.length) (hz : xs.length ≤ 50000) (hl : zs.length = xs.length)
    (hw : ∀ x y, wipe (((wipe σ [i1, i2]).set i1 x).set i2 y) [i1, i2] = wipe σ [i1, i2]) (he : ∀ (i : Nat) (x y z : V) H2, Ex H H2 → xs[i]? = some x → ys[i]? = some y → zs[i]? = some z → Ev te (((wipe σ [i1, i2]).set i1 (some x)).set i2 (some y)) H2 z) :
    EvL (tLc (iZipA K (tCons ta (tCons tb tNil))) (gTup K 2 (gCons (gName i1) (gCons (gName i2) gNil))) tYes te [i1, i2]) σ H zs := fun H0 e Q q =>
  ha H0 e _ fun H1 e1 => hb H1 (e.trans e1) _ fun H2 e2 => by
    have e12 := e1.trans e2
    have hm : xs.length = min xs.length ys.length := by omega
    refine ⟨a, b, xs, ys, rfl, ?_⟩
    rcases h with ⟨h1, h2⟩ | ⟨h1, h2⟩
    · have g1 := (e.trans e12) _ _ h1
      have g2 := (e.trans e12) _ _ h2
      exact .inl ⟨SqL.of g1, SqL.of g2, fun D hD => el_zip_go (walk_zip hm) e12 (fun H' e' => ⟨SqL.of (e' _ _ g1), SqL.of (e' _ _ g2)⟩) hz hl hD hw (fun i x y z H3 e3 => he i x y z H3 ((e.trans e12).trans e3)) q⟩
    · have g1 := (e.trans e12) _ _ h1
      have g2 := (e.trans e12) _ _ h2
      exact .inr ⟨SqT.of g1, SqT.of g2, fun D hD => el_zip_go (walk_zipT hm) e12 (fun H' e' => ⟨SqT.of (e' _ _ g1), SqT.of (e' _ _ g2)⟩) hz hl hD hw (fun i x y z H3 e3 => he i x y z H3 ((e.trans e12).trans e3)) q⟩
theorem ev_isSeq {v : V} {L : Addr → Prop} {d : PyData} (ha : Ev ta σ H v) (hd : Dt L H v d) : Ev (tCB rIsSeq (tCons ta (tCons (fun σ H Q => ∀ p, H p = none → Q (.ref p) (upd H p (.tup [.ty "list", .ty "tuple"]))) tNil))) σ H (.bl (isSeq d)) := fun H1 e Q q =>
  ha H1 e _ fun H2 e2 => fun p hp => ⟨v, p, L, d, rfl, upd_same, (hd.ex (e.trans e2)).ex (Ex.new hp), q _ (e2.trans (Ex.new hp))⟩
end
/-- list({}.items()) -/
theorem el_items0 {σ : L2.St} {H : Hp} {ta : TE} {a : Addr} (ha : Ev ta σ H (.ref a)) (h : H a = some (.dK [])) : EvL (tListItems ta) σ H [] := fun H1 e Q q => ha H1 e _ fun H2 e2 => ⟨a, [], rfl, (e.trans e2) _ _ h, fun H' p ts k hp _ _ hl hpa => by
  cases hpa
  exact q p H' (fresh_back e2 hp) (e2.trans k) hl⟩
/-! ## isinstance(x, (int, list, tuple, dict)) -/
def is4 (d : PyData) : Bool := isA d "int" || (isA d "list" || (isA d "tuple" || isA d "dict"))
def rIs4 : List V → Hp → VK → Prop := fun xs H Q => ∃ (v : V) (p : Addr) (L : Addr → Prop) (d : PyData), xs = [v, .ref p] ∧ H p = some (.tup [.ty "int", .ty "list", .ty "tuple", .ty "dict"]) ∧ Dt L H v d ∧ Q (.bl (is4 d)) H
theorem kit_4 {K : PySem.W.Frag} {d : PyData} : PySem.W.kitAny K (.type (tyN d)) [.type "int", .type "list", .type "tuple", .type "dict"] = some (is4 d) := by
  have h := kit_more (K := K) (kit_int (d := d)) (kit_more (kit_list (d := d)) (kit_more (kit_tuple (d := d)) (kit_more (kit_dict (d := d)) kitAny_nil)))
  rw [Bool.or_false] at h
  exact h
section
variable {X : Cx} {e : Expr} {te : TE} {p p1 p2 p3 p4 p5 p6 pos : Pos} {k1 : Nat}
theorem call_is4 : CallR X (.builtin "isinstance") rIs4 := CallR.to call_isiT fun xs H Q q => by
  obtain ⟨v, p, L, d, rfl, hp, hd, q⟩ := q
  exact ⟨v, p, _, _, _, _, rfl, hp, .cons (.ty _) (.cons (.ty _) (.cons (.ty _) (.cons (.ty _) .nil))), hd.ty, kit_4, q⟩
abbrev t4 : TE := fun σ H Q => ∀ p, H p = none → Q (.ref p) (upd H p (.tup [.ty "int", .ty "list", .ty "tuple", .ty "dict"]))
theorem pe_4 (F : Free X.mg) (h1 : Gl X "int" := by rfl) (h2 : Gl X "list" := by rfl) (h3 : Gl X "tuple" := by rfl) (h4 : Gl X "dict" := by rfl) :
    PE X (.Tuple [.Name "int" p1, .Name "list" p2, .Name "tuple" p3, .Name "dict" p5] k1 p4) t4 := by
  have h := pe_tup (x1 := k1) (pos := p4) (pa_cons (pe_bltn (X := X) (v := .ty "int") (pos := p1) h1 F.int bb_int rfl) (pa_cons (pe_bltn (X := X) (v := .ty "list") (pos := p2) h2 F.list bb_list rfl) (pa_cons (pe_bltn (v := .ty "tuple") (pos := p3) h3 F.tuple bb_tuple rfl) (pa_cons (pe_bltn (v := .ty "dict") (pos := p5) h4 F.dict bb_dict rfl) pa_nil))))
  exact ⟨fun pins s σ H Q I q => h.run pins s σ H Q I ⟨by show 4 ≤ sizeLine; decide, q⟩⟩
theorem pe_is4 (F : Free X.mg) (he : PE X e te) (h0 : Gl X "isinstance" := by rfl) (h1 : Gl X "int" := by rfl) (h2 : Gl X "list" := by rfl) (h3 : Gl X "tuple" := by rfl) (h4 : Gl X "dict" := by rfl)
    (hs : starEach (e :: [.Tuple [.Name "int" p1, .Name "list" p2, .Name "tuple" p3, .Name "dict" p5] k1 p4]) X.env = (false, eval e X.env) :: starEach [.Tuple [.Name "int" p1, .Name "list" p2, .Name "tuple" p3, .Name "dict" p5] k1 p4] X.env := by rfl) :
    PE X (.Call (.Name "isinstance" p6) [e, .Tuple [.Name "int" p1, .Name "list" p2, .Name "tuple" p3, .Name "dict" p5] k1 p4] [] pos) (tCB rIs4 (tCons te (tCons t4 tNil))) :=
  pe_callB call_is4 h0 F.isinstance bb_isinstance (pa_cons he (pa_cons (pe_4 F h1 h2 h3 h4) pa_nil) hs) (by decide) (by decide) hs
end
theorem ev_is4 {σ : L2.St} {H : Hp} {ta : TE} {v : V} {L : Addr → Prop} {d : PyData} (ha : Ev ta σ H v) (hd : Dt L H v d) : Ev (tCB rIs4 (tCons ta (tCons t4 tNil))) σ H (.bl (is4 d)) := fun H1 e Q q =>
  ha H1 e _ fun H2 e2 => fun p hp => ⟨v, p, L, d, rfl, upd_same, (hd.ex (e.trans e2)).ex (Ex.new hp), q _ (e2.trans (Ex.new hp))⟩
/-! ## _law_same of the same -/
/-- not too deep, not too long -/
def okS : Nat → PyData → Bool
  | 0, _ => false
  | n + 1, .list ds => decide (ds.length ≤ 50000) && ds.all (okS n)
  | n + 1, .tuple ds => decide (ds.length ≤ 50000) && ds.all (okS n)
  | n + 1, .dict _ => decide (1 ≤ n)
  | _ + 1, _ => true
def spSame (n : Nat) : Sp := fun vs H Q _ => ∃ (v u : V) (L L' : Addr → Prop) (d : PyData), vs = [v, u] ∧ Dt L H v d ∧ Dt L' H u d ∧ okS n d = true ∧ ∀ H', Ex H H' → Q (.bl true) H'
abbrev sSame : Stmt := top 33
abbrev nSame : List Str := ["_law_found", "_law_due", "_law_x", "_law_y"]
theorem scSame : FnScope nSame ["_law_found", "_law_due"] (defScope sSame) := ⟨rfl, rfl, rfl, by decide +kernel, rfl, by decide +kernel, by decide +kernel⟩
theorem len_same {n : Nat} {vs : List V} {H : Hp} {Q : VK} {E : XK} (h : spSame n vs H Q E) : vs.length = (["_law_found", "_law_due"] : List Str).length := by
  obtain ⟨v, u, L, L', d, rfl, _⟩ := h
  rfl
theorem rep_all {α : Type} (l : List α) : (l.map fun _ => true).all id = true := by
  induction l with
  | nil => rfl
  | cons _ _ ih => exact ih
section
variable {P : Program} {w : World} {K : PySem.W.Frag} {mg : Str → Option Value} {base : Heap}
theorem ok_same_step {n k : Nat} (D : Df K mg "_law_same" sSame) (F : Free mg) (R : Pr P w K mg base CX0 k "_law_same" ["_law_found", "_law_due"] (spSame n)) : Pr P w K mg base CX0 (k + 1) "_law_same" ["_law_found", "_law_due"] (spSame (n + 1)) := by
  refine Pr.of0 D scSame (fun _ _ _ _ _ _ us hl => match us, hl with | [_, _], _ => rfl) (fun vs H Q E h => len_same h) fun cdv A outer s H vs Q E hr h => ?_
  obtain ⟨v, u, L, L', d, rfl, hv, hu, hok, q⟩ := h
  refine ⟨_, pss_cons (ps_if (pt_val (pe_isSeq F (pv 1)))
      (pss_cons (ps_if (PW.pt (pw_or (pt_cmpR op_ne (pe_isA F (fun _ => kit_list) F.list bb_list (pv 0)) (pe_isA F (fun _ => kit_list) F.list bb_list (pv 1)) (nomark _)) (pw_or1 (pt_cmpR op_ne (pe_isA F (fun _ => kit_tuple) F.tuple bb_tuple (pv 0)) (pe_isA F (fun _ => kit_tuple) F.tuple bb_tuple (pv 1)) (nomark _))))) (pss_one (ps_ret pe_bl)) pss_nil)
      (pss_one (ps_ret (pe_and (pe_cmpR op_eq (pe_callB (k_len (K := K) rfl) (by rfl) F.len bb_len (pa_cons (pv 0) pa_nil)) (pe_callB (k_len (K := K) rfl) (by rfl) F.len bb_len (pa_cons (pv 1) pa_nil)) (nomark _))
        (pe_one (pe_callB (k_all (K := K) rfl rfl) (by rfl) F.all bb_all (pa_cons
          (pe_lc (own := [("_law_x", 2), ("_law_y", 3)]) (g := gTup K 2 (gCons (gName 2) (gCons (gName 3) gNil))) (tt := tYes) rfl scSame.nd (pi_zipA rfl F.zip (pa_cons (pv 0) (pa_cons (pv 1) pa_nil))) (blkOk_by (by kernel_rfl))
            (fun _ _ _ _ _ => pg_tup rfl (pgs_cons (pg_name (i := 2) scSame.nd rfl (Or.inl rfl)) (pgs_cons (pg_name (i := 3) scSame.nd rfl (Or.inl rfl)) pgs_nil))) (fun _ _ _ _ _ => pts_nil)
            (fun _ _ _ _ _ => pcall R hr pass0 (pa_cons (pv 2) (pa_cons (pv 3) pa_nil)))) pa_nil)))))))
      pss_nil)
    (pss_cons (ps_if (pt_val (pe_isA F (fun _ => kit_dict) F.dict bb_dict (pv 1))) (pss_one (ps_ret (pe_and (pe_isA F (fun _ => kit_dict) F.dict bb_dict (pv 0)) (pe_one (pcall R hr pass0 (pa_cons (pe_listItems rfl (pv 0) rfl F.list bb_list) (pa_cons (pe_listItems rfl (pv 1) rfl F.list bb_list) pa_nil))))))) pss_nil)
    (pss_cons (ps_if (pt_val (pe_isA F (fun _ => kit_int) F.int bb_int (pv 1))) (pss_one (ps_ret (pe_and (pe_isA F (fun _ => kit_int) F.int bb_int (pv 0)) (pe_and (pe_cmpR op_eq (pe_isA F (fun _ => kit_bool) F.bool bb_bool (pv 0)) (pe_isA F (fun _ => kit_bool) F.bool bb_bool (pv 1)) (nomark _)) (pe_one (pe_cmpR op_eq (pv 0) (pv 1) (nomark _))))))) pss_nil)
    (pss_one (ps_ret (pe_and (pe_not (pe_is4 F (pv 0))) (pe_one (pe_cmpR op_eq (pv 0) (pv 1) (nomark _)))))))), ?_⟩
  refine q_when (b := isSeq d) (et_B (ev_isSeq (ev_var rfl) hu)) (fun hb H1 e1 => ?_) (fun hb H1 e1 => ?_)
  · have hv1 := hv.ex e1
    have hu1 := hu.ex e1
    refine q_when (b := (!decide (V.bl (isA d "list") = V.bl (isA d "list"))) || (!decide (V.bl (isA d "tuple") = V.bl (isA d "tuple")))) (et_or (et_test (ev_op (ev_isA (ev_var rfl) hv1) (ev_isA (ev_var rfl) hu1) (rv_ne rfl))) fun _ => et_test (ev_op (ev_isA (ev_var rfl) hv1) (ev_isA (ev_var rfl) hu1) (rv_ne rfl))) (fun hb2 => by simp at hb2) (fun hb2 H2 e2 => ?_)
    have hv2 := hv1.ex e2
    have hu2 := hu1.ex e2
    have main : ∀ (a b : Addr) (xs ys : List V) (ds : List PyData), v = .ref a → u = .ref b → ((H2 a = some (.lst xs) ∧ H2 b = some (.lst ys)) ∨ (H2 a = some (.tup xs) ∧ H2 b = some (.tup ys))) → DtAll L H2 xs ds → DtAll L' H2 ys ds → ds.length ≤ 50000 → (∀ z ∈ ds, okS n z = true) →
        tRet (tAndV (tOp rEq (tCB (rLenS K) (tCons (tVar 0) tNil)) (tCB (rLenS K) (tCons (tVar 1) tNil))) (tCB (rAll K) (tCons (tLc (iZipA K (tCons (tVar 0) (tCons (tVar 1) tNil))) (gTup K 2 (gCons (gName 2) (gCons (gName 3) gNil))) tYes (tCall (spSame n) [] E0 (tCons (tVar 2) (tCons (tVar 3) tNil))) [2, 3]) tNil))) { nx := fun _ H' => Q .non H', rt := Q } [some v, some u, none, none] H2 := by
      intro a b xs ys ds ea eb hh hxs hys hlen hall
      subst ea eb
      have l1 := hxs.len
      have l2 := hys.len
      have sa : Sq H2 a xs := hh.elim (fun z => .inl z.1) fun z => .inr z.1
      have sb : Sq H2 b ys := hh.elim (fun z => .inl z.2) fun z => .inr z.2
      refine s_ret (v := .bl true) (ev_is (ev_andV (ev_is (ev_op (ev_lenS (ev_var rfl) sa) (ev_lenS (ev_var rfl) sb) (rv_eq rfl)) (v := .bl (decide (V.int (xs.length : Int) = V.int (ys.length : Int)))) (w := .bl true) ?_) fun _ => ev_is (ev_all (bs := ds.map fun _ => true) (el_zip (ev_var rfl) (ev_var rfl) hh (by omega) (by omega) (by rw [List.length_map, List.length_map]; omega) (fun _ _ => rfl) fun i x y z H3 e3 hx hy hz => ?_)) (v := .bl ((ds.map fun _ => true).all id)) (w := .bl true) ?_) rfl) fun H3 e3 => q H3 ((e1.trans e2).trans e3)
      · rw [l1, l2]
        simp
      · obtain ⟨d1, hd1, hd2⟩ := hxs.get hx
        obtain ⟨d2, hd3, hd4⟩ := hys.get hy
        rw [hd1] at hd3
        have := Option.some.inj hd3
        subst this
        rw [List.getElem?_map, List.getElem?_map, hd1] at hz
        have ez : V.bl true = z := Option.some.inj hz
        subst ez
        exact ev_call (vs := [x, y]) (ea_cons (ev_var rfl) (ea_cons (ev_var rfl) ea_nil)) fun H4 e4 Q2 q2 E2 => ⟨x, y, L, L', d1, rfl, hd2.ex (e3.trans e4), hd4.ex (e3.trans e4), hall d1 (List.mem_of_getElem? hd1), q2⟩
      · rw [rep_all]
    cases d with
    | list ds =>
      cases hv2 with
      | lst n1 h1 a1 =>
        cases hu2 with
        | lst n2 h2 a2 =>
          rw [okS, Bool.and_eq_true] at hok
          exact main _ _ _ _ ds rfl rfl (.inl ⟨h1, h2⟩) a1 a2 (of_decide_eq_true hok.1) (List.all_eq_true.mp hok.2)
    | tuple ds =>
      cases hv2 with
      | tup n1 h1 a1 =>
        cases hu2 with
        | tup n2 h2 a2 =>
          rw [okS, Bool.and_eq_true] at hok
          exact main _ _ _ _ ds rfl rfl (.inr ⟨h1, h2⟩) a1 a2 (of_decide_eq_true hok.1) (List.all_eq_true.mp hok.2)
    | none => exact absurd hb (by show ¬ (isAn "NoneType" "list" || isAn "NoneType" "tuple") = true; decide)
    | bool b => exact absurd hb (by show ¬ (isAn "bool" "list" || isAn "bool" "tuple") = true; decide)
    | int b => exact absurd hb (by show ¬ (isAn "int" "list" || isAn "int" "tuple") = true; decide)
    | str b => exact absurd hb (by show ¬ (isAn "str" "list" || isAn "str" "tuple") = true; decide)
    | dict b => exact absurd hb (by show ¬ (isAn "dict" "list" || isAn "dict" "tuple") = true; decide)
  · have hv1 := hv.ex e1
    have hu1 := hu.ex e1
    refine q_when (b := isA d "dict") (et_B (ev_isA (ev_var rfl) hu1)) (fun hb2 H2 e2 => ?_) (fun hb2 H2 e2 => ?_)
    · have hv2 := hv1.ex e2
      have hu2 := hu1.ex e2
      have e12 := e1.trans e2
      cases d with
      | dict kvs =>
        cases hv2 with
        | emp n1 h1 =>
          cases hu2 with
          | emp n2 h2 =>
            have hn : 1 ≤ n := by
              rw [okS] at hok
              exact of_decide_eq_true hok
            refine s_ret (v := .bl true) (ev_is (ev_andV (ev_isA (d := .dict []) (ev_var rfl) (.emp n1 h1)) fun _ => ?_) (v := .bl (isA (.dict []) "dict" && true)) (w := .bl true) rfl) fun H3 e3 => q H3 (e12.trans e3)
            intro H3 e3 Q3 q3
            refine el_items0 (ev_var rfl) (e3 _ _ h1) H3 (Ex.refl H3) _ fun p H4 hp e4 h4 => el_items0 (ev_var rfl) ((e3.trans e4) _ _ h2) H4 (Ex.refl H4) _ fun p2 H5 hp2 e5 h5 => ?_
            refine ⟨.ref p, .ref p2, fun _ => False, fun _ => False, .list [], rfl, .lst (fun z => z) (e5 _ _ h4) .nil, .lst (fun z => z) h5 .nil, ?_, fun H6 e6 => q3 H6 ((e4.trans e5).trans e6)⟩
            obtain ⟨m, rfl⟩ : ∃ m, n = m + 1 := ⟨n - 1, by omega⟩
            rw [okS]
            rfl
      | none => exact absurd hb2 (by show ¬ isAn "NoneType" "dict" = true; decide)
      | bool b => exact absurd hb2 (by show ¬ isAn "bool" "dict" = true; decide)
      | int b => exact absurd hb2 (by show ¬ isAn "int" "dict" = true; decide)
      | str b => exact absurd hb2 (by show ¬ isAn "str" "dict" = true; decide)
      | list b => exact absurd hb2 (by show ¬ isAn "list" "dict" = true; decide)
      | tuple b => exact absurd hb2 (by show ¬ isAn "tuple" "dict" = true; decide)
    · refine q_when (b := isA d "int") (et_B (ev_isA (ev_var rfl) (hu1.ex e2))) (fun hb3 H3 e3 => ?_) (fun hb3 H3 e3 => ?_)
      · have hv3 := (hv1.ex e2).ex e3
        have hu3 := (hu1.ex e2).ex e3
        have huv : u = v ∧ scal v u = true := by
          cases d with
          | int i =>
            cases hv
            cases hu
            exact ⟨rfl, rfl⟩
          | bool i =>
            cases hv
            cases hu
            exact ⟨rfl, rfl⟩
          | none => exact absurd hb3 (by show ¬ isAn "NoneType" "int" = true; decide)
          | dict b => exact absurd hb3 (by show ¬ isAn "dict" "int" = true; decide)
          | str b => exact absurd hb3 (by show ¬ isAn "str" "int" = true; decide)
          | list b => exact absurd hb3 (by show ¬ isAn "list" "int" = true; decide)
          | tuple b => exact absurd hb3 (by show ¬ isAn "tuple" "int" = true; decide)
        obtain ⟨rfl, hsc⟩ := huv
        refine s_ret (v := .bl true) (ev_is (ev_andV (ev_isA (ev_var rfl) hv3) fun _ => ev_andV (ev_op (ev_isA (ev_var rfl) hv3) (ev_isA (ev_var rfl) hu3) (rv_eq rfl)) fun _ => ev_op (ev_var rfl) (ev_var rfl) (rv_eq hsc)) ?_) fun H4 e4 => q H4 (((e1.trans e2).trans e3).trans e4)
        rw [hb3]
        simp
      · have hv3 := (hv1.ex e2).ex e3
        have huv : u = v ∧ scal v u = true ∧ is4 d = false := by
          cases d with
          | none =>
            cases hv
            cases hu
            exact ⟨rfl, rfl, by show (isAn "NoneType" "int" || (isAn "NoneType" "list" || (isAn "NoneType" "tuple" || isAn "NoneType" "dict"))) = false; decide⟩
          | str i =>
            cases hv
            cases hu
            exact ⟨rfl, rfl, by show (isAn "str" "int" || (isAn "str" "list" || (isAn "str" "tuple" || isAn "str" "dict"))) = false; decide⟩
          | int b => exact absurd hb3 (by show ¬ isAn "int" "int" = false; decide)
          | bool b => exact absurd hb3 (by show ¬ isAn "bool" "int" = false; decide)
          | dict b => exact absurd hb2 (by show ¬ isAn "dict" "dict" = false; decide)
          | list b => exact absurd hb (by show ¬ (isAn "list" "list" || isAn "list" "tuple") = false; decide)
          | tuple b => exact absurd hb (by show ¬ (isAn "tuple" "list" || isAn "tuple" "tuple") = false; decide)
        obtain ⟨rfl, hsc, h4⟩ := huv
        refine s_ret (v := .bl true) (ev_is (ev_andV (ev_notV (ev_is4 (ev_var rfl) hv3)) fun _ => ev_op (ev_var rfl) (ev_var rfl) (rv_eq hsc)) ?_) fun H4 e4 => q H4 (((e1.trans e2).trans e3).trans e4)
        rw [h4]
        simp
theorem ok_same0 (D : Df K mg "_law_same" sSame) : Pr P w K mg base CX0 1 "_law_same" ["_law_found", "_law_due"] (spSame 0) :=
  Pr.of0 D scSame (fun _ _ _ _ _ _ us hl => match us, hl with | [_, _], _ => rfl) (fun vs H Q E h => len_same h) fun cdv A outer s H vs Q E hr h => by
    obtain ⟨v, u, L, L', d, _, _, _, z, _⟩ := h
    rw [okS] at z
    cases z
theorem ok_same (D : Df K mg "_law_same" sSame) (F : Free mg) : ∀ n, Pr P w K mg base CX0 (n + 1) "_law_same" ["_law_found", "_law_due"] (spSame n)
  | 0 => ok_same0 D
  | n + 1 => ok_same_step D F (ok_same D F n)
end
end Pw
set_option Elab.async false
set_option linter.all false
set_option maxRecDepth 100000
namespace Pw
open PySem PySem.Spec PyProof.Rows L2 Evl
/-! ## what is never reached -/
theorem ps_never {X : Cx} {st : Stmt} : PS X st (fun _ _ _ => False) := ⟨fun _ _ _ _ _ _ h => h.elim⟩
theorem pss_never {X : Cx} {sts : List Stmt} : PSs X sts (fun _ _ _ => False) := ⟨fun _ _ _ _ _ _ h => h.elim⟩
/-! ## a comprehension whose items change the stream -/
theorem lc_wordB {σ : L2.St} {te : TE} {vs : List Nat} {L : Addr → Prop} {J : It} {G : Hp → Prop} {Y : Nat → Hp → V → Hp → Prop} {n : Nat} {g : TG} {H1 : Hp} {D : Addr} {Qd : Hp → Prop} (w : Walk J n G Y) (hD : H1 D = none) (hLD : ¬ L D) (hG : ∀ H', But L H1 H' → G H') (hz : n ≤ 50000) (R : Nat → V → Hp → Prop) (I : Nat → Hp → Prop)
    (hI0 : I 0 H1) (hIm : ∀ i H' o, But L H1 H' → I i H' → I i (upd H' D o)) (hR : ∀ i y H' H2, R i y H' → (∀ b o, b ≠ D → ¬ L b → H' b = some o → H2 b = some o) → R i y H2)
    (hs : ∀ i x H2 H' ys, i < n → But L H1 H2 → H2 D = some (.lst ys) → I i H2 → Y i H2 x H' → ∀ Q : L2.St → Hp → Prop, (∀ σ2 H3, But L H2 H3 → wipe σ2 vs = wipe σ vs → (∀ Q' : VK, (∀ y H4, But L H3 H4 → R i y H4 → I (i + 1) H4 → Q' y H4) → te σ2 H3 Q') → Q σ2 H3) → g x (wipe σ vs) H' Q)
    (hd : ∀ ys H', But L H1 H' → ys.length = n → H' D = some (.lst ys) → I n H' → (∀ k y, ys[k]? = some y → R k y H') → Qd H') :
    ∃ W : Nat → Nat → Hp → Prop, (∃ m, W 0 m (upd H1 D (.lst []))) ∧ ∀ i m H, W i m H →
      (J.stop i H ∧ Qd H) ∨ (J.go i H ∧ ∃ Nx : Hp → Prop, (∀ H', Nx H' → ∃ m', m' < m ∧ W (i + 1) m' H') ∧ ∀ x H', J.yld i H x H' → g x (wipe σ vs) H' fun σ2 H2 => wipe σ2 vs = wipe σ vs ∧ tYes σ2 H2 fun b H3 =>
        if b = true then te σ2 H3 fun y H4 => ∃ acc, H4 D = some (.lst acc) ∧ acc.length < sizeLine ∧ Nx (upd H4 D (.lst (acc ++ [y]))) else Nx H3) := by
  have muu : ∀ {H' : Hp} {o : HO}, But L H1 H' → But L H1 (upd H' D o) := fun e b u nb hb => by
    rw [upd_ne (ne_of_none hb hD)]
    exact e b u nb hb
  refine lc_it w (Pv := fun i H' => But L H1 H' ∧ I i H' ∧ ∃ ys : List V, ys.length = i ∧ H' D = some (.lst ys) ∧ ∀ k y, ys[k]? = some y → R k y H') ⟨muu But.refl, hIm _ _ _ But.refl hI0, [], rfl, upd_same, fun k y e => by simp at e⟩ (fun i H' _ p => hG H' p.1) ?_ ?_
  · rintro i x H2 H' hi ⟨p1, pI, ys, p2, p3, p4⟩ hy
    refine hs i x H2 H' ys hi p1 p3 pI hy _ fun σ2 H3 e3 hw hev => ⟨hw, ?_⟩
    unfold tYes
    simp only [↓reduceIte]
    refine hev _ fun y H4 e4 r i4 => ⟨ys, e4 _ _ hLD (e3 _ _ hLD p3), sz_lt (by omega), muu ((p1.trans e3).trans e4), hIm _ _ _ ((p1.trans e3).trans e4) i4, ys ++ [y], by rw [List.length_append, p2]; rfl, upd_same, ?_⟩
    have k4 : ∀ {Ha : Hp}, But L Ha H4 → ∀ b o, b ≠ D → ¬ L b → Ha b = some o → upd H4 D (.lst (ys ++ [y])) b = some o := fun e b o hb nb hh => by
      rw [upd_ne hb]
      exact e b o nb hh
    exact ys_snoc (R := fun k z => R k z (upd H4 D (.lst (ys ++ [y])))) p2 (fun k z hz => hR k z _ _ (p4 k z hz) (k4 (e3.trans e4))) (hR i y _ _ r (k4 But.refl))
  · rintro H' ⟨p1, pI, ys, p2, p3, p4⟩
    exact hd ys H' p1 p2 p3 pI p4
/-! ## _law_loose -/
def gv : Nat → PyData → Prop
  | 0, d => ∃ i, d = .int i
  | n + 1, d => ∃ ds, d = .list ds ∧ ds.length ≤ 1000 ∧ ∀ z ∈ ds, gv n z
/-- the same, lists perhaps made tuples -/
def Lo : Nat → PyData → PyData → Prop
  | 0, d, e => d = e
  | n + 1, d, e => ∃ ds es, d = .list ds ∧ (e = .list es ∨ e = .tuple es) ∧ ds.length = es.length ∧ ∀ (k : Nat) z y, ds[k]? = some z → es[k]? = some y → Lo n z y
def Dn : Nat → Nat
  | 0 => 0
  | n + 1 => 1000 * Dn n + 1
def spLoose : Nat → Sp
  | 0 => fun _ _ _ _ => False
  | n + 1 => fun vs H Q _ => ∃ (S C : Addr) (N : Nat) (v : V) (L : Addr → Prop) (d : PyData), vs = [.ref S, v] ∧ Stm H S C N ∧ N + Dn n < 1000000000 ∧ Dt L H v d ∧ L S ∧ L C ∧ gv n d ∧
    ∀ u e H', OffS S C H H' → Stm H' S C (N + Dn n) → Lo n d e → Dt (Old H) H' u e → Q u H'
abbrev sLoose : Stmt := top 34
abbrev nLoose : List Str := ["_law_stream", "_law_thing", "_law_found", "_law_part"]
theorem scLoose : FnScope nLoose ["_law_stream", "_law_thing"] (defScope sLoose) := ⟨rfl, rfl, rfl, by decide +kernel, rfl, by decide +kernel, by decide +kernel⟩
def rTupL (K : PySem.W.Frag) : List V → Hp → VK → Prop := fun xs H Q => ∃ p ys, xs = [.ref p] ∧ SqL K H p ys ∧ ∀ l, H l = none → Q (.ref l) (upd H l (.tup ys))
theorem k_tupL {X : Cx} {K : PySem.W.Frag} (hK : X.K = K) : CallR X (.type "tuple") (rTupL K) := by
  subst hK
  exact CallR.to call_tuple_of fun xs H Q ⟨p, ys, h1, h2, h3⟩ => ⟨p, ys, h1, .inl ⟨h2, h3⟩⟩
theorem len_loose {n : Nat} {vs : List V} {H : Hp} {Q : VK} {E : XK} (h : spLoose n vs H Q E) : vs.length = (["_law_stream", "_law_thing"] : List Str).length := by
  cases n with
  | zero => exact h.elim
  | succ n =>
    obtain ⟨S, C, N, v, L, d, rfl, _⟩ := h
    rfl
theorem q_whenF {D : Ends} {σ : L2.St} {H : Hp} {t : TT} {tu tz : TS} {b : Bool} (h : EvT t σ H b) (hb : b = false) (k : ∀ H1, Ex H H1 → tz D σ H1) : tSeq (tIfS t tu tNext) tz D σ H := q_when h (fun z => by rw [hb] at z; cases z) fun _ => k
section
variable {P : Program} {w : World} {K : PySem.W.Frag} {mg : Str → Option Value} {base : Heap}
theorem ok_loose_step {n k : Nat} (D : Df K mg "_law_loose" sLoose) (F : Free mg) (hk : 1 ≤ k) (R0 : Pr P w K mg base CX0 1 "_law_draw" ["_law_stream", "_law_many"] spDraw) (R : Pr P w K mg base CX0 k "_law_loose" ["_law_stream", "_law_thing"] (spLoose n)) : Pr P w K mg base CX0 (k + 1) "_law_loose" ["_law_stream", "_law_thing"] (spLoose (n + 1)) := by
  refine Pr.of0 D scLoose (fun _ _ _ _ _ _ us hl => match us, hl with | [_, _], _ => rfl) (fun vs H Q E h => len_loose h) fun cdv A outer s H vs Q E hr h => ?_
  obtain ⟨S, C, N, v, L, d, rfl, x, hN, hv, lS, lC, hg, q⟩ := h
  refine ⟨_, pss_cons (ps_if (pt_not (pt_val (pe_isSeq F (pv 1)))) (pss_one (ps_ret (pv 1))) pss_nil)
    (pss_cons (ps_setLc (i := 2) (own := [("_law_part", 3)]) (g := gName 3) (tt := tYes) rfl scLoose.nd rfl rfl rfl (k_seq (K := K) rfl (pv 1)) (blkOk_by (by kernel_rfl)) (fun _ _ _ _ _ => pg_name (i := 3) scLoose.nd rfl (Or.inl rfl)) (fun _ _ _ _ _ => pts_nil)
      (fun _ _ _ _ _ => pcall R hr pass0 (pa_cons (pv 0) (pa_cons (pv 3) pa_nil))))
    (pss_one (ps_ret (pe_ifExp (pt_cmpR op_eq (pcall R0 (hr.mono hk) pass0 (pa_cons (pv 0) (pa_cons pe_int pa_nil))) pe_int (nomark _)) (pv 2) (pe_callTy (k_tupL (K := K) rfl) (by rfl) F.tuple bb_tuple (pa_cons (pv 2) pa_nil)))))), ?_⟩
  cases n with
  | zero =>
    obtain ⟨i, rfl⟩ := hg
    cases hv
    refine q_when (b := !isSeq (.int i)) (et_not (et_B (ev_isSeq (ev_var rfl) (Dt.int (L := L) i)))) (fun hb H1 e1 => ?_) (fun hb => absurd hb (by show ¬ (!(isAn "int" "list" || isAn "int" "tuple")) = false; decide))
    exact s_ret (ev_var rfl) fun H2 e2 => q _ (.int i) H2 (offS_of (e1.trans e2)) (x.ex (e1.trans e2)) rfl (.int i)
  | succ n =>
    obtain ⟨ds, rfl, hlen, hall⟩ := hg
    refine q_whenF (b := !isSeq (.list ds)) (et_not (et_B (ev_isSeq (ev_var rfl) hv))) (by rw [isSeq_list]; rfl) fun H1 e1 => ?_
    have hv1 := hv.ex e1
    cases hv1 with
    | lst na ha hxs =>
      rename_i a xs
      have aS : a ≠ S := fun z => na (by rw [z]; exact lS)
      have aC : a ≠ C := fun z => na (by rw [z]; exact lC)
      have hxl := hxs.len
      refine i_seq (K := K) (a := a) (xs := xs) (ev_var rfl) (.inl ha) fun J G H2 e2 wk hG Dl hD => ?_
      have x2 := (x.ex e1).ex e2
      have e12 := e1.trans e2
      have inS : H2 S ≠ none := by
        obtain ⟨_, _, _, _, _, _, _, _, _, z, _⟩ := x2
        rw [z]
        exact fun z => nomatch z
      have inC : H2 C ≠ none := by
        obtain ⟨_, _, _, _, _, _, _, _, _, _, z⟩ := x2
        rw [z]
        exact fun z => nomatch z
      have DS : Dl ≠ S := fun z => inS (by rw [← z]; exact hD)
      have DC : Dl ≠ C := fun z => inC (by rw [← z]; exact hD)
      refine lc_wordB (L := Str2 S C) wk hD (fun z => z.elim DS DC) (fun H' e' => hG H' fun o z => e' a o (fun z => z.elim aS aC) (e2 a o z)) (by omega)
        (fun k y H' => ∃ z z', ds[k]? = some z ∧ Lo n z z' ∧ Dt (fun b => Old H2 b ∨ b = Dl) H' y z') (fun i H' => Stm H' S C (N + i * Dn n)) (by rw [Nat.zero_mul]; exact x2) ?_ ?_ ?_ ?_
      · rintro i H' o e' ⟨g1, b, m, n2, ns, g2, g3, g4, g5, g6, g7⟩
        exact ⟨g1, b, m, n2, ns, g2, g3, g4, g5, by rw [upd_ne (Ne.symm DS)]; exact g6, by rw [upd_ne (Ne.symm DC)]; exact g7⟩
      · rintro k y H' H3 ⟨z, z', h1, h2, h3⟩ st
        exact ⟨z, z', h1, h2, Dt.but (fun b o nb hb => st b o (fun z => nb (.inr z)) (fun z => nb (.inl (z.elim (fun z => by rw [z]; exact inS) fun z => by rw [z]; exact inC))) hb) _ _ h3⟩
      · rintro i y H3 H' ys hi e3 hDs x3 ⟨rfl, hy⟩ Q1 q1
        refine q1 _ _ But.refl (wipe1 _ _ _) fun Q2 q2 => ?_
        obtain ⟨z, hz1, hz2⟩ := hxs.get hy
        have hz3 : Dt L H' y z := Dt.but (fun b o nb hb => e3 b o (fun z => nb (z.elim (fun z => by rw [z]; exact lS) fun z => by rw [z]; exact lC)) (e2 _ _ hb)) _ _ hz2
        have hzm := List.mem_of_getElem? hz1
        have hil := (List.getElem?_eq_some_iff.mp hz1).1
        have hmul : i * Dn n + Dn n ≤ 1000 * Dn n := by
          have h1 : (i + 1) * Dn n ≤ 1000 * Dn n := Nat.mul_le_mul_right _ (by omega)
          rw [Nat.succ_mul] at h1
          exact h1
        have hDn : Dn (n + 1) = 1000 * Dn n + 1 := rfl
        refine ⟨_, rfl, _, rfl, S, C, N + i * Dn n, y, L, z, rfl, x3, by omega, hz3, lS, lC, hall z hzm, fun u e H4 o4 x4 lo hd => ?_⟩
        refine q2 u H4 o4 ⟨z, e, hz1, lo, hd.sub fun b hb => ?_⟩ (by rw [Nat.succ_mul, ← Nat.add_assoc]; exact x4)
        rcases hb with hb | hb
        · intro hn
          cases hb2 : H2 b with
          | none => exact hb hb2
          | some o =>
            by_cases hs : Str2 S C b
            · obtain ⟨g1, bb, m, n2, ns, g2, g3, g4, g5, g6, g7⟩ := x3
              rcases hs with hs | hs
              · rw [hs, g6] at hn
                cases hn
              · rw [hs, g7] at hn
                cases hn
            · rw [e3 b o hs hb2] at hn
              cases hn
        · intro hn
          rw [hb, hDs] at hn
          cases hn
      · intro ys H' e' hl hDs xI hR
        have hDn : Dn (n + 1) = 1000 * Dn n + 1 := rfl
        have hmul : xs.length * Dn n ≤ 1000 * Dn n := Nat.mul_le_mul_right _ (by omega)
        have xI2 : Stm H' S C (N + 1000 * Dn n) := xI.mono (by omega)
        -- the items, as data
        obtain ⟨es, hes1, hes2, hes3⟩ : ∃ es : List PyData, ds.length = es.length ∧ (∀ (k : Nat) z y, ds[k]? = some z → es[k]? = some y → Lo n z y) ∧ DtAll (fun b => Old H2 b ∨ b = Dl) H' ys es := by
          have hch : ∀ k, k < ys.length → ∃ z', (∀ z, ds[k]? = some z → Lo n z z') ∧ ∀ y, ys[k]? = some y → Dt (fun b => Old H2 b ∨ b = Dl) H' y z' := fun k hk => by
            obtain ⟨z, z', h1, h2, h3⟩ := hR k _ (List.getElem?_eq_getElem hk)
            refine ⟨z', fun z2 hz2 => ?_, fun y hy => ?_⟩
            · rw [h1] at hz2
              rw [← Option.some.inj hz2]
              exact h2
            · rw [List.getElem?_eq_getElem hk] at hy
              rw [← Option.some.inj hy]
              exact h3
          refine ⟨(List.range ys.length).map fun k => if hk : k < ys.length then Classical.choose (hch k hk) else .none, ?_, ?_, ?_⟩
          · rw [List.length_map, List.length_range]
            omega
          · intro k z y hz hy
            have hk : k < ys.length := by
              have := (List.getElem?_eq_some_iff.mp hy).1
              rw [List.length_map, List.length_range] at this
              exact this
            rw [List.getElem?_map, List.getElem?_range hk] at hy
            have e : (if hk : k < ys.length then Classical.choose (hch k hk) else PyData.none) = y := Option.some.inj hy
            rw [dif_pos hk] at e
            rw [← e]
            exact (Classical.choose_spec (hch k hk)).1 z hz
          · refine DtAll.of (by rw [List.length_map, List.length_range]) fun k y z' hy hz' => ?_
            have hk : k < ys.length := (List.getElem?_eq_some_iff.mp hy).1
            rw [List.getElem?_map, List.getElem?_range hk] at hz'
            have e : (if hk : k < ys.length then Classical.choose (hch k hk) else PyData.none) = z' := Option.some.inj hz'
            rw [dif_pos hk] at e
            rw [← e]
            exact (Classical.choose_spec (hch k hk)).2 y hy
        have hold : ∀ b, Old H b → Old H2 b := fun b hb hn => hb (fresh_back e12 hn)
        refine ⟨_, rfl, S, C, N + 1000 * Dn n, 3, rfl, xI2, by omega, by decide, by decide, fun r H3 hr3 o3 x3 => ⟨rfl, _, rfl, ?_⟩⟩
        have oall : OffS S C H H3 := ((offS_of e12).trans e').trans o3
        have hD3 : H3 Dl = some (.lst ys) := o3 _ _ (fun z => z.elim DS DC) hDs
        have hes4 : DtAll (Old H) H3 ys es := DtAll.less (fun b o z hb => .inl (hold b z)) _ _ (DtAll.but (fun b o nb hb => o3 b o (fun z => nb (.inl (z.elim (fun z => by rw [z]; exact inS) fun z => by rw [z]; exact inC))) hb) _ _ hes3)
        have hDO : ¬ Old H Dl := fun z => hold _ z hD
        have x3' : Stm H3 S C (N + Dn (n + 1)) := x3.mono (by omega)
        refine ite2 (fun hb => ?_) (fun hb => ?_)
        · exact ⟨_, rfl, q (.ref Dl) (.list es) H3 oall x3' ⟨ds, es, rfl, .inl rfl, hes1, hes2⟩ (.lst hDO hD3 hes4)⟩
        · refine ⟨_, rfl, Dl, ys, rfl, SqL.of hD3, fun l hl2 => ?_⟩
          have en : Ex H3 (upd H3 l (.tup ys)) := Ex.new hl2
          have hlO : ¬ Old H l := fun z => by
            by_cases hs : Str2 S C l
            · obtain ⟨g1, bb, m, n2, ns, g2, g3, g4, g5, g6, g7⟩ := x3
              rcases hs with hs | hs
              · rw [hs, g6] at hl2
                cases hl2
              · rw [hs, g7] at hl2
                cases hl2
            · cases hh : H l with
              | none => exact z hh
              | some o =>
                rw [oall l o hs hh] at hl2
                cases hl2
          exact q (.ref l) (.tuple es) _ (oall.trans (offS_of en)) (x3'.ex en) ⟨ds, es, rfl, .inr rfl, hes1, hes2⟩ (.tup hlO upd_same (hes4.ex en))
theorem ok_loose0 (D : Df K mg "_law_loose" sLoose) : Pr P w K mg base CX0 1 "_law_loose" ["_law_stream", "_law_thing"] (spLoose 0) :=
  Pr.of0 D scLoose (fun _ _ _ _ _ _ us hl => match us, hl with | [_, _], _ => rfl) (fun vs H Q E h => len_loose h) fun cdv A outer s H vs Q E hr h => h.elim
theorem ok_loose (D : Df K mg "_law_loose" sLoose) (F : Free mg) (R0 : Pr P w K mg base CX0 1 "_law_draw" ["_law_stream", "_law_many"] spDraw) : ∀ n, Pr P w K mg base CX0 (n + 1) "_law_loose" ["_law_stream", "_law_thing"] (spLoose n)
  | 0 => ok_loose0 D
  | n + 1 => ok_loose_step D F (by omega) R0 (ok_loose D F R0 n)
end
end Pw
set_option Elab.async false
set_option linter.all false
set_option maxRecDepth 100000
namespace Pw
open PySem PySem.Spec PyProof.Rows L2 Evl
/-! ## _law_a_spoiled -/
def isAt : V → Bool
  | .int _ => true
  | .str _ => true
  | _ => false
def atD : V → PyData
  | .int i => .int i
  | .str x => .str x
  | _ => .none
theorem at_dt {H : Hp} : ∀ {xs : List V}, (∀ x ∈ xs, isAt x = true) → DtAll (fun _ => False) H xs (xs.map atD)
  | [], _ => .nil
  | x :: xs, h => by
    refine .cons ?_ (at_dt fun y hy => h y (List.mem_cons_of_mem _ hy))
    have hx := h x (List.mem_cons_self ..)
    cases x with
    | int i => exact .int i
    | str s => exact .str s
    | _ => cases hx
/-- rows of ints or texts -/
def RowAt (H : Hp) (b : Addr) : Prop := ∃ xs, H b = some (.lst xs) ∧ (∀ x ∈ xs, isAt x = true) ∧ xs.length ≤ 10000
theorem rows_dt {H : Hp} : ∀ {bs : List Addr}, (∀ b ∈ bs, RowAt H b) → ∃ ds, DtAll (fun _ => False) H (bs.map V.ref) ds
  | [], _ => ⟨[], .nil⟩
  | b :: bs, h => by
    obtain ⟨xs, h1, h2, _⟩ := h b (List.mem_cons_self ..)
    obtain ⟨ds, hd⟩ := rows_dt fun y hy => h y (List.mem_cons_of_mem _ hy)
    exact ⟨.list (xs.map atD) :: ds, .cons (.lst (fun z => z) h1 (at_dt h2)) hd⟩
def late : V := .str "late9"
def spSp : Nat → Sp
  | 0 => fun _ _ _ _ => False
  | 1 => fun vs H Q _ => ∃ v, vs = [v] ∧ isAt v = true ∧ ∀ H', Ex H H' → Q .non H'
  | 2 => fun vs H Q _ => ∃ b xs, vs = [.ref b] ∧ H b = some (.lst xs) ∧ (∀ x ∈ xs, isAt x = true) ∧ xs.length ≤ 50000 ∧ ∀ H', Off b H H' → H' b = some (.lst (xs ++ [late])) → Q .non H'
  | _ => fun vs H Q _ => ∃ (a : Addr) (bs : List Addr), vs = [.ref a] ∧ H a = some (.lst (bs.map V.ref)) ∧ bs.length ≤ 10000 ∧ (∀ b ∈ bs, RowAt H b) ∧
      ∀ H', But (fun z => z = a ∨ z ∈ bs) H H' → H' a = some (.lst (bs.map V.ref ++ [late])) → (∀ b ∈ bs, ∀ xs, H b = some (.lst xs) → ∃ k, k ≤ bs.length ∧ H' b = some (.lst (xs ++ List.replicate k late))) → Q .non H'
theorem len_sp {n : Nat} {vs : List V} {H : Hp} {Q : VK} {E : XK} (h : spSp n vs H Q E) : vs.length = (["_law_thing"] : List Str).length := by
  match n, h with
  | 0, h => exact h.elim
  | 1, h =>
    obtain ⟨v, rfl, _⟩ := h
    rfl
  | 2, h =>
    obtain ⟨b, xs, rfl, _⟩ := h
    rfl
  | n + 3, h =>
    obtain ⟨a, bs, rfl, _⟩ := h
    rfl
abbrev sSpoil : Stmt := top 24
abbrev nSpoil : List Str := ["_law_thing", "_law_part", "_law_key"]
theorem scSpoil : FnScope nSpoil ["_law_thing"] (defScope sSpoil) := ⟨rfl, rfl, rfl, by decide +kernel, rfl, by decide +kernel, by decide +kernel⟩
def tSpoil (K : PySem.W.Frag) (sp : Sp) : TS := tSeq (tIfS (tB (tCB rIsSeq (tCons (tVar 0) (tCons (fun σ H Q => ∀ p, H p = none → Q (.ref p) (upd H p (.tup [.ty "list", .ty "tuple"]))) tNil)))) (tFor (iSq K 0) (gName 1) (tDrop (tCall sp [] E0 (tCons (tVar 1) tNil)))) tNext)
  (tSeq (tIfS (tB (tCB (rIsA "dict") (tCons (tVar 0) (tCons (tC (.ty "dict")) tNil)))) (fun _ _ _ => False) tNext)
    (tIfS (tB (tCB (rIsA "list") (tCons (tVar 0) (tCons (tC (.ty "list")) tNil)))) (tDrop (tBM K "list" rAppend (tVar 0) (tCons (tC late) tNil))) tNext))
section
variable {P : Program} {w : World} {K : PySem.W.Frag} {mg : Str → Option Value} {base : Heap}
theorem ok_spoil_step {k : Nat} {sp sp' : Sp} (D : Df K mg "_law_a_spoiled" sSpoil) (F : Free mg) (R : Pr P w K mg base CX0 k "_law_a_spoiled" ["_law_thing"] sp) (hl : ∀ vs H Q E, sp' vs H Q E → vs.length = (["_law_thing"] : List Str).length)
    (hread : ∀ vs H Q E, sp' vs H Q E → tSpoil K sp { nx := fun _ H' => Q .non H', rt := Q } (start nSpoil vs) H) : Pr P w K mg base CX0 (k + 1) "_law_a_spoiled" ["_law_thing"] sp' := by
  refine Pr.of0 D scSpoil (fun _ _ _ _ _ _ us hl => match us, hl with | [_], _ => rfl) hl fun cdv A outer s H vs Q E hr h => ⟨tSpoil K sp, ?_, hread vs H Q E h⟩
  exact pss_cons (ps_if (pt_val (pe_isSeq F (pv 0))) (pss_one (ps_for PassesOwn.never rfl (k_seq (K := K) rfl (pv 0)) (pg_name (i := 1) scSpoil.nd rfl (.inl rfl)) (pss_one (ps_expr (pcall R hr pass0 (pa_cons (pv 1) pa_nil)))))) pss_nil)
    (pss_cons (ps_if (pt_val (pe_isA F (fun _ => kit_dict) F.dict bb_dict (pv 0))) pss_never pss_nil)
    (pss_one (ps_if (pt_val (pe_isA F (fun _ => kit_list) F.list bb_list (pv 0))) (pss_one (ps_expr (pe_bm PySem.F.plainAttrs_list PySem.F.slot_list_append PySem.F.type_list_append mt_append (pv 0) (pa_cons pe_str pa_nil)))) pss_nil)))
theorem ok_spoil0 (D : Df K mg "_law_a_spoiled" sSpoil) : Pr P w K mg base CX0 1 "_law_a_spoiled" ["_law_thing"] (spSp 0) :=
  Pr.of0 D scSpoil (fun _ _ _ _ _ _ us hl => match us, hl with | [_], _ => rfl) (fun vs H Q E h => len_sp h) fun cdv A outer s H vs Q E hr h => h.elim
theorem ok_spoil1 (D : Df K mg "_law_a_spoiled" sSpoil) (F : Free mg) : Pr P w K mg base CX0 2 "_law_a_spoiled" ["_law_thing"] (spSp 1) := by
  refine ok_spoil_step D F (ok_spoil0 D) (fun vs H Q E h => len_sp h) fun vs H Q E h => ?_
  obtain ⟨v, rfl, hv, q⟩ := h
  obtain ⟨d, hd, h1, h2, h3⟩ : ∃ d, (∀ H, Dt (fun _ => False) H v d) ∧ isSeq d = false ∧ isA d "dict" = false ∧ isA d "list" = false := by
    cases v with
    | int i => exact ⟨.int i, fun H => .int i, by show (isAn "int" "list" || isAn "int" "tuple") = false; decide, by show isAn "int" "dict" = false; decide, by show isAn "int" "list" = false; decide⟩
    | str i => exact ⟨.str i, fun H => .str i, by show (isAn "str" "list" || isAn "str" "tuple") = false; decide, by show isAn "str" "dict" = false; decide, by show isAn "str" "list" = false; decide⟩
    | _ => cases hv
  refine q_whenF (b := isSeq d) (et_B (ev_isSeq (ev_var rfl) (hd _))) h1 fun H1 e1 => ?_
  refine q_whenF (b := isA d "dict") (et_B (ev_isA (ev_var rfl) (hd _))) h2 fun H2 e2 => ?_
  exact s_when (b := isA d "list") (et_B (ev_isA (ev_var rfl) (hd _))) (fun z => by rw [h3] at z; cases z) fun _ H3 e3 => q H3 ((e1.trans e2).trans e3)
theorem ok_spoil2 (D : Df K mg "_law_a_spoiled" sSpoil) (F : Free mg) : Pr P w K mg base CX0 3 "_law_a_spoiled" ["_law_thing"] (spSp 2) := by
  refine ok_spoil_step D F (ok_spoil1 D F) (fun vs H Q E h => len_sp h) fun vs H Q E h => ?_
  obtain ⟨b, xs, rfl, hb, hx, hlen, q⟩ := h
  have hd : ∀ {H'}, Ex H H' → Dt (fun _ => False) H' (.ref b) (.list (xs.map atD)) := fun e => .lst (fun z => z) (e _ _ hb) (at_dt hx)
  have rest : ∀ σ' H', σ'[0]? = some (some (.ref b)) → Ex H H' → tSeq (tIfS (tB (tCB (rIsA "dict") (tCons (tVar 0) (tCons (tC (.ty "dict")) tNil)))) (fun _ _ _ => False) tNext)
    (tIfS (tB (tCB (rIsA "list") (tCons (tVar 0) (tCons (tC (.ty "list")) tNil)))) (tDrop (tBM K "list" rAppend (tVar 0) (tCons (tC late) tNil))) tNext) { nx := fun _ H' => Q .non H', rt := Q } σ' H' := fun σ' H' hσ e => by
    refine q_whenF (b := isA (.list (xs.map atD)) "dict") (et_B (ev_isA (ev_var hσ) (hd e))) (by show isAn "list" "dict" = false; decide) fun H2 e2 => ?_
    refine s_when (b := isA (.list (xs.map atD)) "list") (et_B (ev_isA (ev_var hσ) (hd (e.trans e2)))) (fun z H3 e3 => ?_) fun z => by rw [show isA (.list (xs.map atD)) "list" = true by show isAn "list" "list" = true; decide] at z; cases z
    have e3' := (e.trans e2).trans e3
    exact s_app (e3' _ _ hb) (ev_var hσ) ev_c (by omega) fun H4 e4 => q _ (Off.put (off_of (e3'.trans e4))) upd_same
  refine q_when (b := isSeq (.list (xs.map atD))) (et_B (ev_isSeq (ev_var rfl) (hd (Ex.refl H)))) (fun _ H1 e1 => ?_) fun z => by rw [isSeq_list] at z; cases z
  refine .inl ⟨_, rfl, b, rfl, ⟨xs, SqL.of (e1 _ _ hb)⟩, for_list (xs := xs) (fun i σ' H' => (∃ x1, σ' = [some (.ref b), x1, none]) ∧ Ex H H') ⟨⟨_, rfl⟩, e1⟩ (fun i σ' H' _ hP => SqL.of (hP.2 _ _ hb)) ?_ ?_⟩
  · rintro i x σ' H' hi ⟨⟨x1, rfl⟩, e2⟩
    exact s_dropCall (vs := [x]) (ea_cons (ev_var rfl) ea_nil) fun H2 e3 => ⟨x, rfl, hx x (List.mem_of_getElem? hi), fun H3 e4 => ⟨⟨_, rfl⟩, (e2.trans e3).trans e4⟩⟩
  · rintro σ' H' ⟨⟨x1, rfl⟩, e2⟩
    exact rest _ _ rfl e2
theorem ok_spoil3 (D : Df K mg "_law_a_spoiled" sSpoil) (F : Free mg) : Pr P w K mg base CX0 4 "_law_a_spoiled" ["_law_thing"] (spSp 3) := by
  refine ok_spoil_step D F (ok_spoil2 D F) (fun vs H Q E h => len_sp h) fun vs H Q E h => ?_
  obtain ⟨a, bs, rfl, ha, hlen, hbs, q⟩ := h
  obtain ⟨ds, hds⟩ := rows_dt hbs
  have hd : Dt (fun _ => False) H (.ref a) (.list ds) := .lst (fun z => z) ha hds
  have nab : a ∉ bs := fun z => by
    obtain ⟨xs, h1, h2, _⟩ := hbs a z
    rw [h1] at ha
    injection ha with ha
    injection ha with ha
    have := h2 (.ref a) (by rw [ha]; exact List.mem_map_of_mem z)
    cases this
  refine q_when (b := isSeq (.list ds)) (et_B (ev_isSeq (ev_var rfl) hd)) (fun _ H1 e1 => ?_) fun z => by rw [isSeq_list] at z; cases z
  refine .inl ⟨_, rfl, a, rfl, ⟨_, SqL.of (e1 _ _ ha)⟩, for_list (xs := bs.map V.ref) (fun i σ' H' => (∃ x1, σ' = [some (.ref a), x1, none]) ∧ But (fun z => z ∈ bs) H H' ∧ ∀ b ∈ bs, ∀ xs, H b = some (.lst xs) → ∃ k, k ≤ i ∧ H' b = some (.lst (xs ++ List.replicate k late)))
    ⟨⟨_, rfl⟩, But.of e1, fun b hb xs hx => ⟨0, Nat.le_refl _, by rw [List.replicate_zero, List.append_nil]; exact e1 _ _ hx⟩⟩ (fun i σ' H' _ hP => SqL.of (hP.2.1 _ _ nab ha)) ?_ ?_⟩
  · rintro i x σ' H' hi ⟨⟨x1, rfl⟩, o2, hk⟩
    rw [List.getElem?_map] at hi
    cases hbi : bs[i]? with
    | none =>
      rw [hbi] at hi
      cases hi
    | some b =>
      rw [hbi] at hi
      have ex := Option.some.inj hi
      subst ex
      have hm := List.mem_of_getElem? hbi
      have hil := (List.getElem?_eq_some_iff.mp hbi).1
      obtain ⟨xs, h1, h2, h3⟩ := hbs b hm
      obtain ⟨k, hk1, hk2⟩ := hk b hm xs h1
      refine s_dropCall (vs := [.ref b]) (ea_cons (ev_var rfl) ea_nil) fun H2 e3 => ⟨b, _, rfl, e3 _ _ hk2, fun x hx => ?_, ?_, fun H3 o3 h4 => ⟨⟨_, rfl⟩, ?_, ?_⟩⟩
      · rcases List.mem_append.mp hx with hx | hx
        · exact h2 x hx
        · rw [(List.mem_replicate.mp hx).2]
          rfl
      · rw [List.length_append, List.length_replicate]
        omega
      · exact (o2.trans (But.of e3)).trans (o3.mono fun z hz => by rw [hz]; exact hm)
      · intro b2 hb2 xs2 hx2
        by_cases e : b2 = b
        · subst e
          rw [h1] at hx2
          injection hx2 with hx2
          injection hx2 with hx2
          subst hx2
          refine ⟨k + 1, by omega, ?_⟩
          rw [h4, List.append_assoc]
          congr 2
          rw [List.replicate_succ']
        · obtain ⟨k2, g1, g2⟩ := hk b2 hb2 xs2 hx2
          exact ⟨k2, by omega, o3 _ _ e (e3 _ _ g2)⟩
  · rintro σ' H' ⟨⟨x1, rfl⟩, o2, hk⟩
    have hbs2 : ∀ b ∈ bs, ∃ xs, H' b = some (.lst xs) ∧ (∀ x ∈ xs, isAt x = true) := fun b hb => by
      obtain ⟨xs, h1, h2, h3⟩ := hbs b hb
      obtain ⟨k, g1, g2⟩ := hk b hb xs h1
      refine ⟨_, g2, fun x hx => ?_⟩
      rcases List.mem_append.mp hx with hx | hx
      · exact h2 x hx
      · rw [(List.mem_replicate.mp hx).2]
        rfl
    have rd : ∀ cs : List Addr, (∀ c ∈ cs, c ∈ bs) → ∃ ds, DtAll (fun _ => False) H' (cs.map V.ref) ds := by
      intro cs
      induction cs with
      | nil => exact fun _ => ⟨[], .nil⟩
      | cons c cs ih =>
        intro hc
        obtain ⟨xs, g1, g2⟩ := hbs2 c (hc c (List.mem_cons_self ..))
        obtain ⟨ds, hd⟩ := ih fun y hy => hc y (List.mem_cons_of_mem _ hy)
        exact ⟨_, .cons (.lst (fun z => z) g1 (at_dt g2)) hd⟩
    obtain ⟨ds2, hds2⟩ := rd bs fun _ h => h
    have ha2 := o2 _ _ nab ha
    have hd2 : Dt (fun _ => False) H' (.ref a) (.list ds2) := .lst (fun z => z) ha2 hds2
    have hlen2 : (bs.map V.ref).length = bs.length := List.length_map ..
    dsimp only
    refine q_whenF (b := isA (.list ds2) "dict") (et_B (ev_isA (ev_var rfl) hd2)) (by show isAn "list" "dict" = false; decide) fun H2 e2 => ?_
    refine s_when (b := isA (.list ds2) "list") (et_B (ev_isA (ev_var rfl) (hd2.ex e2))) (fun z H3 e3 => ?_) fun z => by rw [show isA (.list ds2) "list" = true by show isAn "list" "list" = true; decide] at z; cases z
    refine s_app (e3 _ _ (e2 _ _ ha2)) (ev_var rfl) ev_c (by omega) fun H4 e4 => ?_
    have e24 := (e2.trans e3).trans e4
    refine q _ ?_ upd_same ?_
    · exact ((o2.mono fun z hz => .inr hz).trans (But.of e24)).trans (But.at_ (.inl rfl))
    · intro b hb xs hx
      obtain ⟨k, g1, g2⟩ := hk b hb xs hx
      refine ⟨k, by omega, ?_⟩
      rw [upd_ne (fun z => nab (by rw [← z]; exact hb))]
      exact e24 _ _ g2
end
end Pw
set_option Elab.async false
set_option linter.all false
set_option maxRecDepth 100000
namespace Pw
open PySem PySem.Spec PyProof.Rows L2 Evl
/-! ## _law_a_picture -/
theorem But.fresh {L : Addr → Prop} {H H' : Hp} {D : Addr} {o : HO} (e : But L H H') (hD : H D = none) : But L H (upd H' D o) := fun b u nb hb => by
  rw [upd_ne (ne_of_none hb hD)]
  exact e b u nb hb
theorem But.back {L : Addr → Prop} {H H' : Hp} {D : Addr} (e : But L H H') (nL : ¬ L D) (h : H' D = none) : H D = none := by
  cases h1 : H D with
  | none => rfl
  | some o =>
    rw [e D o nL h1] at h
    cases h
theorem Stm.in1 {H : Hp} {S C : Addr} {N : Nat} (x : Stm H S C N) : H S ≠ none := by
  obtain ⟨_, _, _, _, _, _, _, _, _, z, _⟩ := x
  rw [z]
  exact fun z => nomatch z
theorem Stm.in2 {H : Hp} {S C : Addr} {N : Nat} (x : Stm H S C N) : H C ≠ none := by
  obtain ⟨_, _, _, _, _, _, _, _, _, _, z⟩ := x
  rw [z]
  exact fun z => nomatch z
theorem Stm.str2 {H : Hp} {S C a : Addr} {N : Nat} (x : Stm H S C N) (h : H a = none) : ¬ Str2 S C a := fun z => z.elim (fun e => x.in1 (by rw [← e]; exact h)) fun e => x.in2 (by rw [← e]; exact h)
theorem Stm.fresh {H : Hp} {S C D : Addr} {N : Nat} {o : HO} (x : Stm H S C N) (h1 : D ≠ S) (h2 : D ≠ C) : Stm (upd H D o) S C N := by
  obtain ⟨g1, b, m, n2, ns, g2, g3, g4, g5, g6, g7⟩ := x
  exact ⟨g1, b, m, n2, ns, g2, g3, g4, g5, by rw [upd_ne (Ne.symm h1)]; exact g6, by rw [upd_ne (Ne.symm h2)]; exact g7⟩
/-- fresh behind draws is fresh before -/
theorem OffS.back {H H' : Hp} {S C a : Addr} {N N' : Nat} (o : OffS S C H H') (x' : Stm H' S C N') (h : H' a = none) : H a = none := But.back o (x'.str2 h) h
def cutI (ns : List Int) (lo hi : Option Int) : List Int := (ns.drop (HT.sIx ns.length 0 lo)).take (HT.sIx ns.length ns.length hi - HT.sIx ns.length 0 lo)
theorem cutV_ints (ns : List Int) (lo hi : Option Int) : cutV (ns.map V.int) lo hi = (cutI ns lo hi).map V.int := by
  unfold cutV cutI
  rw [List.length_map, List.map_take, List.map_drop]
theorem cutI_mem {ns : List Int} {lo hi : Option Int} {i : Int} (h : i ∈ cutI ns lo hi) : i ∈ ns := List.mem_of_mem_drop (List.mem_of_mem_take h)
theorem cutI_len (ns : List Int) (lo hi : Option Int) : (cutI ns lo hi).length ≤ ns.length := by
  unfold cutI
  rw [List.length_take, List.length_drop]
  omega
theorem q_asgX {i : Nat} {te : TE} {tz : TS} {D : Ends} {σ : L2.St} {H : Hp} (h : te σ H fun v H1 => tz D (σ.set i (some v)) H1) : tSeq (tAsg te (gName i)) tz D σ H := h
theorem q_asgAndV {a : Bool} {i : Nat} {ta tb : TE} {tz : TS} {D : Ends} {σ : L2.St} {H : Hp} (h : Ev ta σ H (.bl a)) (k1 : a = true → ∀ H1, Ex H H1 → tb σ H1 fun v H2 => tz D (σ.set i (some v)) H2) (k2 : a = false → ∀ H1, Ex H H1 → tz D (σ.set i (some (.bl false))) H1) :
    tSeq (tAsg (tAndV ta tb) (gName i)) tz D σ H := h H (Ex.refl H) _ fun H1 e1 => ⟨a, rfl, by
  cases a with
  | true => exact k1 rfl H1 e1
  | false => exact k2 rfl H1 e1⟩
/-- shades of nine -/
def In9 (ns : List Int) : Prop := ∀ i ∈ ns, 0 ≤ i ∧ i < 9
def spPicture : Sp := fun vs H Q _ => ∃ (S C : Addr) (N rows cols : Nat), vs = [.ref S, .int (rows : Int), .int (cols : Int), .int 9] ∧ Stm H S C N ∧ N + 2000 < 1000000000 ∧ rows ≤ 20 ∧ cols ≤ 20 ∧
  ∀ (F : Addr) (vs : List V) (rs : List (List Int)) H', OffS S C H H' → Stm H' S C (N + 1000) → H F = none → H' F = some (.lst vs) → DtAll (Old H) H' vs (rs.map rowD) → rs.length = rows → (∀ r ∈ rs, r.length = cols ∧ In9 r) → Q (.ref F) H'
abbrev sPicture : Stmt := top 23
abbrev nPicture : List Str := ["_law_stream", "_law_rows", "_law_columns", "_law_shades", "_law_found", "_law_row", "_law_line", "_law_column", "_law_near", "_law_is_flat"]
theorem scPicture : FnScope nPicture ["_law_stream", "_law_rows", "_law_columns", "_law_shades"] (defScope sPicture) := ⟨rfl, rfl, rfl, by decide +kernel, rfl, by decide +kernel, by decide +kernel⟩
section
variable {P : Program} {w : World} {K : PySem.W.Frag} {mg : Str → Option Value} {base : Heap}
theorem ok_picture (D : Df K mg "_law_a_picture" sPicture) (F : Free mg) (R1 : Pr P w K mg base CX0 1 "_law_draw" ["_law_stream", "_law_many"] spDraw) (R2 : Pr P w K mg base CX0 2 "_law_pick" ["_law_stream", "_law_some"] (spPick K)) :
    Pr P w K mg base CX0 3 "_law_a_picture" ["_law_stream", "_law_rows", "_law_columns", "_law_shades"] spPicture := by
  refine Pr.of0 D scPicture (fun _ _ _ _ _ _ us hl => match us, hl with | [_, _, _, _], _ => rfl) (fun vs H Q E h => ?_) fun cdv A outer s H vs Q E hr h => ?_
  · obtain ⟨S, C, N, rows, cols, rfl, _⟩ := h
    rfl
  · obtain ⟨S, C, N, rows, cols, rfl, x, hN, hrw, hcl, q⟩ := h
    refine ⟨_, pss_cons (ps_set (i := 4) scPicture.nd rfl (.inl rfl) (pe_lst pa_nil))
      (pss_cons (ps_for PassesOwn.never rfl (pi_range1 rfl F.range (pa_cons (pv 1) pa_nil)) (pg_name (i := 5) scPicture.nd rfl (.inl rfl))
        (pss_cons (ps_set (i := 6) scPicture.nd rfl (.inl rfl) (pe_lst pa_nil))
        (pss_cons (ps_for PassesOwn.never rfl (pi_range1 rfl F.range (pa_cons (pv 2) pa_nil)) (pg_name (i := 7) scPicture.nd rfl (.inl rfl))
          (pss_cons (ps_set (i := 8) scPicture.nd rfl (.inl rfl) (pe_op op_cat (pe_slice sl_list (pv 6) (po_some (pe_un un_neg pe_int)) po_none)
            (pe_ifExp (pt_cmpR (op_neD hr.units) (pv 4) (pe_lst pa_nil) (nomark _)) (pe_slice sl_list (pe_ix ix_list (pv 4) (pe_un un_neg pe_int) (fun _ _ => rfl)) (po_some (pv 7)) (po_some (pe_op op_add (pv 7) pe_int))) (pe_lst pa_nil))))
          (pss_cons (ps_set (i := 9) scPicture.nd rfl (.inl rfl) (pe_and (pe_cmpR (op_neD hr.units) (pv 8) (pe_lst pa_nil) (nomark _)) (pe_one (pe_cmpR op_gt (pcall R1 (hr.mono (by decide)) pass0 (pa_cons (pv 0) (pa_cons pe_int pa_nil))) pe_int (nomark _)))))
          (pss_one (ps_expr (pe_bm PySem.F.plainAttrs_list PySem.F.slot_list_append PySem.F.type_list_append mt_append (pv 6) (pa_cons (pe_ifExp (pt_val (pv 9)) (pcall R2 hr pass0 (pa_cons (pv 0) (pa_cons (pv 8) pa_nil))) (pcall R1 (hr.mono (by decide)) pass0 (pa_cons (pv 0) (pa_cons (pv 3) pa_nil)))) pa_nil)))))))
        (pss_one (ps_expr (pe_bm PySem.F.plainAttrs_list PySem.F.slot_list_append PySem.F.type_list_append mt_append (pv 4) (pa_cons (pv 6) pa_nil)))))))
      (pss_one (ps_ret (pv 4)))), ?_⟩
    have nS : Old H S := x.in1
    have nC : Old H C := x.in2
    refine q_asgL (el_lst ea_nil (by show 0 ≤ 100000; decide)) fun Fo H1 hF e1 h1 => ?_
    refine q_forR1 (n := (rows : Int)) (ea_cons (ev_var rfl) ea_nil) ⟨by omega, by omega⟩ (fun i σ' H' => ∃ vs rs x5 x6 x7 x8 x9, σ' = [some (.ref S), some (.int (rows : Int)), some (.int (cols : Int)), some (.int 9), some (.ref Fo), x5, x6, x7, x8, x9] ∧ OffS S C H H' ∧ Stm H' S C (N + i * 50) ∧ H' Fo = some (.lst vs) ∧
        DtAll (fun b => Old H b ∨ b = Fo) H' vs (rs.map rowD) ∧ rs.length = i ∧ ∀ r ∈ rs, r.length = cols ∧ In9 r)
      (fun H2 e2 => ⟨[], [], none, none, none, none, none, rfl, offS_of (e1.trans e2), by rw [Nat.zero_mul]; exact (x.ex e1).ex e2, e2 _ _ h1, .nil, rfl, fun r hr => by cases hr⟩) ?_ ?_
    · rintro i σ' H2 hi ⟨vs, rs, x5, x6, x7, x8, x9, rfl, o2, x2, f2, a2, hl, hall⟩
      have hi2 : i < rows := by omega
      refine q_asgL (el_lst ea_nil (by show 0 ≤ 100000; decide)) fun W H3 hW e3 h3 => ?_
      have x3 := x2.ex e3
      have hW0 : H W = none := o2.back (N := N) x2 hW
      have WS : W ≠ S := fun z => x2.in1 (by rw [← z]; exact hW)
      have WC : W ≠ C := fun z => x2.in2 (by rw [← z]; exact hW)
      have WF : W ≠ Fo := Ne.symm (ne_of_none f2 hW)
      have FS : Fo ≠ S := fun z => nS (by rw [← z]; exact hF)
      have FC : Fo ≠ C := fun z => nC (by rw [← z]; exact hF)
      have a3 : DtAll (fun b => (Old H b ∨ b = Fo) ∨ b = W) H3 vs (rs.map rowD) := (DtAll.less (fun b o z hb => z.elim id fun z => by rw [z, hW] at hb; cases hb) _ _ a2).ex e3
      refine q_forR1 (n := (cols : Int)) (ea_cons (ev_var rfl) ea_nil) ⟨by omega, by omega⟩ (fun j σ' H' => ∃ ns x7 x8 x9, σ' = [some (.ref S), some (.int (rows : Int)), some (.int (cols : Int)), some (.int 9), some (.ref Fo), some (.int (i : Int)), some (.ref W), x7, x8, x9] ∧ OffS S C H H' ∧ Stm H' S C (N + i * 50 + j * 2) ∧ H' Fo = some (.lst vs) ∧
        DtAll (fun b => (Old H b ∨ b = Fo) ∨ b = W) H' vs (rs.map rowD) ∧ H' W = some (.lst (List.map V.int ns)) ∧ ns.length = j ∧ In9 ns)
        (fun H4 e4 => ⟨[], _, _, _, rfl, (o2.trans (offS_of e3)).trans (offS_of e4), by rw [Nat.zero_mul]; exact x3.ex e4, e4 _ _ (e3 _ _ f2), a3.ex e4, e4 _ _ h3, rfl, fun i hi => by cases hi⟩) ?_ ?_
      · rintro j σ' H4 hj ⟨ns, x7, x8, x9, rfl, o4, x4, f4, a4, w4, hn, h9⟩
        have hj2 : j < cols := by omega
        -- what stands near
        have near : ∃ ks : List Int, In9 ks ∧ ks.length ≤ 1000 ∧ EvL (tOp rCat (tSl (rSlL K) (tVar 6) (tPart (tUn (rU fun i => .int (-i)) (tC (.int 1)))) tNoPart)
            (tIf (tTest (tOp (rNeD K) (tVar 4) (tLst tNil))) (tSl (rSlL K) (tOp (rIxL K) (tVar 4) (tUn (rU fun i => .int (-i)) (tC (.int 1)))) (tPart (tVar 7)) (tPart (tOp (rI0 fun i j => .int (i + j)) (tVar 7) (tC (.int 1))))) (tLst tNil)))
            [some (.ref S), some (.int (rows : Int)), some (.int (cols : Int)), some (.int 9), some (.ref Fo), some (.int (i : Int)), some (.ref W), some (.int (j : Int)), x8, x9] H4 (ks.map V.int) := by
          have hne : Ev (tOp (rNeD K) (tVar 4) (tLst tNil)) [some (.ref S), some (.int (rows : Int)), some (.int (cols : Int)), some (.int 9), some (.ref Fo), some (.int (i : Int)), some (.ref W), some (.int (j : Int)), x8, x9] H4 (.bl (!decide (rs.map rowD = []))) :=
            ev_neNil (L := fun _ => False) (ev_var rfl) (.lst (fun z => z) f4 (DtAll.less (fun _ _ z => z.elim) _ _ a4)) (noD_pic rs) ((Shp.pic rs).shaped (by decide))
          have hs1 : EvL (tSl (rSlL K) (tVar 6) (tPart (tUn (rU fun i => .int (-i)) (tC (.int 1)))) tNoPart) [some (.ref S), some (.int (rows : Int)), some (.int (cols : Int)), some (.int 9), some (.ref Fo), some (.int (i : Int)), some (.ref W), some (.int (j : Int)), x8, x9] H4 ((cutI ns (some (-1)) none).map V.int) :=
            el_is (el_sl (ev_var rfl) (eo_some (ev_un ev_c ru_neg)) eo_none (SqL.of w4)) (cutV_ints ns _ _)
          have c1 := cutI_len ns (some (-1)) none
          rcases List.eq_nil_or_concat rs with hrs | ⟨rs', r, hrs⟩
          · subst hrs
            refine ⟨cutI ns (some (-1)) none ++ [], fun k hk => ?_, by rw [List.append_nil]; omega, ?_⟩
            · rw [List.append_nil] at hk
              exact h9 k (cutI_mem hk)
            · rw [List.map_append]
              exact el_cat hs1 (el_if (et_test hne) (fun z => by cases z) fun _ => el_lst ea_nil (by show 0 ≤ 100000; decide)) (by rw [List.length_map, List.length_map, List.length_nil]; omega)
          · rw [List.concat_eq_append] at hrs
            have hrm : r ∈ rs := by rw [hrs]; simp
            obtain ⟨hr1, hr2⟩ := hall r hrm
            have hlast : (rs.map rowD)[rs'.length]? = some (rowD r) := by rw [hrs]; simp
            obtain ⟨v, hv1, hv2⟩ := a4.get' hlast
            have hvl : vs.length = rs'.length + 1 := by rw [a4.len, hrs]; simp
            obtain ⟨vs', hvs⟩ : ∃ vs', vs = vs' ++ [v] := by
              rcases List.eq_nil_or_concat vs with hz | ⟨vs', u, hz⟩
              · rw [hz] at hvl
                simp at hvl
              · rw [List.concat_eq_append] at hz
                have h2 : vs'.length = rs'.length := by rw [hz] at hvl; simpa using hvl
                rw [hz, ← h2] at hv1
                have : u = v := by simpa using hv1
                exact ⟨vs', by rw [hz, this]⟩
            cases hv2 with
            | lst nL hg hga =>
              have hgx : ∀ {ys : List V}, DtAll (fun b => (Old H b ∨ b = Fo) ∨ b = W) H4 ys (r.map PyData.int) → ys = r.map V.int := by
                clear hr1 hr2 hrm hrs hlast hga
                induction r with
                | nil =>
                  intro ys h
                  cases h
                  rfl
                | cons z zs ih =>
                  intro ys h
                  cases h with
                  | cons p1 p2 =>
                    cases p1
                    rw [ih p2]
                    rfl
              have := hgx hga
              subst this
              have c2 := cutI_len r (some (j : Int)) (some ((j : Int) + 1))
              refine ⟨cutI ns (some (-1)) none ++ cutI r (some (j : Int)) (some ((j : Int) + 1)), fun k hk => ?_, ?_, ?_⟩
              · rcases List.mem_append.mp hk with hk | hk
                · exact h9 k (cutI_mem hk)
                · exact hr2 k (cutI_mem hk)
              · rw [List.length_append]
                omega
              · rw [List.map_append]
                refine el_cat hs1 (el_if (et_test hne) (fun _ => el_is (el_sl (ev_op (ev_var rfl) (ev_un ev_c ru_neg) (rv_ixL (SqL.of f4) (by rw [hvs]; exact atI_last _ _))) (eo_some (ev_var rfl)) (eo_some (ev_op (ev_var rfl) ev_c rv_I0)) (SqL.of hg)) (cutV_ints r _ _)) fun z => ?_) (by rw [List.length_map, List.length_map]; omega)
                rw [hrs] at z
                simp at z
        obtain ⟨ks, hk9, hkl, hev⟩ := near
        refine q_asgL hev fun Pn H5 hP e5 h5 => ?_
        have x5 := x4.ex e5
        have o5 := o4.trans (offS_of e5)
        have hP0 : H Pn = none := o4.back (N := N) x4 hP
        have PS : Pn ≠ S := fun z => x4.in1 (by rw [← z]; exact hP)
        have PC : Pn ≠ C := fun z => x4.in2 (by rw [← z]; exact hP)
        have PW : Pn ≠ W := Ne.symm (ne_of_none w4 hP)
        -- the end of the turn: one shade more
        have fin : ∀ (k : Int) (H7 : Hp), 0 ≤ k → k < 9 → OffS S C H5 H7 → Stm H7 S C (N + i * 50 + (j + 1) * 2) → ∀ (x8 x9 : Option V),
            ∃ ys, H7 W = some (.lst ys) ∧ ys.length < sizeLine ∧ (∃ ns x7 x8' x9', [some (.ref S), some (.int (rows : Int)), some (.int (cols : Int)), some (.int 9), some (.ref Fo), some (.int (i : Int)), some (.ref W), some (.int (j : Int)), x8, x9] = [some (.ref S), some (.int (rows : Int)), some (.int (cols : Int)), some (.int 9), some (.ref Fo), some (.int (i : Int)), some (.ref W), x7, x8', x9'] ∧
              OffS S C H (upd H7 W (.lst (ys ++ [.int k]))) ∧ Stm (upd H7 W (.lst (ys ++ [.int k]))) S C (N + i * 50 + (j + 1) * 2) ∧ upd H7 W (.lst (ys ++ [.int k])) Fo = some (.lst vs) ∧
              DtAll (fun b => (Old H b ∨ b = Fo) ∨ b = W) (upd H7 W (.lst (ys ++ [.int k]))) vs (rs.map rowD) ∧ upd H7 W (.lst (ys ++ [.int k])) W = some (.lst (List.map V.int ns)) ∧ ns.length = j + 1 ∧ In9 ns) := by
          intro k H7 hk1 hk2 o7 x7 x8 x9
          have nW : ¬ Str2 S C W := fun z => z.elim WS WC
          have nF : ¬ Str2 S C Fo := fun z => z.elim FS FC
          refine ⟨ns.map V.int, o7 _ _ nW (e5 _ _ w4), by rw [List.length_map, sizeLine_eq]; omega, ns ++ [k], _, _, _, rfl, (o5.trans o7).fresh hW0, x7.fresh WS WC, ?_, ?_, ?_, by rw [List.length_append, hn]; rfl, fun i hi => ?_⟩
          · rw [upd_ne (Ne.symm WF)]
            exact o7 _ _ nF (e5 _ _ f4)
          · refine DtAll.but (But.at_ (.inr rfl)) _ _ (DtAll.but (o7.mono fun b hb => .inl (.inl ?_)) _ _ (a4.ex e5))
            exact hb.elim (fun z => by rw [z]; exact nS) fun z => by rw [z]; exact nC
          · rw [upd_same, List.map_append]
            rfl
          · rcases List.mem_append.mp hi with hi | hi
            · exact h9 i hi
            · rw [List.mem_singleton.mp hi]
              exact ⟨hk1, hk2⟩
        -- whether it is as its neighbours
        have two : ∀ (Dd : Ends) (_ : ∀ σ' H', (∃ ns x7 x8 x9, σ' = [some (.ref S), some (.int (rows : Int)), some (.int (cols : Int)), some (.int 9), some (.ref Fo), some (.int (i : Int)), some (.ref W), x7, x8, x9] ∧ OffS S C H H' ∧ Stm H' S C (N + i * 50 + (j + 1) * 2) ∧ H' Fo = some (.lst vs) ∧ DtAll (fun b => (Old H b ∨ b = Fo) ∨ b = W) H' vs (rs.map rowD) ∧ H' W = some (.lst (List.map V.int ns)) ∧ ns.length = j + 1 ∧ In9 ns) → Dd.nx σ' H')
            (b : Bool) (H6 : Hp), OffS S C H5 H6 → Stm H6 S C (N + i * 50 + j * 2 + 1) → (b = true → ks ≠ []) →
            tDrop (tBM K "list" rAppend (tVar 6) (tCons (tIf (tB (tVar 9)) (tCall (spPick K) [] E0 (tCons (tVar 0) (tCons (tVar 8) tNil))) (tCall spDraw [] E0 (tCons (tVar 0) (tCons (tVar 3) tNil)))) tNil))
              Dd
              [some (.ref S), some (.int (rows : Int)), some (.int (cols : Int)), some (.int 9), some (.ref Fo), some (.int (i : Int)), some (.ref W), some (.int (j : Int)), some (.ref Pn), some (.bl b)] H6 := by
          intro Dd hDd b H6 o6 x6 hb
          have nW : ¬ Str2 S C W := fun z => z.elim WS WC
          have nP : ¬ Str2 S C Pn := fun z => z.elim PS PC
          refine s_appX (o6 _ _ nW (e5 _ _ w4)) (ev_var rfl) fun H7 e7 => ?_
          refine et_go (et_B (ev_var rfl)) fun H8 e8 => ?_
          have x8 := (x6.ex e7).ex e8
          have o8 := (o6.trans (offS_of e7)).trans (offS_of e8)
          refine ite2 (fun hbt => ?_) (fun hbf => ?_)
          · refine ⟨_, rfl, _, rfl, S, C, Pn, _, ks.map V.int, rfl, x8, by omega, o8 _ _ nP h5, PS, PC, fun z => hb hbt (List.map_eq_nil_iff.mp z), by rw [List.length_map]; omega, fun v H9 hv o9 x9 => ?_⟩
            obtain ⟨k, hk, rfl⟩ := List.mem_map.mp hv
            obtain ⟨ys, g1, g2, g3⟩ := fin k H9 (hk9 k hk).1 (hk9 k hk).2 (o8.trans o9) (x9.mono (by omega)) _ _
            exact ⟨ys, g1, g2, hDd _ _ g3⟩
          · refine ⟨_, rfl, _, rfl, S, C, _, 9, rfl, x8, by omega, by decide, by decide, fun r H9 hr9 o9 x9 => ?_⟩
            obtain ⟨ys, g1, g2, g3⟩ := fin (r : Int) H9 (by omega) (by omega) (o8.trans o9) (x9.mono (by omega)) _ _
            exact ⟨ys, g1, g2, hDd _ _ g3⟩
        refine q_asgAndV (ev_neNilI (ev_var rfl) h5) (fun hbt H6 e6 => ?_) (fun hbf H6 e6 => ?_)
        · refine ⟨_, rfl, S, C, _, 3, rfl, x5.ex e6, by omega, by decide, by decide, fun r H7 hr3 o7 x7 => ⟨_, _, rfl, rfl, ?_⟩⟩
          exact two _ (fun _ _ z => z) _ H7 ((offS_of e6).trans o7) (x7.mono (by omega)) fun _ z => by rw [z] at hbt; simp at hbt
        · exact two _ (fun _ _ z => z) _ H6 (offS_of e6) ((x5.ex e6).mono (by omega)) fun z => nomatch z
      · rintro σ' H4 ⟨ns, x7, x8, x9, rfl, o4, x4, f4, a4, w4, hn, h9⟩
        have hcols : ns.length = cols := by
          rw [hn]
          omega
        have hvl : vs.length = i := by
          rw [a4.len, List.length_map, hl]
        refine s_app f4 (ev_var rfl) (ev_var rfl) (by omega) fun H5 e5 => ⟨vs ++ [.ref W], rs ++ [ns], _, _, _, _, _, rfl, (o4.trans (offS_of e5)).fresh hF, ?_, upd_same, ?_, by rw [List.length_append, hl]; rfl, fun r hr => ?_⟩
        · refine Stm.mono ((x4.ex e5).fresh FS FC) ?_
          have : (cols : Int).toNat = cols := by omega
          rw [this]
          rw [Nat.succ_mul]
          omega
        · rw [List.map_append]
          have hWO : ¬ (Old H W ∨ W = Fo) := fun z => z.elim (fun z => z hW0) WF
          refine DtAll.snoc (DtAll.but (But.at_ (.inr rfl)) _ _ ((DtAll.less (fun b o z _ => .inl z) _ _ a4).ex e5)) (.lst hWO ?_ (DtAll.ints ns))
          rw [upd_ne WF]
          exact e5 _ _ w4
        · rcases List.mem_append.mp hr with hr | hr
          · exact hall r hr
          · rw [List.mem_singleton.mp hr]
            exact ⟨hcols, h9⟩
    · rintro σ' H2 ⟨vs, rs, x5, x6, x7, x8, x9, rfl, o2, x2, f2, a2, hl, hall⟩
      have hrows : (rows : Int).toNat = rows := by omega
      rw [hrows] at x2 hl
      refine s_ret (v := .ref Fo) (ev_var rfl) fun H3 e3 => ?_
      refine q Fo vs rs H3 (o2.trans (offS_of e3)) ((x2.ex e3).mono ?_) hF (e3 _ _ f2) ((DtAll.less (fun b o z _ => .inl z) _ _ a2).ex e3) hl hall
      have : rows * 50 ≤ 20 * 50 := Nat.mul_le_mul_right _ hrw
      omega
end
end Pw
set_option Elab.async false
set_option linter.all false
set_option maxRecDepth 100000
namespace Pw
open PySem PySem.Spec PyProof.Rows L2 Evl
/-! ## _law_drawn -/
theorem go_op {r : R2} {ta tb : TE} {σ : L2.St} {H : Hp} {x : V} {Q : VK} (ha : Ev ta σ H x) (k : ∀ H1, Ex H H1 → tb σ H1 fun y H2 => r x y H2 Q) : tOp r ta tb σ H Q := ha H (Ex.refl H) _ k
theorem go_opX {r : R2} {ta tb : TE} {σ : L2.St} {H : Hp} {Q : VK} (h : ta σ H fun x H1 => tb σ H1 fun y H2 => r x y H2 Q) : tOp r ta tb σ H Q := h
theorem s_retX {te : TE} {D : Ends} {σ : L2.St} {H : Hp} (h : te σ H D.rt) : tRet te D σ H := h
theorem go_call {sp : Sp} {dvs vs : List V} {E : XK} {ta : TA} {σ : L2.St} {H : Hp} {Q : VK} (h : EvA ta σ H vs) (k : ∀ H1, Ex H H1 → sp (vs ++ dvs) H1 Q E) : tCall sp dvs E ta σ H Q := h H (Ex.refl H) _ k
theorem go_lst {t rest : TA} {σ : L2.St} {H : Hp} {Q2 : List V → Hp → Prop} (h : t σ H fun xs H1 => xs.length ≤ sizeLine ∧ ∀ p, H1 p = none → rest σ (upd H1 p (.lst xs)) fun vs H2 => Q2 (.ref p :: vs) H2) : tCons (tLst t) rest σ H Q2 := h
/-- the picture is drawn so large, its shades of ten figures at most -/
def Drawn (rs : List (List Int)) (rows cols : Nat) : Prop := rs.length = rows ∧ ∀ r ∈ rs, r.length = cols ∧ ∀ i ∈ r, i.natAbs ≤ 1000000000
def spDrawn : Sp := fun vs H Q _ => ∃ (S C : Addr) (N rows cols : Nat), vs = [.ref S, .int (rows : Int), .int (cols : Int)] ∧ Stm H S C N ∧ N + 4000 < 1000000000 ∧ rows ≤ 20 ∧ cols ≤ 20 ∧
  ∀ (u : V) (rs : List (List Int)) H', OffS S C H H' → Stm H' S C (N + 1001) → Dt (Old H) H' u (picD rs) → Drawn rs rows cols → Q u H'
abbrev sDrawn : Stmt := top 39
abbrev nDrawn : List Str := ["_law_stream", "_law_rows", "_law_columns", "_law_low", "_law_step", "_law_row", "_law_shade"]
theorem scDrawn : FnScope nDrawn ["_law_stream", "_law_rows", "_law_columns"] (defScope sDrawn) := ⟨rfl, rfl, rfl, by decide +kernel, rfl, by decide +kernel, by decide +kernel⟩
theorem dt_ints {L : Addr → Prop} {H : Hp} : ∀ {r : List Int} {ys : List V}, DtAll L H ys (r.map PyData.int) → ys = r.map V.int
  | [], _, h => by
    cases h
    rfl
  | z :: zs, _, h => by
    cases h with
    | cons p1 p2 =>
      cases p1
      rw [dt_ints p2]
      rfl
section
variable {P : Program} {w : World} {K : PySem.W.Frag} {mg : Str → Option Value} {base : Heap}
theorem ok_drawn (D : Df K mg "_law_drawn" sDrawn) (F : Free mg) (R1 : Pr P w K mg base CX0 2 "_law_pick" ["_law_stream", "_law_some"] (spPick K)) (R2 : Pr P w K mg base CX0 3 "_law_a_picture" ["_law_stream", "_law_rows", "_law_columns", "_law_shades"] spPicture) :
    Pr P w K mg base CX0 4 "_law_drawn" ["_law_stream", "_law_rows", "_law_columns"] spDrawn := by
  refine Pr.of0 D scDrawn (fun _ _ _ _ _ _ us hl => match us, hl with | [_, _, _], _ => rfl) (fun vs H Q E h => ?_) fun cdv A outer s H vs Q E hr h => ?_
  · obtain ⟨S, C, N, rows, cols, rfl, _⟩ := h
    rfl
  · obtain ⟨S, C, N, rows, cols, rfl, x, hN, hrw, hcl, q⟩ := h
    refine ⟨_, pss_cons (ps_asg (pcall R1 (hr.mono (by decide)) pass0 (pa_cons (pv 0) (pa_cons (pe_lst (pa_cons (pe_tup (pa_cons pe_int (pa_cons pe_int pa_nil))) (pa_cons (pe_tup (pa_cons (pe_un un_neg pe_int) (pa_cons pe_int pa_nil))) (pa_cons (pe_tup (pa_cons (pe_un un_neg pe_int) (pa_cons pe_int pa_nil))) (pa_cons (pe_tup (pa_cons pe_int (pa_cons pe_int pa_nil))) pa_nil))))) pa_nil)))
        (pg_tup rfl (pgs_cons (pg_name (i := 3) scDrawn.nd rfl (.inr rfl)) (pgs_cons (pg_name (i := 4) scDrawn.nd rfl (.inr rfl)) pgs_nil))))
      (pss_one (ps_ret (pe_lc (own := [("_law_row", 5)]) (g := gName 5) (tt := tYes) rfl scDrawn.nd (pi_list (pcall R2 hr pass0 (pa_cons (pv 0) (pa_cons (pv 1) (pa_cons (pv 2) (pa_cons pe_int pa_nil)))))) (blkOk_by (by kernel_rfl)) (fun _ _ _ _ _ => pg_name (i := 5) scDrawn.nd rfl (Or.inl rfl)) (fun _ _ _ _ _ => pts_nil)
        (fun _ _ _ _ _ => (by exact (pe_lc (own := [("_law_shade", 6)]) (g := gName 6) (tt := tYes) rfl scDrawn.nd (k_seq (K := K) rfl (pv 5)) (blkOk_by (by kernel_rfl)) (fun _ _ _ _ _ => (by exact (pg_name (i := 6) scDrawn.nd rfl (Or.inl rfl)))) (fun _ _ _ _ _ => pts_nil)
          (fun _ _ _ _ _ => (by exact (pe_op op_add (pv 3) (pe_op op_mul (pv 4) (pv 6))))))))))), ?_⟩
    have tup2 : ∀ {σ : L2.St} {Hx : Hp} {ta tb : TE} {i j : Int} {rest : TA} {Q2 : List V → Hp → Prop}, Ev ta σ Hx (.int i) → Ev tb σ Hx (.int j) → (∀ p H1, Ex Hx H1 → H1 p = some (.tup [.int i, .int j]) → rest σ H1 fun vs H2 => Q2 (.ref p :: vs) H2) → tCons (tTup (tCons ta (tCons tb tNil))) rest σ Hx Q2 := fun h1 h2 k => eu_tup (ea_cons h1 (ea_cons h2 ea_nil)) (by show 2 ≤ 100000; decide) _ (Ex.refl _) _ fun p H1 _ e1 hp => k p H1 e1 hp
    have nS : Old H S := x.in1
    have nC : Old H C := x.in2
    refine ⟨_, rfl, ?_⟩
    refine go_lst ?_
    refine tup2 ev_c ev_c fun p1 H1 e1 t1 => tup2 (ev_un ev_c ru_neg) ev_c fun p2 H2 e2 t2 => tup2 (ev_un ev_c ru_neg) ev_c fun p3 H3 e3 t3 => tup2 ev_c ev_c fun p4 H4 e4 t4 => ?_
    refine ⟨by show 4 ≤ sizeLine; decide, fun l hl => ?_⟩
    have e5 : Ex H4 (upd H4 l (.lst [.ref p1, .ref p2, .ref p3, .ref p4])) := Ex.new hl
    have x4 := (((x.ex e1).ex e2).ex e3).ex e4
    have eH := ((e1.trans e2).trans e3).trans e4
    have lS : l ≠ S := fun z => x4.in1 (by rw [← z]; exact hl)
    have lC : l ≠ C := fun z => x4.in2 (by rw [← z]; exact hl)
    refine ⟨S, C, l, N, _, rfl, x4.ex e5, by omega, upd_same, lS, lC, (fun z => nomatch z), by show 4 < 1000000000; decide, fun v H6 hv o6 x6 => ?_⟩
    have o06 : OffS S C H H6 := (offS_of (eH.trans e5)).trans o6
    -- the pair that is picked
    have key : ∃ (lo st : Int) (p : Addr), v = .ref p ∧ H6 p = some (.tup [.int lo, .int st]) ∧ (∀ k : Int, 0 ≤ k → k < 9 → (lo + st * k).natAbs ≤ 1000000000) ∧ -(2 ^ 64) < st ∧ st < 2 ^ 64 := by
      have g : ∀ (p : Addr) (lo st : Int), H4 p = some (.tup [.int lo, .int st]) → H6 p = some (.tup [.int lo, .int st]) := fun p lo st h => by
        have hp : ¬ Str2 S C p := fun z => by
          obtain ⟨_, _, _, _, _, _, _, _, _, z1, z2⟩ := x4
          rcases z with z | z
          · rw [z, z1] at h
            cases h
          · rw [z, z2] at h
            cases h
        exact o6 _ _ hp (e5 _ _ h)
      simp only [List.mem_cons, List.not_mem_nil, or_false] at hv
      rcases hv with rfl | rfl | rfl | rfl
      · exact ⟨0, 1, p1, rfl, g _ _ _ ((e2.trans (e3.trans e4)) _ _ t1), fun k h1 h2 => by omega, by decide, by decide⟩
      · exact ⟨-5, 1, p2, rfl, g _ _ _ ((e3.trans e4) _ _ t2), fun k h1 h2 => by omega, by decide, by decide⟩
      · exact ⟨-900000000, 200000000, p3, rfl, g _ _ _ (e4 _ _ t3), fun k h1 h2 => by omega, by decide, by decide⟩
      · exact ⟨0, 99999999, p4, rfl, g _ _ _ t4, fun k h1 h2 => by omega, by decide, by decide⟩
    obtain ⟨lo, st, p, rfl, hp6, hb, hs1, hs2⟩ := key
    refine ⟨p, _, rfl, SqT.of hp6, rfl, _, _, rfl, _, _, rfl, rfl, ?_⟩
    refine ⟨_, rfl, _, rfl, _, rfl, S, C, N + 1, rows, cols, rfl, x6, by omega, hrw, hcl, fun Fo vs rs H7 o7 x7 hF7 f7 a7 hl7 hall => ⟨Fo, rfl, ⟨vs, SqL.of f7⟩, fun Dl hD => ?_⟩⟩
    have o07 : OffS S C H H7 := o06.trans o7
    have hF0 : H Fo = none := OffS.back (N := N) o06 x6 hF7
    have hvl : vs.length = rs.length := by rw [a7.len, List.length_map]
    refine lc_word (walk_list (K := K) (xs := vs) (a := Fo)) hD (fun H' e' => SqL.of (e' _ _ f7)) (by omega) (fun k y H' => ∃ r, rs[k]? = some r ∧ Dt (fun b => Old H7 b ∨ b = Dl) H' y (rowD (r.map fun i => lo + st * i)))
      (fun k y H' H3 ⟨r, hr1, hr2⟩ stt => ⟨r, hr1, Dt.but (fun b o n z => stt b o (fun z2 => n (.inr z2)) z) _ _ hr2⟩) (fun i y H8 H' acc hi e8 hDs hy Q' q' => ?_) (fun zs H8 e8 hlen hDs hR => ?_)
    · obtain ⟨rfl, hy2⟩ := hy
      obtain ⟨d, hd1, hd2⟩ := a7.get hy2
      rw [List.getElem?_map] at hd1
      cases hri : rs[i]? with
      | none =>
        rw [hri] at hd1
        cases hd1
      | some r =>
        rw [hri] at hd1
        have ed := Option.some.inj hd1
        subst ed
        obtain ⟨hr1, hr9⟩ := hall r (List.mem_of_getElem? hri)
        cases hd2 with
        | lst nL hg hga =>
          have := dt_ints hga
          subst this
          refine q' _ _ (Ex.refl _) (wipe1 _ _ _) fun H9 e9 Q2 q2 => ?_
          refine el_seq (K := K) (ys := (r.map fun i => lo + st * i).map V.int) (ev_var rfl) (.inl ((e8.trans e9) _ _ hg)) (by rw [List.length_map]; omega) (by simp) (fun k z w H10 e10 hz hw => ?_) H9 (Ex.refl _) Q2 fun pn H10 hpn e10 h10 => ?_
          · rw [List.getElem?_map] at hz
            rw [List.getElem?_map, List.getElem?_map] at hw
            cases hk : r[k]? with
            | none =>
              rw [hk] at hz
              cases hz
            | some c =>
              rw [hk] at hz hw
              have ez := Option.some.inj hz
              have ew := Option.some.inj hw
              subst ez ew
              exact ev_op (ev_var rfl) (ev_op (ev_var rfl) (ev_var rfl) (rv_I (.inl ⟨hs1, hs2⟩))) rv_I0
          · refine q2 _ H10 e10 ⟨r, hri, .lst (fun z => ?_) h10 (DtAll.ints _)⟩
            rcases z with z | z
            · exact z (fresh_back (e8.trans e9) hpn)
            · rw [z, e9 _ _ hDs] at hpn
              cases hpn
    · have hold : ∀ b, Old H b → Old H7 b := fun b hb hn => hb (OffS.back (N := N) o07 x7 hn)
      refine q (.ref Dl) (rs.map fun r => r.map fun i => lo + st * i) H8 (o07.trans (offS_of e8)) ((x7.ex e8).mono (by omega)) (.lst (fun z => hold _ z hD) hDs ?_) ⟨by rw [List.length_map]; exact hl7, fun r hr => ?_⟩
      · rw [List.map_map]
        refine DtAll.of (by rw [List.length_map, hlen, hvl]) fun k v d2 hv hd2 => ?_
        obtain ⟨r, hr1, hr2⟩ := hR k v hv
        rw [List.getElem?_map, hr1] at hd2
        have e := Option.some.inj hd2
        rw [← e]
        exact hr2.sub fun b z => .inl (hold b z)
      · obtain ⟨r0, hr0, rfl⟩ := List.mem_map.mp hr
        obtain ⟨g1, g2⟩ := hall r0 hr0
        refine ⟨by rw [List.length_map]; exact g1, fun i hi => ?_⟩
        obtain ⟨c, hc, rfl⟩ := List.mem_map.mp hi
        exact hb c (g2 c hc).1 (g2 c hc).2
end
end Pw
set_option Elab.async false
set_option linter.all false
set_option maxRecDepth 100000
namespace Pw
open PySem PySem.Spec PyProof.Rows L2 Evl
/-! ## _law_a_bent -/
/-- lengths and one each -/
def wgt (ys : List Str) : Nat := (ys.map fun y => y.length + 1).sum
theorem wgt_nil : wgt [] = 0 := rfl
theorem wgt_cons (y : Str) (ys : List Str) : wgt (y :: ys) = y.length + 1 + wgt ys := by simp [wgt]
theorem wgt_app (xs ys : List Str) : wgt (xs ++ ys) = wgt xs + wgt ys := by simp [wgt]
theorem wgt_drop (k : Nat) (ys : List Str) : wgt (ys.drop k) ≤ wgt ys := by
  have h := List.take_append_drop k ys
  have h2 := wgt_app (ys.take k) (ys.drop k)
  rw [h] at h2
  omega
theorem wgt_take (k : Nat) (ys : List Str) : wgt (ys.take k) ≤ wgt ys := by
  have h := List.take_append_drop k ys
  have h2 := wgt_app (ys.take k) (ys.drop k)
  rw [h] at h2
  omega
theorem wgt_mem {y : Str} : ∀ {ys : List Str}, y ∈ ys → y.length + 1 ≤ wgt ys
  | z :: ys, h => by
    rw [wgt_cons]
    rcases List.mem_cons.mp h with rfl | h
    · omega
    · have := wgt_mem h
      omega
theorem wgt_set {y : Str} : ∀ (ys : List Str) (k : Nat), wgt (ys.set k y) ≤ wgt ys + (y.length + 1)
  | [], _ => by simp [wgt]
  | z :: ys, 0 => by
    rw [List.set_cons_zero, wgt_cons, wgt_cons]
    omega
  | z :: ys, k + 1 => by
    rw [List.set_cons_succ, wgt_cons, wgt_cons]
    have := wgt_set (y := y) ys k
    omega
theorem wgt_len (ys : List Str) : ys.length ≤ wgt ys := by
  induction ys with
  | nil => exact Nat.le_refl _
  | cons y ys ih =>
    rw [wgt_cons, List.length_cons]
    omega
theorem wgt_sum (ys : List Str) : (ys.map (·.length)).sum + ys.length = wgt ys := by
  induction ys with
  | nil => rfl
  | cons y ys ih =>
    rw [wgt_cons, List.length_cons, List.map_cons, List.sum_cons]
    omega
theorem spl_wgt (l : List Nat) : ∀ (k : Nat) (acc : List Nat), wgt ((TL.spl [10] k acc l).map mkS) ≤ acc.length + l.length + 1 := by
  induction l with
  | nil =>
    intro k acc
    rw [TL.spl_nil]
    show wgt [mkS acc] ≤ _
    rw [wgt_cons, wgt_nil, mkS_len, List.length_nil]
    omega
  | cons c r ih =>
    intro k acc
    cases k with
    | zero =>
      cases h : TL.pre [10] (c :: r) with
      | true =>
        rw [TL.spl_hit h]
        have h1 : wgt ((TL.spl [10] 0 [] r).map mkS) ≤ [].length + r.length + 1 := ih 0 []
        show wgt (mkS acc :: (TL.spl [10] 0 [] r).map mkS) ≤ _
        rw [wgt_cons, mkS_len, List.length_cons]
        rw [List.length_nil] at h1
        omega
      | false =>
        rw [TL.spl_miss h]
        have h1 := ih 0 (acc ++ [c])
        rw [List.length_append, List.length_singleton] at h1
        rw [List.length_cons]
        omega
    | succ k =>
      have h1 := ih k acc
      rw [List.length_cons]
      exact Nat.le_trans h1 (by omega)
def cutL {α : Type} (ns : List α) (lo hi : Option Int) : List α := (ns.drop (HT.sIx ns.length 0 lo)).take (HT.sIx ns.length ns.length hi - HT.sIx ns.length 0 lo)
theorem cutV_strs (ns : List Str) (lo hi : Option Int) : cutV (ns.map V.str) lo hi = (cutL ns lo hi).map V.str := by
  unfold cutV cutL
  rw [List.length_map, List.map_take, List.map_drop]
theorem wgt_cut (ys : List Str) (lo hi : Option Int) : wgt (cutL ys lo hi) ≤ wgt ys := Nat.le_trans (wgt_take _ _) (wgt_drop _ _)
theorem join_wgt (ys : List Str) : (Txt.join (Str.ofString "\n") ys).length ≤ wgt ys := by
  have h := join_len (Str.ofString "\n") ys
  have h1 : (Str.ofString "\n").length = 1 := by decide
  rw [h1, Nat.mul_one, wgt_sum] at h
  exact h
theorem q_asgUg {te : TE} {g : TG} {tz : TS} {D : Ends} {σ : L2.St} {H : Hp} {xs : List V} (h : EvU te σ H xs) (k : ∀ p H1, H p = none → Ex H H1 → H1 p = some (.tup xs) → g (.ref p) σ H1 fun σ2 H2 => tz D σ2 H2) : tSeq (tAsg te g) tz D σ H := h H (Ex.refl H) _ k
def Signs (xs : List V) : Prop := ∀ v ∈ xs, ∃ g : Str, v = .str g ∧ g.length ≤ 4
def spBent : Sp := fun vs H Q _ => ∃ (S C G : Addr) (N : Nat) (t : Str) (xs : List V), vs = [.ref S, .str t, .ref G] ∧ Stm H S C N ∧ N + 100 < 1000000000 ∧ t.length ≤ 10000 ∧ H G = some (.lst xs) ∧ G ≠ S ∧ G ≠ C ∧ xs ≠ [] ∧ xs.length ≤ 1000 ∧ Signs xs ∧
  ∀ (z : Str) H', OffS S C H H' → Stm H' S C (N + 10) → z.length ≤ 3 * t.length + 10 → Q (.str z) H'
abbrev sBent : Stmt := top 25
abbrev nBent : List Str := ["_law_stream", "_law_text", "_law_signs", "_law_way", "_law_at", "_law_rows", "_law_row", "_law_other"]
theorem scBent : FnScope nBent ["_law_stream", "_law_text", "_law_signs"] (defScope sBent) := ⟨rfl, rfl, rfl, by decide +kernel, rfl, by decide +kernel, by decide +kernel⟩
section
variable {P : Program} {w : World} {K : PySem.W.Frag} {mg : Str → Option Value} {base : Heap}
theorem ok_bent (D : Df K mg "_law_a_bent" sBent) (F : Free mg) (R1 : Pr P w K mg base CX0 1 "_law_draw" ["_law_stream", "_law_many"] spDraw) (R2 : Pr P w K mg base CX0 2 "_law_pick" ["_law_stream", "_law_some"] (spPick K)) :
    Pr P w K mg base CX0 3 "_law_a_bent" ["_law_stream", "_law_text", "_law_signs"] spBent := by
  refine Pr.of0 D scBent (fun _ _ _ _ _ _ us hl => match us, hl with | [_, _, _], _ => rfl) (fun vs H Q E h => ?_) fun cdv A outer s H vs Q E hr h => ?_
  · obtain ⟨S, C, G, N, t, xs, rfl, _⟩ := h
    rfl
  · obtain ⟨S, C, G, N, t, xs, rfl, x, hN, hz, hG, GS, GC, hne, hlen, hsg, q⟩ := h
    refine ⟨_, pss_cons (ps_par (i := 3) (j := 4) rfl scBent.nd rfl rfl (by decide) rfl rfl (pa_cons (pcall R1 (hr.mono (by decide)) pass0 (pa_cons (pv 0) (pa_cons pe_int pa_nil))) (pa_cons (pcall R1 (hr.mono (by decide)) pass0 (pa_cons (pv 0) (pa_cons (pe_op op_add (pe_callB k_lenStr (by rfl) F.len bb_len (pa_cons (pv 1) pa_nil)) pe_int) pa_nil))) pa_nil)) rfl)
      (pss_cons (ps_set (i := 5) scBent.nd rfl (.inl rfl) (k_split (pv 1) pe_str))
      (pss_cons (ps_set (i := 6) scBent.nd rfl (.inl rfl) (pcall R1 (hr.mono (by decide)) pass0 (pa_cons (pv 0) (pa_cons (pe_callB call_len_seq (by rfl) F.len bb_len (pa_cons (pv 5) pa_nil)) pa_nil))))
      (pss_cons (ps_if (pt_cmpR op_lt (pv 3) pe_int (nomark _)) (pss_one (ps_ret (pe_op k_adds (pe_op k_adds (pe_slice sl_str (pv 1) po_none (po_some (pv 4))) (pcall R2 hr pass0 (pa_cons (pv 0) (pa_cons (pv 2) pa_nil)))) (pe_slice sl_str (pv 1) (po_some (pv 4)) po_none)))) pss_nil)
      (pss_cons (ps_if (pt_cmpR op_eq (pv 3) pe_int (nomark _)) (pss_one (ps_ret (pe_op k_adds (pe_slice sl_str (pv 1) po_none (po_some (pv 4))) (pe_slice sl_str (pv 1) (po_some (pe_op op_add (pv 4) pe_int)) po_none)))) pss_nil)
      (pss_cons (ps_if (pt_cmpR op_eq (pv 3) pe_int (nomark _)) (pss_one (ps_ret (pe_op k_adds (pe_op k_adds (pe_slice sl_str (pv 1) po_none (po_some (pv 4))) (pcall R2 hr pass0 (pa_cons (pv 0) (pa_cons (pv 2) pa_nil)))) (pe_slice sl_str (pv 1) (po_some (pe_op op_add (pv 4) pe_int)) po_none)))) pss_nil)
      (pss_cons (ps_if (pt_cmpR op_eq (pv 3) pe_int (nomark _)) (pss_one (ps_ret (pe_slice sl_str (pv 1) po_none (po_some (pv 4))))) pss_nil)
      (pss_cons (ps_if (pt_cmpR op_eq (pv 3) pe_int (nomark _)) (pss_one (ps_ret (pjoin (K := K) rfl pe_str (pe_op op_cat (pe_op op_cat (pe_slice sl_list (pv 5) po_none (po_some (pv 6))) (pe_slice sl_list (pv 5) (po_some (pv 6)) (po_some (pe_op op_add (pv 6) pe_int)))) (pe_slice sl_list (pv 5) (po_some (pv 6)) po_none))))) pss_nil)
      (pss_cons (ps_if (pt_cmpR op_eq (pv 3) pe_int (nomark _)) (pss_one (ps_ret (pjoin (K := K) rfl pe_str (pe_op op_cat (pe_slice sl_list (pv 5) po_none (po_some (pv 6))) (pe_slice sl_list (pv 5) (po_some (pe_op op_add (pv 6) pe_int)) po_none))))) pss_nil)
      (pss_cons (ps_set (i := 7) scBent.nd rfl (.inl rfl) (pcall R1 (hr.mono (by decide)) pass0 (pa_cons (pv 0) (pa_cons (pe_callB call_len_seq (by rfl) F.len bb_len (pa_cons (pv 5) pa_nil)) pa_nil))))
      (pss_cons (ps_asg (pe_tup (pa_cons (pe_ix ix_list (pv 5) (pv 7) (fun _ _ => rfl)) (pa_cons (pe_ix ix_list (pv 5) (pv 6) (fun _ _ => rfl)) pa_nil))) (pg_tup rfl (pgs_cons (pg_sub (pv 5) (pv 6) set_list) (pgs_cons (pg_sub (pv 5) (pv 7) set_list) pgs_nil))))
      (pss_one (ps_ret (pjoin (K := K) rfl pe_str (pv 5)))))))))))))), ?_⟩
    have nS : Old H S := x.in1
    have nC : Old H C := x.in2
    have hl := TL.len_tl t
    have hW : wgt ((TL.spl [10] 0 [] (TL.tl t)).map mkS) ≤ t.length + 1 := by
      have := spl_wgt (TL.tl t) 0 []
      rw [List.length_nil] at this
      omega
    have hne2 : (TL.spl [10] 0 [] (TL.tl t)).map mkS ≠ [] := fun z => spl_ne (TL.tl t) 0 [] (List.map_eq_nil_iff.mp z)
    -- the two draws
    refine ⟨_, rfl, S, C, N, 8, rfl, x, by omega, by decide, by decide, fun way H1 hway o1 x1 => ⟨_, rfl, ?_⟩⟩
    refine (ev_op (ev_lenStr (ev_var rfl) (by omega) (r_lenStr (by omega))) ev_c rv_I0) H1 (Ex.refl H1) _ fun H2 e2 => ⟨S, C, N + 1, t.length + 1, by rw [show ((t.length : Int) + 1) = ((t.length + 1 : Nat) : Int) by omega]; rfl, x1.ex e2, by omega, by omega, by omega, fun at_ H3 hat o3 x3 => ⟨_, _, rfl, ?_⟩⟩
    have o13 : OffS S C H H3 := (o1.trans (offS_of e2)).trans o3
    refine q_asgL (el_split (ev_var rfl) ev_c (by decide +kernel) (by rw [sizeLine_eq]; omega)) fun R H4 hR e4 h4 => ?_
    rw [split_mk] at h4
    have x4 := x3.ex e4
    have o4 := o13.trans (offS_of e4)
    have RS : R ≠ S := fun z => x3.in1 (by rw [← z]; exact hR)
    have RC : R ≠ C := fun z => x3.in2 (by rw [← z]; exact hR)
    have hR0 : H R = none := OffS.back (N := N) o13 x3 hR
    generalize (TL.spl [10] 0 [] (TL.tl t)).map mkS = ys at h4 hW hne2
    have hyl := wgt_len ys
    have hpos : 0 < ys.length := List.length_pos_iff.mpr hne2
    refine q_asgCallN (vs := [.ref S, .int (ys.length : Int)]) (ea_cons (ev_var rfl) (ea_cons (ev_is (ev_len (ev_var rfl) (SqL.of h4)) (by rw [List.length_map])) ea_nil)) fun H5 e5 => ⟨S, C, N + 2, ys.length, rfl, x4.ex e5, by omega, hpos, by omega, fun row H6 hrow o6 x6 => ?_⟩
    have nR : ¬ Str2 S C R := fun z => z.elim RS RC
    have nG : ¬ Str2 S C G := fun z => z.elim GS GC
    have o6' : OffS S C H H6 := (o4.trans (offS_of e5)).trans o6
    have h6 : H6 R = some (.lst (ys.map V.str)) := o6 _ _ nR (e5 _ _ h4)
    have cl : ∀ lo hi, (cutS t lo hi).length ≤ t.length := fun lo hi => cutS_length t lo hi
    have sz : ∀ n, n ≤ 1000000 → n ≤ sizeLine := fun n h => by
      rw [sizeLine_eq]
      omega
    -- text[:at] + a sign + text[from:]
    have picked : ∀ (Hb : Hp) (lo : Option Int) (tl3 : TO), OffS S C H Hb → Stm Hb S C (N + 3) → (∀ Hc, EvO tl3 [some (.ref S), some (.str t), some (.ref G), some (.int (way : Int)), some (.int (at_ : Int)), some (.ref R), some (.int (row : Int)), none] Hc lo) →
        tOp rAddS (tOp rAddS (tSl rSlS (tVar 1) tNoPart (tPart (tVar 4))) (tCall (spPick K) [] E0 (tCons (tVar 0) (tCons (tVar 2) tNil)))) (tSl rSlS (tVar 1) tl3 tNoPart) [some (.ref S), some (.str t), some (.ref G), some (.int (way : Int)), some (.int (at_ : Int)), some (.ref R), some (.int (row : Int)), none] Hb Q := by
      intro Hb lo tl3 ob xb h3
      refine go_opX (go_op (ev_cutS (ev_var rfl) eo_none (eo_some (ev_var rfl)) (by omega)) fun H7 e7 => ⟨_, rfl, _, rfl, S, C, G, N + 3, xs, rfl, xb.ex e7, by omega, e7 _ _ (ob _ _ nG hG), GS, GC, hne, by omega, fun v H8 hv o8 x8 => ?_⟩)
      obtain ⟨g, rfl, hg⟩ := hsg v hv
      have c1 := cl none (some (at_ : Int))
      have c2 := cl lo none
      refine ⟨_, g, rfl, rfl, sz _ (by omega), ?_⟩
      refine (ev_cutS (ev_var rfl) (h3 H8) eo_none (by omega)) H8 (Ex.refl H8) _ fun H9 e9 => ⟨_, _, rfl, rfl, ?_, ?_⟩
      · rw [Str.length_append]
        exact sz _ (by omega)
      · refine q _ H9 (((ob.trans (offS_of e7)).trans o8).trans (offS_of e9)) ((x8.ex e9).mono (by omega)) ?_
        rw [Str.length_append, Str.length_append]
        omega
    -- a joined list of rows
    have joined : ∀ (Hb : Hp) (te : TE) (zs : List Str) σ, OffS S C H Hb → Stm Hb S C (N + 4) → EvL te σ Hb (zs.map V.str) → wgt zs ≤ 3 * wgt ys → tM1 (rJoin K) (tC (.str "\n")) te σ Hb Q := by
      intro Hb te zs σ ob xb hev hw
      have h1 : (Str.ofString "\n").length = 1 := by decide
      refine ev_joinL (s := Str.ofString "\n") (ys := zs) ev_c hev (by rw [h1, Nat.mul_one, wgt_sum]; omega) Hb (Ex.refl _) _ fun H7 e7 => q _ H7 (ob.trans (offS_of e7)) ((xb.ex e7).mono (by omega)) ?_
      have := join_wgt zs
      omega
    have cuts : ∀ (Hb : Hp) (lo hi : Option Int) (tl th : TO) σ, Hb R = some (.lst (ys.map V.str)) → σ[5]? = some (some (.ref R)) → EvO tl σ Hb lo → EvO th σ Hb hi → EvL (tSl (rSlL K) (tVar 5) tl th) σ Hb ((cutL ys lo hi).map V.str) := fun Hb lo hi tl th σ hb hσ h1 h2 =>
      el_is (el_sl (ev_var hσ) h1 h2 (SqL.of hb)) (cutV_strs ys lo hi)
    have lens : ∀ lo hi, ((cutL ys lo hi).map V.str).length ≤ 20000 := fun lo hi => by
      rw [List.length_map]
      have h1 := wgt_len (cutL ys lo hi)
      have h2 := wgt_cut ys lo hi
      omega
    refine q_when (b := decide ((way : Int) < 2)) (et_test (ev_op (ev_var rfl) ev_c rv_I0)) (fun _ H7 e7 => picked H7 (some (at_ : Int)) _ (o6'.trans (offS_of e7)) (x6.ex e7) fun Hc => eo_some (ev_var rfl)) (fun _ H7 e7 => ?_)
    have o7 := o6'.trans (offS_of e7)
    have x7 := x6.ex e7
    refine q_when (b := decide (V.int (way : Int) = V.int 2)) (et_test (ev_op (ev_var rfl) ev_c (rv_eq rfl))) (fun _ H8 e8 => ?_) (fun _ H8 e8 => ?_)
    · have c1 := cl none (some (at_ : Int))
      have c2 := cl (some ((at_ : Int) + 1)) none
      refine s_ret (ev_adds (ev_cutS (ev_var rfl) eo_none (eo_some (ev_var rfl)) (by omega)) (ev_cutS (ev_var rfl) (eo_some (ev_op (ev_var rfl) ev_c rv_I0)) eo_none (by omega)) (sz _ (by omega))) fun H9 e9 => q _ H9 ((o7.trans (offS_of e8)).trans (offS_of e9)) (((x7.ex e8).ex e9).mono (by omega)) ?_
      rw [Str.length_append]
      omega
    have o8 := o7.trans (offS_of e8)
    have x8 := x7.ex e8
    refine q_when (b := decide (V.int (way : Int) = V.int 3)) (et_test (ev_op (ev_var rfl) ev_c (rv_eq rfl))) (fun _ H9 e9 => picked H9 (some ((at_ : Int) + 1)) _ (o8.trans (offS_of e9)) (x8.ex e9) fun Hc => eo_some (ev_op (ev_var rfl) ev_c rv_I0)) (fun _ H9 e9 => ?_)
    have o9 := o8.trans (offS_of e9)
    have x9 := x8.ex e9
    refine q_when (b := decide (V.int (way : Int) = V.int 4)) (et_test (ev_op (ev_var rfl) ev_c (rv_eq rfl))) (fun _ H10 e10 => ?_) (fun _ H10 e10 => ?_)
    · refine s_ret (ev_cutS (ev_var rfl) eo_none (eo_some (ev_var rfl)) (by omega)) fun H11 e11 => q _ H11 ((o9.trans (offS_of e10)).trans (offS_of e11)) (((x9.ex e10).ex e11).mono (by omega)) ?_
      have c1 := cl none (some (at_ : Int))
      omega
    have o10 := o9.trans (offS_of e10)
    have x10 := x9.ex e10
    have h10 := (((e7.trans e8).trans e9).trans e10) _ _ h6
    refine q_when (b := decide (V.int (way : Int) = V.int 5)) (et_test (ev_op (ev_var rfl) ev_c (rv_eq rfl))) (fun _ H11 e11 => ?_) (fun _ H11 e11 => ?_)
    · refine joined H11 _ (cutL ys none (some (row : Int)) ++ cutL ys (some (row : Int)) (some ((row : Int) + 1)) ++ cutL ys (some (row : Int)) none) _ (o10.trans (offS_of e11)) ((x10.ex e11).mono (by omega)) (el_is (el_cat (el_cat (cuts H11 _ _ _ _ _ (e11 _ _ h10) rfl eo_none (eo_some (ev_var rfl))) (cuts H11 _ _ _ _ _ (e11 _ _ h10) rfl (eo_some (ev_var rfl)) (eo_some (ev_op (ev_var rfl) ev_c rv_I0))) ?_) (cuts H11 _ _ _ _ _ (e11 _ _ h10) rfl (eo_some (ev_var rfl)) eo_none) ?_) ?_) ?_
      · have h1 := lens none (some (row : Int))
        have h2 := lens (some (row : Int)) (some ((row : Int) + 1))
        omega
      · have h1 := lens none (some (row : Int))
        have h2 := lens (some (row : Int)) (some ((row : Int) + 1))
        have h3 := lens (some (row : Int)) none
        rw [List.length_append]
        omega
      · rw [List.map_append, List.map_append]
      · rw [wgt_app, wgt_app]
        have h1 := wgt_cut ys none (some (row : Int))
        have h2 := wgt_cut ys (some (row : Int)) (some ((row : Int) + 1))
        have h3 := wgt_cut ys (some (row : Int)) none
        omega
    have o11 := o10.trans (offS_of e11)
    have x11 := x10.ex e11
    have h11 := e11 _ _ h10
    refine q_when (b := decide (V.int (way : Int) = V.int 6)) (et_test (ev_op (ev_var rfl) ev_c (rv_eq rfl))) (fun _ H12 e12 => ?_) (fun _ H12 e12 => ?_)
    · refine joined H12 _ (cutL ys none (some (row : Int)) ++ cutL ys (some ((row : Int) + 1)) none) _ (o11.trans (offS_of e12)) ((x11.ex e12).mono (by omega)) (el_is (el_cat (cuts H12 _ _ _ _ _ (e12 _ _ h11) rfl eo_none (eo_some (ev_var rfl))) (cuts H12 _ _ _ _ _ (e12 _ _ h11) rfl (eo_some (ev_op (ev_var rfl) ev_c rv_I0)) eo_none) ?_) ?_) ?_
      · have h1 := lens none (some (row : Int))
        have h2 := lens (some ((row : Int) + 1)) none
        omega
      · rw [List.map_append]
      · rw [wgt_app]
        have h1 := wgt_cut ys none (some (row : Int))
        have h2 := wgt_cut ys (some ((row : Int) + 1)) none
        omega
    have o12 := o11.trans (offS_of e12)
    have x12 := x11.ex e12
    have h12 := e12 _ _ h11
    -- two rows change places
    refine q_asgCallN (vs := [.ref S, .int (ys.length : Int)]) (ea_cons (ev_var rfl) (ea_cons (ev_is (ev_len (ev_var rfl) (SqL.of h12)) (by rw [List.length_map])) ea_nil)) fun H13 e13 => ⟨S, C, N + 3, ys.length, rfl, x12.ex e13, by omega, hpos, by omega, fun oth H14 hoth o14 x14 => ?_⟩
    have h14 : H14 R = some (.lst (ys.map V.str)) := o14 _ _ nR (e13 _ _ h12)
    have o14' := (o12.trans (offS_of e13)).trans o14
    have g1 : (ys.map V.str)[oth]? = some (.str ys[oth]) := by rw [List.getElem?_map, List.getElem?_eq_getElem hoth]; rfl
    have g2 : (ys.map V.str)[row]? = some (.str ys[row]) := by rw [List.getElem?_map, List.getElem?_eq_getElem hrow]; rfl
    refine q_asgUg (eu_tup (ea_cons (ev_at (K := K) (ev_var rfl) (ev_var rfl) h14 g1) (ea_cons (ev_at (K := K) (ev_var rfl) (ev_var rfl) h14 g2) ea_nil)) (by show 2 ≤ 100000; decide)) fun Tp H15 hTp e15 h15 => ?_
    refine ⟨Tp, _, rfl, SqT.of h15, rfl, _, _, rfl, _, rfl, _, rfl, R, _, _, row, rfl, rfl, e15 _ _ h14, ixN_nat (by rw [List.length_map]; exact hrow), _, _, rfl, _, rfl, _, rfl, R, _, _, oth, rfl, rfl, upd_same, ixN_nat (by rw [List.length_set, List.length_map]; exact hoth), rfl, ?_⟩
    have hR15 : H15 R ≠ none := by
      rw [e15 _ _ h14]
      exact fun z => nomatch z
    have hzs : ((List.map V.str ys).set row (.str ys[oth])).set oth (.str ys[row]) = ((ys.set row ys[oth]).set oth ys[row]).map V.str := by
      rw [List.map_set, List.map_set]
    rw [hzs]
    have w1 := wgt_set (y := ys[oth]) ys row
    have w2 := wgt_set (y := ys[row]) (ys.set row ys[oth]) oth
    have w3 := wgt_mem (List.getElem_mem hoth)
    have w4 := wgt_mem (List.getElem_mem hrow)
    have h1 : (Str.ofString "\n").length = 1 := by decide
    refine ⟨⟨"\n", rfl⟩, _, rfl, "\n", R, (ys.set row ys[oth]).set oth ys[row], rfl, rfl, .inl (SqL.of upd_same), ?_, ?_⟩
    · rw [h1, Nat.mul_one, wgt_sum]
      omega
    · refine q _ _ (((o14'.trans (offS_of e15)).fresh hR0).fresh hR0) (((x14.ex e15).fresh RS RC).fresh RS RC |>.mono (by omega)) ?_
      have := join_wgt ((ys.set row ys[oth]).set oth ys[row])
      omega
end
end Pw
set_option Elab.async false
set_option linter.all false
set_option maxRecDepth 100000
namespace Pw
open PySem PySem.Spec PyProof.Rows L2 Evl
/-! ## try with several clauses, each «as n» -/
abbrev Sue : Type := Addr → Value → Option Addr → TS
abbrev endsAs (i : Nat) (D : Ends) : Ends := { nx := fun τ G => D.nx (τ.set i none) G, rt := D.rt, bk := fun τ G => D.bk (τ.set i none) G, ct := fun τ G => D.ct (τ.set i none) G }
/-- what the clauses wish, one behind the other -/
def wMas (K : PySem.W.Frag) (i : Nat) (Wo : WX) (D : Ends) : List (Value × Sue) → WX
  | [] => Wo
  | p :: r => fun cls d τ G => ∃ b, PySem.W.exmOne K cls p.1 = some b ∧ (b = true → ∀ a, G a = none → p.2 a cls d (endsAs i D) (τ.set i (some (.ref a))) G) ∧ (b = false → wMas K i Wo D r cls d τ G)
inductive MasOk (X : Cx) (n : Str) : List ExceptHandler → List (Value × Sue) → Prop
  | nil : MasOk X n [] []
  | cons {x : Str} {c : Value} {ts : Sue} {b0 : Stmt} {su : List Stmt} {np pe : Pos} {hds : List ExceptHandler} {l : List (Value × Sue)} (hc : Names X x c)
      (hsu : ∀ (a : Addr) (oe : Obj) (cls : Value) (d : Option Addr) (pn : List (Addr × Obj)), Zc cls d oe → (∃ vs, oe.data = .fields vs) → PSs (X.suite a ((a, oe) :: pn)) (b0 :: su) (ts a cls d)) (r : MasOk X n hds l) : MasOk X n (.ExceptHandler (some (.Name x np)) (some n) (b0 :: su) pe :: hds) ((c, ts) :: l)
section
variable {X : Cx} {n : Str} {i : Nat} {body : List Stmt} {h1 : ExceptHandler} {hds : List ExceptHandler} {l : List (Value × Sue)} {pos : Pos} {tb : WX → TS} {Wo : WX}
theorem ps_tryAs (st : X.stack = X.env :: X.outer) (fr : X.env.frame = some X.env.locals) (nd : X.N.Nodup) (at_ : X.N[i]? = some n) (lo : X.env.kindOf n = some .local) (tk : Takes X Wo)
    (bd : ∀ (W : WX) (pn : List (Addr × Obj)) (xe : Value → Shared → Prop), Takes (X.tr pn xe) W → PassesOwn (model X.prog X.w) X.A X.env xe → PSs (X.tr pn xe) body (tb W)) (cl : MasOk X n (h1 :: hds) l) :
    PS X (.Try body (h1 :: hds) [] [] pos) (fun D τ G => tb (wMas X.K i Wo D l) D τ G) := by
  constructor
  intro pp s0 τ G D J0 red
  have fine := J0.ok
  have frs_ : X.A.frames = some (X.env :: X.outer) := by rw [fine.frames, st]
  have isLoc : Loc X.env.scope n := .inl lo
  apply wpAny_Try_except
  have whole := (bd (wMas X.K i Wo D l) (X.pn ++ pp) (fun ev s₁ => wpAny (model X.prog X.w) X.A (noteFrame ev X.env) (fun _ s₂ => wpAny (model X.prog X.w) X.A (setFlight ev none) (fun _ s₃ => wpAny (model X.prog X.w) X.A (handleBy ev X.env (h1 :: hds)) (SP X pp D) X.xe s₃) X.xe s₂) X.xe s₁) (fun uv sv thrown => ?_) PassesOwn.looking).run [] s0 τ G D (J0.toTry _) red
  · refine wpAny_mono whole (fun fl s1 ended => ?_) fun _ _ z => z
    cases fl with
    | next =>
      obtain ⟨τ1, G1, J1, q1⟩ := ended
      exact wpAny_execs_nil ⟨τ1, G1, J1.ofTry fine, q1⟩
    | brk =>
      obtain ⟨τ1, G1, J1, q1⟩ := ended
      exact ⟨τ1, G1, J1.ofTry fine, q1⟩
    | cont =>
      obtain ⟨τ1, G1, J1, q1⟩ := ended
      exact ⟨τ1, G1, J1.ofTry fine, q1⟩
    | ret val =>
      obtain ⟨v1, τ1, G1, J1, rv1, q1⟩ := ended
      exact ⟨v1, τ1, G1, J1.ofTry fine, rv1, q1⟩
  · obtain ⟨a, B, sI, pq, τ1, G1, cls, d, rfl, Jr, nb, up, sky, na, os, ag, wish⟩ := thrown
    have J1 : Inv X pp τ1 G1 sI := Jr.ofTry fine
    have sky1 : Sky B (X.env :: X.outer) a (Zc cls d) X.env.locals sv.heap := by rw [← st]; exact sky
    show wpAny (model X.prog X.w) X.A (noteFrame (.ref a) X.env) _ _ _
    refine Sky.land Zc.steady frs_ fr sky1 fun g3 land3 up3 => ?_
    have J3 : Inv X pp τ1 G1 { sv with heap := g3 } := J1.landed nb land3.1 (up.trans up3) os ag
    obtain ⟨o3, v3, at3, z3, d3⟩ := land3.there
    have noFrame : a ∉ frs (X.env :: X.outer) := fun m => by
      obtain ⟨_, o', e', other⟩ := land3.2.2.1.mem m
      rw [at3] at e'
      cases e'
      exact other _ d3
    have notL : a ≠ X.env.locals := fun z => noFrame (List.mem_filterMap.mpr ⟨X.env, List.mem_cons_self, by rw [fr, z]⟩)
    have notF : a ∉ X.fs := fun m => by
      obtain ⟨ev, me, qe⟩ := List.mem_filterMap.mp m
      exact noFrame (List.mem_filterMap.mpr ⟨ev, List.mem_cons_of_mem _ me, qe⟩)
    have Su3 := J3.suite at3 d3 na notL notF
    have walk : ∀ {hs' : List ExceptHandler} {l' : List (Value × Sue)}, MasOk X n hs' l' → wMas X.K i Wo D l' cls d τ1 G1 → wpAny (model X.prog X.w) X.A (handleBy (.ref a) X.env hs') (SP X pp D) X.xe { sv with heap := g3 } := by
      intro hs' l' ok'
      induction ok' with
      | nil =>
        intro w
        apply wpAny_handleBy_nil
        obtain ⟨_, _, _, oE, vE, tE, oT, tT, atE, zE, dE, fE, rE⟩ := id land3
        unfold PySem.passOn
        refine wpAny_bind (wpAny_field atE dE fE ?_)
        rw [if_neg (show ¬ (Value.ref tE == Value.none) = true by simp)]
        have outward : wpAny (model X.prog X.w) X.A (setFlight (.ref a) X.env.frame) (fun _ s4 => wpAny (model X.prog X.w) X.A (throw (.ref a) : Sem Flow) (SP X pp D) X.xe s4) X.xe { sv with heap := g3 } := by
          rw [fr]
          exact HandSPX.setFlight_upZ land3 fun g4 in4 up4 => wpAny_throw (tk _ _ ⟨a, B, sI, pp, τ1, G1, cls, d, rfl, J1, nb, (up.trans up3).trans up4, .inr (.inr (by rw [st]; exact in4)), na, os, ag, w⟩)
        first
          | exact wpAny_bind (wpAny_pure (wpAny_bind outward))
          | exact wpAny_bind outward
      | @cons x c ts b0 su np pe hds2 l2 hc hsu r next =>
        intro w
        obtain ⟨b, met, yes, no⟩ := w
        refine wpAny_handleBy_cons (codeAny_handlers_test ?_) (by intro z; cases z)
        have kindIs : PySem.W.Looks (model X.prog X.w) g3 (typeOf (.ref a)) cls := fun A Q E s k q => wpAny_typeOf_ref (k _ _ at3) (by rw [z3.1]; exact q)
        have matches_ := PySem.W.exm_one (M := model X.prog X.w) J3.kIn kindIs met
        have named : ∀ {Q E : Value → Shared → Prop}, Q c { sv with heap := g3 } → wpAny (model X.prog X.w) (X.A.mark (some (.ref a))) (eval (.Name x np) X.env) Q E { sv with heap := g3 } := fun {Q E} q => by
          obtain ⟨gl, ndb, mg1 | ⟨mg1, bb1, nn1⟩⟩ := hc
          · exact ld_glob (X := X.suite a ((a, o3) :: (X.pn ++ pp))) Su3 gl mg1 q ndb
          · exact ld_blt (X := X.suite a ((a, o3) :: (X.pn ++ pp))) Su3 gl mg1 bb1 q nn1 ndb
        refine named (matches_.here ?_)
        cases b with
        | false =>
          show wpAny _ X.A (handleBy (.ref a) X.env hds2) _ _ _
          exact next (no rfl)
        | true =>
          apply codeAny_handlers_suite_as
          refine HandSPX.lands_againZ land3 fun g4 land4 up4 => ?_
          have J4 : Inv X pp τ1 G1 { sv with heap := g4 } := J1.landed nb land4.1 ((up.trans up3).trans up4) os ag
          obtain ⟨o4, v4, at4, z4, d4⟩ := land4.there
          have Su4 := J4.suite at4 d4 na notL notF
          refine store_ok (X := X.suite a ((a, o4) :: (X.pn ++ pp))) (v := .ref a) Su4 nd at_ isLoc rfl (fun s5 Su5 => ?_) (.inr lo)
          refine wpAny_mono ((hsu a o4 cls d (X.pn ++ pp) z4 ⟨_, d4⟩).run [] s5 _ G1 _ Su5 (yes rfl a na)) (fun fl s6 ended => ?_) fun _ _ z => z.elim
          have leave : ∀ {τ6 : L2.St} {G6 : Hp} {Q : Shared → Prop}, Inv (X.suite a ((a, o4) :: (X.pn ++ pp))) [] τ6 G6 s6 → (∀ s7, Inv X pp (τ6.set i none) G6 s7 → Q s7) →
              wpAny (model X.prog X.w) X.A (do bindName X.env n .none; unbindBehindTheSuite X.env n pe) (fun _ s7 => Q s7) X.xe s6 := fun Su6 q => gone_ok (Su6.unsuite fine) nd at_ lo q
          cases fl with
          | next =>
            obtain ⟨τ6, G6, Su6, q6⟩ := ended
            exact leave Su6 fun s7 J7 => ⟨_, _, J7, q6⟩
          | brk =>
            obtain ⟨τ6, G6, Su6, q6⟩ := ended
            exact leave Su6 fun s7 J7 => ⟨_, _, J7, q6⟩
          | cont =>
            obtain ⟨τ6, G6, Su6, q6⟩ := ended
            exact leave Su6 fun s7 J7 => ⟨_, _, J7, q6⟩
          | ret val =>
            obtain ⟨v6, τ6, G6, Su6, rv6, q6⟩ := ended
            exact leave Su6 fun s7 J7 => ⟨_, _, _, J7, rv6, q6⟩
    exact walk cl wish
end
end Pw
set_option Elab.async false
set_option linter.all false
set_option maxRecDepth 100000
namespace Pw
open PySem PySem.Spec PyProof.Rows L2 Evl LamX
/-! ## _law_met -/
/-- which clause meets which class -/
structure ExM (K : PySem.W.Frag) : Prop where
  pp : PySem.W.exmOne K (.ref (He.ga K "BadPicture")) (.ref (He.ga K "BadPicture")) = some true
  tp : PySem.W.exmOne K (.ref (He.ga K "BadText")) (.ref (He.ga K "BadPicture")) = some false
  tt : PySem.W.exmOne K (.ref (He.ga K "BadText")) (.ref (He.ga K "BadText")) = some true
abbrev sMet : Stmt := top 35
abbrev nMet : List Str := ["_law_ask", "e"]
theorem scMet : FnScope nMet ["_law_ask"] (defScope sMet) := ⟨rfl, rfl, rfl, by decide +kernel, rfl, by decide +kernel, by decide +kernel⟩
/-- what may be thrown, and what is told of it -/
def MetE (K : PySem.W.Frag) (Q : VK) : XK := fun cls d H =>
  (cls = .ref (He.ga K "BadPicture") ∧ ∃ dd v, d = some dd ∧ H dd = some (.xd [("thing", v)]) ∧ ∀ p, H p = none → Q (.ref p) (upd H p (.tup [.str "picture", v]))) ∨
  (cls = .ref (He.ga K "BadText") ∧ ∃ dd i j, d = some dd ∧ H dd = some (.xd [("sign", j), ("line", i)]) ∧ ∀ q, H q = none → ∀ p, upd H q (.tup [i, j]) p = none → Q (.ref p) (upd (upd H q (.tup [i, j])) p (.tup [.str "text", .ref q])))
def TMet (K : PySem.W.Frag) : (XK → Hp → VK → Prop) → Hp → VK → Prop := fun tl H Q => tl (MetE K Q) H fun v H1 => [V.str "told", v].length ≤ sizeLine ∧ ∀ p, H1 p = none → Q (.ref p) (upd H1 p (.tup [.str "told", v]))
theorem takes_len {X : Cx} {W : WX} (t : Takes X W) : Takes X (fun cls d σ H => σ.length = X.N.length → W cls d σ H) := fun u s' ⟨a, B, sI, pins, σ, H, cls, d, e, I, nb, up, sky, na, os, ag, w⟩ =>
  t u s' ⟨a, B, sI, pins, σ, H, cls, d, e, I, nb, up, sky, na, os, ag, w I.len⟩
theorem met_gives {X : Cx} {q : Str} {cdg : Value} (BP : ∃ P w base, Pe P w X.K X.mg base 1 "BadPicture" ["thing"] ["self", "thing"] (spInit1 X.K "BadPicture" "thing")) (BT : ∃ P w base, Pe P w X.K X.mg base 1 "BadText" ["line", "sign"] ["self", "line", "sign"] (spInit2 X.K "BadText" "line" "sign")) (M : ExM X.K) :
    GivesTo X nMet "_law_met" (defScope sMet) (He.ga X.K "_law_met") cdg (defBody sMet) "_law_ask" q (TMet X.K) := by
  obtain ⟨P1, w1, b1, BP⟩ := BP
  obtain ⟨P2, w2, b2, BT⟩ := BT
  intro f c' s H Q tl act hc h
  refine ⟨_, pss_one (ps_tryAs (X := (cxOf C8.CX0 X.prog X.w X.K X.mg X.base nMet "_law_met" (defScope sMet) (He.ga X.K "_law_met") cdg X.A X.stack s H C8.E0).nox) (i := 1)
      (tb := fun W D σ H => ∃ Ech : XK, (∀ cls d σ' H', σ'.length = 2 → Ech cls d H' → W cls d σ' H') ∧ σ[0]? = some (some (.ref f)) ∧ H c' = some (CodeO c' q) ∧ tl Ech H fun v H1 => [V.str "told", v].length ≤ sizeLine ∧ ∀ p, H1 p = none → D.rt (.ref p) (upd H1 p (.tup [.str "told", v])))
      rfl rfl scMet.nd rfl rfl L2.takes0 (fun W pn xe tk _ => ?_)
      (.cons (c := .ref (He.ga X.K "BadPicture")) ⟨rfl, by decide, .inl BP.gl⟩ (fun a oe cls d pn hz hf => pss_one (ps_ret (pe_tup (pa_cons pe_str (pa_cons (pe_xf BP.xf (BP.no "thing" (by decide)) hz hf (pv 1)) pa_nil)))))
        (.cons (c := .ref (He.ga X.K "BadText")) ⟨rfl, by decide, .inl BT.gl⟩ (fun a oe cls d pn hz hf => pss_one (ps_ret (pe_tup (pa_cons pe_str (pa_cons (pe_tup (pa_cons (pe_xf BT.xf (BT.no "line" (by decide)) hz hf (pv 1)) (pa_cons (pe_xf BT.xf (BT.no "sign" (by decide)) hz hf (pv 1)) pa_nil))) pa_nil))))) .nil))), ?_⟩
  · refine ⟨fun pins s' σ H D I h' => ?_⟩
    obtain ⟨Ech, hW, h1, h2, h3⟩ := h'
    have tk2 := takes_len tk
    have hp := fun p1 p2 => act _ pn xe Ech p1 p2 tk2 fun cls d σ' H' he hl => hW cls d σ' H' hl he
    exact (pss_one (ps_ret (pe_tup (pa_cons pe_str (pa_cons (hp _ _) pa_nil))))).run pins s' σ H D I ⟨h1, h2, h3⟩
  · refine ⟨MetE X.K Q, fun cls d σ' H' hl hE => ?_, rfl, hc, h⟩
    have hσ : ∀ a : Addr, (σ'.set 1 (some (V.ref a)))[1]? = some (some (V.ref a)) := fun a => by rw [List.getElem?_set_self (by omega)]
    rcases hE with ⟨rfl, dd, v, rfl, hdd, hq⟩ | ⟨rfl, dd, i, j, rfl, hdd, hq⟩
    · refine ⟨true, M.pp, fun _ a ha => ?_, (fun z => nomatch z)⟩
      exact ⟨_, hσ a, rfl, rfl, dd, _, v, rfl, hdd, rfl, by show 2 ≤ sizeLine; decide, hq⟩
    · refine ⟨false, M.tp, (fun z => nomatch z), fun _ => ⟨true, M.tt, fun _ a ha => ?_, (fun z => nomatch z)⟩⟩
      exact ⟨_, hσ a, rfl, rfl, dd, _, i, rfl, hdd, rfl, _, hσ a, rfl, rfl, dd, _, j, rfl, hdd, rfl, by show 2 ≤ sizeLine; decide, fun q2 hq2 => ⟨by show 2 ≤ sizeLine; decide, hq q2 hq2⟩⟩
end Pw
set_option Elab.async false
set_option linter.all false
set_option maxRecDepth 100000
namespace Pw
open PySem TL
/-! ## what a picture's text reads as -/
def shadeL (i : Int) : List Nat := tl (shadeS i)
theorem shadeL_nat (n : Nat) : shadeL (n : Int) = numL n := tl_num n
theorem shadeL_neg (m : Nat) : shadeL (Int.negSucc m) = 45 :: numL (m + 1) := by
  have e : toString (Int.negSucc m) = "-" ++ toString (((m + 1 : Nat) : Int)) := rfl
  show tl (Str.ofString (toString (Int.negSucc m))) = _
  rw [e, tl_ofString, String.toList_append, List.map_append, ← tl_ofString (toString (((m + 1 : Nat) : Int))), tl_num]
  rfl
/-- no number but 0 begins with 0 -/
theorem numL_head (n : Nat) : 0 < n → (numL n)[0]? ≠ some 48 := by
  induction n using Nat.strongRecOn with
  | _ n ih =>
    intro h0
    by_cases h : n < 10
    · rw [numL_lt h]
      intro z
      have z2 : 48 + n = 48 := Option.some.inj z
      omega
    · rw [numL_step (by omega)]
      have hne := numL_ne (n / 10)
      have hl : 0 < (numL (n / 10)).length := List.length_pos_iff.mpr hne
      rw [List.getElem?_append_left hl]
      exact ih (n / 10) (by omega) (by omega)
theorem figAt_of {t : List Nat} {p c : Nat} (h : t[p]? = some c) (h1 : 48 ≤ c ∧ c ≤ 57) : figAt t p = true := by
  unfold figAt
  rw [h]
  exact decide_eq_true h1
theorem figAt_not {t : List Nat} {p c : Nat} (h : t[p]? = some c) (h1 : c < 48 ∨ 57 < c) : figAt t p = false := by
  unfold figAt
  rw [h]
  exact decide_eq_false (by omega)
theorem numLen_is {t : List Nat} {h n : Nat} (h1 : ∀ i, i < n → figAt t (h + i) = true) (h2 : figAt t (h + n) = false) (h3 : n ≤ 16) (h4 : 2 ≤ n → t[h]? ≠ some 48) : numLen t h = n := by
  have inv : ∀ j, j ≤ n → NumInv t h j := by
    intro j
    induction j with
    | zero => exact fun _ => NumInv.start t h
    | succ j ih =>
      intro hj
      refine ((ih (by omega)).next ?_).1
      unfold goOn
      rw [h1 j (by omega), decide_eq_true (show j < 16 by omega), Bool.true_and, Bool.true_and]
      by_cases h0 : j = 0
      · rw [decide_eq_true h0, Bool.true_or]
      · rw [decide_eq_false (h4 (by omega))]
        simp
  refine (inv n (Nat.le_refl _)).stop ?_
  unfold goOn
  rw [h2, Bool.and_false, Bool.false_and]
theorem drop_at {t L : List Nat} {h i : Nat} (e : t.drop h = L) : t[h + i]? = L[i]? := by rw [← e, List.getElem?_drop]
theorem nat_at {t m : List Nat} {h n c0 : Nat} (e : t.drop h = numL n ++ c0 :: m) (hc : c0 < 48 ∨ 57 < c0) (hn : n < 10 ^ 16) : numLen t h = (numL n).length ∧ seg t h (h + (numL n).length) = numL n := by
  have hl : (numL n).length ≤ 16 := numL_len (by decide) hn
  constructor
  · refine numLen_is (fun i hi => ?_) ?_ hl fun h2 => ?_
    · have e1 : t[h + i]? = some (numL n)[i] := by rw [drop_at e, List.getElem?_append_left hi, List.getElem?_eq_getElem hi]
      exact figAt_of e1 (numL_digits n _ (List.getElem_mem hi))
    · have e1 : t[h + (numL n).length]? = some c0 := by rw [drop_at e, List.getElem?_append_right (Nat.le_refl _), Nat.sub_self]; rfl
      exact figAt_not e1 hc
    · have e1 : t[h]? = (numL n)[0]? := by
        have := drop_at (i := 0) e
        rw [Nat.add_zero] at this
        rw [this, List.getElem?_append_left (by omega)]
      rw [e1]
      refine numL_head n ?_
      cases n with
      | zero =>
        have : (numL 0).length = 1 := by decide
        omega
      | succ n => omega
  · unfold seg
    rw [e, show h + (numL n).length - h = (numL n).length by omega, List.take_left]
theorem int_nat {t m : List Nat} {h n c0 : Nat} (e : t.drop h = numL n ++ c0 :: m) (hc : c0 < 48 ∨ 57 < c0) (hn : n < 10 ^ 16) : intE t h = (h + (numL n).length, true) ∧ valE t h (h + (numL n).length) = (n : Int) := by
  obtain ⟨h1, h2⟩ := nat_at e hc hn
  have hne := numL_ne n
  have hl : 0 < (numL n).length := List.length_pos_iff.mpr hne
  have h45 : ¬ t[h]? = some 45 := by
    have := drop_at (i := 0) e
    rw [Nat.add_zero] at this
    rw [this, List.getElem?_append_left hl, List.getElem?_eq_getElem hl]
    intro z
    have z2 := Option.some.inj z
    have := numL_digits n _ (List.getElem_mem hl)
    omega
  constructor
  · unfold intE
    rw [if_neg h45, h1, decide_eq_true hl]
  · unfold valE
    rw [h2]
    have hlen : (numL n).length ≤ 16 := numL_len (by decide) hn
    have a := intText_digits (x := ⟨(numL n).toArray⟩) (numL_digits n) hne (by rw [len_tl]; show (numL n).length ≤ 4300; omega)
    rw [a]
    show ((NumText.digitsVal (numL n) : Nat) : Int) = n
    rw [numL_val]
theorem int_at {t m : List Nat} {h c0 : Nat} {i : Int} (e : t.drop h = shadeL i ++ c0 :: m) (hc : c0 < 48 ∨ 57 < c0) (hi : i.natAbs < 10 ^ 16) : intE t h = (h + (shadeL i).length, true) ∧ valE t h (h + (shadeL i).length) = i := by
  cases i with
  | ofNat n =>
    have e2 : shadeL (Int.ofNat n) = numL n := shadeL_nat n
    rw [e2] at e ⊢
    exact int_nat e hc hi
  | negSucc k =>
    rw [shadeL_neg] at e ⊢
    have hk : k + 1 < 10 ^ 16 := hi
    have h45 : t[h]? = some 45 := by
      have := drop_at (i := 0) e
      rw [Nat.add_zero] at this
      rw [this]
      rfl
    have e2 : t.drop (h + 1) = numL (k + 1) ++ c0 :: m := by
      have : (t.drop h).drop 1 = numL (k + 1) ++ c0 :: m := by rw [e]; rfl
      rw [List.drop_drop] at this
      exact this
    obtain ⟨h1, h2⟩ := nat_at e2 hc hk
    obtain ⟨g1, g2⟩ := int_nat e2 hc hk
    have hne := numL_ne (k + 1)
    have hl : 0 < (numL (k + 1)).length := List.length_pos_iff.mpr hne
    have h48 : ¬ t[h + 1]? = some 48 := by
      have := drop_at (i := 0) e2
      rw [Nat.add_zero] at this
      rw [this, List.getElem?_append_left hl]
      exact numL_head (k + 1) (by omega)
    have hlen : (45 :: numL (k + 1)).length = 1 + (numL (k + 1)).length := by rw [List.length_cons]; omega
    constructor
    · unfold intE
      rw [if_pos h45, if_neg h48, h1, decide_eq_true hl, hlen]
      congr 1
      omega
    · have hv := val_minus h45 (by rw [h1]; exact hl)
      rw [h1] at hv
      rw [hlen, show h + (1 + (numL (k + 1)).length) = h + 1 + (numL (k + 1)).length by omega, hv, g2]
      rfl
/-! ### a row -/
def rowL (r : List Int) : List Nat := joinL [32] (r.map shadeL) ++ [10]
theorem row_from {t : List Nat} {c many : Nat} (hm : many = 0 ∨ many = c) : ∀ (r : List Int) (acc : List Int) (h f : Nat), r ≠ [] → (∀ i ∈ r, i.natAbs < 10 ^ 16) → t.drop h = rowL r → acc.length + r.length = c → r.length ≤ f →
    ∃ p, rowE t many f acc h = (p, true, acc ++ r)
  | [], _, _, _, z, _, _, _, _ => absurd rfl z
  | [i], acc, h, f, _, hi, e, hc, hf => by
    obtain ⟨f', rfl⟩ : ∃ f', f = f' + 1 := ⟨f - 1, by rw [List.length_singleton] at hf; omega⟩
    have e1 : t.drop h = shadeL i ++ 10 :: [] := e
    obtain ⟨g1, g2⟩ := int_at e1 (by decide) (hi i (List.mem_singleton.mpr rfl))
    have hp : t[h + (shadeL i).length]? = some 10 := by rw [drop_at e1, List.getElem?_append_right (Nat.le_refl _), Nat.sub_self]; rfl
    have hmo : ¬ moreE t many (acc.length + 1) (h + (shadeL i).length) = true := by
      unfold moreE
      split
      · rw [decide_eq_true_eq]
        rw [List.length_singleton] at hc
        omega
      · rw [hp, decide_eq_true_eq]
        intro z
        cases z
    refine ⟨h + (shadeL i).length + 1, ?_⟩
    rw [rowE, g1, if_pos rfl, if_neg hmo, if_pos hp, g2]
  | i :: j :: r, acc, h, f, _, hi, e, hc, hf => by
    obtain ⟨f', rfl⟩ : ∃ f', f = f' + 1 := ⟨f - 1, by rw [List.length_cons] at hf; omega⟩
    have e1 : t.drop h = shadeL i ++ 32 :: rowL (j :: r) := by
      rw [e]
      show (shadeL i ++ ([32] ++ joinL [32] ((j :: r).map shadeL))) ++ [10] = _
      rw [List.append_assoc]
      rfl
    obtain ⟨g1, g2⟩ := int_at e1 (by decide) (hi i (List.mem_cons_self ..))
    have hp : t[h + (shadeL i).length]? = some 32 := by rw [drop_at e1, List.getElem?_append_right (Nat.le_refl _), Nat.sub_self]; rfl
    have hmo : moreE t many (acc.length + 1) (h + (shadeL i).length) = true := by
      unfold moreE
      split
      · rw [decide_eq_true_eq]
        rw [List.length_cons, List.length_cons] at hc
        omega
      · rw [hp]
        rfl
    have e2 : t.drop (h + (shadeL i).length + 1) = rowL (j :: r) := by
      have : (t.drop h).drop ((shadeL i).length + 1) = rowL (j :: r) := by
        rw [e1, ← List.drop_drop, List.drop_left]
        rfl
      rw [List.drop_drop] at this
      exact this
    obtain ⟨p, hq⟩ := row_from hm (j :: r) (acc ++ [i]) (h + (shadeL i).length + 1) f' (by simp) (fun k hk => hi k (List.mem_cons_of_mem _ hk)) e2 (by rw [List.length_append, List.length_singleton]; rw [List.length_cons] at hc; omega) (by rw [List.length_cons] at hf; omega)
    refine ⟨p, ?_⟩
    rw [rowE, g1, if_pos rfl, if_pos hmo, if_pos hp, g2, hq, List.append_assoc]
    rfl
theorem join_len_ge : ∀ ps : List (List Nat), (∀ p ∈ ps, p ≠ []) → ps.length ≤ (joinL [32] ps).length + 1
  | [], _ => Nat.zero_le _
  | [p], _ => by show 1 ≤ p.length + 1; omega
  | p :: q :: r, h => by
    have := join_len_ge (q :: r) fun z hz => h z (List.mem_cons_of_mem _ hz)
    show (p :: q :: r).length ≤ (p ++ ([32] ++ joinL [32] (q :: r))).length + 1
    rw [List.length_append, List.length_append, List.length_singleton, List.length_cons]
    omega
theorem shadeL_ne (i : Int) : shadeL i ≠ [] := by
  cases i with
  | ofNat n =>
    have e2 : shadeL (Int.ofNat n) = numL n := shadeL_nat n
    rw [e2]
    exact numL_ne n
  | negSucc k =>
    rw [shadeL_neg]
    simp
theorem row_one {c many : Nat} {r : List Int} (hm : many = 0 ∨ many = c) (hr : r.length = c) (hc : 0 < c) (hi : ∀ i ∈ r, i.natAbs < 10 ^ 16) : (row1 (rowL r) many).2.1 = true ∧ (row1 (rowL r) many).2.2 = r := by
  have hne : r ≠ [] := fun z => by rw [z] at hr; rw [← hr] at hc; exact absurd hc (by decide)
  have hlen : r.length ≤ (rowL r).length + 1 := by
    have := join_len_ge (r.map shadeL) fun p hp => by
      obtain ⟨i, _, rfl⟩ := List.mem_map.mp hp
      exact shadeL_ne i
    rw [List.length_map] at this
    unfold rowL
    rw [List.length_append, List.length_singleton]
    omega
  obtain ⟨p, e⟩ := row_from (t := rowL r) hm r [] 0 ((rowL r).length + 1) hne hi rfl (by rw [List.length_nil, Nat.zero_add]; exact hr) hlen
  have e2 : row1 (rowL r) many = (p, true, [] ++ r) := e
  rw [e2]
  exact ⟨rfl, rfl⟩
theorem rows_all {c : Nat} (hc : 0 < c) : ∀ (rows : List (List Int)) (i many : Nat), (many = 0 ∨ many = c) → (∀ r ∈ rows, r.length = c ∧ ∀ i ∈ r, i.natAbs < 10 ^ 16) → rowsE (rows.map rowL) i many = (none, rows)
  | [], _, _, _, _ => rfl
  | r :: rows, i, many, hm, h => by
    obtain ⟨h1, h2⟩ := h r (List.mem_cons_self ..)
    obtain ⟨g1, g2⟩ := row_one hm h1 hc h2
    rw [List.map_cons, rowsE, if_pos g1, g2, h1, rows_all hc rows (i + 1) c (.inr rfl) fun q hq => h q (List.mem_cons_of_mem _ hq)]
/-! ### the lines -/
theorem joinL_nil : ∀ ps : List (List Nat), joinL [] ps = ps.flatten
  | [] => rfl
  | [p] => by simp [joinL]
  | p :: q :: r => by
    show p ++ ([] ++ joinL [] (q :: r)) = _
    rw [joinL_nil (q :: r)]
    simp
theorem rowL_free (r : List Int) : (10 : Nat) ∉ joinL [32] (r.map shadeL) := by
  have hs : ∀ i : Int, (10 : Nat) ∉ shadeL i := fun i => by
    cases i with
    | ofNat n =>
      have e2 : shadeL (Int.ofNat n) = numL n := shadeL_nat n
      rw [e2]
      exact numL_free (by decide)
    | negSucc k =>
      rw [shadeL_neg]
      intro z
      rcases List.mem_cons.mp z with z | z
      · cases z
      · exact numL_free (by decide) z
  have gen : ∀ ps : List (List Nat), (∀ p ∈ ps, (10 : Nat) ∉ p) → (10 : Nat) ∉ joinL [32] ps := by
    intro ps
    induction ps with
    | nil => exact fun _ z => by cases z
    | cons p ps ih =>
      cases ps with
      | nil => exact fun h => h p (List.mem_cons_self ..)
      | cons q r =>
        intro h z
        have z : (10 : Nat) ∈ p ++ ([32] ++ joinL [32] (q :: r)) := z
        rcases List.mem_append.mp z with z | z
        · exact h p (List.mem_cons_self ..) z
        · rcases List.mem_append.mp z with z | z
          · cases List.mem_singleton.mp z
          · exact ih (fun p hp => h p (List.mem_cons_of_mem _ hp)) z
  refine gen _ fun p hp => ?_
  obtain ⟨i, _, rfl⟩ := List.mem_map.mp hp
  exact hs i
theorem tl_row (r : List Int) : tl (rowS r) = rowL r := by
  unfold rowS rowL
  rw [tl_append, join_eq, tl_join, List.map_map]
  have e1 : tl (Str.ofString " ") = [32] := by decide +kernel
  have e2 : tl (Str.ofString "\n") = [10] := by decide +kernel
  rw [e1, e2]
  rfl
theorem tl_text (rows : List (List Int)) : tl (textR rows) = (rows.map rowL).flatten := by
  unfold textR
  have e0 : tl (Str.ofString "") = [] := by decide +kernel
  rw [join_eq, tl_join, e0, joinL_nil, List.map_map]
  congr 1
  refine List.map_congr_left fun r _ => tl_row r
theorem spl_rows : ∀ ps : List (List Nat), (∀ p ∈ ps, (10 : Nat) ∉ p) → spl [10] 0 [] (ps.map (· ++ [10])).flatten = ps ++ [[]]
  | [], _ => by
    show spl [10] 0 [] [] = _
    rw [spl_nil]
    rfl
  | p :: ps, h => by
    have e : ((p :: ps).map (· ++ [10])).flatten = p ++ (10 :: [] ++ (ps.map (· ++ [10])).flatten) := by
      rw [List.map_cons, List.flatten_cons, List.append_assoc]
    rw [e, spl_part1 (h p (List.mem_cons_self ..)), spl_rows ps fun q hq => h q (List.mem_cons_of_mem _ hq)]
    rfl
theorem lines_text (rows : List (List Int)) : linesL (tl (textR rows)) = rows.map rowL := by
  have e : rows.map rowL = (rows.map fun r => joinL [32] (r.map shadeL)).map (· ++ [10]) := by
    rw [List.map_map]
    rfl
  have hs := spl_rows (rows.map fun r => joinL [32] (r.map shadeL)) fun p hp => by
    obtain ⟨r, _, rfl⟩ := List.mem_map.mp hp
    exact rowL_free r
  unfold linesL
  rw [tl_text, e, hs]
  simp
/-- THE LAW: a rectangle's text has no fault and reads as the rectangle -/
theorem round_trip {rows : List (List Int)} {c : Nat} (h : rows = [] ∨ 0 < c) (hr : ∀ r ∈ rows, r.length = c ∧ ∀ i ∈ r, i.natAbs < 10 ^ 16) : faultL (tl (textR rows)) = none ∧ rowsL (tl (textR rows)) = rows := by
  unfold faultL rowsL
  rw [lines_text]
  rcases h with rfl | hc
  · exact ⟨rfl, rfl⟩
  · rw [rows_all hc rows 0 0 (.inl rfl) hr]
    exact ⟨rfl, rfl⟩
end Pw
set_option Elab.async false
set_option linter.all false
set_option maxRecDepth 100000
namespace Pw
open PySem PySem.Spec PyProof.Rows L2 Evl
/-! ## repr: where nothing is being shown around -/
def rRepr (K : PySem.W.Frag) : List V → Hp → VK → Prop := fun xs H Q => ∃ a d, xs = [.ref a] ∧ Dp K H (.ref a) d ∧ d.showable = true ∧ d.hasDict = false ∧ d.depth ≤ 10 ∧ d.shown.length ≤ sizeLine ∧ Q (.str d.shown) H
theorem call_reprD {X : Cx} (hg : X.A.guards = some []) (hu : X.A.units + 64 < cLine) : CallR X (.builtin "repr") (rRepr X.K) := by
  intro pins s σ H xs us Q I rv h
  obtain ⟨a, d, rfl, hd, h1, h2, h3, h4, q⟩ := h
  obtain ⟨u, rfl, ru⟩ := rv.one
  cases ru
  obtain ⟨as, r⟩ := Dp.reads I d _ (.ref a) hd rfl
  exact repr_of_reads' r h1 (PyData.noDict_hsm h2) hg (by omega) (fun _ _ e => e) (fun h' u tk hk => ⟨.str d.shown, H, I.kept hk, ⟨u, rfl⟩, q⟩) h4
/-! ## a def that is called where nothing is being shown -/
structure PrG (P : Program) (w : World) (K : PySem.W.Frag) (mg : Str → Option Value) (base : Heap) (k : Nat) (x : Str) (ps : List Str) (sp : Sp) : Prop where
  len : ∀ vs H Q E, sp vs H Q E → vs.length = ps.length
  run : ∃ fd, (∀ (A : Around) (outer : List Env) (s : Shared) (H : Hp) (args : Args) (us : List Value) (vs : List V) (Q : VK) (E : XK), A.guards = some [] → Room k A → Env0 P w K mg base A outer s H → BindsTo s fd args (ps.zip us) → Vals vs us → sp vs H Q E →
    codeAny (model P w) A (.call (.ref (He.ga K x)) args) (CR CX0 outer P w H s Q E) s) ∧ Binds K fd ps []
  kp : PySem.W.keepIn K (.ref (He.ga K x)) = true
  gl : mg x = some (.ref (He.ga K x))
section
variable {P : Program} {w : World} {K : PySem.W.Frag} {mg : Str → Option Value} {base : Heap}
theorem PrG.of {x : Str} {st : Stmt} {N ps : List Str} {k : Nat} {sp : Sp} (D : Df K mg x st) (S : FnScope N ps (defScope st)) (hb : BindsF x x st ps) (len : ∀ vs H Q E, sp vs H Q E → vs.length = ps.length)
    (body : ∀ (cdv : Value) (A : Around) (outer : List Env) (s : Shared) (H : Hp) (vs : List V) (Q : VK) (E : XK), A.guards = some [] → Room k (A.deeper (envOfC x (defScope st) s.heap.objs.size (He.ga K x) cdv)) → sp vs H Q E →
      ∃ t, PSs (cxOf CX0 P w K mg base N x (defScope st) (He.ga K x) cdv A outer s H E).nox (defBody st) t ∧ t { nx := fun _ H' => Q .non H', rt := Q } (start N vs) H) :
    PrG P w K mg base (k + 1) x ps sp := by
  obtain ⟨fd, F⟩ := D.fn
  refine ⟨len, ⟨fd, ?_, F.bindsN hb⟩, F.kp, D.gl⟩
  obtain ⟨oc, od, dV, kV, doc, pm, an, cdv, ct, osl, rfl, lk, hcd, hD, hK⟩ := F.ex
  intro A outer s H args us vs Q E hg hr e0 hbt r h
  refine LamX.run_ofS lk hcd S hr e0 hbt r (len _ _ _ _ h) fun hr' => ?_
  obtain ⟨t, h1, h2⟩ := body cdv A outer s H vs Q E hg hr' h
  exact ⟨t, h1.nox, h2⟩
end
theorem pcallG {X : Cx} {k : Nat} {x : Str} {ps : List Str} {sp : Sp} {p pos : Pos} {e : Expr} {es : List Expr} {t : TA} (R : PrG X.prog X.w X.K X.mg X.base k x ps sp) (hg : X.A.guards = some []) (hr : Room k X.A) (ha : PA X (e :: es) t) (gl : Gl X x := by rfl) (hdb : (x == ("__debug__" : Str)) = false := by decide)
    (he : starEach (e :: es) X.env = (false, eval e X.env) :: starEach es X.env := by rfl) (hpl : (backTo pos (starEach es X.env)).any (·.1) = false := by rfl) :
    PE X (.Call (.Name x p) (e :: es) [] pos) (tCall sp [] E0 t) := by
  obtain ⟨fd, F, hb⟩ := R.run
  constructor
  intro pins s σ H Q I h
  apply wpAny_Call_Name_kw
  refine ld_glob I gl R.gl ?_ hdb
  refine PySem.W.callWith_K (h₀ := X.base) I.ok.mod.kin R.kp (thn (ha.run pos pins s σ H _ I h) fun us s1 hus => ?_) he hpl
  obtain ⟨vs, H1, I1, rv, q⟩ := hus
  have q : sp (vs ++ []) H1 Q E0 := q
  rw [List.append_nil] at q
  refine ⟨I1.kIn, ?_⟩
  have hl : us.length = ps.length := by rw [← rv.length]; exact R.len _ _ _ _ q
  have hbt := hb s1 us I1.kIn (by rw [List.append_nil]; exact hl)
  rw [List.append_nil] at hbt
  have code := F X.A X.stack s1 H1 ⟨us, []⟩ us vs Q E0 hg hr I1.env0 hbt rv q
  refine wpAny_call (codeAny_mono code fun r s' ended => ?_)
  cases r with
  | error ev => exact (show False from ended).elim
  | ok fl =>
    cases fl with
    | ret u => exact I1.after ended
    | next => exact ended.elim
    | brk => exact ended.elim
    | cont => exact ended.elim
end Pw
set_option Elab.async false
set_option linter.all false
set_option maxRecDepth 100000
namespace Pw
open PySem PySem.Spec PyProof.Rows L2 Evl
/-! ## good pictures, and what is like them -/
/-- a rectangle of few shades of ten figures, or nothing -/
structure Good (rows : List (List Int)) : Prop where
  few : rows.length ≤ 20
  rect : ∃ c, c ≤ 20 ∧ (rows = [] ∨ 0 < c) ∧ ∀ r ∈ rows, r.length = c ∧ ∀ i ∈ r, i.natAbs ≤ 1000000000
theorem Good.small {rows : List (List Int)} (g : Good rows) : Small rows := by
  obtain ⟨c, hc, _, h⟩ := g.rect
  have := g.few
  refine ⟨by omega, fun r hr => ?_⟩
  obtain ⟨h1, h2⟩ := h r hr
  exact ⟨by omega, fun i hi => Nat.lt_of_le_of_lt (h2 i hi) (by decide)⟩
theorem Good.round {rows : List (List Int)} (g : Good rows) : faultL (TL.tl (textR rows)) = none ∧ rowsL (TL.tl (textR rows)) = rows := by
  obtain ⟨c, hc, h0, h⟩ := g.rect
  exact round_trip h0 fun r hr => ⟨(h r hr).1, fun i hi => Nat.lt_of_le_of_lt ((h r hr).2 i hi) (by decide)⟩
theorem Good.len {rows : List (List Int)} (g : Good rows) : (textR rows).length ≤ 40000 := by
  obtain ⟨c, hc, h0, h⟩ := g.rect
  have h1 := textR_len (rows := rows) (b := 281) fun r hr => by
    have h2 := rowS_len (ns := r) fun i hi => Nat.lt_of_le_of_lt ((h r hr).2 i hi) (by decide)
    have := (h r hr).1
    omega
  have h2 : rows.length * 281 ≤ 20 * 281 := Nat.mul_le_mul_right _ g.few
  omega
theorem Good.gvs {rows : List (List Int)} (g : Good rows) : gv 2 (picD rows) := by
  obtain ⟨c, hc, h0, h⟩ := g.rect
  refine ⟨rows.map rowD, rfl, by rw [List.length_map]; have := g.few; omega, fun z hz => ?_⟩
  obtain ⟨r, hr, rfl⟩ := List.mem_map.mp hz
  refine ⟨r.map .int, rfl, by rw [List.length_map]; have := (h r hr).1; omega, fun y hy => ?_⟩
  obtain ⟨i, _, rfl⟩ := List.mem_map.mp hy
  exact ⟨i, rfl⟩
theorem okS_row (n : Nat) {r : List Int} (h : r.length ≤ 50000) : okS (n + 2) (rowD r) = true := by
  show (decide ((r.map PyData.int).length ≤ 50000) && (r.map PyData.int).all (okS (n + 1))) = true
  rw [List.length_map, decide_eq_true h, Bool.true_and, List.all_eq_true]
  intro d hd
  obtain ⟨i, _, rfl⟩ := List.mem_map.mp hd
  rfl
theorem okS_pic (n : Nat) {rows : List (List Int)} (h : rows.length ≤ 50000) (h2 : ∀ r ∈ rows, r.length ≤ 50000) : okS (n + 3) (picD rows) = true := by
  show (decide ((rows.map rowD).length ≤ 50000) && (rows.map rowD).all (okS (n + 2))) = true
  rw [List.length_map, decide_eq_true h, Bool.true_and, List.all_eq_true]
  intro d hd
  obtain ⟨r, hr, rfl⟩ := List.mem_map.mp hd
  exact okS_row n (h2 r hr)
theorem Good.oks {rows : List (List Int)} (g : Good rows) (n : Nat) : okS (n + 3) (picD rows) = true := by
  obtain ⟨c, hc, h0, h⟩ := g.rect
  exact okS_pic n (by have := g.few; omega) fun r hr => by have := (h r hr).1; omega
/-- such a picture, of lists or of tuples -/
def Like (rows : List (List Int)) (e : PyData) : Prop := (∃ es, (e = .list es ∨ e = .tuple es) ∧ rows.length = es.length ∧ ∀ (k : Nat) r y, rows[k]? = some r → es[k]? = some y → y = .list (r.map .int) ∨ y = .tuple (r.map .int))
theorem like_row {r : List Int} {y : PyData} (h : Lo 1 (rowD r) y) : y = .list (r.map .int) ∨ y = .tuple (r.map .int) := by
  obtain ⟨ds, es, h1, h2, h3, h4⟩ := h
  injection h1 with h1
  subst h1
  have e : es = r.map .int := by
    refine List.ext_getElem? fun k => ?_
    by_cases hk : k < es.length
    · have hk2 : k < (r.map PyData.int).length := by omega
      have := h4 k _ _ (List.getElem?_eq_getElem hk2) (List.getElem?_eq_getElem hk)
      rw [List.getElem?_eq_getElem hk, List.getElem?_eq_getElem hk2]
      have this : (r.map PyData.int)[k] = es[k] := this
      rw [this]
    · rw [List.getElem?_eq_none (by omega), List.getElem?_eq_none (by omega)]
  subst e
  exact h2
theorem like_of {rows : List (List Int)} {e : PyData} (h : Lo 2 (picD rows) e) : Like rows e := by
  obtain ⟨ds, es, h1, h2, h3, h4⟩ := h
  injection h1 with h1
  subst h1
  refine ⟨es, h2, by rw [List.length_map] at h3; exact h3, fun k r y hr hy => like_row (h4 k _ y ?_ hy)⟩
  rw [List.getElem?_map, hr]
  rfl
theorem isInt_i (i : Int) : isInt (.int i) = true := by
  show (isAn "int" "int" && !isAn "int" "bool") = true
  decide
section
variable {rows : List (List Int)} {e : PyData}
theorem Like.its (h : Like rows e) : isSeq e = true ∧ rows.length = (items e).length ∧ ∀ (k : Nat) r y, rows[k]? = some r → (items e)[k]? = some y → isSeq y = true ∧ items y = r.map .int := by
  obtain ⟨es, he, hl, hk⟩ := h
  have hs : isSeq e = true ∧ items e = es := by
    rcases he with rfl | rfl
    · exact ⟨isSeq_list es, rfl⟩
    · exact ⟨isSeq_tuple es, rfl⟩
  rw [hs.2]
  refine ⟨hs.1, hl, fun k r y hr hy => ?_⟩
  rcases hk k r y hr hy with rfl | rfl
  · exact ⟨isSeq_list _, rfl⟩
  · exact ⟨isSeq_tuple _, rfl⟩
theorem Like.mem (h : Like rows e) {y : PyData} (hy : y ∈ items e) : ∃ r ∈ rows, isSeq y = true ∧ items y = r.map .int := by
  obtain ⟨_, hl, hk⟩ := h.its
  obtain ⟨k, hk2, rfl⟩ := List.mem_iff_getElem.mp hy
  have hk3 : k < rows.length := by omega
  obtain ⟨a, b⟩ := hk k _ _ (List.getElem?_eq_getElem hk3) (List.getElem?_eq_getElem hk2)
  exact ⟨_, List.getElem_mem hk3, a, b⟩
theorem Like.pic (h : Like rows e) (g : Good rows) : isPic e = true := by
  obtain ⟨c, hc, h0, hr⟩ := g.rect
  obtain ⟨hs, hl, _⟩ := h.its
  have hlen : ∀ y ∈ Pw.items e, (Pw.items y).length = c := fun y hy => by
    obtain ⟨r, hm, _, hi⟩ := h.mem hy
    rw [hi, List.length_map, (hr r hm).1]
  unfold isPic
  rw [hs, Bool.true_and, Bool.and_eq_true, List.all_eq_true, List.all_eq_true]
  refine ⟨fun y hy => ?_, fun y hy => ?_⟩
  · obtain ⟨r, hm, hs2, hi⟩ := h.mem hy
    have hc0 : 0 < c := by
      rcases h0 with rfl | h0
      · cases hm
      · exact h0
    unfold rowOk
    rw [hs2, Bool.true_and, decide_eq_true_eq, hlen y hy]
    omega
  · obtain ⟨r, hm, hs2, hi⟩ := h.mem hy
    unfold shadesOk
    have hd : (Pw.items ((Pw.items e).headD .none)).length = c := by
      cases hx : Pw.items e with
      | nil =>
        rw [hx] at hy
        cases hy
      | cons z zs => exact hlen z (by rw [hx]; exact List.mem_cons_self ..)
    rw [hd, hlen y hy, decide_eq_true rfl, Bool.true_and, List.all_eq_true, hi]
    intro z hz
    obtain ⟨i, _, rfl⟩ := List.mem_map.mp hz
    exact isInt_i i
theorem Like.rws (h : Like rows e) : rowsI e = rows := by
  obtain ⟨hs, hl, hk⟩ := h.its
  unfold rowsI
  refine List.ext_getElem? fun k => ?_
  by_cases hk2 : k < rows.length
  · have hk3 : k < (Pw.items e).length := by omega
    obtain ⟨_, b⟩ := hk k _ _ (List.getElem?_eq_getElem hk2) (List.getElem?_eq_getElem hk3)
    rw [List.getElem?_map, List.getElem?_eq_getElem hk3, List.getElem?_eq_getElem hk2]
    show some ((Pw.items (Pw.items e)[k]).map intI) = _
    rw [b, List.map_map]
    congr 1
    have : intI ∘ PyData.int = id := rfl
    rw [this, List.map_id]
  · rw [List.getElem?_eq_none (by rw [List.length_map]; omega), List.getElem?_eq_none (by omega)]
theorem Like.fews (h : Like rows e) (g : Good rows) : few e := by
  obtain ⟨c, hc, h0, hr⟩ := g.rect
  obtain ⟨hs, hl, _⟩ := h.its
  refine ⟨by have := g.few; omega, fun y hy => ?_⟩
  obtain ⟨r, hm, _, hi⟩ := h.mem hy
  rw [hi, List.length_map, (hr r hm).1]
  omega
/-- .. and its repr is short -/
theorem show_ints {ns : List Int} (h : ∀ i ∈ ns, i.natAbs ≤ 1000000000) : PyData.showableAll (ns.map .int) = true ∧ PyData.hasDictAll (ns.map .int) = false ∧ PyData.depthAll (ns.map .int) = 0 ∧ ((PyData.shownAll (ns.map .int)).map (·.length)).sum ≤ 13 * ns.length ∧ (PyData.shownAll (ns.map .int)).length = ns.length := by
  induction ns with
  | nil => exact ⟨by simp [PyData.showableAll], by simp [PyData.hasDictAll], by simp [PyData.depthAll], by simp [PyData.shownAll], by simp [PyData.shownAll]⟩
  | cons n ns ih =>
    obtain ⟨h1, h2, h3, h4, h5⟩ := ih fun i hi => h i (List.mem_cons_of_mem _ hi)
    have hn : n.natAbs < 10 ^ 12 := Nat.lt_of_le_of_lt (h n (List.mem_cons_self ..)) (by decide)
    have hl := PyData.shown_int_le (i := n) hn
    refine ⟨?_, ?_, ?_, ?_, ?_⟩
    · simp only [List.map_cons, PyData.showableAll, PyData.showable, h1, Bool.and_true, decide_eq_true_eq]
      exact log_of hn
    · simp only [List.map_cons, PyData.hasDictAll, PyData.hasDict, h2, Bool.or_false]
    · simp only [List.map_cons, PyData.depthAll, PyData.depth, h3]
      rfl
    · simp only [List.map_cons, PyData.shownAll, List.sum_cons, List.length_cons]
      omega
    · simp only [List.map_cons, PyData.shownAll, List.length_cons, h5]
theorem show_row {r : List Int} (hl : r.length ≤ 20) (h : ∀ i ∈ r, i.natAbs ≤ 1000000000) {y : PyData} (hy : y = .list (r.map .int) ∨ y = .tuple (r.map .int)) : y.showable = true ∧ y.hasDict = false ∧ y.depth = 1 ∧ y.shown.length ≤ 303 ∧ noD y = true := by
  obtain ⟨h1, h2, h3, h4, h5⟩ := show_ints h
  rcases hy with rfl | rfl
  · refine ⟨by simp only [PyData.showable]; exact h1, by simp only [PyData.hasDict]; exact h2, by simp only [PyData.depth, h3], ?_, noD_row r⟩
    simp only [PyData.shown]
    have := listText_len_le (PyData.shownAll (r.map PyData.int))
    omega
  · refine ⟨by simp only [PyData.showable]; exact h1, by simp only [PyData.hasDict]; exact h2, by simp only [PyData.depth, h3], ?_, by rw [noD]; exact noD_ints r⟩
    simp only [PyData.shown]
    have := tupleText_len_le (PyData.shownAll (r.map PyData.int))
    omega
theorem show_all : ∀ {es : List PyData}, (∀ y ∈ es, y.showable = true ∧ y.hasDict = false ∧ y.depth = 1 ∧ y.shown.length ≤ 303 ∧ noD y = true) → PyData.showableAll es = true ∧ PyData.hasDictAll es = false ∧ PyData.depthAll es ≤ 1 ∧ ((PyData.shownAll es).map (·.length)).sum ≤ 303 * es.length ∧ (PyData.shownAll es).length = es.length ∧ noD.noDs es = true
  | [], _ => ⟨by simp [PyData.showableAll], by simp [PyData.hasDictAll], by simp [PyData.depthAll], by simp [PyData.shownAll], by simp [PyData.shownAll], rfl⟩
  | y :: es, h => by
    obtain ⟨h1, h2, h3, h4, h5, h6⟩ := show_all fun z hz => h z (List.mem_cons_of_mem _ hz)
    obtain ⟨g1, g2, g3, g4, g5⟩ := h y (List.mem_cons_self ..)
    refine ⟨?_, ?_, ?_, ?_, ?_, ?_⟩
    · simp only [PyData.showableAll, g1, h1, Bool.and_true]
    · simp only [PyData.hasDictAll, g2, h2, Bool.or_false]
    · simp only [PyData.depthAll, g3]
      omega
    · simp only [PyData.shownAll, List.map_cons, List.sum_cons, List.length_cons]
      omega
    · simp only [PyData.shownAll, List.length_cons, h5]
    · rw [noD.noDs, g5, h6]
      rfl
theorem Like.shown (h : Like rows e) (g : Good rows) : e.showable = true ∧ e.hasDict = false ∧ e.depth ≤ 10 ∧ e.shown.length ≤ sizeLine ∧ noD e = true := by
  obtain ⟨c, hc, h0, hr⟩ := g.rect
  obtain ⟨es, he, hl, hk⟩ := h
  have hf := g.few
  obtain ⟨h1, h2, h3, h4, h5, h6⟩ := show_all (es := es) fun y hy => by
    obtain ⟨k, hk2, rfl⟩ := List.mem_iff_getElem.mp hy
    have hk3 : k < rows.length := by omega
    have hm := List.getElem_mem hk3
    refine show_row (r := rows[k]) (by rw [(hr _ hm).1]; exact hc) (hr _ hm).2 (hk k _ _ (List.getElem?_eq_getElem hk3) (List.getElem?_eq_getElem hk2))
  have hes : 303 * es.length ≤ 303 * 20 := Nat.mul_le_mul_left _ (by omega)
  rcases he with rfl | rfl
  · refine ⟨by simp only [PyData.showable]; exact h1, by simp only [PyData.hasDict]; exact h2, by simp only [PyData.depth]; omega, ?_, by rw [noD]; exact h6⟩
    simp only [PyData.shown]
    have := listText_len_le (PyData.shownAll es)
    rw [sizeLine_eq]
    omega
  · refine ⟨by simp only [PyData.showable]; exact h1, by simp only [PyData.hasDict]; exact h2, by simp only [PyData.depth]; omega, ?_, by rw [noD]; exact h6⟩
    simp only [PyData.shown]
    have := tupleText_len_le (PyData.shownAll es)
    rw [sizeLine_eq]
    omega
end
end Pw
set_option Elab.async false
set_option linter.all false
set_option maxRecDepth 100000
namespace Pw
open PySem PySem.Spec PyProof.Rows L2 Evl
/-! ## _law_text_right -/
section
variable {σ : L2.St} {H : Hp} {ta tb : TE} {K : PySem.W.Frag}
theorem ev_callK {sp : Sp} {E : XK} {te : TE} {x z : V} (h : Ev te σ H x) (hs : SpV sp [x] H z) : Ev (tCallK sp (fun vs zs => vs ++ zs) E tNil (tCons te tNil)) σ H z := fun H1 e Q q =>
  h H1 e _ fun H2 e2 => hs H2 (e.trans e2) Q (fun H3 e3 => q H3 (e2.trans e3)) E
/-- _law_same of a datum and a new list of the same -/
theorem ev_sameL {n : Nat} {E : XK} {v : V} {ys : List V} {L L' : Addr → Prop} {ds : List PyData} (ha : Ev ta σ H v) (hv : Dt L H v (.list ds)) (hb : EvL tb σ H ys) (hy : DtAll L' H ys ds) (hd : ∀ a, ¬ L' a) (hok : okS n (.list ds) = true) :
    Ev (tCall (spSame n) [] E (tCons ta (tCons tb tNil))) σ H (.bl true) := fun H1 e Q q =>
  ha H1 e _ fun H2 e2 => hb H2 (e.trans e2) _ fun p H3 hp e3 h3 => ⟨v, .ref p, L, L', .list ds, rfl, hv.ex ((e.trans e2).trans e3), .lst (hd p) h3 (hy.ex ((e.trans e2).trans e3)), hok, fun H4 e4 => q H4 ((e2.trans e3).trans e4)⟩
theorem ev_same {n : Nat} {E : XK} {v u : V} {L L' : Addr → Prop} {d : PyData} (ha : Ev ta σ H v) (hv : Dt L H v d) (hb : Ev tb σ H u) (hu : Dt L' H u d) (hok : okS n d = true) : Ev (tCall (spSame n) [] E (tCons ta (tCons tb tNil))) σ H (.bl true) := fun H1 e Q q =>
  ha H1 e _ fun H2 e2 => hb H2 (e.trans e2) _ fun H3 e3 => ⟨v, u, L, L', d, rfl, hv.ex ((e.trans e2).trans e3), hu.ex ((e.trans e2).trans e3), hok, fun H4 e4 => q H4 ((e2.trans e3).trans e4)⟩
theorem ev_repr {a : Addr} {L : Addr → Prop} {d : PyData} (ha : Ev ta σ H (.ref a)) (hd : Dt L H (.ref a) d) (h1 : d.showable = true) (h2 : d.hasDict = false) (h3 : d.depth ≤ 10) (h4 : d.shown.length ≤ sizeLine) (h5 : noD d = true) :
    Ev (tCB (rRepr K) (tCons ta tNil)) σ H (.str d.shown) := fun H1 e Q q =>
  ha H1 e _ fun H2 e2 => ⟨a, d, rfl, Dt.dp (K := K) _ _ h5 (hd.ex (e.trans e2)), h1, h2, h3, h4, q H2 e2⟩
theorem q_asgK {sp : Sp} {E : XK} {te : TE} {x : V} {i : Nat} {tz : TS} {D : Ends} (h : Ev te σ H x) (k : ∀ H1, Ex H H1 → sp [x] H1 (fun v H2 => tz D (σ.set i (some v)) H2) E) : tSeq (tAsg (tCallK sp (fun vs zs => vs ++ zs) E tNil (tCons te tNil)) (gName i)) tz D σ H := h H (Ex.refl H) _ k
end
theorem sp_pic {K : PySem.W.Frag} {H : Hp} {v : V} {L : Addr → Prop} {e : PyData} {rows : List (List Int)} (hd : Dt L H v e) (h : Like rows e) (g : Good rows) : SpV (spPictureText K) [v] H (.str (textR rows)) := fun H1 ex Q q E => by
  refine ⟨v, L, e, rfl, hd.ex ex, h.fews g, fun _ => by rw [h.rws]; exact g.small, fun z => ?_, fun _ H2 e2 => ?_⟩
  · rw [h.pic g] at z
    cases z
  · rw [h.rws]
    exact q H2 e2
theorem sp_fault0 {H : Hp} {rows : List (List Int)} (g : Good rows) : SpV spFault [.str (textR rows)] H .non := fun H1 ex Q q E =>
  ⟨_, fun _ => False, .str (textR rows), rfl, .str _, g.len, fun u H2 e2 hu => by
    rw [show faultOf (.str (textR rows)) = none from g.round.1] at hu
    cases hu
    exact q H2 e2⟩
/-- a picture just read, in its parts -/
theorem pic_parts {H0 H : Hp} {u : V} {rows : List (List Int)} (g : Good rows) (h : Dt (Old H0) H u (picD rows)) : ∃ (a : Addr) (bs : List Addr), u = .ref a ∧ ¬ Old H0 a ∧ H a = some (.lst (bs.map V.ref)) ∧ bs.length ≤ 20 ∧ (∀ b ∈ bs, RowAt H b) ∧ ∀ b ∈ bs, ¬ Old H0 b := by
  obtain ⟨c, hc, h0, hr⟩ := g.rect
  cases h with
  | lst n e a =>
    rename_i a0 xs
    have hxl := a.len
    rw [List.length_map] at hxl
    have gen : ∀ (rs : List (List Int)) (ys : List V), (∀ r ∈ rs, r.length = c) → DtAll (Old H0) H ys (rs.map rowD) → ∃ bs : List Addr, ys = bs.map V.ref ∧ (∀ b ∈ bs, RowAt H b) ∧ ∀ b ∈ bs, ¬ Old H0 b := by
      intro rs
      induction rs with
      | nil =>
        intro ys _ hy
        cases hy
        exact ⟨[], rfl, (fun b hb => nomatch hb), fun b hb => nomatch hb⟩
      | cons r rs ih =>
        intro ys hc2 hy
        cases hy with
        | cons h1 h2 =>
          obtain ⟨bs, e1, e2, e3⟩ := ih _ (fun z hz => hc2 z (List.mem_cons_of_mem _ hz)) h2
          cases h1 with
          | lst n1 g1 g2 =>
            rename_i b zs
            have hzs := dt_ints g2
            have hrl := hc2 r (List.mem_cons_self ..)
            refine ⟨b :: bs, by rw [e1]; rfl, fun z hz => ?_, fun z hz => ?_⟩
            · rcases List.mem_cons.mp hz with rfl | hz
              · refine ⟨zs, g1, fun x hx => ?_, by rw [hzs, List.length_map]; omega⟩
                rw [hzs] at hx
                obtain ⟨i, _, rfl⟩ := List.mem_map.mp hx
                rfl
              · exact e2 z hz
            · rcases List.mem_cons.mp hz with rfl | hz
              · exact n1
              · exact e3 z hz
    obtain ⟨bs, e1, e2, e3⟩ := gen rows xs (fun r hr2 => (hr r hr2).1) a
    have hf := g.few
    refine ⟨a0, bs, rfl, n, by rw [← e1]; exact e, ?_, e2, e3⟩
    rw [e1, List.length_map] at hxl
    omega
def spTR : Sp := fun vs H Q _ => ∃ (S C : Addr) (N : Nat) (v : V) (L : Addr → Prop) (rows : List (List Int)), vs = [.ref S, v] ∧ Stm H S C N ∧ N + 10000 < 1000000000 ∧ Dt L H v (picD rows) ∧ L S ∧ L C ∧ Good rows ∧
  ∀ H', OffS S C H H' → Stm H' S C (N + 1001) → Q (.bl true) H'
abbrev sTR : Stmt := top 37
abbrev nTR : List Str := ["_law_stream", "_law_given", "_law_whole", "_law_handed", "_law_was", "_law_found", "_law_told", "_law_row", "_law_shade"]
theorem scTR : FnScope nTR ["_law_stream", "_law_given"] (defScope sTR) := ⟨rfl, rfl, rfl, by decide +kernel, rfl, by decide +kernel, by decide +kernel⟩
section
variable {P : Program} {w : World} {K : PySem.W.Frag} {mg : Str → Option Value} {base : Heap}
theorem passX {X : Cx} (tk : Takes X (fun _ _ _ _ => False)) : Passes (L2.CX X.prog X.w) X E0 := passes_call tk fun _ _ _ _ z => z
theorem ok_tr (D : Df K mg "_law_text_right" sTR) (F : Free mg) (RL : Pr P w K mg base CX0 4 "_law_loose" ["_law_stream", "_law_thing"] (spLoose 3)) (RP : Pk P w K mg base (L2.CX P w) 4 "picture_text" "picture" (spPictureText K)) (RF : Pk P w K mg base CX0 7 "picture_fault" "text" spFault)
    (RR : Pk P w K mg base (L2.CX P w) 8 "read_picture" "text" (spReadPic K)) (RS : Pr P w K mg base CX0 5 "_law_same" ["_law_found", "_law_due"] (spSame 4)) (RX : Pr P w K mg base CX0 4 "_law_a_spoiled" ["_law_thing"] (spSp 3)) :
    PrG P w K mg base 9 "_law_text_right" ["_law_stream", "_law_given"] spTR := by
  refine PrG.of D scTR (fun _ _ _ _ _ _ us hl => match us, hl with | [_, _], _ => rfl) (fun vs H Q E h => ?_) fun cdv A outer s H vs Q E hg hr h => ?_
  · obtain ⟨S, C, N, v, L, rows, rfl, _⟩ := h
    rfl
  · obtain ⟨S, C, N, v, L, rows, rfl, x, hN, hd, lS, lC, gd, q⟩ := h
    refine ⟨_, pss_cons (ps_set (i := 2) scTR.nd rfl (.inl rfl) (pjoin (K := K) rfl pe_str
        (pe_lc (own := [("_law_row", 7)]) (g := gName 7) (tt := tYes) rfl scTR.nd (k_seq (K := K) rfl (pv 1)) (blkOk_by (by kernel_rfl)) (fun _ _ _ _ _ => pg_name (i := 7) scTR.nd rfl (Or.inl rfl)) (fun _ _ _ _ _ => pts_nil)
          (fun _ _ _ _ _ => pe_op k_adds (pjoin (K := K) rfl pe_str
            (by exact (pe_lc (own := [("_law_shade", 8)]) (g := gName 8) (tt := tYes) rfl scTR.nd (k_seq (K := K) rfl (pv 7)) (blkOk_by (by kernel_rfl)) (fun _ _ _ _ _ => (by exact (pg_name (i := 8) scTR.nd rfl (Or.inl rfl)))) (fun _ _ _ _ _ => pts_nil)
              (fun _ _ _ _ _ => (by exact (pe_callTy k_str (by rfl) F.str bb_str (pa_cons (pv 8) pa_nil)))))))
            pe_str))))
      (pss_cons (ps_set (i := 3) scTR.nd rfl (.inl rfl) (pcall RL (hr.mono (by decide)) pass0 (pa_cons (pv 0) (pa_cons (pv 1) pa_nil))))
      (pss_cons (ps_set (i := 4) scTR.nd rfl (.inl rfl) (pe_callB (call_reprD hg hr.units) (by rfl) F.repr bb_repr (pa_cons (pv 3) pa_nil)))
      (pss_cons (ps_set (i := 5) scTR.nd rfl (.inl rfl) (pe_lst (pa_cons (pcall RP.pr (hr.mono (by decide)) (passX L2.takes0) (pa_cons (pv 3) pa_nil)) (pa_cons (pcallK RP (hr.mono (by decide)) (passX L2.takes0) (pv 3)) (pa_cons (pcall RF.pr (hr.mono (by decide)) pass0 (pa_cons (pv 2) pa_nil)) (pa_cons (pcallK RF (hr.mono (by decide)) pass0 (pv 2)) pa_nil))))))
      (pss_cons (ps_if (PW.pt (pw_or (pt_not (pt_val (pcall RS (hr.mono (by decide)) pass0 (pa_cons (pv 5) (pa_cons (pe_lst (pa_cons (pv 2) (pa_cons (pv 2) (pa_cons pe_non (pa_cons pe_non pa_nil))))) pa_nil)))))
        (pw_or1 (pt_cmpR op_ne (pe_callB (call_reprD hg hr.units) (by rfl) F.repr bb_repr (pa_cons (pv 3) pa_nil)) (pv 4) (nomark _))))) (pss_one (ps_ret pe_bl)) pss_nil)
      (pss_cons (ps_set (i := 6) scTR.nd rfl (.inl rfl) (pcallK RR hr (passX L2.takes0) (pv 2)))
      (pss_cons (ps_if (pt_not (pt_val (pcall RS (hr.mono (by decide)) pass0 (pa_cons (pv 6) (pa_cons (pv 1) pa_nil))))) (pss_one (ps_ret pe_bl)) pss_nil)
      (pss_cons (ps_expr (pcall RX (hr.mono (by decide)) pass0 (pa_cons (pv 6) pa_nil)))
      (pss_one (ps_ret (pcall RS (hr.mono (by decide)) pass0 (pa_cons (pcall RR.pr hr (passX L2.takes0) (pa_cons (pv 2) pa_nil)) (pa_cons (pv 1) pa_nil)))))))))))), ?_⟩
    show tSeq (tAsg (tText K 1 7 8) (gName 2)) _ _ _ _
    refine q_asg (ev_text rfl (by show 7 < 9; decide) (by show 8 < 9; decide) hd gd.small) fun H1 e1 => ?_
    have hd1 := hd.ex e1
    refine q_asgCallN (vs := [.ref S, v]) (ea_cons (ev_var rfl) (ea_cons (ev_var rfl) ea_nil)) fun H2 e2 => ⟨S, C, N, v, L, picD rows, rfl, (x.ex e1).ex e2, by show N + 1001 < 1000000000; omega, hd1.ex e2, lS, lC, gd.gvs, fun u e H3 o3 x3 lo hu => ?_⟩
    have hlk := like_of lo
    obtain ⟨s1, s2, s3, s4, s5⟩ := hlk.shown gd
    have hd3 : Dt L H3 v (picD rows) := Dt.but (fun b o nb hb => o3 b o (fun z => nb (z.elim (fun z => by rw [z]; exact lS) fun z => by rw [z]; exact lC)) hb) _ _ (hd1.ex e2)
    have o03 : OffS S C H H3 := (offS_of (e1.trans e2)).trans o3
    obtain ⟨a, rfl⟩ : ∃ a, u = .ref a := by
      obtain ⟨a, _, h, _⟩ := hu.seq hlk.its.1
      exact ⟨a, h⟩
    refine q_asg (ev_repr (ev_var rfl) hu s1 s2 s3 s4 s5) fun H4 e4 => ?_
    have hu4 := hu.ex e4
    refine q_asgL (el_lst (ea_cons (ev_call (vs := [.ref a]) (ea_cons (ev_var rfl) ea_nil) (sp_pic hu4 hlk gd)) (ea_cons (ev_callK (ev_var rfl) (sp_pic hu4 hlk gd)) (ea_cons (ev_call (vs := [.str (textR rows)]) (ea_cons (ev_var rfl) ea_nil) (sp_fault0 gd)) (ea_cons (ev_callK (ev_var rfl) (sp_fault0 gd)) ea_nil)))) (by show 4 ≤ 100000; decide)) fun Fo H5 hF e5 h5 => ?_
    have hu5 := hu4.ex e5
    have hfound : ∀ {Hx : Hp} {L' : Addr → Prop}, DtAll L' Hx [.str (textR rows), .str (textR rows), .non, .non] [.str (textR rows), .str (textR rows), .none, .none] := .cons (.str _) (.cons (.str _) (.cons .non (.cons .non .nil)))
    refine q_whenF (b := !true || !decide (V.str e.shown = V.str e.shown)) (et_or (et_not (et_B (ev_sameL (L := fun _ => False) (L' := fun _ => False) (ev_var rfl) (.lst (fun z => z) h5 hfound) (el_lst (ea_cons (ev_var rfl) (ea_cons (ev_var rfl) (ea_cons ev_c (ea_cons ev_c ea_nil)))) (by show 4 ≤ 100000; decide)) hfound (fun _ z => z) rfl))) fun _ => et_test (ev_op (ev_repr (ev_var rfl) hu5 s1 s2 s3 s4 s5) (ev_var rfl) (rv_ne rfl))) (by simp) fun H6 e6 => ?_
    refine q_asgK (ev_var rfl) fun H7 e7 => ⟨_, fun _ => False, .str (textR rows), rfl, .str _, gd.len, fun i j z => ?_, fun _ u2 H8 e8 hu2 => ?_⟩
    · rw [show faultOf (.str (textR rows)) = none from gd.round.1] at z
      cases z
    · rw [show rowsOf (.str (textR rows)) = rows from gd.round.2] at hu2
      have e38 : Ex H3 H8 := (((e4.trans e5).trans e6).trans e7).trans e8
      have hd8 := hd3.ex e38
      refine q_whenF (b := !true) (et_not (et_B (ev_same (ev_var rfl) hu2 (ev_var rfl) hd8 (gd.oks 1)))) rfl fun H9 e9 => ?_
      obtain ⟨b0, bs, rfl, nb0, hb1, hb2, hb3, hb4⟩ := pic_parts gd (hu2.ex e9)
      refine q_dropCall (vs := [.ref b0]) (ea_cons (ev_var rfl) ea_nil) fun H10 e10 => ⟨b0, bs, rfl, e10 _ _ hb1, by omega, fun b hb => ?_, fun H11 o11 _ _ => ?_⟩
      · obtain ⟨xs, g1, g2, g3⟩ := hb3 b hb
        exact ⟨xs, e10 _ _ g1, g2, g3⟩
      · have e711 : Ex H7 H11 := fun b o hbo => o11 b o (fun z => by
          rcases z with rfl | z
          · exact nb0 (by unfold Old; rw [hbo]; exact fun z => nomatch z)
          · exact hb4 b z (by unfold Old; rw [hbo]; exact fun z => nomatch z)) (((e8.trans e9).trans e10) b o hbo)
        have e311 : Ex H3 H11 := (((e4.trans e5).trans e6).trans e7).trans e711
        have hd11 := hd3.ex e311
        refine ⟨_, rfl, _, fun _ => False, .str (textR rows), rfl, .str _, gd.len, fun i j z => ?_, fun _ u3 H12 e12 hu3 => ?_⟩
        · rw [show faultOf (.str (textR rows)) = none from gd.round.1] at z
          cases z
        · rw [show rowsOf (.str (textR rows)) = rows from gd.round.2] at hu3
          refine ⟨_, rfl, u3, v, _, L, picD rows, rfl, hu3, hd11.ex e12, gd.oks 1, fun H13 e13 => ?_⟩
          have e313 := (e311.trans e12).trans e13
          exact q H13 (o03.trans (offS_of e313)) (x3.ex e313)
end
end Pw
set_option Elab.async false
set_option linter.all false
set_option maxRecDepth 100000
namespace Pw
open PySem PySem.Spec PyProof.Rows L2 Evl LamX
/-! ## evaluations told by their datum -/
abbrev Dat (H : Hp) (v : V) (d : PyData) : Prop := Dt (fun _ => False) H v d
theorem Dt.dat {L : Addr → Prop} {H : Hp} {v : V} {d : PyData} (h : Dt L H v d) : Dat H v d := h.sub fun _ z => z.elim
abbrev ED (te : TE) (σ : L2.St) (H : Hp) (d : PyData) : Prop := EvR te σ H fun v H' => Dat H' v d
def EDA (ta : TA) (σ : L2.St) (H : Hp) (ds : List PyData) : Prop := ∀ H1, Ex H H1 → ∀ Q : List V → Hp → Prop, (∀ vs H2, Ex H1 H2 → DtAll (fun _ => False) H2 vs ds → Q vs H2) → ta σ H1 Q
section
variable {σ : L2.St} {H : Hp} {ta tb te : TE} {K : PySem.W.Frag} {d : PyData} {ds : List PyData}
theorem ed_of {v : V} (h : Ev te σ H v) (hd : Dat H v d) : ED te σ H d := fun H1 e Q q => h H1 e Q fun H2 e2 => q v H2 e2 (hd.ex (e.trans e2))
theorem ed_var {v : V} {i : Nat} (h : σ[i]? = some (some v)) (hd : Dat H v d) : ED (tVar i) σ H d := ed_of (ev_var h) hd
theorem eda_nil : EDA tNil σ H [] := fun H1 _ _ q => q [] H1 (Ex.refl H1) .nil
theorem eda_cons {tr : TA} (h : ED te σ H d) (hr : EDA tr σ H ds) : EDA (tCons te tr) σ H (d :: ds) := fun H1 e Q q =>
  h H1 e _ fun v H2 e2 hv => hr H2 (e.trans e2) _ fun vs H3 e3 hvs => q (v :: vs) H3 (e2.trans e3) (.cons (hv.ex e3) hvs)
theorem ed_lst {ta : TA} (h : EDA ta σ H ds) (hz : ds.length ≤ 100000) : ED (tLst ta) σ H (.list ds) := fun H1 e Q q =>
  h H1 e _ fun vs H2 e2 hvs => ⟨sz_of (by rw [hvs.len]; exact hz), fun p hp => q (.ref p) _ (e2.trans (Ex.new hp)) (.lst (fun z => z) upd_same (hvs.ex (Ex.new hp)))⟩
theorem ed_tup {ta : TA} (h : EDA ta σ H ds) (hz : ds.length ≤ 100000) : ED (tTup ta) σ H (.tuple ds) := fun H1 e Q q =>
  h H1 e _ fun vs H2 e2 hvs => ⟨sz_of (by rw [hvs.len]; exact hz), fun p hp => q (.ref p) _ (e2.trans (Ex.new hp)) (.tup (fun z => z) upd_same (hvs.ex (Ex.new hp)))⟩
theorem ed_none : ED (tC .non) σ H .none := ed_of ev_c .non
theorem ed_int {i : Int} : ED (tC (.int i)) σ H (.int i) := ed_of ev_c (.int i)
theorem ed_str {x : Str} : ED (tC (.str x)) σ H (.str x) := ed_of ev_c (.str x)
theorem ed_bl {b : Bool} : ED (tC (.bl b)) σ H (.bool b) := ed_of ev_c (.bl b)
/-- picture_fault(e) -/
theorem ed_fault {E : XK} (h : ED te σ H d) (hs : short d) : ED (tCall spFault [] E (tCons te tNil)) σ H (faultD (faultOf d)) := fun H1 e Q q =>
  h H1 e _ fun v H2 e2 hv => ⟨v, _, d, rfl, hv, hs, fun u H3 e3 hu => q u H3 (e2.trans e3) hu.dat⟩
/-- _law_same of the same -/
theorem ev_sameD {n : Nat} {E : XK} (ha : ED ta σ H d) (hb : ED tb σ H d) (hok : okS n d = true) : Ev (tCall (spSame n) [] E (tCons ta (tCons tb tNil))) σ H (.bl true) := fun H1 e Q q =>
  ha H1 e _ fun v H2 e2 hv => hb H2 (e.trans e2) _ fun u H3 e3 hu => ⟨v, u, _, _, d, rfl, hv.ex e3, hu, hok, fun H4 e4 => q H4 ((e2.trans e3).trans e4)⟩
/-- a slice of a new list -/
theorem el_slL {tl th : TO} {xs : List V} {lo hi : Option Int} (h : EvL te σ H xs) (h1 : EvO tl σ H lo) (h2 : EvO th σ H hi) : EvL (tSl (rSlL K) te tl th) σ H (cutV xs lo hi) := fun H1 e Q q =>
  h H1 e _ fun a H2 ha e2 hx => h1 H2 (e.trans e2) _ fun H3 e3 => h2 H3 ((e.trans e2).trans e3) _ fun H4 e4 =>
    ⟨a, xs, rfl, SqL.of (e4 _ _ (e3 _ _ hx)), fun p hp => q p _ (fresh_back ((e2.trans e3).trans e4) hp) (((e2.trans e3).trans e4).trans (Ex.new hp)) upd_same⟩
end
section
variable {L : Addr → Prop} {H H' : Hp}
mutual
/-- data need lists, tuples and dicts alone -/
theorem dt_same (s : ∀ b o, (∀ ps, o ≠ .tbl ps) → H b = some o → H' b = some o) : ∀ (d : PyData) (v : V), Dt L H v d → Dt L H' v d
  | .none, _, h => by
    cases h
    exact .non
  | .bool b, _, h => by
    cases h
    exact .bl b
  | .int i, _, h => by
    cases h
    exact .int i
  | .str x, _, h => by
    cases h
    exact .str x
  | .list ds, _, h => by
    cases h with
    | lst n e a => exact .lst n (s _ _ (fun _ z => by cases z) e) (dts_same s ds _ a)
  | .tuple ds, _, h => by
    cases h with
    | tup n e a => exact .tup n (s _ _ (fun _ z => by cases z) e) (dts_same s ds _ a)
  | .dict _, _, h => by
    cases h with
    | emp n e => exact .emp n (s _ _ (fun _ z => by cases z) e)
theorem dts_same (s : ∀ b o, (∀ ps, o ≠ .tbl ps) → H b = some o → H' b = some o) : ∀ (ds : List PyData) (vs : List V), DtAll L H vs ds → DtAll L H' vs ds
  | [], _, h => by
    cases h
    exact .nil
  | d :: ds, _, h => by
    cases h with
    | cons h1 h2 => exact .cons (dt_same s d _ h1) (dts_same s ds _ h2)
end
end
/-! ## all but the stream and the tables stays -/
def OffN (S C : Addr) (H H' : Hp) : Prop := ∀ b o, ¬ Str2 S C b → H b = some o → (∀ ps, o ≠ .tbl ps) → H' b = some o
section
variable {S C : Addr} {H H1 H2 : Hp} {T : List (Addr × Str)}
theorem OffN.trans (a : OffN S C H H1) (b : OffN S C H1 H2) : OffN S C H H2 := fun c o n h k => b c o n (a c o n h k) k
theorem OffN.of (e : OffS S C H H1) : OffN S C H H1 := fun b o n h _ => e b o n h
theorem OffN.ofE (e : ExtN H H1) : OffN S C H H1 := fun b o _ h k => e b o h k
theorem OffN.ofX (e : Ex H H1) : OffN S C H H1 := fun b o _ h _ => e b o h
theorem Stm.extN {N : Nat} (x : Stm H S C N) (e : ExtN H H1) : Stm H1 S C N := by
  obtain ⟨h, b, m, n, ns, h1, h2, h3, h4, h5, h6⟩ := x
  exact ⟨h, b, m, n, ns, h1, h2, h3, h4, e _ _ h5 (fun _ z => by cases z), e _ _ h6 fun _ z => by cases z⟩
theorem tabs_ex (t : Tabs T H) (e : Ex H H1) : Tabs T H1 := t.ext e
theorem tabs_off {N : Nat} (t : Tabs T H) (x : Stm H S C N) (e : OffS S C H H1) : Tabs T H1 := fun p hp => by
  obtain ⟨ps, h1, h2, h3⟩ := t p hp
  obtain ⟨_, _, _, _, _, _, _, _, _, x5, x6⟩ := x
  have key : ∀ b o, H b = some o → (∀ xs, o ≠ .lst xs) → H1 b = some o := fun b o hb hn => e b o (fun z => by
    rcases z with z | z
    · rw [z, x5] at hb
      exact hn _ (Option.some.inj hb).symm
    · rw [z, x6] at hb
      exact hn _ (Option.some.inj hb).symm) hb
  refine ⟨ps, key _ _ h1 (fun _ z => by cases z), h2, fun pos cv hc => ?_⟩
  obtain ⟨c, e1, e2⟩ := h3 pos cv hc
  exact ⟨c, e1, key _ _ e2 fun xs z => by
    unfold CodeO at z
    cases z⟩
/-- data at places that are no tables stay -/
theorem dt_extN {L : Addr → Prop} (e : OffN S C H H1) (lS : L S) (lC : L C) : ∀ (d : PyData) (v : V), Dt L H v d → Dt L H1 v d := by
  have go : ∀ b o, ¬ L b → H b = some o → (∀ ps, o ≠ .tbl ps) → H1 b = some o := fun b o n h k => e b o (fun z => n (z.elim (fun z => by rw [z]; exact lS) fun z => by rw [z]; exact lC)) h k
  let Hx : Hp := fun b => match H b with
    | some (.tbl _) => none
    | o => o
  have up : ∀ b o, (∀ ps, o ≠ .tbl ps) → H b = some o → Hx b = some o := fun b o k h => by
    show (match H b with | some (.tbl _) => none | o => o) = some o
    rw [h]
    cases o with
    | tbl ps => exact absurd rfl (k ps)
    | _ => rfl
  have dn : ∀ b o, Hx b = some o → H b = some o ∧ ∀ ps, o ≠ .tbl ps := fun b o h => by
    have h : (match H b with | some (.tbl _) => none | o => o) = some o := h
    cases hb : H b with
    | none =>
      rw [hb] at h
      cases h
    | some u =>
      rw [hb] at h
      cases u with
      | tbl ps => cases h
      | _ =>
        cases h
        exact ⟨rfl, fun ps z => by cases z⟩
  intro d v h
  -- the datum stands in the heap without the tables
  have h2 : Dt L Hx v d := dt_same up d v h
  exact Dt.but (fun b o n hb => go b o n (dn b o hb).1 (dn b o hb).2) d v h2
end
end Pw
set_option Elab.async false
set_option linter.all false
set_option maxRecDepth 100000
namespace Pw
open PySem PySem.Spec PyProof.Rows L2 Evl LamX
/-! ## defs that make a lambda: their code object is known -/
abbrev cA (K : PySem.W.Frag) (x : Str) : Addr := He.codeOf K (x, none)
abbrev tA (K : PySem.W.Frag) (x : Str) : Addr := He.tabOf K (cA K x)
/-- the name of a lambda of the def x -/
def lamQ (x : Str) (sc : Scope) : Str := (envOfC x sc 0 0 .none).qual ++ "<lambda>"
section
variable {P : Program} {w : World} {K : PySem.W.Frag} {mg : Str → Option Value} {base : Heap}
theorem fnC {x : Str} {st : Stmt} {N ps : List Str} {k : Nat} {sp : Sp} (D : Df K mg x st) (S : FnScope N ps (defScope st)) (hb : BindsF x x st ps) (len : ∀ vs H Q E, sp vs H Q E → vs.length = ps.length)
    (C : Around → Prop) (body : ∀ (A : Around) (outer : List Env) (s : Shared) (H : Hp) (vs : List V) (Q : VK) (E : XK), C A → Room k (A.deeper (envOfC x (defScope st) s.heap.objs.size (He.ga K x) (.ref (cA K x)))) → sp vs H Q E →
      ∃ t, PSs (cxOf CX0 P w K mg base N x (defScope st) (He.ga K x) (.ref (cA K x)) A outer s H E).nox (defBody st) t ∧ t { nx := fun _ H' => Q .non H', rt := Q } (start N vs) H) :
    ∃ fd, (∀ (A : Around) (outer : List Env) (s : Shared) (H : Hp) (args : Args) (us : List Value) (vs : List V) (Q : VK) (E : XK), C A → Room (k + 1) A → Env0 P w K mg base A outer s H → BindsTo s fd args (ps.zip us) → Vals vs us → sp vs H Q E →
      codeAny (model P w) A (.call (.ref (He.ga K x)) args) (CR CX0 outer P w H s Q E) s) ∧ Binds K fd ps [] := by
  obtain ⟨fd, F⟩ := D.fn
  refine ⟨fd, ?_, F.bindsN hb⟩
  obtain ⟨oc, od, dV, kV, doc, pm, an, cdv, ct, osl, rfl, lk, hcd, hD, hK⟩ := F.ex
  obtain ⟨c, rfl⟩ := He.codeIn_ref hcd
  have ec : He.codeOf K (x, none) = c := He.codeOf_eq (p := (x, none)) lk rfl
  intro A outer s H args us vs Q E hC hr e0 hbt r h
  refine LamX.run_ofS lk hcd S hr e0 hbt r (len _ _ _ _ h) fun hr' => ?_
  have hbody := body A outer s H vs Q E hC
  unfold cA at hbody
  rw [ec] at hbody
  obtain ⟨t, h1, h2⟩ := hbody hr' h
  exact ⟨t, h1.nox, h2⟩
theorem Pr.ofC {x : Str} {st : Stmt} {N ps : List Str} {k : Nat} {sp : Sp} (D : Df K mg x st) (S : FnScope N ps (defScope st)) (hb : BindsF x x st ps) (len : ∀ vs H Q E, sp vs H Q E → vs.length = ps.length)
    (body : ∀ (A : Around) (outer : List Env) (s : Shared) (H : Hp) (vs : List V) (Q : VK) (E : XK), Room k (A.deeper (envOfC x (defScope st) s.heap.objs.size (He.ga K x) (.ref (cA K x)))) → sp vs H Q E →
      ∃ t, PSs (cxOf CX0 P w K mg base N x (defScope st) (He.ga K x) (.ref (cA K x)) A outer s H E).nox (defBody st) t ∧ t { nx := fun _ H' => Q .non H', rt := Q } (start N vs) H) : Pr P w K mg base CX0 (k + 1) x ps sp := by
  obtain ⟨fd, h, hb2⟩ := fnC D S hb len (fun _ => True) fun A outer s H vs Q E _ => body A outer s H vs Q E
  exact ⟨⟨fd, ⟨len, fun A outer s H args us vs Q E => h A outer s H args us vs Q E True.intro⟩, hb2⟩, D.fn.elim fun _ F => F.kp, D.gl⟩
theorem PrG.ofC {x : Str} {st : Stmt} {N ps : List Str} {k : Nat} {sp : Sp} (D : Df K mg x st) (S : FnScope N ps (defScope st)) (hb : BindsF x x st ps) (len : ∀ vs H Q E, sp vs H Q E → vs.length = ps.length)
    (body : ∀ (A : Around) (outer : List Env) (s : Shared) (H : Hp) (vs : List V) (Q : VK) (E : XK), A.guards = some [] → Room k (A.deeper (envOfC x (defScope st) s.heap.objs.size (He.ga K x) (.ref (cA K x)))) → sp vs H Q E →
      ∃ t, PSs (cxOf CX0 P w K mg base N x (defScope st) (He.ga K x) (.ref (cA K x)) A outer s H E).nox (defBody st) t ∧ t { nx := fun _ H' => Q .non H', rt := Q } (start N vs) H) : PrG P w K mg base (k + 1) x ps sp := by
  obtain ⟨fd, h, hb2⟩ := fnC D S hb len (fun A => A.guards = some []) body
  exact ⟨len, ⟨fd, h, hb2⟩, D.fn.elim fun _ F => F.kp, D.gl⟩
end
/-- what _law_met rests on -/
structure MetFacts (K : PySem.W.Frag) (mg : Str → Option Value) : Prop where
  df : Df K mg "_law_met" sMet
  bp : ∃ P w base, Pe P w K mg base 1 "BadPicture" ["thing"] ["self", "thing"] (spInit1 K "BadPicture" "thing")
  bt : ∃ P w base, Pe P w K mg base 1 "BadText" ["line", "sign"] ["self", "line", "sign"] (spInit2 K "BadText" "line" "sign")
  ex : ExM K
/-- _law_met(lambda: body) -/
theorem pmet {X : Cx} {T : List (Addr × Str)} {c Pt : Addr} {k : Nat} {params : Arguments} {body : Expr} {scope : Scope} {t : XK → TE} {p lpos pos : Pos} (D : MetFacts X.K X.mg) (TB : TabB X.base X.mg c Pt) (hcode : X.env.code = .ref c) (hmT : (Pt, X.env.qual ++ "<lambda>") ∈ T)
    (hu : ∀ p ∈ T, p.1 = Pt → p.2 = X.env.qual ++ "<lambda>") (hr : Room (k + 2) X.A) (L : LamS X.env.scope scope)
    (hbody : ∀ (A : Around) (outer : List Env) (s : Shared) (H : Hp) (E : XK) (f c' : Addr), Room k (A.deeper (lamEnv X scope s.heap.objs.size f c')) → PE (lamCx X A outer s H E scope f c') body (t E))
    (hdef : defaultsOf params X.env = ([], []) := by rfl) (hbind : ∀ (q : Str) (cl : List (Str × Addr)) (pm cv ctv : Value), bindArgs (PySem.W.kla_fn "<lambda>" q params body scope cl pm cv ctv) ⟨[], []⟩ = pure [] := by intros; rfl) (hg : Gl X "_law_met" := by rfl) :
    PE X (.Call (.Name "_law_met" p) [.Lambda params body scope lpos] [] pos) (tLam T (TMet X.K) t) := by
  obtain ⟨fd, F⟩ := D.df.fn
  have hb := F.bindsN (fun _ _ _ _ _ _ us hl => match us, hl with | [_], _ => rfl : BindsF "_law_met" "_law_met" sMet ["_law_ask"])
  obtain ⟨oc, od, dV, kV, doc, pm, an, cdv, ct, osl, rfl, lk, hcd, hD, hK⟩ := F.ex
  exact pe_lamcall hg D.df.gl F.kp lk hcd hb scMet rfl (.inl rfl) (met_gives D.bp D.bt D.ex) TB hcode hmT hu hr L hdef hbind hbody
end Pw
set_option Elab.async false
set_option linter.all false
set_option maxRecDepth 100000
namespace Pw
open PySem PySem.Spec PyProof.Rows L2 Evl LamX
/-! ## _law_strings_right -/
def spSR (T : List (Addr × Str)) : Sp := fun vs H Q _ => ∃ (S C : Addr) (N : Nat) (t : Str), vs = [.ref S, .str t] ∧ Stm H S C N ∧ N + 10000 < 1000000000 ∧ t.length ≤ 1000 ∧ Tabs T H ∧ ∀ H', OffN S C H H' → Stm H' S C (N + 500) → Tabs T H' → Q (.bl true) H'
abbrev sSR : Stmt := top 38
abbrev nSR : List Str := ["_law_stream", "_law_text", "_law_signs", "_law_some", "_law_k", "_law_bent", "_law_one", "_law_due", "_law_found", "_law_at"]
theorem scSR : FnScope nSR ["_law_stream", "_law_text"] (defScope sSR) := ⟨rfl, rfl, rfl, by decide +kernel, rfl, by decide +kernel, by decide +kernel⟩
def signsV : List V := [.str "0", .str "1", .str "7", .str "-", .str " ", .str "\n", .str "12", .str "-0", .str " 0", .str "a", .str "1 2\n", .str "00"]
theorem signs_ok : Signs signsV := fun v hv => by
  simp only [signsV, List.mem_cons, List.not_mem_nil, or_false] at hv
  rcases hv with rfl | rfl | rfl | rfl | rfl | rfl | rfl | rfl | rfl | rfl | rfl | rfl <;> exact ⟨_, rfl, by decide⟩
theorem tabs_upd {T : List (Addr × Str)} {H : Hp} {M : Addr} {xs ys : List V} (t : Tabs T H) (h : H M = some (.lst xs)) : Tabs T (upd H M (.lst ys)) := fun p hp => by
  obtain ⟨ps, h1, h2, h3⟩ := t p hp
  have n1 : p.1 ≠ M := fun z => by
    rw [z, h] at h1
    cases h1
  refine ⟨ps, by rw [upd_ne n1]; exact h1, h2, fun pos cv hc => ?_⟩
  obtain ⟨c, e1, e2⟩ := h3 pos cv hc
  have n2 : c ≠ M := fun z => by
    rw [z, h] at e2
    unfold CodeO at e2
    cases e2
  exact ⟨c, e1, by rw [upd_ne n2]; exact e2⟩
/-- xs.extend of a new list -/
theorem q_ext {K : PySem.W.Frag} {σ : L2.St} {H : Hp} {ta te : TE} {xs ys : List V} {l : Addr} {tz : TS} {D : Ends} (hl : H l = some (.lst xs)) (ha : Ev ta σ H (.ref l)) (h : EvL te σ H ys) (hz : xs.length + ys.length ≤ 100000) (k : ∀ H1, Ex H H1 → tz D σ (upd H1 l (.lst (xs ++ ys)))) :
    tSeq (tDrop (tBM K "list" rExtend ta (tCons te tNil))) tz D σ H := ha H (Ex.refl H) _ fun H1 e1 =>
  ⟨Or.inl ⟨rfl, xs, SqL.of (e1 l _ hl)⟩, h H1 e1 _ fun p H2 hp e2 h2 => ⟨l, p, xs, ys, rfl, rfl, e2 l _ (e1 l _ hl), h2, sz_of hz, k H2 (e1.trans e2)⟩⟩
theorem q_parLL {σ : L2.St} {H : Hp} {i j : Nat} {ta tb : TE} {xs ys : List V} {tz : TS} {D : Ends} (h1 : EvL ta σ H xs) (h2 : EvL tb σ H ys) (k : ∀ p r H1, H p = none → H r = none → p ≠ r → Ex H H1 → H1 p = some (.lst xs) → H1 r = some (.lst ys) → tz D ((σ.set i (some (.ref p))).set j (some (.ref r))) H1) :
    tSeq (tPar i j (tCons ta (tCons tb tNil))) tz D σ H := h1 H (Ex.refl H) _ fun p H1 hp e1 k1 => h2 H1 e1 _ fun r H2 hr e2 k2 => ⟨_, _, rfl, k p r H2 hp (fresh_back e1 hr) (ne_of_none k1 hr) (e1.trans e2) (e2 _ _ k1) k2⟩
theorem s_whenF {D : Ends} {σ : L2.St} {H : Hp} {t : TT} {tu : TS} {b : Bool} (h : EvT t σ H b) (hb : b = false) (k : ∀ H1, Ex H H1 → D.nx σ H1) : tIfS t tu tNext D σ H := s_when h (fun z => by rw [hb] at z; cases z) fun _ => k
theorem dat_ext {H H' : Hp} (e : ExtN H H') {v : V} {d : PyData} (h : Dat H v d) : Dat H' v d := dt_same (fun b o k hb => e b o hb k) d v h
section
variable {P : Program} {w : World} {K : PySem.W.Frag} {mg : Str → Option Value} {base : Heap}
theorem ok_sr {T : List (Addr × Str)} (D : Df K mg "_law_strings_right" sSR) (F : Free mg) (MF : MetFacts K mg) (TB : TabB base mg (cA K "_law_strings_right") (tA K "_law_strings_right")) (hT : (tA K "_law_strings_right", lamQ "_law_strings_right" (defScope sSR)) ∈ T)
    (hu : ∀ p ∈ T, p.1 = tA K "_law_strings_right" → p.2 = lamQ "_law_strings_right" (defScope sSR))
    (RB : Pr P w K mg base CX0 3 "_law_a_bent" ["_law_stream", "_law_text", "_law_signs"] spBent) (RD : Pr P w K mg base CX0 1 "_law_draw" ["_law_stream", "_law_many"] spDraw) (RW : Pr P w K mg base CX0 3 "_law_wrong" ["_law_text"] spWrong)
    (RF : Pk P w K mg base CX0 7 "picture_fault" "text" spFault) (RR : Pk P w K mg base (L2.CX P w) 8 "read_picture" "text" (spReadPic K)) (RS : Pr P w K mg base CX0 5 "_law_same" ["_law_found", "_law_due"] (spSame 4)) :
    Pr P w K mg base CX0 11 "_law_strings_right" ["_law_stream", "_law_text"] (spSR T) := by
  refine Pr.ofC D scSR (fun _ _ _ _ _ _ us hl => match us, hl with | [_, _], _ => rfl) (fun vs H Q E h => ?_) fun A outer s H vs Q E hr h => ?_
  · obtain ⟨S, C, N, t, rfl, _⟩ := h
    rfl
  · obtain ⟨S, C, N, t, rfl, x, hN, hz, htab, q⟩ := h
    refine ⟨_, pss_cons (ps_par (i := 2) (j := 3) rfl scSR.nd rfl rfl (by decide) rfl rfl (pa_cons (pe_lst (pa_cons pe_str (pa_cons pe_str (pa_cons pe_str (pa_cons pe_str (pa_cons pe_str (pa_cons pe_str (pa_cons pe_str (pa_cons pe_str (pa_cons pe_str (pa_cons pe_str (pa_cons pe_str (pa_cons pe_str pa_nil))))))))))))) (pa_cons (pe_lst pa_nil) pa_nil)) rfl)
      (pss_cons (ps_expr (pe_bm PySem.F.plainAttrs_list PySem.F.slot_list_extend PySem.F.type_list_extend mt_extend (pv 3) (pa_cons (pe_slice sl_list
          (pe_lc (own := [("_law_at", 9)]) (g := gName 9) (tt := tYes) rfl scSR.nd (pi_range1 rfl F.range (pa_cons (pe_op op_add (pe_callB k_lenStr (by rfl) F.len bb_len (pa_cons (pv 1) pa_nil)) pe_int) pa_nil)) (blkOk_by (by kernel_rfl)) (fun _ _ _ _ _ => pg_name (i := 9) scSR.nd rfl (Or.inl rfl)) (fun _ _ _ _ _ => pts_nil)
            (fun _ _ _ _ _ => pe_slice sl_str (pv 1) po_none (po_some (pv 9)))) (po_some (pe_un un_neg pe_int)) po_none) pa_nil)))
      (pss_cons (ps_for PassesOwn.never rfl (pi_range1 rfl F.range (pa_cons pe_int pa_nil)) (pg_name (i := 4) scSR.nd rfl (.inl rfl))
        (pss_cons (ps_set (i := 5) scSR.nd rfl (.inl rfl) (pcall RB (hr.mono (by decide)) pass0 (pa_cons (pv 0) (pa_cons (pv 1) (pa_cons (pv 2) pa_nil)))))
        (pss_one (ps_expr (pe_bm PySem.F.plainAttrs_list PySem.F.slot_list_append PySem.F.type_list_append mt_append (pv 3) (pa_cons (pe_ifExp (pt_cmpR op_eq (pcall RD (hr.mono (by decide)) pass0 (pa_cons (pv 0) (pa_cons pe_int pa_nil))) pe_int (nomark _))
          (pcall RB (hr.mono (by decide)) pass0 (pa_cons (pv 0) (pa_cons (pv 5) (pa_cons (pv 2) pa_nil)))) (pv 5)) pa_nil))))))
      (pss_cons (ps_for PassesOwn.never rfl (pi_list (pv 3)) (pg_name (i := 6) scSR.nd rfl (.inr rfl))
        (pss_cons (ps_par (i := 7) (j := 8) rfl scSR.nd rfl rfl (by decide) rfl rfl (pa_cons (pcall RW (hr.mono (by decide)) pass0 (pa_cons (pv 6) pa_nil))
            (pa_cons (pmet (t := fun E => tCall (spReadPic K) [] E (tCons (tVar 6) tNil)) MF TB rfl hT hu hr (lamS_by (sc := defScope sSR) (by decide +kernel)) (fun A outer s H E f c' hr2 => by exact (pcall RR.pr hr2 (passes_call (W := fun cls d _ H => E cls d H) (takes_of rfl rfl rfl rfl) fun _ _ _ _ z => z) (pa_cons (pv 6) pa_nil)))) pa_nil)) rfl)
        (pss_cons (ps_if (PW.pt (pw_or (pt_not (pt_val (pcall RS (hr.mono (by decide)) pass0 (pa_cons (pe_lst (pa_cons (pcall RF.pr (hr.mono (by decide)) pass0 (pa_cons (pv 6) pa_nil)) pa_nil)) (pa_cons (pe_lst (pa_cons (pv 7) pa_nil)) pa_nil)))))
            (pw_or1 (pt_cmpR op_ne (pe_cmpR op_eq (pe_ix ix_tup (pv 8) pe_int (fun _ _ => rfl)) pe_str (nomark _)) (pe_cmp (pc_isN (pv 7)) rfl) (nomark _))))) (pss_one (ps_ret pe_bl)) pss_nil)
        (pss_one (ps_if (PW.pt (pw_and (pt_cmp (pc_notN (pv 7)) rfl) (pw_and1 (pt_not (pt_val (pcall RS (hr.mono (by decide)) pass0 (pa_cons (pv 8) (pa_cons (pe_tup (pa_cons pe_str (pa_cons (pv 7) pa_nil))) pa_nil)))))))) (pss_one (ps_ret pe_bl)) pss_nil)))))
      (pss_one (ps_ret pe_bl))))), ?_⟩
    have nS : Old H S := x.in1
    have nC : Old H C := x.in2
    refine q_parLL (el_lst (vs := signsV) (ea_cons ev_c (ea_cons ev_c (ea_cons ev_c (ea_cons ev_c (ea_cons ev_c (ea_cons ev_c (ea_cons ev_c (ea_cons ev_c (ea_cons ev_c (ea_cons ev_c (ea_cons ev_c (ea_cons ev_c ea_nil)))))))))))) (by show 12 ≤ 100000; decide)) (el_lst ea_nil (by show 0 ≤ 100000; decide)) fun G M H1 hG hM hGM e1 g1 m1 => ?_
    have nG : ¬ Str2 S C G := x.str2 hG
    have nM : ¬ Str2 S C M := x.str2 hM
    -- the cuts
    have hcut : EvL (tSl (rSlL K) (tLc (iRng1 (tCons (tOp (rI0 fun i j => .int (i + j)) (tCB rLenStr (tCons (tVar 1) tNil)) (tC (.int 1))) tNil)) (gName 9) tYes (tSl rSlS (tVar 1) tNoPart (tPart (tVar 9))) [9]) (tPart (tUn (rU fun i => .int (-i)) (tC (.int 25)))) tNoPart)
        [some (.ref S), some (.str t), some (.ref G), some (.ref M), none, none, none, none, none, none] H1 ((cutL ((List.range (t.length + 1)).map fun (i : Nat) => cutS t none (some (i : Int))) (some (-25)) none).map V.str) := by
      refine el_is (el_slL (el_lcR1 (n := ((t.length + 1 : Nat) : Int)) (fun _ => true) (fun (i : Nat) => V.str (cutS t none (some (i : Int)))) (ea_cons (ev_is (ev_op (ev_lenStr (ev_var rfl) (by omega) (r_lenStr (by omega))) ev_c rv_I0) (by rw [show (t.length : Int) + 1 = ((t.length + 1 : Nat) : Int) by omega])) ea_nil) ⟨by omega, by omega⟩ (fun _ => rfl) (fun i H2 e2 hi => ?_) (fun i H2 e2 hi _ => ev_cutS (ev_var rfl) eo_none (eo_some (ev_var rfl)) (by omega))) (eo_some (ev_un ev_c ru_neg)) eo_none) ?_
      · exact fun H3 e3 Q3 q3 => q3 H3 (Ex.refl H3)
      · rw [← cutV_strs]
        congr 1
        have e : ((t.length + 1 : Nat) : Int).toNat = t.length + 1 := by omega
        rw [e]
        unfold given
        rw [List.map_map]
        have hf : (List.range (t.length + 1)).filter (fun _ => true) = List.range (t.length + 1) := List.filter_eq_self.mpr fun _ _ => rfl
        rw [hf]
        rfl
    generalize hcs : cutL ((List.range (t.length + 1)).map fun (i : Nat) => cutS t none (some (i : Int))) (some (-25)) none = cs at hcut
    have hcl : cs.length ≤ t.length + 1 ∧ ∀ z ∈ cs, z.length ≤ 10000 := by
      subst hcs
      unfold cutL
      constructor
      · have h1 := List.length_take_le (HT.sIx ((List.range (t.length + 1)).map fun (i : Nat) => cutS t none (some (i : Int))).length ((List.range (t.length + 1)).map fun (i : Nat) => cutS t none (some (i : Int))).length none - HT.sIx ((List.range (t.length + 1)).map fun (i : Nat) => cutS t none (some (i : Int))).length 0 (some (-25))) (((List.range (t.length + 1)).map fun (i : Nat) => cutS t none (some (i : Int))).drop (HT.sIx ((List.range (t.length + 1)).map fun (i : Nat) => cutS t none (some (i : Int))).length 0 (some (-25))))
        rw [List.length_take, List.length_drop, List.length_map, List.length_range]
        omega
      · intro z hzm
        have hz2 := List.mem_of_mem_drop (List.mem_of_mem_take hzm)
        obtain ⟨i, _, rfl⟩ := List.mem_map.mp hz2
        have := cutS_length t none (some (i : Int))
        omega
    refine q_ext m1 (ev_var rfl) hcut (by rw [List.length_map, List.length_nil]; omega) fun H2 e2 => ?_
    have x1 := x.ex e1
    have x2 := x1.ex e2
    have MS : M ≠ S := fun z => nM (.inl z)
    have MC : M ≠ C := fun z => nM (.inr z)
    have GM : G ≠ M := hGM
    have o2 : OffS S C H (upd H2 M (.lst ([] ++ cs.map V.str))) := (offS_of (e1.trans e2)).fresh hM
    have t2 : Tabs T (upd H2 M (.lst ([] ++ cs.map V.str))) := tabs_upd (tabs_ex (tabs_ex htab e1) e2) (e2 _ _ m1)
    refine q_forR1 (n := 20) (ea_cons ev_c ea_nil) (by decide) (fun k σ' H' => ∃ zs x4 x5, σ' = [some (.ref S), some (.str t), some (.ref G), some (.ref M), x4, x5, none, none, none, none] ∧ OffS S C H H' ∧ Stm H' S C (N + k * 21) ∧ H' G = some (.lst signsV) ∧ H' M = some (.lst (List.map V.str zs)) ∧ zs.length ≤ 2000 + k ∧ (∀ z ∈ zs, z.length ≤ 10000) ∧ Tabs T H')
      (fun H3 e3 => ⟨cs, none, none, rfl, o2.trans (offS_of e3), by rw [Nat.zero_mul]; exact (x2.fresh MS MC).ex e3, e3 _ _ (by rw [upd_ne GM]; exact e2 _ _ g1), e3 _ _ upd_same, by omega, hcl.2, tabs_ex t2 e3⟩) ?_ ?_
    · rintro k σ' H3 hk ⟨zs, x4, x5, rfl, o3, x3, g3, m3, hl3, hz3, t3⟩
      have GS : G ≠ S := fun z => nG (.inl z)
      have GC : G ≠ C := fun z => nG (.inr z)
      have hk2 : k < 20 := by omega
      refine q_asgCallN (vs := [.ref S, .str t, .ref G]) (ea_cons (ev_var rfl) (ea_cons (ev_var rfl) (ea_cons (ev_var rfl) ea_nil))) fun H4 e4 => ⟨S, C, G, N + k * 21, t, signsV, rfl, x3.ex e4, by omega, by omega, e4 _ _ g3, GS, GC, (fun z => by cases z), by decide, signs_ok, fun z H5 o5 x5 hz5 => ?_⟩
      have o35 : OffS S C H3 H5 := (offS_of e4).trans o5
      have g5 := o35 _ _ nG g3
      have m5 := o35 _ _ nM m3
      have t5 := tabs_off t3 x3 o35
      have fin : ∀ (z2 : Str) (H8 : Hp) (x4 x5 : Option V), z2.length ≤ 10000 → OffS S C H5 H8 → Stm H8 S C (N + (k + 1) * 21) → ∃ ys, H8 M = some (.lst ys) ∧ ys.length < sizeLine ∧ ∃ zs' x4' x5', [some (V.ref S), some (.str t), some (.ref G), some (.ref M), x4, x5, none, none, none, none] = [some (.ref S), some (.str t), some (.ref G), some (.ref M), x4', x5', none, none, none, none] ∧ OffS S C H (upd H8 M (.lst (ys ++ [.str z2]))) ∧ Stm (upd H8 M (.lst (ys ++ [.str z2]))) S C (N + (k + 1) * 21) ∧
          upd H8 M (.lst (ys ++ [.str z2])) G = some (.lst signsV) ∧ upd H8 M (.lst (ys ++ [.str z2])) M = some (.lst (List.map V.str zs')) ∧ zs'.length ≤ 2000 + (k + 1) ∧ (∀ z ∈ zs', z.length ≤ 10000) ∧ Tabs T (upd H8 M (.lst (ys ++ [.str z2]))) := by
        intro z2 H8 x4 x5' hz8 o8 x8
        have m8 := o8 _ _ nM m5
        refine ⟨zs.map V.str, m8, by rw [List.length_map, sizeLine_eq]; omega, zs ++ [z2], _, _, rfl, ((o3.trans o35).trans o8).fresh hM, x8.fresh MS MC, by rw [upd_ne GM]; exact o8 _ _ nG g5, by rw [upd_same, List.map_append]; rfl, by rw [List.length_append, List.length_singleton]; omega, fun z hz => ?_, tabs_upd (tabs_off t5 x5 o8) m8⟩
        rcases List.mem_append.mp hz with hz | hz
        · exact hz3 z hz
        · rw [List.mem_singleton.mp hz]
          exact hz8
      refine s_appX m5 (ev_var rfl) fun H6 e6 => ?_
      refine ⟨_, rfl, S, C, _, 3, rfl, x5.ex e6, by omega, by decide, by decide, fun r H7 hr3 o7 x7 => ⟨rfl, _, rfl, ite2 (fun hb => ?_) (fun hb => ?_)⟩⟩
      · refine ⟨_, rfl, _, rfl, _, rfl, S, C, G, _, z, signsV, rfl, x7, by omega, by omega, o7 _ _ nG (e6 _ _ g5), GS, GC, (fun z => by cases z), by decide, signs_ok, fun z2 H8 o8 x8 hz8 => ?_⟩
        exact fin z2 H8 _ _ (by omega) (((offS_of e6).trans o7).trans o8) (x8.mono (by omega))
      · exact ⟨_, rfl, fin z H7 _ _ (by omega) ((offS_of e6).trans o7) (x7.mono (by omega))⟩
    · rintro σ' H3 ⟨zs, x4, x5, rfl, o3, x3, g3, m3, hl3, hz3, t3⟩
      have x3' : Stm H3 S C (N + 500) := x3.mono (by show N + 20 * 21 ≤ _; omega)
      refine ⟨_, rfl, M, rfl, ⟨_, SqL.of m3⟩, for_list (xs := zs.map V.str) (fun i σ' H' => ∃ x4 x5 x6 x7 x8 x9, σ' = [some (.ref S), some (.str t), some (.ref G), some (.ref M), x4, x5, x6, x7, x8, x9] ∧ OffN S C H H' ∧ Stm H' S C (N + 500) ∧ H' M = some (.lst (List.map V.str zs)) ∧ Tabs T H') ⟨_, _, _, _, _, _, rfl, OffN.of o3, x3', m3, t3⟩ (fun i σ' H' _ hP => ?_) ?_ ?_⟩
      · obtain ⟨_, _, _, _, _, _, _, _, _, z, _⟩ := hP
        exact SqL.of z
      · rintro i v σ' H4 hi ⟨x4, x5, x6, x7, x8, x9, rfl, o4, x4', m4, t4⟩
        rw [List.getElem?_map] at hi
        cases hzi : zs[i]? with
        | none =>
          rw [hzi] at hi
          cases hi
        | some z =>
          rw [hzi] at hi
          have ev := Option.some.inj hi
          subst ev
          have hzl := hz3 z (List.mem_of_getElem? hzi)
          have hfo : faultOf (.str z) = faultL (TL.tl z) := rfl
          -- what follows, once both are known
          have rest : ∀ (u : V) (p : Addr) (nm : Str) (y : V) (Hx : Hp), OffN S C H4 Hx → Stm Hx S C (N + 500) → Hx M = some (.lst (List.map V.str zs)) → Tabs T Hx → Dat Hx u (faultD (faultL (TL.tl z))) → Hx p = some (.tup [.str nm, y]) →
              ((faultL (TL.tl z) = none ∧ nm = "told") ∨ (∃ k j, faultL (TL.tl z) = some (k, j) ∧ nm = "text" ∧ Dat Hx y (faultD (some (k, j))))) → ∀ (Dd : Ends), (∀ σ' H', (∃ x4 x5 x6 x7 x8 x9, σ' = [some (.ref S), some (.str t), some (.ref G), some (.ref M), x4, x5, x6, x7, x8, x9] ∧ OffN S C H H' ∧ Stm H' S C (N + 500) ∧ H' M = some (.lst (List.map V.str zs)) ∧ Tabs T H') → Dd.nx σ' H') →
              tSeq (tIfS (L2.tOr (tNot (tB (tCall (spSame 4) [] E0 (tCons (tLst (tCons (tCall spFault [] E0 (tCons (tVar 6) tNil)) tNil)) (tCons (tLst (tCons (tVar 7) tNil)) tNil))))) (tTest (tOp rNe (tOp rEq (tOp (rIxT K) (tVar 8) (tC (.int 0))) (tC (.str "told"))) (tIsN (tVar 7))))) (tRet (tC (.bl false))) tNext)
                (tIfS (tAnd (tB (tNotN (tVar 7))) (tNot (tB (tCall (spSame 4) [] E0 (tCons (tVar 8) (tCons (tTup (tCons (tC (.str "text")) (tCons (tVar 7) tNil))) tNil)))))) (tRet (tC (.bl false))) tNext) Dd
                [some (.ref S), some (.str t), some (.ref G), some (.ref M), x4, x5, some (.str z), some u, some (.ref p), x9] Hx := by
            intro u p nm y Hx ox xx mx tx hu hp hc Dd hDd
            have hok : okS 4 (.list [faultD (faultL (TL.tl z))]) = true := by
              cases faultL (TL.tl z) with
              | none => rfl
              | some kj => rfl
            refine q_whenF (b := !true || !decide (V.bl (decide (V.str nm = V.str "told")) = V.bl (decide (u = V.non)))) (et_or (et_not (et_B (ev_sameD (ed_lst (eda_cons (ed_fault (ed_var rfl (.str z)) (show z.length ≤ 40000 by omega)) eda_nil) (by show 1 ≤ 100000; decide)) (ed_lst (eda_cons (ed_var rfl hu) eda_nil) (by show 1 ≤ 100000; decide)) hok))) fun _ =>
              et_test (ev_op (ev_op (ev_op (ev_var rfl) ev_c (rv_ixT (i := ((0 : Nat) : Int)) (SqT.of hp) (atI_nat rfl))) ev_c (rv_eq rfl)) (ev_isN (K := K) (ev_var rfl)) (rv_ne rfl))) ?_ fun Hy ey => ?_
            · rcases hc with ⟨h1, rfl⟩ | ⟨k, j, h1, rfl, _⟩
              · rw [h1] at hu
                cases hu
                rfl
              · rw [h1] at hu
                cases hu
                rfl
            · have oy := ox.trans (OffN.ofX ey)
              have fin : ∀ Hw, Ex Hy Hw → Dd.nx [some (.ref S), some (.str t), some (.ref G), some (.ref M), x4, x5, some (.str z), some u, some (.ref p), x9] Hw := fun Hw ew => hDd _ _ ⟨_, _, _, _, _, _, rfl, o4.trans (oy.trans (OffN.ofX ew)), (xx.ex ey).ex ew, ew _ _ (ey _ _ mx), tabs_ex (tabs_ex tx ey) ew⟩
              rcases hc with ⟨h1, rfl⟩ | ⟨k, j, h1, rfl, hy⟩
              · rw [h1] at hu
                cases hu
                exact s_whenF (b := (!decide (V.non = V.non)) && true) (et_and (et_B (ev_notN (ev_var rfl))) fun z => by simp at z) rfl fun Hw ew => fin Hw ew
              · rw [h1] at hu
                have huy := hu.ex ey
                refine s_whenF (b := (!decide (u = V.non)) && !true) (et_and (et_B (ev_notN (ev_var rfl))) fun _ => et_not (et_B (ev_sameD (d := .tuple [.str "text", faultD (some (k, j))]) (ed_var rfl (.tup (fun z => z) (ey _ _ hp) (.cons (.str _) (.cons (hy.ex ey) .nil)))) (ed_tup (eda_cons ed_str (eda_cons (ed_var rfl huy) eda_nil)) (by show 2 ≤ 100000; decide)) rfl))) (by simp) fun Hw ew => fin Hw ew
          refine ⟨_, rfl, z, rfl, by omega, fun u H5 e5 hu5 => ?_⟩
          refine ⟨tabs_ex t4 e5, fun H6 e6 t6 => ?_⟩
          have hu6 : Dat H6 u (faultD (faultL (TL.tl z))) := dat_ext e6 hu5.dat
          have o6 : OffN S C H4 H6 := (OffN.ofX e5).trans (OffN.ofE e6)
          have x6' : Stm H6 S C (N + 500) := (x4'.ex e5).extN e6
          have m6 : H6 M = some (.lst (List.map V.str zs)) := e6 _ _ (e5 _ _ m4) fun _ z => by cases z
          refine ⟨_, rfl, .str z, fun _ => False, .str z, rfl, .str z, show z.length ≤ 40000 by omega, fun k j hf dd H7 hdd e7 h7 => ?_, fun hf y H7 e7 hy7 => ?_⟩
          · refine .inr ⟨rfl, dd, .int (k : Int), .int (j : Int), rfl, h7, fun r hr7 p hp8 => ⟨u, .ref p, rfl, ?_⟩⟩
            have ea : Ex H7 (upd H7 r (.tup [.int (k : Int), .int (j : Int)])) := Ex.new hr7
            have eb : Ex (upd H7 r (.tup [.int (k : Int), .int (j : Int)])) (upd (upd H7 r (.tup [.int (k : Int), .int (j : Int)])) p (.tup [.str "text", .ref r])) := Ex.new hp8
            have e8 := (e7.trans ea).trans eb
            exact rest u p "text" (.ref r) _ (o6.trans (OffN.ofX e8)) (x6'.ex e8) (e8 _ _ m6) (tabs_ex t6 e8) (hu6.ex e8) upd_same (.inr ⟨k, j, hf, rfl, .tup (fun z => z) (eb _ _ upd_same) (.cons (.int _) (.cons (.int _) .nil))⟩) _ fun _ _ z => z
          · refine ⟨by show 2 ≤ sizeLine; decide, fun p hp8 => ⟨u, .ref p, rfl, ?_⟩⟩
            have e8 := e7.trans (Ex.new (o := .tup [.str "told", y]) hp8)
            exact rest u p "told" y _ (o6.trans (OffN.ofX e8)) (x6'.ex e8) (e8 _ _ m6) (tabs_ex t6 e8) (hu6.ex e8) upd_same (.inl ⟨hf, rfl⟩) _ fun _ _ z => z
      · rintro σ' H4 ⟨x4, x5, x6, x7, x8, x9, rfl, o4, x4', m4, t4⟩
        exact q H4 o4 x4' t4
end
end Pw
set_option Elab.async false
set_option linter.all false
set_option maxRecDepth 100000
namespace Pw
open PySem PySem.Spec PyProof.Rows L2 Evl LamX
/-! ## more of data -/
section
variable {σ : L2.St} {H : Hp} {ta tb te : TE} {K : PySem.W.Frag} {d : PyData} {ds : List PyData}
theorem q_asgD {i : Nat} {tz : TS} {D : Ends} (h : ED te σ H d) (k : ∀ v H1, Ex H H1 → Dat H1 v d → tz D (σ.set i (some v)) H1) : tSeq (tAsg te (gName i)) tz D σ H := h H (Ex.refl H) _ k
theorem ed_pt {E : XK} (h : ED te σ H d) (hp : isPic d = true) (hf : few d) (hs : Small (rowsI d)) : ED (tCall (spPictureText K) [] E (tCons te tNil)) σ H (.str (textR (rowsI d))) := fun H1 e Q q =>
  h H1 e _ fun v H2 e2 hv => ⟨v, _, d, rfl, hv, hf, fun _ => hs, (fun z => by rw [hp] at z; cases z), fun _ H3 e3 => q _ H3 (e2.trans e3) (.str _)⟩
theorem ed_rp {E : XK} (h : ED te σ H d) (hs : short d) (hn : faultOf d = none) : ED (tCall (spReadPic K) [] E (tCons te tNil)) σ H (picD (rowsOf d)) := fun H1 e Q q =>
  h H1 e _ fun v H2 e2 hv => ⟨v, _, d, rfl, hv, hs, (fun i j z => by rw [hn] at z; cases z), fun _ u H3 e3 hu => q u H3 (e2.trans e3) hu.dat⟩
/-- no list, no dict in it -/
def noL : PyData → Bool
  | .list _ => false
  | .dict _ => false
  | .tuple ds => noLs ds
  | _ => true
where noLs : List PyData → Bool
  | [] => true
  | d :: ds => noL d && noLs ds
mutual
theorem dat_noL {M : Addr} {xs : List V} {o : HO} (hM : H M = some (.lst xs)) : ∀ (d : PyData) (v : V), noL d = true → Dat H v d → Dat (upd H M o) v d
  | .none, _, _, h => by
    cases h
    exact .non
  | .bool b, _, _, h => by
    cases h
    exact .bl b
  | .int i, _, _, h => by
    cases h
    exact .int i
  | .str x, _, _, h => by
    cases h
    exact .str x
  | .list ds, _, z, _ => by
    rw [noL] at z
    cases z
  | .tuple ds, _, z, h => by
    cases h with
    | tup n e a =>
      refine .tup n ?_ (dats_noL hM ds _ (by rw [noL] at z; exact z) a)
      rw [upd_ne (fun q => by rw [q, hM] at e; cases e)]
      exact e
  | .dict _, _, z, _ => by
    rw [noL] at z
    cases z
theorem dats_noL {M : Addr} {xs : List V} {o : HO} (hM : H M = some (.lst xs)) : ∀ (ds : List PyData) (vs : List V), noL.noLs ds = true → DtAll (fun _ => False) H vs ds → DtAll (fun _ => False) (upd H M o) vs ds
  | [], _, _, h => by
    cases h
    exact .nil
  | d :: ds, _, z, h => by
    cases h with
    | cons h1 h2 =>
      rw [noL.noLs, Bool.and_eq_true] at z
      exact .cons (dat_noL hM d _ z.1 h1) (dats_noL hM ds _ z.2 h2)
end
theorem dts_app {L : Addr → Prop} {ys : List V} {es : List PyData} : ∀ {ds : List PyData} {xs : List V}, DtAll L H xs ds → DtAll L H ys es → DtAll L H (xs ++ ys) (ds ++ es)
  | [], _, h, g => by
    cases h
    exact g
  | d :: ds, _, h, g => by
    cases h with
    | cons h1 h2 => exact .cons h1 (dts_app h2 g)
theorem noLs_app : ∀ {ds es : List PyData}, noL.noLs ds = true → noL.noLs es = true → noL.noLs (ds ++ es) = true
  | [], _, _, g => g
  | d :: ds, es, h, g => by
    rw [noL.noLs, Bool.and_eq_true] at h
    show (noL d && noL.noLs (ds ++ es)) = true
    rw [h.1, noLs_app h.2 g]
    rfl
/-- a list of such data, that grows -/
def Some_ (H : Hp) (M : Addr) (ds : List PyData) : Prop := ∃ vs, H M = some (.lst vs) ∧ DtAll (fun _ => False) H vs ds ∧ noL.noLs ds = true ∧ ds.length ≤ 1000
theorem Some_.ex {H H' : Hp} {M : Addr} {ds : List PyData} (x : Some_ H M ds) (e : Ex H H') : Some_ H' M ds := by
  obtain ⟨vs, h1, h2, h3, h4⟩ := x
  exact ⟨vs, e _ _ h1, h2.ex e, h3, h4⟩
theorem q_appD {M : Addr} {tz : TS} {D : Ends} (x : Some_ H M ds) (ha : Ev ta σ H (.ref M)) (h : ED te σ H d) (hn : noL d = true) (hl : ds.length < 900) (k : ∀ H1 vs, Ex H H1 → Some_ (upd H1 M (.lst vs)) M (ds ++ [d]) → tz D σ (upd H1 M (.lst vs))) :
    tSeq (tDrop (tBM K "list" rAppend ta (tCons te tNil))) tz D σ H := by
  obtain ⟨vs, h1, h2, h3, h4⟩ := x
  refine ha H (Ex.refl H) _ fun H1 e1 => ⟨Or.inl ⟨rfl, vs, SqL.of (e1 _ _ h1)⟩, h H1 e1 _ fun v H2 e2 hv => ?_⟩
  have hM := e2 _ _ (e1 _ _ h1)
  have hvl := h2.len
  refine ⟨M, vs, v, rfl, rfl, hM, by rw [sizeLine_eq]; omega, k H2 _ (e1.trans e2) ⟨_, upd_same, ?_, noLs_app h3 (by rw [noL.noLs, hn]; rfl), by rw [List.length_append, List.length_singleton]; omega⟩⟩
  exact dts_app (xs := vs) (dats_noL hM ds vs h3 (h2.ex (e1.trans e2))) (.cons (dat_noL hM d v hn hv) .nil)
theorem q_extD {M : Addr} {es : List PyData} {tz : TS} {D : Ends} (x : Some_ H M ds) (ha : Ev ta σ H (.ref M)) (h : ED te σ H (.list es)) (hn : noL.noLs es = true) (hl : ds.length + es.length < 900) (k : ∀ H1 vs, Ex H H1 → Some_ (upd H1 M (.lst vs)) M (ds ++ es) → tz D σ (upd H1 M (.lst vs))) :
    tSeq (tDrop (tBM K "list" rExtend ta (tCons te tNil))) tz D σ H := by
  obtain ⟨vs, h1, h2, h3, h4⟩ := x
  refine ha H (Ex.refl H) _ fun H1 e1 => ⟨Or.inl ⟨rfl, vs, SqL.of (e1 _ _ h1)⟩, h H1 e1 _ fun v H2 e2 hv => ?_⟩
  have hM := e2 _ _ (e1 _ _ h1)
  have hvl := h2.len
  cases hv with
  | lst n he ha =>
    have hel := ha.len
    refine ⟨M, _, vs, _, rfl, rfl, hM, he, by rw [sizeLine_eq]; omega, k H2 _ (e1.trans e2) ⟨_, upd_same, ?_, noLs_app h3 hn, by rw [List.length_append]; omega⟩⟩
    exact dts_app (xs := vs) (dats_noL hM ds vs h3 (h2.ex (e1.trans e2))) (dats_noL hM es _ hn ha)
mutual
theorem dat_offL {M : Addr} {xs : List V} (hM : H M = some (.lst xs)) : ∀ (d : PyData) (v : V), noL d = true → Dat H v d → Dt (fun b => b = M) H v d
  | .none, _, _, h => by
    cases h
    exact .non
  | .bool b, _, _, h => by
    cases h
    exact .bl b
  | .int i, _, _, h => by
    cases h
    exact .int i
  | .str x, _, _, h => by
    cases h
    exact .str x
  | .list ds, _, z, _ => by
    rw [noL] at z
    cases z
  | .tuple ds, _, z, h => by
    cases h with
    | tup n e a => exact .tup (fun q => by rw [q, hM] at e; cases e) e (dats_offL hM ds _ (by rw [noL] at z; exact z) a)
  | .dict _, _, z, _ => by
    rw [noL] at z
    cases z
theorem dats_offL {M : Addr} {xs : List V} (hM : H M = some (.lst xs)) : ∀ (ds : List PyData) (vs : List V), noL.noLs ds = true → DtAll (fun _ => False) H vs ds → DtAll (fun b => b = M) H vs ds
  | [], _, _, h => by
    cases h
    exact .nil
  | d :: ds, _, z, h => by
    cases h with
    | cons h1 h2 =>
      rw [noL.noLs, Bool.and_eq_true] at z
      exact .cons (dat_offL hM d _ z.1 h1) (dats_offL hM ds _ z.2 h2)
end
/-- [te for x, y in a list of pairs] -/
theorem ed_pairs {M : Addr} {vs : List V} {ps : List (PyData × PyData)} {es : List PyData} {tl : TE} {i1 i2 : Nat} (h : Ev tl σ H (.ref M)) (hM : H M = some (.lst vs)) (hv : DtAll (fun _ => False) H vs (ps.map fun p => .tuple [p.1, p.2])) (hz : ps.length ≤ 1000) (hl : es.length = ps.length) (hes : ∀ e ∈ es, noL e = true)
    (hw : ∀ x y, wipe (((wipe σ [i1, i2]).set i1 x).set i2 y) [i1, i2] = wipe σ [i1, i2]) (he : ∀ (i : Nat) (p : PyData × PyData) (e : PyData) (x y : V) H2, Ex H H2 → ps[i]? = some p → es[i]? = some e → Dat H2 x p.1 → Dat H2 y p.2 → ED te (((wipe σ [i1, i2]).set i1 (some x)).set i2 (some y)) H2 e) :
    ED (tLc (iList K tl) (gTup K 2 (gCons (gName i1) (gCons (gName i2) gNil))) tYes te [i1, i2]) σ H (.list es) := fun H0 e Q q => by
  have hvl := hv.len
  rw [List.length_map] at hvl
  refine h H0 e _ fun H1 e1 => ⟨M, rfl, ⟨vs, SqL.of (e1 _ _ (e _ _ hM))⟩, fun D hD => ?_⟩
  refine lc_word (walk_list (K := K) (xs := vs) (a := M)) hD (fun H' e' => SqL.of (e' _ _ (e1 _ _ (e _ _ hM)))) (by omega) (fun k y H' => ∃ z, es[k]? = some z ∧ Dt (fun b => b = D) H' y z) (fun k y H' H3 ⟨z, h1, h2⟩ st => ⟨z, h1, Dt.but (fun b o n hb => st b o n hb) _ _ h2⟩) (fun i x H2 H' acc hi e2 hDs hy Q' q' => ?_) (fun us H' e' hlen hDs hR => ?_)
  · obtain ⟨rfl, hx⟩ := hy
    obtain ⟨d0, hd1, hd2⟩ := hv.get hx
    rw [List.getElem?_map] at hd1
    cases hp : ps[i]? with
    | none =>
      rw [hp] at hd1
      cases hd1
    | some p =>
      rw [hp] at hd1
      have ed := Option.some.inj hd1
      subst ed
      have hi2 := (List.getElem?_eq_some_iff.mp hp).1
      have hei : es[i]? = some es[i] := List.getElem?_eq_getElem (by omega)
      have eall := (e.trans e1).trans e2
      cases hd2 with
      | tup n g a =>
        cases a with
        | cons a1 a2 =>
          cases a2 with
          | cons a2 a3 =>
            cases a3
            refine ⟨_, _, rfl, SqT.of (eall _ _ g), rfl, _, _, rfl, _, _, rfl, rfl, ?_⟩
            refine q' _ _ (Ex.refl _) (hw _ _) fun H4 e4 Q2 q2 => ?_
            refine he i p _ _ _ H' eall hp hei (a1.ex eall) (a2.ex eall) H4 e4 Q2 fun y H5 e5 hy => q2 y H5 e5 ⟨_, hei, ?_⟩
            exact dat_offL (e5 _ _ (e4 _ _ hDs)) _ _ (hes _ (List.getElem_mem _)) hy
  · refine q (.ref D) H' (e1.trans e') (.lst (fun z => z) hDs ?_)
    refine DtAll.of (by rw [hlen, hvl, hl]) fun k v d hv hd => ?_
    obtain ⟨z, h1, h2⟩ := hR k v hv
    rw [hd] at h1
    rw [Option.some.inj h1]
    exact h2.sub fun _ z => z.elim
end
end Pw
set_option Elab.async false
set_option linter.all false
set_option maxRecDepth 100000
namespace Pw
open PySem PySem.Spec PyProof.Rows L2 Evl LamX
/-! ## what law's statements need -/
section
variable {σ : L2.St} {H : Hp} {K : PySem.W.Frag}
theorem iteN {p q : Prop} {b : Bool} (h : b = true) (k : q) : if (!b) = true then p else q := by
  rw [h]
  exact k
theorem q_unlessCall {sp : Sp} {dvs vs : List V} {E : XK} {ta : TA} {tu tz : TS} {D : Ends} (h : EvA ta σ H vs) (k : ∀ H1, Ex H H1 → ∀ Q : VK, (∀ H2, tz D σ H2 → Q (.bl true) H2) → sp (vs ++ dvs) H1 Q E) : tSeq (tIfS (tNot (tB (tCall sp dvs E ta))) tu tNext) tz D σ H :=
  h H (Ex.refl H) _ fun H1 e1 => k H1 e1 _ fun H2 hz => ⟨true, rfl, iteN rfl hz⟩
theorem s_unlessCall {sp : Sp} {dvs vs : List V} {E : XK} {ta : TA} {tu : TS} {D : Ends} (h : EvA ta σ H vs) (k : ∀ H1, Ex H H1 → ∀ Q : VK, (∀ H2, D.nx σ H2 → Q (.bl true) H2) → sp (vs ++ dvs) H1 Q E) : tIfS (tNot (tB (tCall sp dvs E ta))) tu tNext D σ H :=
  h H (Ex.refl H) _ fun H1 e1 => k H1 e1 _ fun H2 hz => ⟨true, rfl, iteN rfl hz⟩
theorem q_asgIf {b : Bool} {i : Nat} {tt : TT} {ta tb : TE} {tz : TS} {D : Ends} (h : EvT tt σ H b) (h1 : b = true → ∀ H1, Ex H H1 → ta σ H1 fun v H2 => tz D (σ.set i (some v)) H2) (h2 : b = false → ∀ H1, Ex H H1 → tb σ H1 fun v H2 => tz D (σ.set i (some v)) H2) :
    tSeq (tAsg (tIf tt ta tb) (gName i)) tz D σ H := h H (Ex.refl H) _ fun H1 e1 => by
  cases b with
  | true => exact h1 rfl H1 e1
  | false => exact h2 rfl H1 e1
/-- for x in (a, b, ..) -/
theorem q_forTD {ds : List PyData} {te : TE} {j : Nat} {tu tz : TS} {D : Ends} (h : ED te σ H (.tuple ds)) (Pv : Addr → List V → Nat → L2.St → Hp → Prop) (h0 : ∀ O zs H1, Ex H H1 → H1 O = some (.tup zs) → DtAll (fun _ => False) H1 zs ds → Pv O zs 0 σ H1)
    (hl : ∀ O zs i σ' H', Pv O zs i σ' H' → SqT K H' O zs) (hs : ∀ O zs i x σ' H', zs[i]? = some x → Pv O zs i σ' H' → tu { D with nx := Pv O zs (i + 1), ct := Pv O zs (i + 1), bk := tz D } (σ'.set j (some x)) H') (hd : ∀ O zs σ' H', Pv O zs zs.length σ' H' → tz D σ' H') :
    tSeq (tFor (iTup K te) (gName j) tu) tz D σ H := h H (Ex.refl H) _ fun v H1 e1 hv => by
  cases hv with
  | tup n hO ha => exact ⟨_, rfl, ⟨_, SqT.of hO⟩, for_tup (Pv _ _) (h0 _ _ H1 e1 hO ha) (fun i σ' H' _ => hl _ _ i σ' H') (hs _ _) (hd _ _)⟩
theorem ed_dict : ED tDNewK σ H (.dict []) := fun H1 e Q q d hd => q (.ref d) _ (Ex.new hd) (.emp (fun z => z) upd_same)
/-- _law_met(lambda: picture_text(x)), x no picture -/
theorem met_pic {T : List (Addr × Str)} {i : Nat} {y : V} {d : PyData} {Q : VK} (hσ : σ[i]? = some (some y)) (hd : Dat H y d) (hp : isPic d = false) (hf : few d) (ht : Tabs T H) (q : ∀ p H', ExtN H H' → Tabs T H' → H' p = some (.tup [.str "picture", y]) → Q (.ref p) H') :
    tLam T (TMet K) (fun E => tCall (spPictureText K) [] E (tCons (tVar i) tNil)) σ H Q := by
  refine ⟨ht, fun H1 e1 t1 => ⟨y, hσ, y, _, d, rfl, dat_ext e1 hd, hf, (fun z => by rw [hp] at z; cases z), fun _ dd H2 hdd e2 h2 => .inl ⟨rfl, dd, y, rfl, h2, fun p hp2 => ?_⟩, fun z => by rw [hp] at z; cases z⟩⟩
  have e3 : Ex H1 (upd H2 p (.tup [.str "picture", y])) := e2.trans (Ex.new hp2)
  exact q p _ (e1.trans (ExtN.of e3)) (tabs_ex t1 e3) upd_same
/-- _law_met(lambda: read_picture(x)), x no text -/
theorem met_read {T : List (Addr × Str)} {i : Nat} {y : V} {d : PyData} {Q : VK} (hσ : σ[i]? = some (some y)) (hd : Dat H y d) (hf : faultOf d = some (0, 0)) (hs : short d) (ht : Tabs T H)
    (q : ∀ p H', ExtN H H' → Tabs T H' → Dat H' (.ref p) (.tuple [.str "text", .tuple [.int 0, .int 0]]) → Q (.ref p) H') : tLam T (TMet K) (fun E => tCall (spReadPic K) [] E (tCons (tVar i) tNil)) σ H Q := by
  refine ⟨ht, fun H1 e1 t1 => ⟨y, hσ, y, _, d, rfl, dat_ext e1 hd, hs, fun k j hkj dd H2 hdd e2 h2 => ?_, fun z => by rw [hf] at z; cases z⟩⟩
  rw [hf] at hkj
  cases hkj
  refine .inr ⟨rfl, dd, .int 0, .int 0, rfl, h2, fun r hr p hp2 => ?_⟩
  have ea : Ex H2 (upd H2 r (.tup [.int 0, .int 0])) := Ex.new hr
  have eb := Ex.new (H := upd H2 r (.tup [.int 0, .int 0])) (o := .tup [.str "text", .ref r]) hp2
  have e3 := (e2.trans ea).trans eb
  exact q p _ (e1.trans (ExtN.of e3)) (tabs_ex t1 e3) (.tup (fun z => z) upd_same (.cons (.str _) (.cons (.tup (fun z => z) (eb _ _ upd_same) (.cons (.int _) (.cons (.int _) .nil))) .nil)))
end
/-! ### the data -/
def fewB (d : PyData) : Bool := decide ((items d).length ≤ 1000) && (items d).all fun r => decide ((items r).length ≤ 1000)
theorem few_of {d : PyData} (h : fewB d = true) : few d := by
  unfold fewB at h
  rw [Bool.and_eq_true, List.all_eq_true] at h
  exact ⟨of_decide_eq_true h.1, fun r hr => of_decide_eq_true (h.2 r hr)⟩
def odDs : List PyData := [.none, .int 5, .str "1\n", .dict [], .bool true, .list [.list []], .list [.int 1], .list [.list [.int 1], .list [.int 1, .int 2]], .list [.list [.int 1, .int 2], .list [.int 1]], .list [.list [.none]], .list [.list [.bool true]], .list [.list [.str "1"]], .list [.list [.int 1], .list []]]
theorem od_ok {d : PyData} (h : d ∈ odDs) : isPic d = false ∧ few d ∧ okS 4 d = true := by
  have e : (odDs.all fun d => !isPic d && (fewB d && okS 4 d)) = true := by decide +kernel
  have := List.all_eq_true.mp e d h
  rw [Bool.and_eq_true, Bool.and_eq_true] at this
  exact ⟨by simpa using this.1, few_of this.2.1, this.2.2⟩
def oeDs : List PyData := [.none, .int 5, .list [.str "1\n"], .dict [], .bool true, .list [.list [.int 1]]]
theorem oe_ok {d : PyData} (h : d ∈ oeDs) : faultOf d = some (0, 0) ∧ short d := by
  simp only [oeDs, List.mem_cons, List.not_mem_nil, or_false] at h
  rcases h with rfl | rfl | rfl | rfl | rfl | rfl <;> exact ⟨rfl, trivial⟩
def smF : List (Str × Option (Nat × Nat)) := [("", none), ("\n", some (1, 1)), ("1 2\n3", some (2, 2)), ("1 2\n3\n", some (2, 2)), ("1 2\n3 4 5\n", some (2, 4)), ("-", some (1, 2)), ("1  2\n", some (1, 3)), ("1 \n", some (1, 3)), (" 1\n", some (1, 1)), ("01\n", some (1, 2)), ("-0\n", some (1, 2)), ("1", some (1, 2)), ("1\n2\n", none), ("1\n2 3\n", some (2, 2)), ("1234567890123456\n", none), ("12345678901234567", some (1, 17))]
theorem sm_ok {p : Str × Option (Nat × Nat)} (h : p ∈ smF) : faultL (TL.tl p.1) = p.2 ∧ p.1.length ≤ 40000 := by
  have e : (smF.all fun p => decide (faultL (TL.tl p.1) = p.2) && decide (p.1.length ≤ 40000)) = true := by decide +kernel
  have := List.all_eq_true.mp e p h
  rw [Bool.and_eq_true] at this
  exact ⟨of_decide_eq_true this.1, of_decide_eq_true this.2⟩
def smP : List (PyData × PyData) := smF.map fun p => (.str p.1, faultD p.2)
def smE : List PyData := smF.map fun p => faultD p.2
/-! ### the drawn picture is a good one -/
theorem good_of {rs : List (List Int)} {rows cols : Nat} (h : Drawn rs rows cols) (h1 : rows ≤ 20) (h2 : cols ≤ 20) (h3 : 0 < cols) : Good rs := by
  obtain ⟨g1, g2⟩ := h
  exact ⟨by omega, cols, h2, .inr h3, g2⟩
theorem text_small {rs : List (List Int)} {rows cols : Nat} (h : Drawn rs rows cols) (h1 : rows ≤ 4) (h2 : cols ≤ 4) : (textR rs).length ≤ 1000 := by
  obtain ⟨g1, g2⟩ := h
  have h3 := textR_len (rows := rs) (b := 57) fun r hr => by
    have h2 := rowS_len (ns := r) fun i hi => Nat.lt_of_le_of_lt ((g2 r hr).2 i hi) (by decide)
    have := (g2 r hr).1
    omega
  have h4 : rs.length * 57 ≤ 4 * 57 := Nat.mul_le_mul_right _ (by omega)
  omega
theorem good_nil : Good [] := ⟨by decide, 1, by decide, .inl rfl, fun r hr => by cases hr⟩
/-- the spoiled thing -/
def heldD (k : Nat) : PyData := .list [.list (.str "x" :: List.replicate k (.str "late9")), .str "late9"]
theorem held_dat {H : Hp} {a b : Addr} {k : Nat} (h1 : H a = some (.lst ([.ref b] ++ [late]))) (h2 : H b = some (.lst ([.str "x"] ++ List.replicate k late))) : Dat H (.ref a) (heldD k) := by
  have rep : ∀ k : Nat, DtAll (fun _ => False) H (List.replicate k late) (List.replicate k (.str "late9")) := fun k => by
    induction k with
    | zero => exact .nil
    | succ k ih => exact .cons (.str _) ih
  exact .lst (fun z => z) h1 (.cons (.lst (fun z => z) h2 (.cons (.str _) (rep k))) (.cons (.str _) .nil))
theorem held_ok {k : Nat} (h : k ≤ 1) : okS 6 (.tuple [.str "picture", heldD k]) = true := by
  have e : k = 0 ∨ k = 1 := by omega
  rcases e with rfl | rfl
  · rfl
  · rfl
end Pw
set_option Elab.async false
set_option linter.all false
set_option maxRecDepth 100000
set_option maxHeartbeats 4000000
namespace Pw
open PySem PySem.Spec PyProof.Rows L2 Evl LamX
/-! ## law -/
def spLaw (K : PySem.W.Frag) (T : List (Addr × Str)) : Sp := fun vs H Q _ => ∃ (a : Addr) (ns : List Int), vs = [.ref a] ∧ SqL K H a (ns.map V.int) ∧ Tabs T H ∧ ∀ H', Q (.bl true) H'
abbrev sLaw : Stmt := top 40
abbrev nLaw : List Str := ["_law_script", "_law_stream", "_law_turn", "_law_picture", "_law_odds", "_law_odd", "_law_held", "_law_met_here", "_law_some", "_law_row", "_law_one", "_law_text", "_law_due"]
theorem scLaw : FnScope nLaw ["_law_script"] (defScope sLaw) := ⟨rfl, rfl, rfl, by decide +kernel, rfl, by decide +kernel, by decide +kernel⟩
section
variable {P : Program} {w : World} {K : PySem.W.Frag} {mg : Str → Option Value} {base : Heap}
theorem ok_law {T : List (Addr × Str)} (D : Df K mg "law" sLaw) (F : Free mg) (MF : MetFacts K mg) (TB : TabB base mg (cA K "law") (tA K "law")) (hT : (tA K "law", lamQ "law" (defScope sLaw)) ∈ T) (hu : ∀ p ∈ T, p.1 = tA K "law" → p.2 = lamQ "law" (defScope sLaw))
    (R0 : Pr P w K mg base CX0 1 "_law_start" ["_law_script"] (spStart K)) (RD : Pr P w K mg base CX0 1 "_law_draw" ["_law_stream", "_law_many"] spDraw) (RA : Pr P w K mg base CX0 4 "_law_drawn" ["_law_stream", "_law_rows", "_law_columns"] spDrawn)
    (RT : PrG P w K mg base 9 "_law_text_right" ["_law_stream", "_law_given"] spTR) (RG : Pr P w K mg base CX0 11 "_law_strings_right" ["_law_stream", "_law_text"] (spSR T)) (RS : Pr P w K mg base CX0 7 "_law_same" ["_law_found", "_law_due"] (spSame 6))
    (RP : Pk P w K mg base (L2.CX P w) 4 "picture_text" "picture" (spPictureText K)) (RF : Pk P w K mg base CX0 7 "picture_fault" "text" spFault) (RR : Pk P w K mg base (L2.CX P w) 8 "read_picture" "text" (spReadPic K)) (RX : Pr P w K mg base CX0 4 "_law_a_spoiled" ["_law_thing"] (spSp 3)) :
    PrG P w K mg base 12 "law" ["_law_script"] (spLaw K T) := by
  refine PrG.ofC D scLaw (fun _ _ _ _ _ _ us hl => match us, hl with | [_], _ => rfl) (fun vs H Q E h => ?_) fun A outer s H vs Q E hg hr h => ?_
  · obtain ⟨a, ns, rfl, _⟩ := h
    rfl
  · obtain ⟨a, ns, rfl, hx, htab, q⟩ := h
    refine ⟨_, pss_cons (ps_set (i := 1) scLaw.nd rfl (.inl rfl) (pcall R0 (hr.mono (by decide)) pass0 (pa_cons (pv 0) pa_nil)))
      (pss_cons (ps_for PassesOwn.never rfl (pi_range1 rfl F.range (pa_cons pe_int pa_nil)) (pg_name (i := 2) scLaw.nd rfl (.inl rfl))
        (pss_cons (ps_set (i := 3) scLaw.nd rfl (.inl rfl) (pe_ifExp (pt_cmpR op_gt (pv 2) pe_int (nomark _)) (pcall RA (hr.mono (by decide)) pass0 (pa_cons (pv 1) (pa_cons (pe_op op_add pe_int (pcall RD (hr.mono (by decide)) pass0 (pa_cons (pv 1) (pa_cons pe_int pa_nil)))) (pa_cons (pe_op op_add pe_int (pcall RD (hr.mono (by decide)) pass0 (pa_cons (pv 1) (pa_cons pe_int pa_nil)))) pa_nil)))) (pe_lst pa_nil)))
        (pss_cons (ps_if (pt_not (pt_val (pcallG RT hg (hr.mono (by decide)) (pa_cons (pv 1) (pa_cons (pv 3) pa_nil))))) (pss_one (ps_ret pe_bl)) pss_nil)
        (pss_one (ps_if (pt_not (pt_val (pcall RG hr pass0 (pa_cons (pv 1) (pa_cons (pjoin (K := K) rfl pe_str
          (pe_lc (own := [("_law_row", 9)]) (g := gName 9) (tt := tYes) rfl scLaw.nd (k_seq (K := K) rfl (pv 3)) (blkOk_by (by kernel_rfl)) (fun _ _ _ _ _ => pg_name (i := 9) scLaw.nd rfl (Or.inl rfl)) (fun _ _ _ _ _ => pts_nil)
            (fun _ _ _ _ _ => pe_op k_adds (pjoin (K := K) rfl pe_str
              (by exact (pe_lc (own := [("_law_one", 10)]) (g := gName 10) (tt := tYes) rfl scLaw.nd (k_seq (K := K) rfl (pv 9)) (blkOk_by (by kernel_rfl)) (fun _ _ _ _ _ => (by exact (pg_name (i := 10) scLaw.nd rfl (Or.inl rfl)))) (fun _ _ _ _ _ => pts_nil)
                (fun _ _ _ _ _ => (by exact (pe_callTy k_str (by rfl) F.str bb_str (pa_cons (pv 10) pa_nil)))))))
              pe_str))) pa_nil))))) (pss_one (ps_ret pe_bl)) pss_nil)))))
      (pss_cons (ps_if (pt_not (pt_val (pcallG RT hg (hr.mono (by decide)) (pa_cons (pv 1) (pa_cons (pcall RA (hr.mono (by decide)) pass0 (pa_cons (pv 1) (pa_cons pe_int (pa_cons pe_int pa_nil)))) pa_nil))))) (pss_one (ps_ret pe_bl)) pss_nil)
      (pss_cons (ps_set (i := 4) scLaw.nd rfl (.inl rfl) (pe_lst (pa_cons pe_non (pa_cons pe_int (pa_cons pe_str (pa_cons pe_dnewK (pa_cons pe_bl (pa_cons (pe_lst (pa_cons (pe_lst pa_nil) pa_nil)) (pa_cons (pe_lst (pa_cons pe_int pa_nil))
          (pa_cons (pe_lst (pa_cons (pe_lst (pa_cons pe_int pa_nil)) (pa_cons (pe_lst (pa_cons pe_int (pa_cons pe_int pa_nil))) pa_nil))) (pa_cons (pe_lst (pa_cons (pe_lst (pa_cons pe_int (pa_cons pe_int pa_nil))) (pa_cons (pe_lst (pa_cons pe_int pa_nil)) pa_nil)))
          (pa_cons (pe_lst (pa_cons (pe_lst (pa_cons pe_non pa_nil)) pa_nil)) (pa_cons (pe_lst (pa_cons (pe_lst (pa_cons pe_bl pa_nil)) pa_nil)) (pa_cons (pe_lst (pa_cons (pe_lst (pa_cons pe_str pa_nil)) pa_nil)) (pa_cons (pe_lst (pa_cons (pe_lst (pa_cons pe_int pa_nil)) (pa_cons (pe_lst pa_nil) pa_nil))) pa_nil)))))))))))))))
      (pss_cons (ps_for PassesOwn.never rfl (pi_list (pv 4)) (pg_name (i := 5) scLaw.nd rfl (.inr rfl))
        (pss_one (ps_if (pt_not (pt_val (pcall RS (hr.mono (by decide)) pass0 (pa_cons (pe_lst (pa_cons (pmet (k := 4) (t := fun E => tCall (spPictureText K) [] E (tCons (tVar 5) tNil)) MF TB rfl hT hu (hr.mono (by decide)) (lamS_by (sc := defScope sLaw) (by decide +kernel))
            (fun A outer s H E f c' hr2 => by exact (pcall RP.pr hr2 (passes_call (W := fun cls d _ H => E cls d H) (takes_of rfl rfl rfl rfl) fun _ _ _ _ z => z) (pa_cons (pv 5) pa_nil)))) pa_nil))
          (pa_cons (pe_lst (pa_cons (pe_tup (pa_cons pe_str (pa_cons (pv 5) pa_nil))) pa_nil)) pa_nil))))) (pss_one (ps_ret pe_bl)) pss_nil)))
      (pss_cons (ps_for PassesOwn.never rfl (pi_tup (pe_tup (pa_cons pe_non (pa_cons pe_int (pa_cons (pe_lst (pa_cons pe_str pa_nil)) (pa_cons pe_dnewK (pa_cons pe_bl (pa_cons (pe_lst (pa_cons (pe_lst (pa_cons pe_int pa_nil)) pa_nil)) pa_nil)))))))) (pg_name (i := 5) scLaw.nd rfl (.inr rfl))
        (pss_one (ps_if (pt_not (pt_val (pcall RS (hr.mono (by decide)) pass0 (pa_cons (pe_lst (pa_cons (pmet (k := 8) (t := fun E => tCall (spReadPic K) [] E (tCons (tVar 5) tNil)) MF TB rfl hT hu (hr.mono (by decide)) (lamS_by (sc := defScope sLaw) (by decide +kernel))
            (fun A outer s H E f c' hr2 => by exact (pcall RR.pr hr2 (passes_call (W := fun cls d _ H => E cls d H) (takes_of rfl rfl rfl rfl) fun _ _ _ _ z => z) (pa_cons (pv 5) pa_nil)))) (pa_cons (pcall RF.pr (hr.mono (by decide)) pass0 (pa_cons (pv 5) pa_nil)) pa_nil)))
          (pa_cons (pe_lst (pa_cons (pe_tup (pa_cons pe_str (pa_cons (pe_tup (pa_cons pe_int (pa_cons pe_int pa_nil))) pa_nil))) (pa_cons (pe_tup (pa_cons pe_int (pa_cons pe_int pa_nil))) pa_nil))) pa_nil))))) (pss_one (ps_ret pe_bl)) pss_nil)))
      (pss_cons (ps_set (i := 6) scLaw.nd rfl (.inr rfl) (pe_lst (pa_cons (pe_lst (pa_cons pe_str pa_nil)) pa_nil)))
      (pss_cons (ps_set (i := 7) scLaw.nd rfl (.inl rfl) (pmet (k := 4) (t := fun E => tCall (spPictureText K) [] E (tCons (tVar 6) tNil)) MF TB rfl hT hu (hr.mono (by decide)) (lamS_by (sc := defScope sLaw) (by decide +kernel))
            (fun A outer s H E f c' hr2 => by exact (pcall RP.pr hr2 (passes_call (W := fun cls d _ H => E cls d H) (takes_of rfl rfl rfl rfl) fun _ _ _ _ z => z) (pa_cons (pv 6) pa_nil)))))
      (pss_cons (ps_expr (pcall RX (hr.mono (by decide)) pass0 (pa_cons (pv 6) pa_nil)))
      (pss_cons (ps_set (i := 8) scLaw.nd rfl (.inl rfl) (pe_lst (pa_cons (pe_tup (pa_cons pe_str (pa_cons pe_non pa_nil))) (pa_cons (pe_tup (pa_cons pe_str (pa_cons (pe_tup (pa_cons pe_int (pa_cons pe_int pa_nil))) pa_nil))) (pa_cons (pe_tup (pa_cons pe_str (pa_cons (pe_tup (pa_cons pe_int (pa_cons pe_int pa_nil))) pa_nil)))
          (pa_cons (pe_tup (pa_cons pe_str (pa_cons (pe_tup (pa_cons pe_int (pa_cons pe_int pa_nil))) pa_nil))) (pa_cons (pe_tup (pa_cons pe_str (pa_cons (pe_tup (pa_cons pe_int (pa_cons pe_int pa_nil))) pa_nil))) pa_nil)))))))
      (pss_cons (ps_expr (pe_bm PySem.F.plainAttrs_list PySem.F.slot_list_append PySem.F.type_list_append mt_append (pv 8) (pa_cons (pe_tup (pa_cons pe_str (pa_cons (pe_tup (pa_cons pe_int (pa_cons pe_int pa_nil))) pa_nil))) pa_nil)))
      (pss_cons (ps_expr (pe_bm PySem.F.plainAttrs_list PySem.F.slot_list_extend PySem.F.type_list_extend mt_extend (pv 8) (pa_cons (pe_lst (pa_cons (pe_tup (pa_cons pe_str (pa_cons (pe_tup (pa_cons pe_int (pa_cons pe_int pa_nil))) pa_nil))) (pa_cons (pe_tup (pa_cons pe_str (pa_cons (pe_tup (pa_cons pe_int (pa_cons pe_int pa_nil))) pa_nil)))
          (pa_cons (pe_tup (pa_cons pe_str (pa_cons (pe_tup (pa_cons pe_int (pa_cons pe_int pa_nil))) pa_nil))) (pa_cons (pe_tup (pa_cons pe_str (pa_cons (pe_tup (pa_cons pe_int (pa_cons pe_int pa_nil))) pa_nil))) (pa_cons (pe_tup (pa_cons pe_str (pa_cons (pe_tup (pa_cons pe_int (pa_cons pe_int pa_nil))) pa_nil))) pa_nil)))))) pa_nil)))
      (pss_cons (ps_expr (pe_bm PySem.F.plainAttrs_list PySem.F.slot_list_append PySem.F.type_list_append mt_append (pv 8) (pa_cons (pe_tup (pa_cons pe_str (pa_cons (pe_tup (pa_cons pe_int (pa_cons pe_int pa_nil))) pa_nil))) pa_nil)))
      (pss_cons (ps_expr (pe_bm PySem.F.plainAttrs_list PySem.F.slot_list_extend PySem.F.type_list_extend mt_extend (pv 8) (pa_cons (pe_lst (pa_cons (pe_tup (pa_cons pe_str (pa_cons pe_non pa_nil))) (pa_cons (pe_tup (pa_cons pe_str (pa_cons (pe_tup (pa_cons pe_int (pa_cons pe_int pa_nil))) pa_nil))) (pa_cons (pe_tup (pa_cons pe_str (pa_cons pe_non pa_nil))) pa_nil)))) pa_nil)))
      (pss_cons (ps_expr (pe_bm PySem.F.plainAttrs_list PySem.F.slot_list_append PySem.F.type_list_append mt_append (pv 8) (pa_cons (pe_tup (pa_cons pe_str (pa_cons (pe_tup (pa_cons pe_int (pa_cons pe_int pa_nil))) pa_nil))) pa_nil)))
      (pss_cons (ps_if (pt_not (pt_val (pcall RS (hr.mono (by decide)) pass0 (pa_cons
          (pe_lc (own := [("_law_text", 11), ("_law_due", 12)]) (g := gTup K 2 (gCons (gName 11) (gCons (gName 12) gNil))) (tt := tYes) rfl scLaw.nd (pi_list (pv 8)) (blkOk_by (by kernel_rfl)) (fun _ _ _ _ _ => pg_tup rfl (pgs_cons (pg_name (i := 11) scLaw.nd rfl (Or.inl rfl)) (pgs_cons (pg_name (i := 12) scLaw.nd rfl (Or.inl rfl)) pgs_nil))) (fun _ _ _ _ _ => pts_nil)
            (fun _ _ _ _ _ => pcall RF.pr (hr.mono (by decide)) pass0 (pa_cons (pv 11) pa_nil)))
          (pa_cons (pe_lc (own := [("_law_text", 11), ("_law_due", 12)]) (g := gTup K 2 (gCons (gName 11) (gCons (gName 12) gNil))) (tt := tYes) rfl scLaw.nd (pi_list (pv 8)) (blkOk_by (by kernel_rfl)) (fun _ _ _ _ _ => pg_tup rfl (pgs_cons (pg_name (i := 11) scLaw.nd rfl (Or.inl rfl)) (pgs_cons (pg_name (i := 12) scLaw.nd rfl (Or.inl rfl)) pgs_nil))) (fun _ _ _ _ _ => pts_nil)
            (fun _ _ _ _ _ => pv 12)) pa_nil))))) (pss_one (ps_ret pe_bl)) pss_nil)
      (pss_one (ps_ret (pe_and (pcall RS (hr.mono (by decide)) pass0 (pa_cons (pv 7) (pa_cons (pe_tup (pa_cons pe_str (pa_cons (pv 6) pa_nil))) pa_nil)))
        (pe_one (pcall RS (hr.mono (by decide)) pass0 (pa_cons (pe_lst (pa_cons (pcall RP.pr (hr.mono (by decide)) (passX L2.takes0) (pa_cons (pe_lst pa_nil) pa_nil)) (pa_cons (pcall RR.pr (hr.mono (by decide)) (passX L2.takes0) (pa_cons pe_str pa_nil)) pa_nil)))
          (pa_cons (pe_lst (pa_cons pe_str (pa_cons (pe_lst pa_nil) pa_nil))) pa_nil)))))))))))))))))))))), ?_⟩
    refine q_asgCallN (vs := [.ref a]) (ea_cons (ev_var rfl) ea_nil) fun H1 e1 => ⟨a, ns, rfl, ex_l e1 hx, fun S C H2 e2 hS0 hC0 x2 => ?_⟩
    have t2 : Tabs T H2 := tabs_ex (tabs_ex htab e1) e2
    refine q_forR1 (n := 5) (ea_cons ev_c ea_nil) (by decide) (fun i σ' H' => ∃ y2 y3, σ' = [some (.ref a), some (.ref S), y2, y3, none, none, none, none, none, none, none, none, none] ∧ Stm H' S C (i * 4000) ∧ Tabs T H') (fun H3 e3 => ⟨_, _, rfl, (by rw [Nat.zero_mul]; exact x2.ex e3), tabs_ex t2 e3⟩) ?_ ?_
    · rintro i σ' H3 hi ⟨y2, y3, rfl, x3, t3⟩
      have hi2 : i < 5 := by omega
      -- one picture and its text
      have after : ∀ (Dd : Ends) (_ : ∀ σ' H', (∃ y2 y3, σ' = [some (.ref a), some (.ref S), y2, y3, none, none, none, none, none, none, none, none, none] ∧ Stm H' S C ((i + 1) * 4000) ∧ Tabs T H') → Dd.nx σ' H') (v : V) (rows : List (List Int)) (H4 : Hp), Good rows → (textR rows).length ≤ 1000 → Dt (Str2 S C) H4 v (picD rows) → Stm H4 S C (i * 4000 + 1100) → Tabs T H4 →
          tSeq (tIfS (tNot (tB (tCall spTR [] E0 (tCons (tVar 1) (tCons (tVar 3) tNil))))) (tRet (tC (.bl false))) tNext) (tIfS (tNot (tB (tCall (spSR T) [] E0 (tCons (tVar 1) (tCons (tText K 3 9 10) tNil))))) (tRet (tC (.bl false))) tNext) Dd
            [some (.ref a), some (.ref S), some (.int (i : Int)), some v, none, none, none, none, none, none, none, none, none] H4 := by
        intro Dd hDd v rows H4 gd hlen hd x4 t4
        refine q_unlessCall (vs := [.ref S, v]) (ea_cons (ev_var rfl) (ea_cons (ev_var rfl) ea_nil)) fun H5 e5 Q5 q5 => ⟨S, C, _, v, Str2 S C, rows, rfl, x4.ex e5, by omega, hd.ex e5, .inl rfl, .inr rfl, gd, fun H6 o6 x6 => q5 H6 ?_⟩
        have t6 : Tabs T H6 := tabs_off (tabs_ex t4 e5) (x4.ex e5) o6
        have hd6 : Dt (Str2 S C) H6 v (picD rows) := Dt.but (fun b o nb hb => o6 b o nb hb) _ _ (hd.ex e5)
        refine s_unlessCall (vs := [.ref S, .str (textR rows)]) (ea_cons (ev_var rfl) (ea_cons (ev_text rfl (by show 9 < 13; decide) (by show 10 < 13; decide) hd6 gd.small) ea_nil)) fun H7 e7 Q7 q7 => ⟨S, C, _, textR rows, rfl, x6.ex e7, by omega, hlen, tabs_ex t6 e7, fun H8 o8 x8 t8 => q7 H8 (hDd _ _ ⟨_, _, rfl, x8.mono (by omega), t8⟩)⟩
      refine q_asgIf (b := decide ((0 : Int) < (i : Int))) (et_test (ev_op (ev_var rfl) ev_c rv_I0)) (fun hb H4 e4 => ?_) (fun hb H4 e4 => ?_)
      · refine ⟨_, rfl, _, rfl, S, C, _, 4, rfl, x3.ex e4, by omega, by decide, by decide, fun r1 H5 hr1 o5 x5 => ⟨_, _, rfl, rfl, ?_⟩⟩
        refine ⟨_, rfl, S, C, _, 4, rfl, x5, by omega, by decide, by decide, fun r2 H6 hr2 o6 x6 => ⟨_, _, rfl, rfl, ?_⟩⟩
        refine ⟨S, C, _, 1 + r1, 1 + r2, ?_, x6, by omega, by omega, by omega, fun u rs H7 o7 x7 hd7 hD => ?_⟩
        · rw [show ((1 + r1 : Nat) : Int) = 1 + (r1 : Int) by omega, show ((1 + r2 : Nat) : Int) = 1 + (r2 : Int) by omega]
          rfl
        · have hd8 : Dt (Str2 S C) H7 u (picD rs) := hd7.sub fun b hb => hb.elim (fun z => by rw [z]; exact x6.in1) fun z => by rw [z]; exact x6.in2
          have t5 := tabs_off (tabs_ex t3 e4) (x3.ex e4) o5
          have t6 := tabs_off t5 x5 o6
          have t7 := tabs_off t6 x6 o7
          exact after _ (fun _ _ z => z) u rs H7 (good_of hD (by omega) (by omega) (by omega)) (text_small hD (by omega) (by omega)) hd8 (x7.mono (by omega)) t7
      · refine el_go (el_lst ea_nil (by show 0 ≤ 100000; decide)) fun l H5 hl e5 h5 => ?_
        have x5 := (x3.ex e4).ex e5
        exact after _ (fun _ _ z => z) (.ref l) [] H5 good_nil (by decide +kernel) (.lst ((x3.ex e4).str2 hl) h5 .nil) (x5.mono (by omega)) (tabs_ex (tabs_ex t3 e4) e5)
    · rintro σ' H3 ⟨y2, y3, rfl, x3, t3⟩
      have x3' : Stm H3 S C 20000 := x3
      refine ⟨_, rfl, _, rfl, S, C, _, 20, 10, rfl, x3', by decide, by decide, by decide, fun u rs H4 o4 x4 hd4 hD => ?_⟩
      have hd5 : Dt (Str2 S C) H4 u (picD rs) := hd4.sub fun b hb => hb.elim (fun z => by rw [z]; exact x3'.in1) fun z => by rw [z]; exact x3'.in2
      refine ⟨S, C, _, u, Str2 S C, rs, rfl, x4, by omega, hd5, .inl rfl, .inr rfl, good_of hD (by decide) (by decide) (by decide), fun H5 o5 x5 => ⟨true, rfl, iteN rfl ?_⟩⟩
      have t5 : Tabs T H5 := tabs_off (tabs_off t3 x3' o4) x4 o5
      refine q_asgD (d := .list odDs) (ed_lst (eda_cons ed_none (eda_cons ed_int (eda_cons ed_str (eda_cons ed_dict (eda_cons ed_bl (eda_cons (ed_lst (eda_cons (ed_lst eda_nil (by decide)) eda_nil) (by decide)) (eda_cons (ed_lst (eda_cons ed_int eda_nil) (by decide))
        (eda_cons (ed_lst (eda_cons (ed_lst (eda_cons ed_int eda_nil) (by decide)) (eda_cons (ed_lst (eda_cons ed_int (eda_cons ed_int eda_nil)) (by decide)) eda_nil)) (by decide)) (eda_cons (ed_lst (eda_cons (ed_lst (eda_cons ed_int (eda_cons ed_int eda_nil)) (by decide)) (eda_cons (ed_lst (eda_cons ed_int eda_nil) (by decide)) eda_nil)) (by decide))
        (eda_cons (ed_lst (eda_cons (ed_lst (eda_cons ed_none eda_nil) (by decide)) eda_nil) (by decide)) (eda_cons (ed_lst (eda_cons (ed_lst (eda_cons ed_bl eda_nil) (by decide)) eda_nil) (by decide)) (eda_cons (ed_lst (eda_cons (ed_lst (eda_cons ed_str eda_nil) (by decide)) eda_nil) (by decide)) (eda_cons (ed_lst (eda_cons (ed_lst (eda_cons ed_int eda_nil) (by decide)) (eda_cons (ed_lst eda_nil (by decide)) eda_nil)) (by decide)) eda_nil))))))))))))) (by decide)) fun v H6 e6 hv => ?_
      have t6 := tabs_ex t5 e6
      cases hv with
      | lst nO hO hAll =>
        rename_i O ys
        have hyl := hAll.len
        refine ⟨_, rfl, O, rfl, ⟨_, SqL.of hO⟩, for_list (xs := ys) (fun i σ' H' => ∃ y2 y3 y5, σ' = [some (.ref a), some (.ref S), y2, y3, some (.ref O), y5, none, none, none, none, none, none, none] ∧ Tabs T H' ∧ H' O = some (.lst ys) ∧ DtAll (fun _ => False) H' ys odDs) ⟨_, _, _, rfl, t6, hO, hAll⟩ (fun i σ' H' _ hP => ?_) ?_ ?_⟩
        · obtain ⟨_, _, _, _, _, z, _⟩ := hP
          exact SqL.of z
        · rintro i y σ' H7 hi ⟨y2, y3, y5, rfl, t7, o7, a7⟩
          obtain ⟨d, hd1, hd2⟩ := a7.get hi
          obtain ⟨g1, g2, g3⟩ := od_ok (List.mem_of_getElem? hd1)
          refine met_pic (i := 5) rfl hd2 g1 g2 t7 fun p H8 e8 t8 h8 => ⟨by show 1 ≤ sizeLine; decide, fun l hl => ?_⟩
          have e9 : Ex H8 (upd H8 l (.lst [.ref p])) := Ex.new hl
          have hd9 : Dat (upd H8 l (.lst [.ref p])) y d := (dat_ext e8 hd2).ex e9
          have okd : okS 6 (.list [.tuple [.str "picture", d]]) = true := by
            show (decide ([PyData.tuple [.str "picture", d]].length ≤ 50000) && [PyData.tuple [.str "picture", d]].all (okS 5)) = true
            rw [decide_eq_true (by show 1 ≤ 50000; decide), Bool.true_and]
            show (okS 5 (.tuple [.str "picture", d]) && true) = true
            rw [Bool.and_true]
            show (decide ([PyData.str "picture", d].length ≤ 50000) && [PyData.str "picture", d].all (okS 4)) = true
            rw [decide_eq_true (by show 2 ≤ 50000; decide), Bool.true_and]
            show (okS 4 (.str "picture") && (okS 4 d && true)) = true
            rw [g3]
            rfl
          refine (ed_lst (eda_cons (ed_tup (eda_cons (ed_str (x := "picture")) (eda_cons (ed_var (i := 5) rfl hd9) eda_nil)) (by show 2 ≤ 100000; decide)) eda_nil) (by show 1 ≤ 100000; decide)) _ (Ex.refl _) _ fun u H10 e10 hu => ⟨.ref l, u, _, _, .list [.tuple [.str "picture", d]], rfl, .lst (fun z => z) (e10 _ _ upd_same) (.cons (.tup (fun z => z) (e10 _ _ (e9 _ _ h8)) (.cons (.str _) (.cons (hd9.ex e10) .nil))) .nil), hu, okd, fun H11 e11 => ⟨true, rfl, iteN rfl ?_⟩⟩
          have eN : ExtN H7 H11 := e8.trans (ExtN.of ((e9.trans e10).trans e11))
          exact ⟨_, _, _, rfl, tabs_ex t8 ((e9.trans e10).trans e11), eN _ _ o7 (fun _ z => by cases z), dts_same (fun b o k hb => eN b o hb k) _ _ a7⟩
        · rintro σ' H7 ⟨y2, y3, y5, rfl, t7, o7, a7⟩
          -- things that are no text
          refine q_forTD (ed_tup (ds := oeDs) (eda_cons ed_none (eda_cons ed_int (eda_cons (ed_lst (eda_cons ed_str eda_nil) (by decide)) (eda_cons ed_dict (eda_cons ed_bl (eda_cons (ed_lst (eda_cons (ed_lst (eda_cons ed_int eda_nil) (by decide)) eda_nil) (by decide)) eda_nil)))))) (by decide))
            (fun Oe zs i σ' H' => ∃ y2 y3 y4 y5, σ' = [some (.ref a), some (.ref S), y2, y3, y4, y5, none, none, none, none, none, none, none] ∧ Tabs T H' ∧ H' Oe = some (.tup zs) ∧ DtAll (fun _ => False) H' zs oeDs) (fun Oe zs H8 e8 hE hAllE => ⟨_, _, _, _, rfl, tabs_ex t7 e8, hE, hAllE⟩) (fun Oe zs i σ' H' hP => ?_) ?_ ?_
          · obtain ⟨_, _, _, _, _, _, z, _⟩ := hP
            exact SqT.of z
          · rintro Oe zs i y σ' H9 hi ⟨y2, y3, y4, y5, rfl, t9, o9, a9⟩
            obtain ⟨d, hd1, hd2⟩ := a9.get hi
            obtain ⟨g1, g2⟩ := oe_ok (List.mem_of_getElem? hd1)
            refine met_read (i := 5) rfl hd2 g1 g2 t9 fun p H10 e10 t10 h10 => ?_
            have hd10 := dat_ext e10 hd2
            refine (ed_fault (E := E0) (ed_var (i := 5) rfl hd10) g2) H10 (Ex.refl _) _ fun u H11 e11 hu => ⟨by show 2 ≤ sizeLine; decide, fun l hl => ?_⟩
            have e12 : Ex H11 (upd H11 l (.lst [.ref p, u])) := Ex.new hl
            rw [g1] at hu
            refine (ed_lst (eda_cons (ed_tup (eda_cons (ed_str (x := "text")) (eda_cons (ed_tup (eda_cons (ed_int (i := 0)) (eda_cons (ed_int (i := 0)) eda_nil)) (by show 2 ≤ 100000; decide)) eda_nil)) (by show 2 ≤ 100000; decide)) (eda_cons (ed_tup (eda_cons (ed_int (i := 0)) (eda_cons (ed_int (i := 0)) eda_nil)) (by show 2 ≤ 100000; decide)) eda_nil)) (by show 2 ≤ 100000; decide)) _ (Ex.refl _) _ fun u2 H13 e13 hu2 =>
              ⟨.ref l, u2, _, _, .list [.tuple [.str "text", .tuple [.int 0, .int 0]], .tuple [.int 0, .int 0]], rfl, .lst (fun z => z) (e13 _ _ upd_same) (.cons ((((h10.ex e11).ex e12).ex e13)) (.cons ((hu.ex e12).ex e13) .nil)), hu2, rfl, fun H14 e14 => ⟨true, rfl, iteN rfl ?_⟩⟩
            have ea := ((e11.trans e12).trans e13).trans e14
            have eN : ExtN H9 H14 := e10.trans (ExtN.of ea)
            exact ⟨_, _, _, _, rfl, tabs_ex t10 ea, eN _ _ o9 (fun _ z => by cases z), dts_same (fun b o k hb => eN b o hb k) _ _ a9⟩
          · rintro Oe zs σ' H9 ⟨y2, y3, y4, y5, rfl, t9, o9, a9⟩
            -- the held thing
            refine q_asgD (d := .list [.list [.str "x"]]) (ed_lst (eda_cons (ed_lst (eda_cons ed_str eda_nil) (by decide)) eda_nil) (by decide)) fun v H10 e10 hv => ?_
            have hv0 := hv
            cases hv with
            | lst nh h1 a1 =>
              rename_i ah xh
              cases a1 with
              | cons b1 b2 =>
                cases b2
                cases b1 with
                | lst nb g1 ga =>
                  rename_i bh xb
                  cases ga with
                  | cons c1 c2 =>
                    cases c2
                    cases c1
                    refine q_asgX (met_pic (i := 6) (d := .list [.list [.str "x"]]) rfl hv0 (by decide +kernel) (few_of (by decide +kernel)) (tabs_ex t9 e10) fun p H11 e11 t11 h11 => ?_)
                    have h1' : H11 ah = some (.lst ([bh].map V.ref)) := e11 _ _ h1 fun _ z => by cases z
                    have g1' : H11 bh = some (.lst [.str "x"]) := e11 _ _ g1 fun _ z => by cases z
                    refine q_dropCall (vs := [.ref ah]) (ea_cons (ev_var rfl) ea_nil) fun H12 e12 => ⟨ah, [bh], rfl, e12 _ _ h1', by show 1 ≤ 10000; decide, fun b hb => ?_, fun H13 o13 h13 k13 => ?_⟩
                    · rw [List.mem_singleton.mp hb]
                      exact ⟨_, e12 _ _ g1', (fun x hx => by rw [List.mem_singleton.mp hx]; rfl), by show 1 ≤ 10000; decide⟩
                    · obtain ⟨k, hk1, hk2⟩ := k13 bh (List.mem_singleton.mpr rfl) _ (e12 _ _ g1')
                      have pA : ¬ (p = ah ∨ p ∈ [bh]) := fun z => by
                        rcases z with z | z
                        · rw [z, h1'] at h11
                          cases h11
                        · rw [List.mem_singleton.mp z, g1'] at h11
                          cases h11
                      have p13 : H13 p = some (.tup [.str "picture", .ref ah]) := o13 _ _ pA (e12 _ _ h11)
                      have held := held_dat h13 hk2
                      have hk1 : k ≤ 1 := hk1
                      -- some pairs
                      refine q_asgD (d := .list ((smF.take 5).map fun p => .tuple [.str p.1, faultD p.2])) (ed_lst (eda_cons (ed_tup (eda_cons ed_str (eda_cons ed_none eda_nil)) (by decide)) (eda_cons (ed_tup (eda_cons ed_str (eda_cons (ed_tup (eda_cons ed_int (eda_cons ed_int eda_nil)) (by decide)) eda_nil)) (by decide)) (eda_cons (ed_tup (eda_cons ed_str (eda_cons (ed_tup (eda_cons ed_int (eda_cons ed_int eda_nil)) (by decide)) eda_nil)) (by decide))
                        (eda_cons (ed_tup (eda_cons ed_str (eda_cons (ed_tup (eda_cons ed_int (eda_cons ed_int eda_nil)) (by decide)) eda_nil)) (by decide)) (eda_cons (ed_tup (eda_cons ed_str (eda_cons (ed_tup (eda_cons ed_int (eda_cons ed_int eda_nil)) (by decide)) eda_nil)) (by decide)) eda_nil))))) (by decide)) fun v H14 e14 hv => ?_
                      cases hv with
                      | lst nM hM aM =>
                        rename_i M ms
                        have hml := aM.len
                        have MA : ah ≠ M := fun z => by
                          rw [← z, e14 _ _ h13] at hM
                          injection hM with hM
                          injection hM with hM
                          rw [← hM] at hml
                          cases hml
                        have MB : bh ≠ M := fun z => by
                          rw [← z, e14 _ _ hk2] at hM
                          injection hM with hM
                          injection hM with hM
                          rw [← hM, List.length_append, List.length_replicate] at hml
                          have h5 : [V.str "x"].length + k = 5 := hml
                          have h6 : 1 + k = 5 := h5
                          omega
                        have MP : p ≠ M := fun z => by
                          rw [← z, e14 _ _ p13] at hM
                          cases hM
                        have kex : ∀ {Hc Hd : Hp}, (Hc ah = some (.lst ([.ref bh] ++ [late])) ∧ Hc bh = some (.lst ([.str "x"] ++ List.replicate k late)) ∧ Hc p = some (.tup [.str "picture", .ref ah])) → Ex Hc Hd → (Hd ah = some (.lst ([.ref bh] ++ [late])) ∧ Hd bh = some (.lst ([.str "x"] ++ List.replicate k late)) ∧ Hd p = some (.tup [.str "picture", .ref ah])) := fun z e => ⟨e _ _ z.1, e _ _ z.2.1, e _ _ z.2.2⟩
                        have kup : ∀ {Hc : Hp} {o : HO}, (Hc ah = some (.lst ([.ref bh] ++ [late])) ∧ Hc bh = some (.lst ([.str "x"] ++ List.replicate k late)) ∧ Hc p = some (.tup [.str "picture", .ref ah])) → (upd Hc M o ah = some (.lst ([.ref bh] ++ [late])) ∧ upd Hc M o bh = some (.lst ([.str "x"] ++ List.replicate k late)) ∧ upd Hc M o p = some (.tup [.str "picture", .ref ah])) := fun z => ⟨by rw [upd_ne MA]; exact z.1, by rw [upd_ne MB]; exact z.2.1, by rw [upd_ne MP]; exact z.2.2⟩
                        have k14 := kex ⟨h13, hk2, p13⟩ e14
                        have x14 : Some_ H14 M ((smF.take 5).map fun p => .tuple [.str p.1, faultD p.2]) := ⟨ms, hM, aM, rfl, by decide⟩
                        refine q_appD (d := .tuple [.str "-", faultD (some (1, 2))]) x14 (ev_var rfl) (ed_tup (eda_cons ed_str (eda_cons (ed_tup (eda_cons ed_int (eda_cons ed_int eda_nil)) (by decide)) eda_nil)) (by decide)) rfl (by decide) fun H15 vs15 e15 x15 => ?_
                        have k15 := kup (o := .lst vs15) (kex k14 e15)
                        refine q_extD (es := ((smF.drop 6).take 5).map fun p => .tuple [.str p.1, faultD p.2]) x15 (ev_var rfl) (ed_lst (eda_cons (ed_tup (eda_cons ed_str (eda_cons (ed_tup (eda_cons ed_int (eda_cons ed_int eda_nil)) (by decide)) eda_nil)) (by decide)) (eda_cons (ed_tup (eda_cons ed_str (eda_cons (ed_tup (eda_cons ed_int (eda_cons ed_int eda_nil)) (by decide)) eda_nil)) (by decide)) (eda_cons (ed_tup (eda_cons ed_str (eda_cons (ed_tup (eda_cons ed_int (eda_cons ed_int eda_nil)) (by decide)) eda_nil)) (by decide)) (eda_cons (ed_tup (eda_cons ed_str (eda_cons (ed_tup (eda_cons ed_int (eda_cons ed_int eda_nil)) (by decide)) eda_nil)) (by decide)) (eda_cons (ed_tup (eda_cons ed_str (eda_cons (ed_tup (eda_cons ed_int (eda_cons ed_int eda_nil)) (by decide)) eda_nil)) (by decide)) eda_nil))))) (by decide)) rfl (by decide) fun H16 vs16 e16 x16 => ?_
                        have k16 := kup (o := .lst vs16) (kex k15 e16)
                        refine q_appD (d := .tuple [.str "1", faultD (some (1, 2))]) x16 (ev_var rfl) (ed_tup (eda_cons ed_str (eda_cons (ed_tup (eda_cons ed_int (eda_cons ed_int eda_nil)) (by decide)) eda_nil)) (by decide)) rfl (by decide) fun H17 vs17 e17 x17 => ?_
                        have k17 := kup (o := .lst vs17) (kex k16 e17)
                        refine q_extD (es := ((smF.drop 12).take 3).map fun p => .tuple [.str p.1, faultD p.2]) x17 (ev_var rfl) (ed_lst (eda_cons (ed_tup (eda_cons ed_str (eda_cons ed_none eda_nil)) (by decide)) (eda_cons (ed_tup (eda_cons ed_str (eda_cons (ed_tup (eda_cons ed_int (eda_cons ed_int eda_nil)) (by decide)) eda_nil)) (by decide)) (eda_cons (ed_tup (eda_cons ed_str (eda_cons ed_none eda_nil)) (by decide)) eda_nil))) (by decide)) rfl (by decide) fun H18 vs18 e18 x18 => ?_
                        have k18 := kup (o := .lst vs18) (kex k17 e18)
                        refine q_appD (d := .tuple [.str "12345678901234567", faultD (some (1, 17))]) x18 (ev_var rfl) (ed_tup (eda_cons ed_str (eda_cons (ed_tup (eda_cons ed_int (eda_cons ed_int eda_nil)) (by decide)) eda_nil)) (by decide)) rfl (by decide) fun H19 vs19 e19 x19 => ?_
                        have k19 := kup (o := .lst vs19) (kex k18 e19)
                        obtain ⟨ws, w1, w2, w3, w4⟩ := x19
                        have w2 : DtAll (fun _ => False) (upd H19 M (.lst vs19)) ws (smP.map fun p => .tuple [p.1, p.2]) := w2
                        have hes : ∀ e ∈ smE, noL e = true := fun e he => by
                          obtain ⟨f, _, rfl⟩ := List.mem_map.mp he
                          cases f.2 with
                          | none => rfl
                          | some kj => rfl
                        have hsz : smP.length ≤ 1000 := by decide
                        have hle : smE.length = smP.length := by decide
                        have at_ : ∀ {i : Nat} {p : PyData × PyData} {e : PyData}, smP[i]? = some p → smE[i]? = some e → ∃ f ∈ smF, p = (.str f.1, faultD f.2) ∧ e = faultD f.2 := fun {i p e} hp he => by
                          have hp : (smF.map fun p => (PyData.str p.1, faultD p.2))[i]? = some p := hp
                          have he : (smF.map fun p => faultD p.2)[i]? = some e := he
                          rw [List.getElem?_map] at hp he
                          cases hf : smF[i]? with
                          | none =>
                            rw [hf] at hp
                            cases hp
                          | some f =>
                            rw [hf] at hp he
                            exact ⟨f, List.mem_of_getElem? hf, (Option.some.inj hp).symm, (Option.some.inj he).symm⟩
                        refine q_whenF (b := !true) (et_not (et_B (ev_sameD (d := .list smE) (ed_pairs (ev_var rfl) w1 w2 hsz hle hes (fun _ _ => rfl) fun i p e x y Hx ex hp he hx hy => ?_) (ed_pairs (ev_var rfl) w1 w2 hsz hle hes (fun _ _ => rfl) fun i p e x y Hx ex hp he hx hy => ?_) (by decide +kernel)))) rfl fun H20 e20 => ?_
                        · obtain ⟨f, hf, rfl, rfl⟩ := at_ hp he
                          obtain ⟨g1, g2⟩ := sm_ok hf
                          have hfo : faultOf (.str f.1) = f.2 := g1
                          rw [← hfo]
                          exact ed_fault (ed_var rfl hx) g2
                        · obtain ⟨f, hf, rfl, rfl⟩ := at_ hp he
                          exact ed_var rfl hy
                        · have k20 := kex k19 e20
                          have held := held_dat k20.1 k20.2.1
                          have ePt : ED (tCall (spPictureText K) [] E0 (tCons (tLst tNil) tNil)) [some (.ref a), some (.ref S), y2, y3, y4, y5, some (.ref ah), some (.ref p), some (.ref M), none, none, none, none] H20 (.str "") := by
                            have hq := ed_pt (K := K) (E := E0) (d := .list []) (ed_lst (σ := [some (.ref a), some (.ref S), y2, y3, y4, y5, some (.ref ah), some (.ref p), some (.ref M), none, none, none, none]) (H := H20) eda_nil (by decide)) (by decide +kernel) (few_of (by decide +kernel)) good_nil.small
                            have e0 : textR (rowsI (.list [])) = "" := by decide +kernel
                            rw [e0] at hq
                            exact hq
                          have eRp : ED (tCall (spReadPic K) [] E0 (tCons (tC (.str "")) tNil)) [some (.ref a), some (.ref S), y2, y3, y4, y5, some (.ref ah), some (.ref p), some (.ref M), none, none, none, none] H20 (.list []) := by
                            have hq := ed_rp (K := K) (E := E0) (d := .str "") (ed_str (σ := [some (.ref a), some (.ref S), y2, y3, y4, y5, some (.ref ah), some (.ref p), some (.ref M), none, none, none, none]) (H := H20)) (by show (0 : Nat) ≤ 40000; decide) (by decide +kernel)
                            have e0 : rowsOf (.str "") = [] := by decide +kernel
                            rw [e0] at hq
                            exact hq
                          refine s_ret (v := .bl true) (ev_is (ev_andV (ev_sameD (d := .tuple [.str "picture", heldD k]) (ed_var rfl (.tup (fun z => z) k20.2.2 (.cons (.str _) (.cons held .nil)))) (ed_tup (eda_cons ed_str (eda_cons (ed_var rfl held) eda_nil)) (by show 2 ≤ 100000; decide)) (held_ok hk1)) fun _ => ev_sameD (d := .list [.str "", .list []]) (ed_lst (eda_cons ePt (eda_cons eRp eda_nil)) (by decide)) (ed_lst (eda_cons ed_str (eda_cons (ed_lst eda_nil (by decide)) eda_nil)) (by decide)) rfl) rfl) fun H21 e21 => q H21
end
end Pw
set_option Elab.async false
set_option linter.all false
set_option maxRecDepth 100000
namespace Pw
open PySem PySem.Spec PyProof.Rows L2 Evl LamX
/-! ## all facts, all promises -/
structure All (K : PySem.W.Frag) (mg : Str → Option Value) : Prop where
  free : Free mg
  rd : RdT K mg
  pic : DePic K mg
  txt : DeText K mg
  exm : ExM K
  d7 : Df K mg "is_list" sIsList
  d8 : Df K mg "is_integer" sIsInteger
  d10 : Df K mg "is_picture" sIsPicture
  d11 : Df K mg "checked_picture" sChecked
  d15 : Df K mg "lines_of" sLines
  d17 : Df K mg "picture_text" sPictureText
  d18 : Df K mg "read_row" sReadRow
  d19 : Df K mg "read_rows" sReadRows
  d20 : Df K mg "picture_fault" sFault
  d21 : Df K mg "read_picture" sReadPic
  d23 : Df K mg "_law_a_picture" sPicture
  d24 : Df K mg "_law_a_spoiled" sSpoil
  d25 : Df K mg "_law_a_bent" sBent
  d26 : Df K mg "_law_a_due" sADue
  d27 : Df K mg "_law_a_lines" sALines
  d28 : Df K mg "_law_a_sees" sASees
  d29 : Df K mg "_law_a_integer" sAInt
  d30 : Df K mg "_law_start" sStart
  d31 : Df K mg "_law_draw" sDraw
  d32 : Df K mg "_law_pick" sPick
  d33 : Df K mg "_law_same" sSame
  d34 : Df K mg "_law_loose" sLoose
  d35 : Df K mg "_law_met" sMet
  d36 : Df K mg "_law_wrong" sWrong
  d37 : Df K mg "_law_text_right" sTR
  d38 : Df K mg "_law_strings_right" sSR
  d39 : Df K mg "_law_drawn" sDrawn
  d40 : Df K mg "law" sLaw
  m0 : DmR K "__init__" "Reader.__init__" 0
  m1 : DmR K "is_on" "Reader.is_on" 1
  m2 : DmR K "is_ended" "Reader.is_ended" 2
  m3 : DmR K "stop" "Reader.stop" 3
  m5 : DmR K "sees" "Reader.sees" 5
  m6 : DmR K "sees_figure" "Reader.sees_figure" 6
  m7 : DmR K "signs" "Reader.signs" 7
  m11 : DmR K "number" "Reader.number" 11
  m12 : DmR K "integer" "Reader.integer" 12
/-- the tables of the two defs that make lambdas -/
def tabs (K : PySem.W.Frag) : List (Addr × Str) := [(tA K "law", lamQ "law" (defScope sLaw)), (tA K "_law_strings_right", lamQ "_law_strings_right" (defScope sSR))]
section
variable {P : Program} {w : World} {K : PySem.W.Frag} {mg : Str → Option Value} {base : Heap}
theorem law_ok (X : All K mg) (T1 : TabB base mg (cA K "law") (tA K "law")) (T2 : TabB base mg (cA K "_law_strings_right") (tA K "_law_strings_right")) (ne : tA K "law" ≠ tA K "_law_strings_right") : PrG P w K mg base 12 "law" ["_law_script"] (spLaw K (tabs K)) := by
  have F := X.free
  have T := X.rd
  have bp : PePic P w K mg base := ok_pic_init X.pic
  have bt : PeText P w K mg base := ok_text_init X.txt
  have r7 := ok_is_list (P := P) (w := w) (base := base) X.d7 F
  have r8 := ok_is_integer (P := P) (w := w) (base := base) X.d8 F
  have r10 := ok_is_picture X.d10 F r7 r8
  have r11 := ok_checked X.d11 F r10 bp
  have r17 := ok_picture_text X.d17 F r11
  have n0 := ok_rd_init (P := P) (w := w) (base := base) X.m0 T
  have n1 := ok_is_on (P := P) (w := w) (base := base) X.m1 T
  have n2 := ok_is_ended (P := P) (w := w) (base := base) X.m2 T F
  have n3 := ok_stop X.m3 T n2
  have n5 := ok_sees X.m5 T n1
  have n6 := ok_sees_fig X.m6 T n1 n2
  have n7 := ok_signs X.m7 T F n5 n1 n3
  have n11 := ok_number X.m11 T F n1 n6 n3
  have n12 := ok_integer X.m12 T n5 n11 n3
  have r15 := ok_lines (P := P) (w := w) (base := base) X.d15
  have r18 := ok_read_row X.d18 T F n0 n1 n5 n7 n12
  have r19 := ok_read_rows X.d19 T F r15 n1 r18
  have r20 := ok_fault X.d20 F r19
  have r21 := ok_read_pic X.d21 bt r20 r19
  have r27 := ok_alines (P := P) (w := w) (base := base) X.d27
  have r28 := ok_asees (P := P) (w := w) (base := base) X.d28
  have r26 := ok_adue (P := P) (w := w) (base := base) X.d26
  have r29 := ok_aint X.d29 F r28
  have r36 := ok_wrong X.d36 F r27 r28 r26 r29
  have r30 := ok_start (P := P) (w := w) (base := base) X.d30 F
  have r31 := ok_draw (P := P) (w := w) (base := base) X.d31 F
  have r32 := ok_pick X.d32 F r31
  have r33 := ok_same (P := P) (w := w) (base := base) X.d33 F
  have r34 := ok_loose X.d34 F r31 3
  have r24 := ok_spoil3 (P := P) (w := w) (base := base) X.d24 F
  have r23 := ok_picture X.d23 F r31 r32
  have r39 := ok_drawn X.d39 F r32 r23
  have r25 := ok_bent X.d25 F r31 r32
  have r37 := ok_tr X.d37 F r34 r17 r20 r21 (r33 4) r24
  have MF : MetFacts K mg := ⟨X.d35, ⟨P, w, base, bp⟩, ⟨P, w, base, bt⟩, X.exm⟩
  have h1 : (tA K "law", lamQ "law" (defScope sLaw)) ∈ tabs K := List.mem_cons_self ..
  have h2 : (tA K "_law_strings_right", lamQ "_law_strings_right" (defScope sSR)) ∈ tabs K := List.mem_cons_of_mem _ (List.mem_cons_self ..)
  have u1 : ∀ p ∈ tabs K, p.1 = tA K "law" → p.2 = lamQ "law" (defScope sLaw) := fun p hp e => by
    simp only [tabs, List.mem_cons, List.not_mem_nil, or_false] at hp
    rcases hp with rfl | rfl
    · rfl
    · exact absurd e.symm ne
  have u2 : ∀ p ∈ tabs K, p.1 = tA K "_law_strings_right" → p.2 = lamQ "_law_strings_right" (defScope sSR) := fun p hp e => by
    simp only [tabs, List.mem_cons, List.not_mem_nil, or_false] at hp
    rcases hp with rfl | rfl
    · exact absurd e ne
    · rfl
  have r38 := ok_sr X.d38 F MF T2 h2 u2 r25 r31 r36 r20 r21 (r33 4)
  exact ok_law X.d40 F MF T1 h1 u1 r30 r31 r39 r37 r38 (r33 6) r17 r20 r21 r24
end
end Pw
set_option Elab.async false
set_option linter.all false
set_option maxRecDepth 100000
set_option maxHeartbeats 0
namespace Pw
open PySem PySem.Spec PyProof.Rows L2
/-! ## the head: what is asked of the heap behind the top -/
def defsL : List (Str × Nat) := [("is_list", 7), ("is_integer", 8), ("is_picture", 10), ("checked_picture", 11), ("lines_of", 15), ("picture_text", 17), ("read_row", 18), ("read_rows", 19), ("picture_fault", 20), ("read_picture", 21), ("_law_a_picture", 23), ("_law_a_spoiled", 24), ("_law_a_bent", 25), ("_law_a_due", 26), ("_law_a_lines", 27), ("_law_a_sees", 28), ("_law_a_integer", 29),
  ("_law_start", 30), ("_law_draw", 31), ("_law_pick", 32), ("_law_same", 33), ("_law_loose", 34), ("_law_met", 35), ("_law_wrong", 36), ("_law_text_right", 37), ("_law_strings_right", 38), ("_law_drawn", 39), ("law", 40)]
def methL : List ((Str × Str) × Nat) := [(("__init__", "Reader.__init__"), 0), (("is_on", "Reader.is_on"), 1), (("is_ended", "Reader.is_ended"), 2), (("stop", "Reader.stop"), 3), (("sees", "Reader.sees"), 5), (("sees_figure", "Reader.sees_figure"), 6), (("signs", "Reader.signs"), 7), (("number", "Reader.number"), 11), (("integer", "Reader.integer"), 12)]
def freeL : List Str := ["isinstance", "list", "tuple", "int", "bool", "str", "dict", "len", "all", "range", "enumerate", "zip", "repr"]
def dDef (p : Str × Nat) : He.DefD := ⟨(p.1, none), p.1, p.1, defArgs (top p.2), defBody (top p.2), defScope (top p.2), [], []⟩
def dMeth (p : (Str × Str) × Nat) : He.DefD := ⟨("Reader", some p.1.1), p.1.1, p.1.2, defArgs (sRd p.2), defBody (sRd p.2), defScope (sRd p.2), [], []⟩
def dPic : He.DefD := ⟨("BadPicture", some "__init__"), "__init__", "BadPicture.__init__", defArgs sPicInit, defBody sPicInit, defScope sPicInit, [], []⟩
def dTxt : He.DefD := ⟨("BadText", some "__init__"), "__init__", "BadText.__init__", defArgs sTextInit, defBody sTextInit, defScope sTextInit, [], []⟩
def hFn : List He.DefD := dPic :: dTxt :: (methL.map dMeth ++ defsL.map dDef)
def hFa : List He.Fa := [.glo "Reader", .glo "BadPicture", .glo "BadText", .cls "Reader", .noat "Reader" "text", .noat "Reader" "here", .noat "Reader" "wrong", .noat "Reader" "rest", .mkr "Reader", .str "FIGURES" "0123456789", .int "MOST" 16,
  .noat "BadPicture" "thing", .noat "BadText" "line", .noat "BadText" "sign", .meth "BadPicture" "__init__", .meth "BadText" "__init__", .exm "BadPicture" "BadPicture" true, .exm "BadText" "BadPicture" false, .exm "BadText" "BadText" true] ++
  (freeL.map .free ++ (methL.map (fun p => He.Fa.meth "Reader" p.1.1) ++ defsL.map fun p => .glo p.1))
def hTf : List He.Defn := [("law", none), ("_law_strings_right", none)]
/-- an own error class over ValueError -/
def oexB (K : PySem.W.Frag) (C : Addr) : Bool := (match K.lookup C with
  | some ⟨.type "type", _, .cls cd, sl⟩ => (match cd.mro, sl.toList with
    | .ref C1 :: bm, [_, _, _, _, some (.builtin n), _] => C1 == C && (n == "ValueError.__new__" && (!cd.hasDel && (cd.hasDict && PySem.HandSPX.refsVE bm)))
    | _, _ => false)
  | _ => false) && (He.eqO (PySem.W.findIn K (.ref C) "__setattr__") (some (some (.builtin "object.__setattr__"))) && (decide (PySem.W.subIn K (.ref C) (.type "BaseException") = some true) && (decide (PySem.W.typeIn K (.ref C) = some (.type "type")) && PySem.W.keepIn K (.ref C))))
theorem oexB_ok {K : PySem.W.Frag} {C : Addr} (h : oexB K C = true) : OexC K C := by
  obtain ⟨h1, h2⟩ := He.ba h
  obtain ⟨h3, h4⟩ := He.ba h2
  obtain ⟨h5, h6⟩ := He.ba h4
  obtain ⟨h7, h8⟩ := He.ba h6
  refine ⟨?_, He.eqO_ok h3, of_decide_eq_true h5, of_decide_eq_true h7, h8⟩
  split at h1
  · rename_i dd cd sl ho
    split at h1
    · rename_i C1 bm k0 k1 k2 k3 n k5 hm hs
      obtain ⟨g1, g2⟩ := He.ba h1
      obtain ⟨g3, g4⟩ := He.ba g2
      obtain ⟨g5, g6⟩ := He.ba g4
      obtain ⟨g7, g8⟩ := He.ba g6
      have e1 := beq_iff_eq.mp g1
      have e2 := beq_iff_eq.mp g3
      subst e1 e2
      obtain ⟨nm, bs, mro, nsA, qn, hd, sn, sub, ab, col, del⟩ := cd
      have hd1 : hd = true := g7
      have del1 : del = false := by
        have : (!del) = true := g5
        simpa using this
      have hm : mro = .ref C1 :: bm := hm
      subst hd1 del1 hm
      have hsl : sl = #[k0, k1, k2, k3, some (.builtin "ValueError.__new__"), k5] := by
        obtain ⟨l⟩ := sl
        have hs : l = [k0, k1, k2, k3, some (.builtin "ValueError.__new__"), k5] := hs
        rw [hs]
      subst hsl
      exact ⟨nm, qn, nsA, bs, bm, sn, sub, ab, col, dd, k0, k1, k2, k3, k5, ho, g8⟩
    · cases h1
  · cases h1
def hEx (K : PySem.W.Frag) : Bool := oexB K (He.ga K "BadPicture") && (oexB K (He.ga K "BadText") && (xfB K (He.ga K "BadPicture") && (xfB K (He.ga K "BadText") && (decide (PySem.W.typeIn K (.ref (He.ma K (He.ga K "BadPicture") "__init__")) = some (.type "function")) && (decide (PySem.W.typeIn K (.ref (He.ma K (He.ga K "BadText") "__init__")) = some (.type "function")) &&
  decide (tA K "law" ≠ tA K "_law_strings_right"))))))
section
variable {K : PySem.W.Frag} {mg : Str → Option Value} {h : Heap} {w : World}
theorem all_of (X : K.In h) (G : h.Ns mainGlobals mg) (c : He.SaysX hFa hFn [] hTf hEx w h K) : All K mg ∧ tA K "law" ≠ tA K "_law_strings_right" := by
  have cd := c.t.d
  have fct : ∀ (i : Nat) {f : He.Fa}, hFa[i]? = some f → f.ok K = true := fun i {f} e => cd.fact i e
  have more := c.more
  obtain ⟨x1, more⟩ := He.ba (show (oexB K (He.ga K "BadPicture") && _) = true from more)
  obtain ⟨x2, more⟩ := He.ba more
  obtain ⟨x3, more⟩ := He.ba more
  obtain ⟨x4, more⟩ := He.ba more
  obtain ⟨x5, more⟩ := He.ba more
  obtain ⟨x6, x7⟩ := He.ba more
  have fr : ∀ x ∈ freeL, mg x = none := fun x hx => He.free_ok X G (cd.facts (f := .free x) (List.mem_append_right _ (List.mem_append_left _ (List.mem_map_of_mem hx))))
  have df : ∀ p ∈ defsL, Df K mg p.1 (top p.2) := fun p hp =>
    ⟨cd.defs (d := dDef p) (List.mem_cons_of_mem _ (List.mem_cons_of_mem _ (List.mem_append_right _ (List.mem_map_of_mem hp)))), He.glo_ok X G (cd.facts (f := .glo p.1) (List.mem_append_right _ (List.mem_append_right _ (List.mem_append_right _ (List.mem_map.mpr ⟨p, hp, rfl⟩)))))⟩
  have dm : ∀ p ∈ methL, DmR K p.1.1 p.1.2 p.2 := fun p hp =>
    ⟨cd.defs (d := dMeth p) (List.mem_cons_of_mem _ (List.mem_cons_of_mem _ (List.mem_append_left _ (List.mem_map_of_mem hp)))), He.meth_ok (cd.facts (f := .meth "Reader" p.1.1) (List.mem_append_right _ (List.mem_append_right _ (List.mem_append_left _ (List.mem_map.mpr ⟨p, hp, rfl⟩)))))⟩
  have mb : He.Fa.ok K (.meth "BadPicture" "__init__") = true := fct 14 rfl
  have mt : He.Fa.ok K (.meth "BadText" "__init__") = true := fct 15 rfl
  have bp : DePic K mg := ⟨oexB_ok x1, xfB_ok x3, fun f hf => by rw [List.mem_singleton.mp hf]; exact He.noat_ok (fct 11 rfl), He.glo_ok X G (fct 1 rfl), (He.meth_ok mb).at_, of_decide_eq_true x5, cd.defs (d := dPic) (List.mem_cons_self ..)⟩
  have bt : DeText K mg := ⟨oexB_ok x2, xfB_ok x4, fun f hf => by
      simp only [List.mem_cons, List.not_mem_nil, or_false] at hf
      rcases hf with rfl | rfl
      · exact He.noat_ok (fct 12 rfl)
      · exact He.noat_ok (fct 13 rfl), He.glo_ok X G (fct 2 rfl), (He.meth_ok mt).at_, of_decide_eq_true x6, cd.defs (d := dTxt) (List.mem_cons_of_mem _ (List.mem_cons_self ..))⟩
  have rd : RdT K mg := ⟨He.cls_ok (fct 3 rfl), fun f hf => by
      simp only [List.mem_cons, List.not_mem_nil, or_false] at hf
      rcases hf with rfl | rfl | rfl | rfl
      · exact He.noat_ok (fct 4 rfl)
      · exact He.noat_ok (fct 5 rfl)
      · exact He.noat_ok (fct 6 rfl)
      · exact He.noat_ok (fct 7 rfl), He.mkr_ok (fct 8 rfl), He.glo_ok X G (fct 0 rfl), He.str_ok X G (fct 9 rfl), He.int_ok X G (fct 10 rfl)⟩
  refine ⟨{ free := ⟨fr _ (by decide +kernel), fr _ (by decide +kernel), fr _ (by decide +kernel), fr _ (by decide +kernel), fr _ (by decide +kernel), fr _ (by decide +kernel), fr _ (by decide +kernel), fr _ (by decide +kernel), fr _ (by decide +kernel), fr _ (by decide +kernel), fr _ (by decide +kernel), fr _ (by decide +kernel), fr _ (by decide +kernel)⟩
            rd := rd, pic := bp, txt := bt, exm := ⟨He.exm_ok (fct 16 rfl), He.exm_ok (fct 17 rfl), He.exm_ok (fct 18 rfl)⟩
            d7 := df ("is_list", 7) (by decide +kernel), d8 := df ("is_integer", 8) (by decide +kernel), d10 := df ("is_picture", 10) (by decide +kernel), d11 := df ("checked_picture", 11) (by decide +kernel), d15 := df ("lines_of", 15) (by decide +kernel), d17 := df ("picture_text", 17) (by decide +kernel)
            d18 := df ("read_row", 18) (by decide +kernel), d19 := df ("read_rows", 19) (by decide +kernel), d20 := df ("picture_fault", 20) (by decide +kernel), d21 := df ("read_picture", 21) (by decide +kernel), d23 := df ("_law_a_picture", 23) (by decide +kernel), d24 := df ("_law_a_spoiled", 24) (by decide +kernel)
            d25 := df ("_law_a_bent", 25) (by decide +kernel), d26 := df ("_law_a_due", 26) (by decide +kernel), d27 := df ("_law_a_lines", 27) (by decide +kernel), d28 := df ("_law_a_sees", 28) (by decide +kernel), d29 := df ("_law_a_integer", 29) (by decide +kernel), d30 := df ("_law_start", 30) (by decide +kernel)
            d31 := df ("_law_draw", 31) (by decide +kernel), d32 := df ("_law_pick", 32) (by decide +kernel), d33 := df ("_law_same", 33) (by decide +kernel), d34 := df ("_law_loose", 34) (by decide +kernel), d35 := df ("_law_met", 35) (by decide +kernel), d36 := df ("_law_wrong", 36) (by decide +kernel)
            d37 := df ("_law_text_right", 37) (by decide +kernel), d38 := df ("_law_strings_right", 38) (by decide +kernel), d39 := df ("_law_drawn", 39) (by decide +kernel), d40 := df ("law", 40) (by decide +kernel)
            m0 := dm (("__init__", "Reader.__init__"), 0) (by decide +kernel), m1 := dm (("is_on", "Reader.is_on"), 1) (by decide +kernel), m2 := dm (("is_ended", "Reader.is_ended"), 2) (by decide +kernel), m3 := dm (("stop", "Reader.stop"), 3) (by decide +kernel), m5 := dm (("sees", "Reader.sees"), 5) (by decide +kernel)
            m6 := dm (("sees_figure", "Reader.sees_figure"), 6) (by decide +kernel), m7 := dm (("signs", "Reader.signs"), 7) (by decide +kernel), m11 := dm (("number", "Reader.number"), 11) (by decide +kernel), m12 := dm (("integer", "Reader.integer"), 12) (by decide +kernel) }, of_decide_eq_true x7⟩
end
end Pw
set_option Elab.async false
set_option linter.all false
set_option maxRecDepth 100000
set_option maxHeartbeats 0
namespace Pw
open PySem PySem.Spec PyProof.Rows L2
/-! ## the head: the run of the top -/
abbrev R_ : PySem.W.OpenRow := PySem.W.OpenLaw.row PySem.Challenge.rw_partswithin_k04_whole_picture_texts
abbrev hk_ : PySem.W.Hook := He.hookX 5 hFa hFn [] hTf hEx
def ob_ (s : PySem.W.SharedT) : He.AlX := He.obsX 5 hFa hFn [] hTf hEx (HandSHeadRun.getT s)
theorem ob_eq_ (s : PySem.W.SharedT) : ob_ s = hk_.obs s.abs := He.obsX_eq (HandSHeadRun.getT_eq s)
def loose0 : List Str := ["_wall", "__name__", "PartsError", "BadPicture", "BadText", "FIGURES", "is_list", "is_integer", "is_picture"]
def loose1 : List Str := ["checked_picture", "MOST", "Reader", "lines_of", "picture_text", "read_row", "read_rows", "picture_fault", "read_picture"]
def loose2 : List Str := ["_law_a_picture", "_law_a_spoiled", "_law_a_bent", "_law_a_due", "_law_a_lines", "_law_a_sees", "_law_a_integer", "_law_start", "_law_draw"]
def loose3 : List Str := ["_law_pick", "_law_same", "_law_loose", "_law_met", "_law_wrong", "_law_text_right", "_law_strings_right", "_law_drawn"]
def loose_ : List Str := loose0 ++ (loose1 ++ (loose2 ++ (loose3)))
theorem run_ (w : World) : HandSHeadRun.RunEq R_ (PySem.W.view R_.prog [40]) hk_ ob_ 4000 loose_ w := by
  intro os
  kernel_rfl
end Pw
set_option Elab.async false
set_option linter.all false
set_option maxRecDepth 100000
set_option maxHeartbeats 2000000
namespace Pw
open PySem PySem.Spec PyProof.Rows L2 LamX
/-! ## the end: the law called at the top, where nothing is being shown -/
abbrev scrO (vs : List Value) : Obj := { cls := .type "list", data := .seq vs.toArray }
abbrev tabO : Obj := { cls := .none, data := .fields #[] }
/-- what is tracked at the entry: the tables, and the script where K does not have it -/
def entryH (K : PySem.W.Frag) (a : Addr) (tbs : List Addr) (vs : List Value) (ns : List Int) : Hp := fun b =>
  if b ∈ tbs then some (.tbl #[]) else if b = a ∧ K.lookup a = none then some (.frz (scrO vs) (.lst (ns.map V.int))) else none
section
variable {K : PySem.W.Frag} {a : Addr} {tbs : List Addr} {vs : List Value} {ns : List Int} {h : Heap}
theorem entry_cases {b : Addr} : entryH K a tbs vs ns b = none ∨ (b ∈ tbs ∧ entryH K a tbs vs ns b = some (.tbl #[])) ∨ (b = a ∧ K.lookup a = none ∧ entryH K a tbs vs ns b = some (.frz (scrO vs) (.lst (ns.map V.int)))) := by
  unfold entryH
  by_cases h1 : b ∈ tbs
  · exact .inr (.inl ⟨h1, if_pos h1⟩)
  · rw [if_neg h1]
    by_cases h2 : b = a ∧ K.lookup a = none
    · exact .inr (.inr ⟨h2.1, h2.2, if_pos h2⟩)
    · exact .inl (if_neg h2)
theorem entry_tab {b : Addr} (hb : b ∈ tbs) : entryH K a tbs vs ns b = some (.tbl #[]) := if_pos hb
/-- what is neither a list nor a bare row of fields is not tracked -/
theorem entry_off {b : Addr} {o : Obj} (hT : ∀ c ∈ tbs, h.get? c = some tabO) (hA : h.get? a = some (scrO vs)) (e : h.get? b = some o) (n1 : ∀ us n, o.data ≠ .seq us n) (n2 : o.data ≠ .fields #[]) : entryH K a tbs vs ns b = none := by
  rcases entry_cases (K := K) (a := a) (tbs := tbs) (vs := vs) (ns := ns) (b := b) with z | ⟨z, _⟩ | ⟨z, _, _⟩
  · exact z
  · rw [hT b z] at e
    cases e
    exact absurd rfl n2
  · rw [z, hA] at e
    cases e
    exact absurd rfl (n1 _ _)
end
section
variable {P : Program} {w : World} {K : PySem.W.Frag} {mg mb : Str → Option Value} {k : Nat} {fa a : Addr} {cs : List (Addr × Addr)} {fd : FuncData} {x : Str} {sp : Sp} {s₁ : Shared} {vs : List Value} {ns : List Int}
theorem law_callG (inK : K.In s₁.heap) (glob : s₁.heap.Ns mainGlobals mg) (blt : s₁.heap.Ns builtinsNs mb) (bltB : ∀ y : Str, y ≠ "__name__" → mb y = bootBuiltins y) (noLim : s₁.heap.NoLimit) (noGen : s₁.gens = #[])
    (tabs0 : ∀ p ∈ cs, s₁.heap.get? p.2 = some tabO) (tabsK : ∀ p ∈ cs, K.lookup p.2 = none) (hdK : ∀ p ∈ cs, PySem.W.codeHdIn K p.1 p.2 = true)
    (bmod : ∃ (bm : Addr) (ob : Obj), mg "__builtins__" = some (.ref bm) ∧ bm ≠ builtinsNs ∧ s₁.heap.get? bm = some ob ∧ ob.cls = .type "module" ∧ ob.dict = some builtinsNs ∧ ob.data = .plain)
    (scr : s₁.heap.get? a = some (scrO vs)) (areI : IntsAre vs ns) (short_ : ns.length ≤ sizeLine)
    (F : ∀ base : Heap, K.In base → base.Ns mainGlobals mg → (∀ p ∈ cs, TabB base mg p.1 p.2) → ∀ (H : Hp) (Q : VK), Env0 P w K mg base callerA [] s₁ H → sp [.ref a] H Q E0 → codeAny (model P w) callerA (.call (.ref fa) ⟨[.ref a], []⟩) (CR CX0 [] P w H s₁ Q E0) s₁)
    (hsp : ∀ H : Hp, (∀ p ∈ cs, H p.2 = some (.tbl #[])) → SqL K H a (ns.map V.int) → sp [.ref a] H (fun v _ => v = .bl true) E0) :
    codeAny (model P w) callerA (.call (.ref fa) ⟨[.ref a], []⟩) (fun r s' => r = .ok (.ret (.bool true)) ∧ OldK s₁.heap s'.heap ∧ s'.os = s₁.os ∧ AllBare s'.gens) s₁ := by
  obtain ⟨tbs, htbs⟩ : ∃ tbs, tbs = cs.map (·.2) := ⟨_, rfl⟩
  have tIn : ∀ p ∈ cs, p.2 ∈ tbs := fun p hp => by rw [htbs]; exact List.mem_map.mpr ⟨p, hp, rfl⟩
  have tOut : ∀ b ∈ tbs, ∃ p ∈ cs, p.2 = b := fun b hb => by
    rw [htbs] at hb
    obtain ⟨p, hp, e⟩ := List.mem_map.mp hb
    exact ⟨p, hp, e⟩
  have tObj : ∀ b ∈ tbs, s₁.heap.get? b = some tabO := fun b hb => by
    obtain ⟨p, hp, rfl⟩ := tOut b hb
    exact tabs0 p hp
  have tK : ∀ b ∈ tbs, K.lookup b = none := fun b hb => by
    obtain ⟨p, hp, rfl⟩ := tOut b hb
    exact tabsK p hp
  have aOut : a ∉ tbs := fun z => by
    have e := tObj a z
    rw [scr] at e
    have e2 : Data.seq vs.toArray = Data.fields #[] := congrArg Obj.data (Option.some.inj e)
    cases e2
  have valsR : Vals (ns.map V.int) vs := vals_ints areI
  have lenR : vs.length = ns.length := areI.length
  generalize hH : entryH K a tbs vs ns = H
  have cases_ : ∀ b, H b = none ∨ (b ∈ tbs ∧ H b = some (.tbl #[])) ∨ (b = a ∧ K.lookup a = none ∧ H b = some (.frz (scrO vs) (.lst (ns.map V.int)))) := fun b => by
    rw [← hH]
    exact entry_cases
  have offT : ∀ {b : Addr} {o : Obj}, s₁.heap.get? b = some o → (∀ us n, o.data ≠ .seq us n) → o.data ≠ .fields #[] → H b = none := fun e n1 n2 => by
    rw [← hH]
    exact entry_off tObj scr e n1 n2
  have hTab : ∀ p ∈ cs, H p.2 = some (.tbl #[]) := fun p hp => by
    rw [← hH]
    exact entry_tab (tIn p hp)
  -- the ground: all but what is tracked
  have nsB : ∀ {b : Addr} {m : Str → Option Value}, s₁.heap.Ns b m → (hidT s₁.heap H).Ns b m := fun {b m} hns => by
    obtain ⟨o, es, ep, e, d, r⟩ := hns
    exact ⟨o, es, ep, hidT_get e (offT e (fun us n z => by rw [d] at z; cases z) fun z => by rw [d] at z; cases z), d, r⟩
  have inB : K.In (hidT s₁.heap H) := fun b o e => by
    refine hidT_get (inK b o e) ?_
    rcases cases_ b with z | ⟨z, _⟩ | ⟨z, z2, _⟩
    · exact z
    · rw [tK b z] at e
      cases e
    · rw [z, z2] at e
      cases e
  have modB : L2.Mod K mg (hidT s₁.heap H) := by
    obtain ⟨mc, l1, l2⟩ := noLim
    exact ⟨inB, nsB glob, ⟨mb, nsB blt, bltB⟩, mc, nsB l1, l2⟩
  have tabB : ∀ p ∈ cs, TabB (hidT s₁.heap H) mg p.1 p.2 := fun p hp => by
    have tp := tabs0 p hp
    refine ⟨PySem.W.codeHd_of_K inB (hdK p hp), ?_, fun z => ?_⟩
    · obtain ⟨bm, ob, b1, b2, b3, b4, b5, b6⟩ := bmod
      refine ⟨bm, ob, b1, b2, fun q => ?_, fun q => ?_, hidT_get b3 (offT b3 (fun us n z => by rw [b6] at z; cases z) fun z => by rw [b6] at z; cases z), b4, b5, b6⟩
      · obtain ⟨o, es, ep, e, d, _⟩ := glob
        rw [q, e] at b3
        cases b3
        rw [d] at b6
        cases b6
      · rw [q, tp] at b3
        cases b3
        cases b6
    · obtain ⟨o, es, ep, e, d, _⟩ := glob
      rw [z, tp] at e
      cases e
      cases d
  -- what is tracked stands there
  have hokE : HOk P w H s₁.heap := fun b u e => by
    rcases cases_ b with z | ⟨z, z2⟩ | ⟨z, _, z2⟩
    · rw [z] at e
      cases e
    · rw [z2] at e
      cases e
      exact tObj b z
    · rw [z2] at e
      cases e
      rw [z]
      exact ⟨scr, by rw [List.length_map]; exact short_, vs, _, valsR, scr⟩
  have scrS : SqL K H a (ns.map V.int) := by
    cases hk : K.lookup a with
    | none =>
      rcases cases_ a with z | ⟨z, _⟩ | ⟨_, _, z⟩
      · exfalso
        rw [← hH] at z
        unfold entryH at z
        rw [if_neg aOut, if_pos ⟨rfl, hk⟩] at z
        cases z
      · exact absurd z aOut
      · exact .inl (.inr ⟨_, z⟩)
    | some o =>
      have e := inK a o hk
      rw [scr] at e
      have eo := Option.some.inj e
      subst eo
      exact .inr ⟨_, vs.toArray, _, hk, rfl, rfl, rfl, by rw [List.size_toArray, lenR]; exact short_, by rw [List.toList_toArray]; exact valsR⟩
  have env : Env0 P w K mg (hidT s₁.heap H) callerA [] s₁ H :=
    { frames := rfl, mod := modB, bs := fun b o e => of_hidT e, bsz := Nat.le_of_eq (hidT_size _ _), funs := trivial, frf := fun b hb => (by cases hb), hok := hokE, bare := AllBare.of_eq noGen }
  refine codeAny_mono (F _ inB (nsB glob) tabB H _ env (hsp H hTab scrS)) fun r s' ended => ?_
  cases r with
  | error ev => exact (show False from ended).elim
  | ok fl =>
    cases fl with
    | next => exact ended.elim
    | brk => exact ended.elim
    | cont => exact ended.elim
    | ret u =>
      obtain ⟨v, H2, osE, bareE, un, hok2, rv, q⟩ := ended
      obtain rfl : v = .bl true := q
      obtain rfl : u = Value.bool true := rv
      -- tables grow; all else stays
      have grown : ∀ p ∈ cs, ∃ more : Array Value, s'.heap.get? p.2 = some { cls := .none, data := .fields more } := fun p hp => by
        obtain ⟨more, z⟩ := un.tbls p.2 #[] (hTab p hp)
        exact ⟨_, hok2 p.2 _ z⟩
      have stays : ∀ b o, b ∉ tbs → s₁.heap.get? b = some o → s'.heap.get? b = some o := fun b o nb e => by
        rcases cases_ b with z | ⟨z, _⟩ | ⟨z, _, z2⟩
        · exact un.keep b o e z (fun m => by cases m) (fun m => by cases m)
        · exact absurd z nb
        · have z3 := un.frzs b _ _ z2
          obtain ⟨f1, _⟩ := hok2 b _ z3
          rw [z, scr] at e
          cases e
          exact f1
      refine ⟨rfl, ⟨fun b o e => ?_, fun b o e => ?_⟩, osE, bareE⟩
      · by_cases hb : b ∈ tbs
        · obtain ⟨p, hp, rfl⟩ := tOut b hb
          obtain ⟨more, g⟩ := grown p hp
          rw [tabs0 p hp] at e
          cases e
          exact .inr (.inl ⟨((PySem.W.codeHd_of_K inK (hdK p hp)).tab (tabs0 p hp)).isCodeTable, rfl, #[], more, rfl, by rw [Array.empty_append]; exact g⟩)
        · exact .inl (stays b o hb e)
      · by_cases hb : b ∈ tbs
        · obtain ⟨p, hp, rfl⟩ := tOut b hb
          obtain ⟨more, g⟩ := grown p hp
          exact ⟨_, g⟩
        · exact ⟨o, stays b o hb e⟩
end
end Pw
set_option Elab.async false
set_option linter.all false
set_option maxRecDepth 100000
set_option maxHeartbeats 0
namespace Pw
open PySem PySem.Spec PyProof.Rows L2 LamX
theorem end_ {P : Program} {w : World} {mg mb : Str → Option Value} {fa a : Addr} {s₁ : Shared} {vs : List Value} {ns : List Int} {K : PySem.W.Frag} (inK : K.In s₁.heap) (c : He.SaysX hFa hFn [] hTf hEx w s₁.heap K)
    (glob : s₁.heap.Ns mainGlobals mg) (blt : s₁.heap.Ns builtinsNs mb) (bltB : ∀ y : Str, y ≠ "__name__" → mb y = bootBuiltins y) (noLim : s₁.heap.NoLimit) (noGen : s₁.gens = #[])
    (bmod : ∃ (bm : Addr) (ob : Obj), mg "__builtins__" = some (.ref bm) ∧ bm ≠ builtinsNs ∧ s₁.heap.get? bm = some ob ∧ ob.cls = .type "module" ∧ ob.dict = some builtinsNs ∧ ob.data = .plain)
    (hmg : mg "law" = some (.ref fa)) (scr : s₁.heap.get? a = some (scrO vs)) (areI : IntsAre vs ns) (short_ : ns.length ≤ sizeLine) :
    codeAny (model P w) callerA (.call (.ref fa) ⟨[.ref a], []⟩) (fun r s' => r = .ok (.ret (.bool true)) ∧ OldK s₁.heap s'.heap ∧ s'.os = s₁.os ∧ AllBare s'.gens) s₁ := by
  obtain ⟨X, ne⟩ := all_of inK glob c
  have e := hmg.symm.trans X.d40.gl
  cases e
  have mem1 : (cA K "law", tA K "law") ∈ hTf.map (He.cT K) := List.mem_cons_self ..
  have mem2 : (cA K "_law_strings_right", tA K "_law_strings_right") ∈ hTf.map (He.cT K) := List.mem_cons_of_mem _ (List.mem_cons_self ..)
  refine law_callG (cs := hTf.map (He.cT K)) (sp := spLaw K (tabs K)) inK glob blt bltB noLim noGen (fun p hp => ?_) (fun p hp => ?_) (fun p hp => ?_) bmod scr areI short_ (fun base KB GB TB H Q env hsp => ?_) fun H hT hS => ?_
  · obtain ⟨d, hd, rfl⟩ := List.mem_map.mp hp
    exact c.empty d hd
  · obtain ⟨d, hd, rfl⟩ := List.mem_map.mp hp
    exact c.out d hd
  · obtain ⟨d, hd, rfl⟩ := List.mem_map.mp hp
    exact c.hd d hd
  · obtain ⟨fd, run, hb⟩ := (law_ok (P := P) (w := w) (base := base) X (TB _ mem1) (TB _ mem2) ne).run
    have hbt := hb s₁ [.ref a] inK rfl
    exact run callerA [] s₁ H ⟨[.ref a], []⟩ [.ref a] [.ref a] Q E0 rfl ⟨rfl, by decide, by decide⟩ env hbt (.cons rfl .nil) hsp
  · refine ⟨a, ns, rfl, hS, fun p hp => ?_, fun _ => rfl⟩
    simp only [tabs, List.mem_cons, List.not_mem_nil, or_false] at hp
    rcases hp with rfl | rfl
    · exact TabS.nil (hT _ mem1)
    · exact TabS.nil (hT _ mem2)
end Pw
open PySem PySem.W PySem.Calls PyProof.Rows
theorem PySem.Challenge.cw_partswithin_k04_whole_picture_texts_holds : PySem.Challenge.rw_partswithin_k04_whole_picture_texts.Holds := by
  w_on; o_law
  refine HandSHeadRun.head_any (r := OpenLaw.row PySem.Challenge.rw_partswithin_k04_whole_picture_texts) (q := view (OpenLaw.row PySem.Challenge.rw_partswithin_k04_whole_picture_texts).prog [40]) (H := Pw.hk_) (ob := Pw.ob_) (M := 4000) (loose := Pw.loose_) (d := HandSHeadRun.topDef (OpenLaw.row PySem.Challenge.rw_partswithin_k04_whole_picture_texts).prog 40) (kwd := []) Pw.ob_eq_
    (by kernel_rfl) (fun s => by kernel_rfl) Pw.run_ (by kernel_rfl) (by kernel_rfl) (by kernel_rfl) (by rfl) (by first | assumption | decide +kernel) (by decide +kernel) ⟨rfl, rfl, rfl, rfl, rfl, by decide +kernel⟩ ?hw ?hc
  case hw => w_witness2
  case hc =>
    refine Att.attach_callB (l := PySem.Challenge.rw_partswithin_k04_whole_picture_texts) (n := 63) rfl (by kernel_rfl) fun w s₀ s₁ mg mb fa o pm cd doc a vs ns G Y ho hd hcd hmg hobj hints hlen hbits hg => ?_
    obtain ⟨K, inK, c⟩ := Y
    have hmg2 : mg ("law" : PySem.Str) = some (.ref fa) := by
      have e : (HandSHeadRun.topDef (OpenLaw.row PySem.Challenge.rw_partswithin_k04_whole_picture_texts).prog 40).name = ("law" : PySem.Str) := by kernel_rfl
      rw [← e]
      exact hmg
    exact Pw.end_ inK c G.T.g G.T.b G.T.builtins G.T.nolimit hg G.T.bmain hmg2 hobj hints (Nat.le_trans hlen (by decide))
