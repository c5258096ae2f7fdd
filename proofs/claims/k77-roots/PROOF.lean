import PyProof.Rows.All
import Wide.All
import OpenK.AllK
import Wide.FinOn
import KE.KStateDown
import HandS.ForMost
import HandS.IsInst
import HandS.Style
import HandS.Wide
import HandS.Zip
import HandS.Words
import HandS.Defaults
import HandS.HeadEnd
import KE.GoesMore
import HandS.Base
import HandS.Call
import HandS.Ends
import HandS.More
import HandS.WordsExc
import HandS.Head0
import HandS.Head1
import HandS.Head2
import HandS.HeadHook1
import HandS.HeadHook2
import PySem.Challenge.RW_shapescounted_k77_whole_roots_between
set_option Elab.async false
set_option linter.all false
namespace Sm
/-! polynomials over the fractions, as rows of their coefficients, least first -/
def ev : List Rat → Rat → Rat
  | [], _ => 0
  | a :: as, x => a + x * ev as x
def addL : List Rat → List Rat → List Rat
  | [], b => b
  | a :: as, [] => a :: as
  | a :: as, b :: bs => (a + b) :: addL as bs
def smul (c : Rat) (l : List Rat) : List Rat := l.map (c * ·)
def mulL : List Rat → List Rat → List Rat
  | [], _ => []
  | a :: as, b => addL (smul a b) (0 :: mulL as b)
def dl : Nat → List Rat → List Rat
  | _, [] => []
  | n, a :: as => ((n : Rat) * a) :: dl (n + 1) as
def D (l : List Rat) : List Rat := dl 1 l.tail
def cf (l : List Rat) (i : Nat) : Rat := l.getD i 0
theorem ev_add : ∀ (a b : List Rat) (x : Rat), ev (addL a b) x = ev a x + ev b x
  | [], b, x => by simp only [addL, ev]; grind
  | a :: as, [], x => by simp only [addL, ev]; grind
  | a :: as, b :: bs, x => by
    simp only [addL, ev, ev_add as bs x]
    grind
theorem ev_smul (c : Rat) (x : Rat) : ∀ b : List Rat, ev (smul c b) x = c * ev b x
  | [] => by simp only [smul, List.map_nil, ev]; grind
  | b :: bs => by
    have h := ev_smul c x bs
    simp only [smul, List.map_cons, ev] at h ⊢
    grind
theorem ev_mul (b : List Rat) (x : Rat) : ∀ a : List Rat, ev (mulL a b) x = ev a x * ev b x
  | [] => by simp only [mulL, ev]; grind
  | a :: as => by
    simp only [mulL, ev_add, ev_smul, ev, ev_mul b x as]
    grind
theorem ev_dl (x : Rat) : ∀ (n : Nat) (as : List Rat), ev (dl (n + 1) as) x = ev (dl n as) x + ev as x
  | n, [] => by simp only [dl, ev]; grind
  | n, a :: as => by
    simp only [dl, ev, ev_dl x (n + 1) as, Rat.natCast_add]
    grind
theorem ev_D (a : Rat) (as : List Rat) (x : Rat) : ev (D (a :: as)) x = ev as x + x * ev (D as) x := by
  cases as with
  | nil => simp only [D, List.tail_cons, List.tail_nil, dl, ev]; grind
  | cons b bs =>
    simp only [D, List.tail_cons, dl, ev, ev_dl x 1 bs]
    grind
theorem D_add (x : Rat) : ∀ a b : List Rat, ev (D (addL a b)) x = ev (D a) x + ev (D b) x
  | [], b => by
    have : D [] = [] := rfl
    simp only [addL, this, ev]; grind
  | a :: as, [] => by
    have : D [] = [] := rfl
    simp only [addL, this, ev]; grind
  | a :: as, b :: bs => by
    simp only [addL, ev_D, ev_add, D_add x as bs]
    grind
theorem D_smul (c x : Rat) : ∀ b : List Rat, ev (D (smul c b)) x = c * ev (D b) x
  | [] => by
    have : D [] = [] := rfl
    simp only [smul, List.map_nil, this, ev]; grind
  | b :: bs => by
    have h := D_smul c x bs
    have h2 := ev_smul c x bs
    simp only [smul, List.map_cons, ev_D] at h h2 ⊢
    grind
theorem D_mul (b : List Rat) (x : Rat) : ∀ a : List Rat, ev (D (mulL a b)) x = ev (D a) x * ev b x + ev a x * ev (D b) x
  | [] => by
    have : D [] = [] := rfl
    simp only [mulL, this, ev]; grind
  | a :: as => by
    simp only [mulL, D_add, D_smul, ev_D, ev, ev_mul, D_mul b x as]
    grind
/-! rows of noughts, and growth -/
def Z (l : List Rat) : Prop := ∀ a ∈ l, a = 0
theorem Z.ev {l : List Rat} (x : Rat) : Z l → ev l x = 0 := by
  induction l with
  | nil => intro _; rfl
  | cons a as ih =>
    intro h
    have h1 : a = 0 := h a (List.mem_cons_self ..)
    have h2 := ih (fun b hb => h b (List.mem_cons_of_mem _ hb))
    simp only [Sm.ev, h1, h2]; grind
theorem Z.dl : ∀ {l : List Rat} (n : Nat), Z l → Z (dl n l)
  | [], _, _ => fun a ha => by simp [Sm.dl] at ha
  | a :: as, n, h => by
    intro b hb
    simp only [Sm.dl, List.mem_cons] at hb
    rcases hb with rfl | hb
    · rw [h a (List.mem_cons_self ..)]; grind
    · exact Z.dl (n + 1) (fun b hb => h b (List.mem_cons_of_mem _ hb)) b hb
theorem Z.D {l : List Rat} (h : Z l) : Z (D l) := by
  cases l with
  | nil => intro a ha; simp [Sm.D, Sm.dl] at ha
  | cons a as => exact Z.dl 1 (fun b hb => h b (List.mem_cons_of_mem _ hb))
theorem mul_ge {c x y : Rat} (hx : 1 ≤ x) (hc : 0 ≤ c) (hy : c ≤ y) : c ≤ x * y := by
  have h1 : (x - 1) * y ≥ 0 := Rat.mul_nonneg (by grind) (by grind)
  grind
theorem exists_big (a b c : Rat) (hc : 0 < c) : ∃ B : Rat, B ≥ b ∧ ∀ x, x ≥ B → a + x * c ≥ 1 := by
  refine ⟨if b ≤ (1 - a) / c then (1 - a) / c else b, by split <;> grind, fun x hx => ?_⟩
  have h1 : (1 - a) / c ≤ x := by split at hx <;> grind
  have h2 := Rat.mul_le_mul_of_nonneg_right h1 (Rat.le_of_lt hc)
  rw [Rat.div_mul_cancel (by grind)] at h2
  grind
theorem grow : ∀ l : List Rat, ¬ Z l → ∃ B c : Rat, 1 ≤ B ∧ 0 < c ∧ ((∀ x, B ≤ x → c ≤ ev l x) ∨ (∀ x, B ≤ x → ev l x ≤ -c))
  | [], h => absurd (fun a ha => by simp at ha) h
  | a :: as, h => by
    by_cases hz : Z as
    · have ha : a ≠ 0 := fun e => h (fun b hb => by
        rcases List.mem_cons.mp hb with rfl | hb
        · exact e
        · exact hz b hb)
      have e : ∀ x, ev (a :: as) x = a := fun x => by simp only [ev, Z.ev x hz]; grind
      by_cases hp : 0 < a
      · exact ⟨1, a, by grind, hp, .inl (fun x _ => by rw [e]; grind)⟩
      · exact ⟨1, -a, by grind, by grind, .inr (fun x _ => by rw [e]; grind)⟩
    · obtain ⟨B, c, hB, hc, h1⟩ := grow as hz
      rcases h1 with h1 | h1
      · obtain ⟨B', hB', h2⟩ := exists_big a B c hc
        refine ⟨B', 1, by grind, by grind, .inl fun x hx => ?_⟩
        have h3 := Rat.mul_le_mul_of_nonneg_left (h1 x (by grind)) (show (0:Rat) ≤ x by grind)
        have h4 := h2 x hx
        simp only [ev]; grind
      · obtain ⟨B', hB', h2⟩ := exists_big (-a) B c hc
        refine ⟨B', 1, by grind, by grind, .inr fun x hx => ?_⟩
        have h3 := Rat.mul_le_mul_of_nonneg_left (h1 x (by grind)) (show (0:Rat) ≤ x by grind)
        have h4 := h2 x hx
        simp only [ev]; grind
theorem Z_of (l : List Rat) (B : Rat) (h : ∀ x, B ≤ x → ev l x = 0) : Z l := by
  refine Classical.byContradiction fun hz => ?_
  obtain ⟨B', c, _, hc, h1⟩ := grow l hz
  have : ∃ x, B ≤ x ∧ B' ≤ x := by
    by_cases hb : B ≤ B'
    · exact ⟨B', hb, Rat.le_refl⟩
    · exact ⟨B, Rat.le_refl, by grind⟩
  obtain ⟨x, h2, h3⟩ := this
  have h4 := h x h2
  rcases h1 with h1 | h1 <;> have h5 := h1 x h3 <;> grind
theorem D_congr {a b : List Rat} (h : ∀ x, ev a x = ev b x) (x : Rat) : ev (D a) x = ev (D b) x := by
  have hz : Z (addL a (smul (-1) b)) := Z_of _ 0 fun x _ => by rw [ev_add, ev_smul, h]; grind
  have := Z.ev x hz.D
  rw [D_add, D_smul] at this
  grind
/-! functions that are polynomials -/
def Pol (f : Rat → Rat) : Prop := ∃ l, ∀ x, f x = ev l x
def Der (f f' : Rat → Rat) : Prop := ∃ l, (∀ x, f x = ev l x) ∧ ∀ x, f' x = ev (D l) x
theorem Pol.const (c : Rat) : Pol (fun _ => c) := ⟨[c], fun x => by simp only [ev]; grind⟩
theorem Pol.id : Pol (fun x => x) := ⟨[0, 1], fun x => by simp only [ev]; grind⟩
theorem Pol.add {f g : Rat → Rat} : Pol f → Pol g → Pol (fun x => f x + g x)
  | ⟨a, ha⟩, ⟨b, hb⟩ => ⟨addL a b, fun x => by simp only [ev_add, ha, hb]⟩
theorem Pol.mul {f g : Rat → Rat} : Pol f → Pol g → Pol (fun x => f x * g x)
  | ⟨a, ha⟩, ⟨b, hb⟩ => ⟨mulL a b, fun x => by simp only [ev_mul, ha, hb]⟩
theorem Pol.smul (c : Rat) {f : Rat → Rat} (h : Pol f) : Pol (fun x => c * f x) := (Pol.const c).mul h
theorem Pol.neg {f : Rat → Rat} (h : Pol f) : Pol (fun x => -f x) := by
  obtain ⟨l, hl⟩ := h.smul (-1)
  exact ⟨l, fun x => by rw [← hl]; grind⟩
theorem Pol.sub {f g : Rat → Rat} (h : Pol f) (h2 : Pol g) : Pol (fun x => f x - g x) := by
  obtain ⟨l, hl⟩ := h.add h2.neg
  exact ⟨l, fun x => by rw [← hl]; grind⟩
theorem Pol.congr {f g : Rat → Rat} (h : Pol f) (e : ∀ x, g x = f x) : Pol g := by
  obtain ⟨l, hl⟩ := h
  exact ⟨l, fun x => by rw [e, hl]⟩
theorem Pol.ev (l : List Rat) : Pol (ev l) := ⟨l, fun _ => rfl⟩
theorem Pol.der {f : Rat → Rat} : Pol f → ∃ f', Der f f' ∧ Pol f'
  | ⟨l, hl⟩ => ⟨Sm.ev (D l), ⟨l, hl, fun _ => rfl⟩, .ev _⟩
theorem Der.pol {f f' : Rat → Rat} : Der f f' → Pol f
  | ⟨l, h, _⟩ => ⟨l, h⟩
theorem Der.pol' {f f' : Rat → Rat} : Der f f' → Pol f'
  | ⟨l, _, h⟩ => ⟨D l, h⟩
theorem Der.uniq {f f1 g g1 : Rat → Rat} (e : ∀ x, f x = g x) : Der f f1 → Der g g1 → ∀ x, f1 x = g1 x
  | ⟨a, ha, ha'⟩, ⟨b, hb, hb'⟩, x => by
    rw [ha', hb']
    exact D_congr (fun y => by rw [← ha, ← hb, e]) x
theorem Der.mul {f f' g g' : Rat → Rat} : Der f f' → Der g g' → Der (fun x => f x * g x) (fun x => f' x * g x + f x * g' x)
  | ⟨a, ha, ha'⟩, ⟨b, hb, hb'⟩ => ⟨mulL a b, fun x => by simp only [ev_mul, ha, hb], fun x => by simp only [D_mul, ha, hb, ha', hb']⟩
theorem Der.add {f f' g g' : Rat → Rat} : Der f f' → Der g g' → Der (fun x => f x + g x) (fun x => f' x + g' x)
  | ⟨a, ha, ha'⟩, ⟨b, hb, hb'⟩ => ⟨addL a b, fun x => by simp only [ev_add, ha, hb], fun x => by simp only [D_add, ha', hb']⟩
theorem Der.const (c : Rat) : Der (fun _ => c) (fun _ => 0) := ⟨[c], fun x => by simp only [Sm.ev]; grind, fun x => by simp only [D, List.tail_cons, dl, Sm.ev]⟩
theorem Der.smul (c : Rat) {f f' : Rat → Rat} (h : Der f f') : Der (fun x => c * f x) (fun x => c * f' x) := by
  obtain ⟨l, h1, h2⟩ := h
  exact ⟨Sm.smul c l, fun x => by simp only [ev_smul, h1], fun x => by simp only [D_smul, h2]⟩
theorem Pol.zero_of {f : Rat → Rat} (h : Pol f) (B : Rat) (h2 : ∀ x, B ≤ x → f x = 0) (x : Rat) : f x = 0 := by
  obtain ⟨l, hl⟩ := h
  rw [hl]
  exact Z.ev x (Z_of l B fun y hy => by rw [← hl, h2 y hy])
/-- a polynomial that is not nought everywhere can be struck out -/
theorem Pol.cancel {g s : Rat → Rat} (hg : Pol g) (hs : Pol s) {x0 : Rat} (h0 : g x0 ≠ 0) (h : ∀ x, g x * s x = 0) (x : Rat) : s x = 0 := by
  obtain ⟨l, hl⟩ := hg
  have hz : ¬ Z l := fun hz => h0 (by rw [hl, Z.ev x0 hz])
  obtain ⟨B, c, _, hc, h1⟩ := grow l hz
  refine hs.zero_of B (fun y hy => ?_) x
  have h2 := h y
  rcases Rat.mul_eq_zero.mp h2 with h3 | h3
  · rw [hl] at h3
    rcases h1 with h1 | h1 <;> have := h1 y hy <;> grind
  · exact h3
/-! bounds -/
def Bd (x c : Rat) : Prop := -c ≤ x ∧ x ≤ c
theorem Bd.pos {x c : Rat} (h : Bd x c) : 0 ≤ c := by obtain ⟨a, b⟩ := h; grind
theorem Bd.add {x y a b : Rat} : Bd x a → Bd y b → Bd (x + y) (a + b)
  | ⟨h1, h2⟩, ⟨h3, h4⟩ => ⟨by grind, by grind⟩
theorem Bd.mono {x a b : Rat} (h : Bd x a) (e : a ≤ b) : Bd x b := by
  obtain ⟨h1, h2⟩ := h
  exact ⟨by grind, by grind⟩
theorem Bd.neg {x a : Rat} : Bd x a → Bd (-x) a
  | ⟨h1, h2⟩ => ⟨by grind, by grind⟩
theorem Bd.sub {x y a b : Rat} : Bd x a → Bd y b → Bd (x - y) (a + b)
  | ⟨h1, h2⟩, ⟨h3, h4⟩ => ⟨by grind, by grind⟩
theorem Bd.mul {x y a b : Rat} (hx : Bd x a) (hy : Bd y b) : Bd (x * y) (a * b) := by
  have ha := hx.pos
  have hb := hy.pos
  obtain ⟨h1, h2⟩ := hx
  obtain ⟨h3, h4⟩ := hy
  have p1 := Rat.mul_nonneg (show 0 ≤ a - x by grind) (show 0 ≤ b - y by grind)
  have p2 := Rat.mul_nonneg (show 0 ≤ a + x by grind) (show 0 ≤ b + y by grind)
  have p3 := Rat.mul_nonneg (show 0 ≤ a - x by grind) (show 0 ≤ b + y by grind)
  have p4 := Rat.mul_nonneg (show 0 ≤ a + x by grind) (show 0 ≤ b - y by grind)
  exact ⟨by grind, by grind⟩
theorem Bd.zero {c : Rat} (h : 0 ≤ c) : Bd 0 c := ⟨by grind, h⟩
theorem Bd.self (a : Rat) : ∃ c, 0 ≤ c ∧ Bd a c := by
  by_cases h : 0 ≤ a
  · exact ⟨a, h, by constructor <;> grind⟩
  · exact ⟨-a, by grind, by constructor <;> grind⟩
theorem ev_bd (M : Rat) : ∀ l : List Rat, ∃ B, ∀ x, Bd x M → Bd (ev l x) B
  | [] => ⟨0, fun x _ => .zero (by grind)⟩
  | a :: as => by
    obtain ⟨B, h⟩ := ev_bd M as
    obtain ⟨c, _, hc⟩ := Bd.self a
    exact ⟨c + M * B, fun x hx => hc.add (hx.mul (h x hx))⟩
theorem Pol.bd {f : Rat → Rat} (h : Pol f) (M : Rat) : ∃ B, 0 < B ∧ ∀ x, Bd x M → Bd (f x) B := by
  obtain ⟨l, hl⟩ := h
  obtain ⟨B, hB⟩ := ev_bd M l
  refine ⟨if B ≤ 1 then 1 else B, by split <;> grind, fun x hx => ?_⟩
  rw [hl]
  exact (hB x hx).mono (by split <;> grind)
/-- Taylor's law -/
theorem ev_tay (M : Rat) : ∀ l : List Rat, ∃ C, 0 ≤ C ∧ ∀ x y, Bd x M → Bd y M → Bd (ev l y - ev l x - (y - x) * ev (D l) x) (C * ((y - x) * (y - x)))
  | [] => ⟨0, by grind, fun x y _ _ => by
      have : D [] = [] := rfl
      simp only [ev, this]
      constructor <;> grind⟩
  | a :: as => by
    obtain ⟨C, hC, h⟩ := ev_tay M as
    obtain ⟨B, hB0, hB⟩ := (Pol.ev (D as)).bd M
    have hBM : ∀ x, Bd x M → 0 ≤ M := fun x h => h.pos
    by_cases hM : 0 ≤ M
    · refine ⟨B + M * C, ?_, fun x y hx hy => ?_⟩
      · have := Rat.mul_nonneg hM hC; grind
      · have h1 := hy.mul (h x y hx hy)
        have hq : Bd ((y - x) * (y - x)) ((y - x) * (y - x)) := by
          have : 0 ≤ (y - x) * (y - x) := by
            by_cases hh : 0 ≤ y - x
            · exact Rat.mul_nonneg hh hh
            · have := Rat.mul_nonneg (show 0 ≤ -(y - x) by grind) (show 0 ≤ -(y - x) by grind); grind
          constructor <;> grind
        have h2 := (hB x hx).mul hq
        have h3 := h2.add h1
        rw [ev_D]
        simp only [ev]
        have e1 : B * ((y - x) * (y - x)) + M * (C * ((y - x) * (y - x))) = (B + M * C) * ((y - x) * (y - x)) := by grind
        rw [e1] at h3
        have e2 : ev (D as) x * ((y - x) * (y - x)) + y * (ev as y - ev as x - (y - x) * ev (D as) x) = a + y * ev as y - (a + x * ev as x) - (y - x) * (ev as x + x * ev (D as) x) := by grind
        rw [e2] at h3
        exact h3
    · exact ⟨0, by grind, fun x y hx _ => absurd (hBM x hx) hM⟩
theorem Der.tay {f f' : Rat → Rat} (h : Der f f') (M : Rat) : ∃ C, 0 < C ∧ ∀ x y, Bd x M → Bd y M → Bd (f y - f x - (y - x) * f' x) (C * ((y - x) * (y - x))) := by
  obtain ⟨l, h1, h2⟩ := h
  obtain ⟨C, hC, h3⟩ := ev_tay M l
  refine ⟨C + 1, by grind, fun x y hx hy => ?_⟩
  rw [h1, h1, h2]
  refine (h3 x y hx hy).mono ?_
  have : 0 ≤ (y - x) * (y - x) := by
    by_cases hh : 0 ≤ y - x
    · exact Rat.mul_nonneg hh hh
    · have := Rat.mul_nonneg (show 0 ≤ -(y - x) by grind) (show 0 ≤ -(y - x) by grind); grind
  grind
theorem ev_lip (M : Rat) : ∀ l : List Rat, ∃ L, 0 ≤ L ∧ ∀ x y, Bd x M → Bd y M → x ≤ y → Bd (ev l y - ev l x) (L * (y - x))
  | [] => ⟨0, by grind, fun x y _ _ h => by simp only [ev]; constructor <;> grind⟩
  | a :: as => by
    obtain ⟨L, hL, h⟩ := ev_lip M as
    obtain ⟨B, hB0, hB⟩ := (Pol.ev as).bd M
    by_cases hM : 0 ≤ M
    · refine ⟨B + M * L, ?_, fun x y hx hy hxy => ?_⟩
      · have := Rat.mul_nonneg hM hL; grind
      · have h1 := (hB y hy).mul (show Bd (y - x) (y - x) by constructor <;> grind)
        have h2 := h1.add (hx.mul (h x y hx hy hxy))
        simp only [ev]
        have e1 : ev as y * (y - x) + x * (ev as y - ev as x) = a + y * ev as y - (a + x * ev as x) := by grind
        have e2 : B * (y - x) + M * (L * (y - x)) = (B + M * L) * (y - x) := by grind
        rw [e1, e2] at h2
        exact h2
    · exact ⟨0, by grind, fun x y hx _ => absurd hx.pos hM⟩
theorem Pol.lip {f : Rat → Rat} (h : Pol f) (M : Rat) : ∃ L, 0 < L ∧ ∀ x y, Bd x M → Bd y M → x ≤ y → Bd (f y - f x) (L * (y - x)) := by
  obtain ⟨l, hl⟩ := h
  obtain ⟨L, hL, h1⟩ := ev_lip M l
  refine ⟨L + 1, by grind, fun x y hx hy hxy => ?_⟩
  rw [hl, hl]
  exact (h1 x y hx hy hxy).mono (by grind)
end Sm

set_option Elab.async false
set_option linter.all false
namespace Sm
/-! signs and their changes -/
def sg (x : Rat) : Int := if 0 < x then 1 else if x < 0 then -1 else 0
theorem sg_pos {x : Rat} (h : 0 < x) : sg x = 1 := by unfold sg; rw [if_pos h]
theorem sg_neg {x : Rat} (h : x < 0) : sg x = -1 := by unfold sg; rw [if_neg (by grind), if_pos h]
theorem sg_zero {x : Rat} (h : x = 0) : sg x = 0 := by unfold sg; rw [if_neg (by grind), if_neg (by grind)]
theorem sg_cases (x : Rat) : (0 < x ∧ sg x = 1) ∨ (x < 0 ∧ sg x = -1) ∨ (x = 0 ∧ sg x = 0) := by
  by_cases h1 : 0 < x
  · exact .inl ⟨h1, sg_pos h1⟩
  · by_cases h2 : x < 0
    · exact .inr (.inl ⟨h2, sg_neg h2⟩)
    · exact .inr (.inr ⟨by grind, sg_zero (by grind)⟩)
def chgF : Int → List Int → Int
  | _, [] => 0
  | t, s :: r => if s = 0 then chgF t r else if t = 0 ∨ t = s then chgF s r else 1 + chgF s r
inductive Sim : List Int → List Int → Prop
  | last {s : Int} : s ≠ 0 → Sim [s] [s]
  | big {s : Int} {S T : List Int} : s ≠ 0 → Sim S T → Sim (s :: S) (s :: T)
  | small {s u v : Int} {S T : List Int} : s ≠ 0 → (u = 0 ∨ u = s ∨ u = -s) → (v = 0 ∨ v = s ∨ v = -s) → Sim (-s :: S) (-s :: T) → Sim (s :: u :: -s :: S) (s :: v :: -s :: T)
theorem chg_small {s u : Int} {S : List Int} (h : s ≠ 0) (hu : u = 0 ∨ u = s ∨ u = -s) : chgF s (u :: -s :: S) = 1 + chgF (-s) S := by
  have h1 : (-s) ≠ 0 := by omega
  have h2 : ¬(s = 0 ∨ s = -s) := by omega
  have h4 : ¬ (s = -s) := by omega
  rcases hu with rfl | rfl | rfl
  · simp only [chgF, if_pos, h1, if_false, h2]
  · simp only [chgF, if_neg h, or_true, if_true, if_neg h1, if_neg h2]
  · simp only [chgF, if_neg h1, if_neg h2, or_true, if_true]
theorem Sim.chg {S T : List Int} (h : Sim S T) : ∀ t, chgF t S = chgF t T := by
  induction h with
  | last _ => intro t; rfl
  | big h _ ih => intro t; simp only [chgF, ih]
  | @small s u v S T h hu hv _ ih =>
    intro t
    have e := ih 0
    have h1 : (-s) ≠ 0 := by omega
    simp only [chgF, if_neg h1, true_or, if_true] at e
    have e1 := chg_small (S := S) h hu
    have e2 := chg_small (S := T) h hv
    have l : chgF t (s :: u :: -s :: S) = if t = 0 ∨ t = s then chgF s (u :: -s :: S) else 1 + chgF s (u :: -s :: S) := by rw [chgF, if_neg h]
    have r : chgF t (s :: v :: -s :: T) = if t = 0 ∨ t = s then chgF s (v :: -s :: T) else 1 + chgF s (v :: -s :: T) := by rw [chgF, if_neg h]
    rw [l, r, e1, e2, e]
/-! small steps -/
def Same (f : Rat → Rat) (x y : Rat) : Prop := sg (f x) = sg (f y) ∧ sg (f x) ≠ 0
structure Tiny (M h x y : Rat) : Prop where
  bx : Bd x M
  by_ : Bd y M
  lt : x < y
  le : y - x ≤ h
theorem Tiny.mono {M h h' x y : Rat} (t : Tiny M h x y) (e : h ≤ h') : Tiny M h' x y := ⟨t.bx, t.by_, t.lt, by have := t.le; grind⟩
def Far (x e : Rat) : Prop := e ≤ x ∨ x ≤ -e
theorem Far.not_bd {x e c : Rat} (h : Far x e) (h2 : c < e) : ¬ Bd x c := by
  rintro ⟨a, b⟩
  rcases h with h | h <;> grind
theorem div_mul_le {a b : Rat} (h : 0 < b) : b * (a / b) = a := by
  have := Rat.div_mul_cancel (a := a) (b := b) (by grind)
  grind
theorem div_pos {a b : Rat} (h : 0 < b) (ha : 0 < a) : 0 < a / b := by
  have := (Rat.lt_div_iff (a := 0) (b := a) h).mpr (by grind)
  exact this
def mn (a b : Rat) : Rat := if a ≤ b then a else b
theorem mn_pos {a b : Rat} (ha : 0 < a) (hb : 0 < b) : 0 < mn a b := by unfold mn; split <;> assumption
theorem mn_l (a b : Rat) : mn a b ≤ a := by unfold mn; split <;> grind
theorem mn_r (a b : Rat) : mn a b ≤ b := by unfold mn; split <;> grind
theorem small {f : Rat → Rat} (hf : Pol f) (M : Rat) {η : Rat} (hη : 0 < η) : ∃ h, 0 < h ∧ ∀ x y, Tiny M h x y → ¬ Same f x y → Bd (f x) η ∧ Bd (f y) η := by
  obtain ⟨L, hL, h1⟩ := hf.lip M
  refine ⟨η / L, div_pos hL hη, fun x y t hs => ?_⟩
  have h2 := h1 x y t.bx t.by_ (Rat.le_of_lt t.lt)
  have h3 := Rat.mul_le_mul_of_nonneg_left t.le (Rat.le_of_lt hL)
  rw [div_mul_le hL] at h3
  obtain ⟨h4, h5⟩ := h2
  have h6 : (0 < f x ∧ 0 < f y) ∨ (f x < 0 ∧ f y < 0) → False := by
    rintro (⟨a, b⟩ | ⟨a, b⟩)
    · exact hs ⟨by rw [sg_pos a, sg_pos b], by rw [sg_pos a]; decide⟩
    · exact hs ⟨by rw [sg_neg a, sg_neg b], by rw [sg_neg a]; decide⟩
  have h7 : ¬(0 < f x ∧ 0 < f y) := fun h => h6 (.inl h)
  have h8 : ¬(f x < 0 ∧ f y < 0) := fun h => h6 (.inr h)
  refine ⟨⟨?_, ?_⟩, ⟨?_, ?_⟩⟩ <;> grind
theorem bez {f g U V : Rat → Rat} (hU : Pol U) (hV : Pol V) {c : Rat} (hc : c ≠ 0) (e : ∀ x, U x * f x + V x * g x = c) (M : Rat) :
    ∃ η e, 0 < η ∧ 0 < e ∧ ∀ x, Bd x M → Bd (f x) η → Far (g x) e := by
  obtain ⟨B, hB, h1⟩ := hU.bd M
  obtain ⟨B', hB', h2⟩ := hV.bd M
  have hk : ∃ k, 0 < k ∧ (c = k ∨ c = -k) := by
    by_cases h : 0 < c
    · exact ⟨c, h, .inl rfl⟩
    · exact ⟨-c, by grind, .inr (by grind)⟩
  obtain ⟨k, hk, hck⟩ := hk
  refine ⟨(k / 4) / B, (k / 4) / B', div_pos hB (by grind), div_pos hB' (by grind), fun x hx hf => ?_⟩
  have h3 := (h1 x hx).mul hf
  rw [div_mul_le hB] at h3
  refine Classical.byContradiction fun hn => ?_
  have h4 : Bd (g x) (k / 4 / B') := by
    unfold Far at hn
    constructor <;> grind
  have h5 := (h2 x hx).mul h4
  rw [div_mul_le hB'] at h5
  obtain ⟨a, b⟩ := h3
  obtain ⟨a', b'⟩ := h5
  have h6 := e x
  rcases hck with rfl | rfl <;> grind
theorem pair {f g U V : Rat → Rat} (hf : Pol f) (hg : Pol g) (hU : Pol U) (hV : Pol V) {c : Rat} (hc : c ≠ 0) (e : ∀ x, U x * f x + V x * g x = c) (M : Rat) :
    ∃ d, 0 < d ∧ ∀ η, 0 < η → ∃ h, 0 < h ∧ ∀ x y, Tiny M h x y → ¬ Same f x y → Same g x y ∧ Far (g x) d ∧ Far (g y) d ∧ Bd (f x) η ∧ Bd (f y) η := by
  obtain ⟨η0, d, hη0, hd, h1⟩ := bez hU hV hc e M
  refine ⟨d, hd, fun η hη => ?_⟩
  obtain ⟨h2, hh2, h3⟩ := small hf M (mn_pos hη hη0)
  obtain ⟨h4, hh4, h5⟩ := small hg M (show 0 < d / 2 by grind)
  refine ⟨mn h2 h4, mn_pos hh2 hh4, fun x y t hs => ?_⟩
  obtain ⟨a, b⟩ := h3 x y (t.mono (mn_l _ _)) hs
  have fa := h1 x t.bx (a.mono (mn_r _ _))
  have fb := h1 y t.by_ (b.mono (mn_r _ _))
  refine ⟨Classical.byContradiction fun hn => ?_, fa, fb, a.mono (mn_l _ _), b.mono (mn_l _ _)⟩
  exact fa.not_bd (by grind) (h5 x y (t.mono (mn_r _ _)) hn).1
theorem triple {f g k U V β : Rat → Rat} (hg : Pol g) (hk : Pol k) (hU : Pol U) (hV : Pol V) (hβ : Pol β) {c α γ : Rat} (hc : c ≠ 0) (e : ∀ x, U x * g x + V x * k x = c)
    (hα : 0 < α) (hγ : 0 < γ) (e2 : ∀ x, α * f x + γ * k x = β x * g x) (M : Rat) :
    ∃ h, 0 < h ∧ ∀ x y, Tiny M h x y → ¬ Same g x y → Same k x y ∧ sg (f x) = - sg (k x) ∧ sg (f y) = - sg (k y) := by
  obtain ⟨d, hd, h1⟩ := pair hg hk hU hV hc e M
  obtain ⟨B, hB, hB2⟩ := hβ.bd M
  have hp : 0 < γ * d / 2 := by have := Rat.mul_pos hγ hd; grind
  obtain ⟨h, hh, h2⟩ := h1 (γ * d / 2 / B) (div_pos hB hp)
  refine ⟨h, hh, fun x y t hs => ?_⟩
  obtain ⟨a1, a2, a3, a4, a5⟩ := h2 x y t hs
  have key : ∀ z, Bd z M → Bd (g z) (γ * d / 2 / B) → Far (k z) d → sg (f z) = - sg (k z) := fun z hz hb hf => by
    have h3 := (hB2 z hz).mul hb
    rw [div_mul_le hB] at h3
    have h4 := e2 z
    obtain ⟨h5, h6⟩ := h3
    rcases hf with hf | hf
    · have h7 := Rat.mul_le_mul_of_nonneg_left hf (Rat.le_of_lt hγ)
      have h8 : α * f z < 0 := by grind
      have h9 : f z < 0 := (Rat.mul_neg_iff_of_pos_left hα).mp h8
      rw [sg_neg h9, sg_pos (by grind)]
    · have h7 := Rat.mul_le_mul_of_nonneg_left hf (Rat.le_of_lt hγ)
      have h8 : 0 < α * f z := by grind
      have h9 : 0 < f z := (Rat.mul_pos_iff_of_pos_left hα).mp h8
      rw [sg_pos h9, sg_neg (by grind)]
      rfl
  exact ⟨a1, key x t.bx a4 a2, key y t.by_ a5 a3⟩
/-! chains -/
inductive Ch : List (Rat → Rat) → Prop
  | one {f : Rat → Rat} {c : Rat} : c ≠ 0 → (∀ x, f x = c) → Ch [f]
  | two {f g : Rat → Rat} : Pol f → Ch [g] → Ch [f, g]
  | more {f g k : Rat → Rat} {r : List (Rat → Rat)} {α γ : Rat} {β : Rat → Rat} : Pol f → 0 < α → 0 < γ → Pol β → (∀ x, α * f x + γ * k x = β x * g x) → Ch (g :: k :: r) → Ch (f :: g :: k :: r)
theorem Ch.pol {f : Rat → Rat} {r : List (Rat → Rat)} : Ch (f :: r) → Pol f
  | .one _ h => (Pol.const _).congr h
  | .two h _ => h
  | .more h _ _ _ _ _ => h
theorem Ch.bez : ∀ {r : List (Rat → Rat)} {f g : Rat → Rat}, Ch (f :: g :: r) → ∃ U V c, Pol U ∧ Pol V ∧ c ≠ 0 ∧ ∀ x, U x * f x + V x * g x = c
  | _, f, g, .two hf (.one hc h) => ⟨fun _ => 0, fun _ => 1, _, .const 0, .const 1, hc, fun x => by rw [h]; grind⟩
  | _, f, g, .more (k := k) (α := α) (γ := γ) (β := β) hf hα hγ hβ e hr => by
    obtain ⟨U, V, c, hU, hV, hc, h⟩ := Ch.bez hr
    refine ⟨fun x => (-α / γ) * V x, fun x => U x + (1 / γ) * (V x * β x), c, .smul _ hV, hU.add ((hV.mul hβ).smul _), hc, fun x => ?_⟩
    have h1 := h x
    have h2 := e x
    have h3 : k x = (1 / γ) * (β x * g x) - (α / γ) * f x := by grind
    rw [h3] at h1
    grind
def sgs (r : List (Rat → Rat)) (x : Rat) : List Int := r.map fun f => sg (f x)
theorem Ch.sim (M : Rat) : ∀ {r : List (Rat → Rat)}, Ch r → ∃ h, 0 < h ∧ ∀ x y, Tiny M h x y → (∀ f ∈ r.head?, Same f x y) → Sim (sgs r x) (sgs r y)
  | _, .one (f := f) _ _ => ⟨1, by grind, fun x y _ hs => by
      obtain ⟨h1, h2⟩ := hs f rfl
      simp only [sgs, List.map_cons, List.map_nil, ← h1]
      exact .last h2⟩
  | _, .two (f := f) (g := g) _ (.one (c := c) hc h) => ⟨1, by grind, fun x y _ hs => by
      obtain ⟨h1, h2⟩ := hs f rfl
      simp only [sgs, List.map_cons, List.map_nil, ← h1]
      refine .big h2 ?_
      rw [h x, h y]
      refine .last ?_
      rcases sg_cases c with ⟨a, b⟩ | ⟨a, b⟩ | ⟨a, b⟩
      · rw [b]; decide
      · rw [b]; decide
      · exact absurd a hc⟩
  | _, .more (f := f) (g := g) (k := k) (r := r) hf hα hγ hβ e hr => by
    obtain ⟨h1, hh1, s1⟩ := Ch.sim M hr
    have hk : Ch (k :: r) := by
      cases hr with
      | two _ h => exact h
      | more _ _ _ _ _ h => exact h
    have hkr : ∃ h, 0 < h ∧ ∀ x y, Tiny M h x y → Same k x y → Sim (sgs (k :: r) x) (sgs (k :: r) y) := by
      cases hr with
      | two _ h =>
        obtain ⟨h2, hh2, s2⟩ := Ch.sim M h
        exact ⟨h2, hh2, fun x y t hs => s2 x y t (fun f hf => by simp at hf; subst hf; exact hs)⟩
      | more _ _ _ _ _ h =>
        obtain ⟨h2, hh2, s2⟩ := Ch.sim M h
        exact ⟨h2, hh2, fun x y t hs => s2 x y t (fun f hf => by simp at hf; subst hf; exact hs)⟩
    obtain ⟨h2, hh2, s2⟩ := hkr
    obtain ⟨U, V, c, hU, hV, hc, hb⟩ := Ch.bez hr
    obtain ⟨h3, hh3, s3⟩ := triple hr.pol hk.pol hU hV hβ hc hb hα hγ e M
    refine ⟨mn h1 (mn h2 h3), mn_pos hh1 (mn_pos hh2 hh3), fun x y t hs => ?_⟩
    obtain ⟨a1, a2⟩ := hs f rfl
    by_cases hg : Same g x y
    · have := s1 x y (t.mono (mn_l _ _)) (fun f hf => by simp at hf; subst hf; exact hg)
      simp only [sgs, List.map_cons] at this ⊢
      rw [← a1]
      exact .big a2 this
    · have t' := t.mono (mn_r _ _)
      obtain ⟨b1, b2, b3⟩ := s3 x y (t'.mono (mn_r _ _)) hg
      have := s2 x y (t'.mono (mn_l _ _)) b1
      have e1 : sg (k x) = - sg (f x) := by omega
      have e2 : sg (k y) = - sg (f x) := by rw [← b1.1]; exact e1
      simp only [sgs, List.map_cons, e1, e2] at this ⊢
      rw [← a1]
      have hu : ∀ z, sg z = 0 ∨ sg z = sg (f x) ∨ sg z = - sg (f x) := fun z => by
        rcases sg_cases z with ⟨_, b⟩ | ⟨_, b⟩ | ⟨_, b⟩ <;> rcases sg_cases (f x) with ⟨_, b'⟩ | ⟨_, b'⟩ | ⟨_, b'⟩ <;> omega
      exact .small a2 (hu _) (hu _) this
/-! the head of a chain -/
def On (x y : Rat) (P : Rat → Prop) : Prop := ∀ t, x ≤ t → t ≤ y → P t
theorem head {q q' U V : Rat → Rat} (hd : Der q q') (hU : Pol U) (hV : Pol V) {c : Rat} (hc : c ≠ 0) (e : ∀ x, U x * q x + V x * q' x = c) (M : Rat) :
    ∃ h η, 0 < h ∧ 0 < η ∧ ∀ x y, Tiny M h x y → (On x y fun t => η ≤ q t) ∨ (On x y fun t => q t ≤ -η) ∨
      (0 < q' x ∧ 0 < q' y ∧ On x y fun t => ∀ u, t < u → u ≤ y → q t < q u) ∨ (q' x < 0 ∧ q' y < 0 ∧ On x y fun t => ∀ u, t < u → u ≤ y → q u < q t) := by
  obtain ⟨η, d, hη, hd0, h1⟩ := bez hU hV hc e M
  obtain ⟨L, hL, h2⟩ := hd.pol.lip M
  obtain ⟨L', hL', h3⟩ := hd.pol'.lip M
  obtain ⟨C, hC, h4⟩ := hd.tay M
  refine ⟨mn (η / 2 / L) (mn (d / 2 / L') (d / 4 / C)), η / 2, mn_pos (div_pos hL (by grind)) (mn_pos (div_pos hL' (by grind)) (div_pos hC (by grind))), by grind, fun x y t => ?_⟩
  have hM : ∀ u, x ≤ u → u ≤ y → Bd u M := fun u a b => ⟨by have := t.bx.1; grind, by have := t.by_.2; grind⟩
  have l1 : ∀ u v, x ≤ u → u ≤ v → v ≤ y → Bd (q v - q u) (η / 2) := fun u v a b cc => by
    refine (h2 u v (hM u a (by grind)) (hM v (by grind) cc) b).mono ?_
    have : v - u ≤ η / 2 / L := by have := t.le; have := mn_l (η / 2 / L) (mn (d / 2 / L') (d / 4 / C)); grind
    have := Rat.mul_le_mul_of_nonneg_left this (Rat.le_of_lt hL)
    rw [div_mul_le hL] at this
    exact this
  have l2 : ∀ u v, x ≤ u → u ≤ v → v ≤ y → Bd (q' v - q' u) (d / 2) := fun u v a b cc => by
    refine (h3 u v (hM u a (by grind)) (hM v (by grind) cc) b).mono ?_
    have : v - u ≤ d / 2 / L' := by have := t.le; have := mn_r (η / 2 / L) (mn (d / 2 / L') (d / 4 / C)); have := mn_l (d / 2 / L') (d / 4 / C); grind
    have := Rat.mul_le_mul_of_nonneg_left this (Rat.le_of_lt hL')
    rw [div_mul_le hL'] at this
    exact this
  have l3 : ∀ u v, x ≤ u → u < v → v ≤ y → Bd (q v - q u - (v - u) * q' u) ((v - u) * (d / 4)) := fun u v a b cc => by
    refine (h4 u v (hM u a (by grind)) (hM v (by grind) cc)).mono ?_
    have : v - u ≤ d / 4 / C := by have := t.le; have := mn_r (η / 2 / L) (mn (d / 2 / L') (d / 4 / C)); have := mn_r (d / 2 / L') (d / 4 / C); grind
    have := Rat.mul_le_mul_of_nonneg_left this (Rat.le_of_lt hC)
    rw [div_mul_le hC] at this
    have := Rat.mul_le_mul_of_nonneg_left this (show 0 ≤ v - u by grind)
    grind
  by_cases hx : ∃ t0, x ≤ t0 ∧ t0 ≤ y ∧ Bd (q t0) η
  · obtain ⟨t0, ht1, ht2, hb⟩ := hx
    rcases h1 t0 (hM t0 ht1 ht2) hb with hf | hf
    · have hp : ∀ u, x ≤ u → u ≤ y → d / 2 ≤ q' u := fun u a b => by
        by_cases hc : u ≤ t0
        · have := l2 u t0 a hc ht2; obtain ⟨_, _⟩ := this; grind
        · have := l2 t0 u ht1 (by grind) b; obtain ⟨_, _⟩ := this; grind
      refine .inr (.inr (.inl ⟨by have := hp x (by grind) (Rat.le_of_lt t.lt); grind, by have := hp y (Rat.le_of_lt t.lt) (by grind); grind, fun u a b v c1 c2 => ?_⟩))
      have h5 := (l3 u v a c1 c2).1
      have h6 := Rat.mul_le_mul_of_nonneg_left (hp u a b) (show 0 ≤ v - u by grind)
      have h7 := Rat.mul_pos (show 0 < v - u by grind) (show 0 < d / 4 by grind)
      grind
    · have hp : ∀ u, x ≤ u → u ≤ y → q' u ≤ -(d / 2) := fun u a b => by
        by_cases hc : u ≤ t0
        · have := l2 u t0 a hc ht2; obtain ⟨_, _⟩ := this; grind
        · have := l2 t0 u ht1 (by grind) b; obtain ⟨_, _⟩ := this; grind
      refine .inr (.inr (.inr ⟨by have := hp x (by grind) (Rat.le_of_lt t.lt); grind, by have := hp y (Rat.le_of_lt t.lt) (by grind); grind, fun u a b v c1 c2 => ?_⟩))
      have h5 := (l3 u v a c1 c2).2
      have h6 := Rat.mul_le_mul_of_nonneg_left (hp u a b) (show 0 ≤ v - u by grind)
      have h7 := Rat.mul_pos (show 0 < v - u by grind) (show 0 < d / 4 by grind)
      grind
  · have hn : ∀ u, x ≤ u → u ≤ y → η < q u ∨ q u < -η := fun u a b => by
      refine Classical.byContradiction fun hh => hx ⟨u, a, b, ?_⟩
      constructor <;> grind
    rcases hn x (by grind) (Rat.le_of_lt t.lt) with h5 | h5
    · refine .inl fun u a b => ?_
      have := (l1 x u (by grind) a b).1
      grind
    · refine .inr (.inl fun u a b => ?_)
      have := (l1 x u (by grind) a b).2
      grind
end Sm

set_option Elab.async false
set_option linter.all false
namespace Sm
def V (r : List (Rat → Rat)) (x : Rat) : Int := chgF 0 (sgs r x)
def NZ (f : Rat → Rat) (x y : Rat) : Prop := ∃ δ, 0 < δ ∧ On x y fun t => Far (f t) δ
/-- a walk by small steps -/
theorem grid {h : Rat} (hh : 0 < h) (P : Rat → Prop) {x y : Rat} (hxy : x ≤ y) (h0 : P x) (hs : ∀ t u, x ≤ t → t < u → u ≤ y → u - t ≤ h → P t → P u) : P y := by
  have key : ∀ n : Nat, ∀ u, x ≤ u → u ≤ y → u - x ≤ (n : Rat) * h → P u := by
    intro n
    induction n with
    | zero =>
      intro u a b c
      have : u = x := by
        have : ((0 : Nat) : Rat) * h = 0 := by grind
        rw [this] at c; grind
      rw [this]; exact h0
    | succ n ih =>
      intro u a b c
      have e : ((n + 1 : Nat) : Rat) * h = (n : Rat) * h + h := by rw [Rat.natCast_add]; grind
      rw [e] at c
      by_cases hc : u - h ≤ x
      · by_cases hu : u = x
        · rw [hu]; exact h0
        · exact hs x u (by grind) (by grind) b (by grind) h0
      · exact hs (u - h) u (by grind) (by grind) b (by grind) (ih (u - h) (by grind) (by grind) (by grind))
  have hb : ∃ n : Nat, y - x ≤ (n : Rat) * h := by
    refine ⟨((y - x) / h).floor.toNat + 1, ?_⟩
    have h1 := Rat.lt_floor_add_one ((y - x) / h)
    have h2 : ((((y - x) / h).floor + 1 : Int) : Rat) ≤ ((((y - x) / h).floor.toNat + 1 : Nat) : Rat) := by
      rw [← Rat.intCast_natCast, Rat.intCast_le_intCast]
      omega
    have h3 : (y - x) / h ≤ ((((y - x) / h).floor.toNat + 1 : Nat) : Rat) := by grind
    have h4 := Rat.mul_le_mul_of_nonneg_right h3 (Rat.le_of_lt hh)
    rw [Rat.div_mul_cancel (by grind)] at h4
    exact h4
  obtain ⟨n, hn⟩ := hb
  exact key n y hxy Rat.le_refl hn
theorem Bd.both (x y : Rat) : ∃ M, Bd x M ∧ Bd y M := by
  obtain ⟨a, _, ha⟩ := Bd.self x
  obtain ⟨b, _, hb⟩ := Bd.self y
  exact ⟨a + b, ha.mono (by grind), hb.mono (by grind)⟩
theorem Bd.mid {x y t M : Rat} (hx : Bd x M) (hy : Bd y M) (h1 : x ≤ t) (h2 : t ≤ y) : Bd t M := by
  obtain ⟨a, b⟩ := hx
  obtain ⟨c, d⟩ := hy
  constructor <;> grind
theorem Far.mul {x y a b : Rat} (ha : 0 < a) (hb : 0 < b) : Far x a → Far y b → Far (x * y) (a * b) := by
  intro h1 h2
  rcases h1 with h1 | h1 <;> rcases h2 with h2 | h2
  · left
    have := Rat.mul_le_mul_of_nonneg_left h2 (show 0 ≤ x by grind)
    have := Rat.mul_le_mul_of_nonneg_right h1 (show 0 ≤ b by grind)
    grind
  · right
    have := Rat.mul_le_mul_of_nonneg_left h2 (show 0 ≤ x by grind)
    have := Rat.mul_le_mul_of_nonneg_right h1 (show 0 ≤ b by grind)
    grind
  · right
    have := Rat.mul_le_mul_of_nonneg_left h2 (show 0 ≤ -x by grind)
    have := Rat.mul_le_mul_of_nonneg_right (show a ≤ -x by grind) (show 0 ≤ b by grind)
    grind
  · left
    have := Rat.mul_le_mul_of_nonneg_left h2 (show 0 ≤ -x by grind)
    have := Rat.mul_le_mul_of_nonneg_right (show a ≤ -x by grind) (show 0 ≤ b by grind)
    grind
theorem NZ.mul {f g : Rat → Rat} {x y : Rat} : NZ f x y → NZ g x y → NZ (fun t => f t * g t) x y
  | ⟨a, ha, h1⟩, ⟨b, hb, h2⟩ => ⟨a * b, Rat.mul_pos ha hb, fun t u v => (h1 t u v).mul ha hb (h2 t u v)⟩
theorem NZ.of_mul {f g : Rat → Rat} (hg : Pol g) {x y : Rat} (hxy : x ≤ y) : NZ (fun t => f t * g t) x y → NZ f x y
  | ⟨a, ha, h1⟩ => by
    obtain ⟨M, hx, hy⟩ := Bd.both x y
    obtain ⟨B, hB, h2⟩ := hg.bd M
    refine ⟨a / 2 / B, div_pos hB (by grind), fun t u v => Classical.byContradiction fun hn => ?_⟩
    have h4 : Bd (f t) (a / 2 / B) := by
      unfold Far at hn
      constructor <;> grind
    have h5 := (h2 t (hx.mid hy u v)).mul h4
    rw [div_mul_le hB] at h5
    have h6 := h1 t u v
    have : g t * f t = f t * g t := by grind
    rw [this] at h5
    exact h6.not_bd (by grind) h5
theorem NZ.congr {f g : Rat → Rat} {x y : Rat} (h : NZ f x y) (e : ∀ t, g t = f t) : NZ g x y := by
  obtain ⟨a, ha, h1⟩ := h
  exact ⟨a, ha, fun t u v => by show Far (g t) a; rw [e]; exact h1 t u v⟩
theorem NZ.const {c : Rat} (hc : c ≠ 0) (x y : Rat) : NZ (fun _ => c) x y := by
  by_cases h : 0 < c
  · exact ⟨c, h, fun _ _ _ => .inl Rat.le_refl⟩
  · exact ⟨-c, by grind, fun _ _ _ => .inr (by grind)⟩
theorem NZ.pow {f : Rat → Rat} {x y : Rat} (h : NZ f x y) : ∀ k : Nat, NZ (fun t => f t ^ k) x y
  | 0 => (NZ.const (c := 1) (by grind) x y).congr fun t => by rw [Rat.pow_zero]
  | k + 1 => ((NZ.pow h k).mul h).congr fun t => by rw [Rat.pow_succ]
theorem NZ.ne {f : Rat → Rat} {x y t : Rat} (h : NZ f x y) (h1 : x ≤ t) (h2 : t ≤ y) : f t ≠ 0 := by
  obtain ⟨a, ha, h3⟩ := h
  intro e
  rcases h3 t h1 h2 with h | h <;> grind
theorem NZ.mono {f : Rat → Rat} {x y x' y' : Rat} (h : NZ f x y) (h1 : x ≤ x') (h2 : y' ≤ y) : NZ f x' y' := by
  obtain ⟨a, ha, h3⟩ := h
  exact ⟨a, ha, fun t u v => h3 t (by grind) (by grind)⟩
theorem NZ.same {f : Rat → Rat} (hf : Pol f) {x y : Rat} (hxy : x ≤ y) (h : NZ f x y) : sg (f x) = sg (f y) := by
  obtain ⟨M, hx, hy⟩ := Bd.both x y
  obtain ⟨a, ha, h1⟩ := h
  obtain ⟨h0, hh0, h2⟩ := small hf M (show 0 < a / 2 by grind)
  refine grid hh0 (fun t => sg (f x) = sg (f t)) hxy rfl fun t u b1 b2 b3 b4 ih => ?_
  refine ih.trans (Classical.byContradiction fun hn => ?_)
  have := (h2 t u ⟨hx.mid hy b1 (by grind), hx.mid hy (by grind) b3, b2, b4⟩ (fun hs => hn hs.1)).1
  exact (h1 t b1 (by grind)).not_bd (by grind) this
/-- one small step over a chain -/
def Cross (q : Rat → Rat) (x y : Rat) : Prop := q x ≠ 0 ∧ (q y = 0 ∨ (0 < q x ∧ q y < 0) ∨ (q x < 0 ∧ 0 < q y))
structure StepQ (r : List (Rat → Rat)) (q : Rat → Rat) (x y : Rat) : Prop where
  yes : Cross q x y → V r x - V r y = 1
  not : ¬ Cross q x y → V r x = V r y
  one : q x = 0 → q y ≠ 0
  nz : q x ≠ 0 → ¬ Cross q x y → NZ q x y
theorem headF {u s : Int} {S : List Int} (hs : s = 1 ∨ s = -1) (hu : u = 0 ∨ u = 1 ∨ u = -1) : chgF 0 (u :: s :: S) = (if u = -s then 1 else 0) + chgF s S := by
  rcases hs with rfl | rfl <;> rcases hu with rfl | rfl | rfl <;> simp [chgF]
theorem sg3 (x : Rat) : sg x = 0 ∨ sg x = 1 ∨ sg x = -1 := by
  rcases sg_cases x with ⟨_, h⟩ | ⟨_, h⟩ | ⟨_, h⟩ <;> omega
theorem stepQ1 {q : Rat → Rat} (h : Ch [q]) (M : Rat) : ∃ h, 0 < h ∧ ∀ x y, Tiny M h x y → StepQ [q] q x y := by
  cases h with
  | @one _ c hc he =>
    refine ⟨1, by grind, fun x y t => ⟨fun hx => ?_, fun _ => ?_, fun e => ?_, fun _ _ => (NZ.const hc x y).congr he⟩⟩
    · obtain ⟨a, b⟩ := hx
      rw [he, he] at b
      grind
    · simp only [V, sgs, List.map_cons, List.map_nil, he]
    · exact absurd (he x ▸ e) hc
theorem stepQ2 {q q' : Rat → Rat} {r : List (Rat → Rat)} (hd : Der q q') (hc : Ch (q :: q' :: r)) (M : Rat) : ∃ h, 0 < h ∧ ∀ x y, Tiny M h x y → StepQ (q :: q' :: r) q x y := by
  obtain ⟨U, W, c, hU, hW, hc0, hb⟩ := hc.bez
  obtain ⟨h1, η, hh1, hη, s1⟩ := head hd hU hW hc0 hb M
  obtain ⟨h2, hh2, s2⟩ := Ch.sim M hc
  have hr : Ch (q' :: r) := by
    cases hc with
    | two _ h => exact h
    | more _ _ _ _ _ h => exact h
  obtain ⟨h3, hh3, s3⟩ := Ch.sim M hr
  refine ⟨mn h1 (mn h2 h3), mn_pos hh1 (mn_pos hh2 hh3), fun x y t => ?_⟩
  have t2 := (t.mono (mn_r _ _)).mono (mn_l _ _)
  have t3 := (t.mono (mn_r _ _)).mono (mn_r _ _)
  have lt := t.lt
  rcases s1 x y (t.mono (mn_l _ _)) with a | a | ⟨a1, a2, a3⟩ | ⟨a1, a2, a3⟩
  · have ax := a x (by grind) (by grind)
    have ay := a y (by grind) (by grind)
    have nc : ¬ Cross q x y := fun ⟨_, h⟩ => by grind
    have hS : Same q x y := ⟨by rw [sg_pos (by grind), sg_pos (by grind)], by rw [sg_pos (by grind)]; decide⟩
    refine ⟨fun h => absurd h nc, fun _ => (s2 x y t2 (fun f hf => by simp at hf; subst hf; exact hS)).chg 0, fun e => by grind, fun _ _ => ⟨η, hη, fun t u v => .inl (a t u v)⟩⟩
  · have ax := a x (by grind) (by grind)
    have ay := a y (by grind) (by grind)
    have nc : ¬ Cross q x y := fun ⟨_, h⟩ => by grind
    have hS : Same q x y := ⟨by rw [sg_neg (by grind), sg_neg (by grind)], by rw [sg_neg (by grind)]; decide⟩
    refine ⟨fun h => absurd h nc, fun _ => (s2 x y t2 (fun f hf => by simp at hf; subst hf; exact hS)).chg 0, fun e => by grind, fun _ _ => ⟨η, hη, fun t u v => .inr (a t u v)⟩⟩
  · have hS : Same q' x y := ⟨by rw [sg_pos a1, sg_pos a2], by rw [sg_pos a1]; decide⟩
    have hs := (s3 x y t3 (fun f hf => by simp at hf; subst hf; exact hS)).chg 1
    simp only [sgs, List.map_cons, sg_pos a1, sg_pos a2] at hs
    have hs2 : chgF 1 (List.map (fun f => sg (f x)) r) = chgF 1 (List.map (fun f => sg (f y)) r) := by simpa [chgF] using hs
    have lxy := a3 x (by grind) (by grind) y lt (by grind)
    have ex : V (q :: q' :: r) x = (if sg (q x) = -1 then 1 else 0) + chgF 1 (List.map (fun f => sg (f x)) r) := by
      simp only [V, sgs, List.map_cons, sg_pos a1]
      exact headF (.inl rfl) (sg3 _)
    have ey : V (q :: q' :: r) y = (if sg (q y) = -1 then 1 else 0) + chgF 1 (List.map (fun f => sg (f y)) r) := by
      simp only [V, sgs, List.map_cons, sg_pos a2]
      exact headF (.inl rfl) (sg3 _)
    refine ⟨fun ⟨h4, h5⟩ => ?_, fun hn => ?_, fun e => by grind, fun h4 hn => ?_⟩
    · have e1 : q x < 0 := by grind
      have e2 : ¬ q y < 0 := by grind
      have e3 : sg (q y) ≠ -1 := by
        rcases sg_cases (q y) with ⟨_, h⟩ | ⟨_, h⟩ | ⟨_, h⟩
        · rw [h]; decide
        · exact absurd ‹_› e2
        · rw [h]; decide
      rw [ex, ey, hs2, sg_neg e1, if_neg e3]
      simp
    · rw [ex, ey, hs2]
      have : sg (q x) = -1 ↔ sg (q y) = -1 := by
        rcases sg_cases (q x) with ⟨c1, h⟩ | ⟨c1, h⟩ | ⟨c1, h⟩ <;> rcases sg_cases (q y) with ⟨c2, h'⟩ | ⟨c2, h'⟩ | ⟨c2, h'⟩ <;> rw [h, h'] <;> first | (exact Iff.rfl) | (exact ⟨fun h => absurd h (by decide), fun h => absurd h (by decide)⟩) | (exact absurd ⟨by grind, by grind⟩ hn) | (exfalso; grind)
      simp only [this]
    · by_cases hp : 0 < q x
      · exact ⟨q x, hp, fun t u v => .inl (by
          by_cases hxt : x < t
          · have := a3 x (by grind) (by grind) t hxt v; grind
          · have : t = x := by grind
            rw [this]; grind)⟩
      · have e1 : q x < 0 := by grind
        have e2 : q y < 0 := by
          refine Classical.byContradiction fun hh => hn ⟨h4, ?_⟩
          by_cases hz : q y = 0
          · exact .inl hz
          · exact .inr (.inr ⟨e1, by grind⟩)
        exact ⟨-q y, by grind, fun t u v => .inr (by
          by_cases hxt : t < y
          · have := a3 t u v y hxt (by grind); grind
          · have : t = y := by grind
            rw [this]; grind)⟩
  · have hS : Same q' x y := ⟨by rw [sg_neg a1, sg_neg a2], by rw [sg_neg a1]; decide⟩
    have hs := (s3 x y t3 (fun f hf => by simp at hf; subst hf; exact hS)).chg (-1)
    simp only [sgs, List.map_cons, sg_neg a1, sg_neg a2] at hs
    have hs2 : chgF (-1) (List.map (fun f => sg (f x)) r) = chgF (-1) (List.map (fun f => sg (f y)) r) := by simpa [chgF] using hs
    have lxy := a3 x (by grind) (by grind) y lt (by grind)
    have ex : V (q :: q' :: r) x = (if sg (q x) = 1 then 1 else 0) + chgF (-1) (List.map (fun f => sg (f x)) r) := by
      simp only [V, sgs, List.map_cons, sg_neg a1]
      exact headF (.inr rfl) (sg3 _)
    have ey : V (q :: q' :: r) y = (if sg (q y) = 1 then 1 else 0) + chgF (-1) (List.map (fun f => sg (f y)) r) := by
      simp only [V, sgs, List.map_cons, sg_neg a2]
      exact headF (.inr rfl) (sg3 _)
    refine ⟨fun ⟨h4, h5⟩ => ?_, fun hn => ?_, fun e => by grind, fun h4 hn => ?_⟩
    · have e1 : 0 < q x := by grind
      have e2 : ¬ 0 < q y := by grind
      have e3 : sg (q y) ≠ 1 := by
        rcases sg_cases (q y) with ⟨_, h⟩ | ⟨_, h⟩ | ⟨_, h⟩
        · exact absurd ‹_› e2
        · rw [h]; decide
        · rw [h]; decide
      rw [ex, ey, hs2, sg_pos e1, if_neg e3]
      simp
    · rw [ex, ey, hs2]
      have : sg (q x) = 1 ↔ sg (q y) = 1 := by
        rcases sg_cases (q x) with ⟨c1, h⟩ | ⟨c1, h⟩ | ⟨c1, h⟩ <;> rcases sg_cases (q y) with ⟨c2, h'⟩ | ⟨c2, h'⟩ | ⟨c2, h'⟩ <;> rw [h, h'] <;> first | (exact Iff.rfl) | (exact ⟨fun h => absurd h (by decide), fun h => absurd h (by decide)⟩) | (exact absurd ⟨by grind, by grind⟩ hn) | (exfalso; grind)
      simp only [this]
    · by_cases hp : q x < 0
      · exact ⟨-q x, by grind, fun t u v => .inr (by
          by_cases hxt : x < t
          · have := a3 x (by grind) (by grind) t hxt v; grind
          · have : t = x := by grind
            rw [this]; grind)⟩
      · have e1 : 0 < q x := by grind
        have e2 : 0 < q y := by
          refine Classical.byContradiction fun hh => hn ⟨h4, ?_⟩
          by_cases hz : q y = 0
          · exact .inl hz
          · exact .inr (.inl ⟨e1, by grind⟩)
        exact ⟨q y, by grind, fun t u v => .inl (by
          by_cases hxt : t < y
          · have := a3 t u v y hxt (by grind); grind
          · have : t = y := by grind
            rw [this]; grind)⟩
end Sm

set_option Elab.async false
set_option linter.all false
namespace Sm
theorem pow_ne {x : Rat} (h : x ≠ 0) : ∀ k : Nat, x ^ k ≠ 0
  | 0 => by rw [Rat.pow_zero]; decide
  | k + 1 => fun e => by
    rw [Rat.pow_succ] at e
    rcases Rat.mul_eq_zero.mp e with e | e
    · exact pow_ne h k e
    · exact h e
structure Stu (p : Rat → Rat) (W : Rat → Int) : Prop where
  pol : Pol p
  loc : ∀ M, ∃ h, 0 < h ∧ ∀ x y, Tiny M h x y → (p x ≠ 0 → ¬ NZ p x y → W x - W y = 1) ∧ (p x = 0 ∨ NZ p x y → W x = W y) ∧ (p x = 0 → p y ≠ 0)
theorem stu_of {p q g s : Rat → Rat} {r : List (Rat → Rat)} {lam c : Rat} {k : Nat} (hp : Pol p) (hq : Pol q) (hg : Pol g) (hs : Pol s) (hl : lam ≠ 0) (hc : c ≠ 0)
    (e1 : ∀ x, lam * p x = q x * g x) (e2 : ∀ x, c * q x ^ k = g x * s x)
    (st : ∀ M, ∃ h, 0 < h ∧ ∀ x y, Tiny M h x y → StepQ r q x y) : Stu p (V r) := by
  have z1 : ∀ x, q x = 0 → p x = 0 := fun x h => by
    have := e1 x
    rw [h] at this
    rcases Rat.mul_eq_zero.mp (show lam * p x = 0 by grind) with h | h
    · exact absurd h hl
    · exact h
  have z2 : ∀ x, p x = 0 → q x = 0 := fun x h => Classical.byContradiction fun hn => by
    have h1 := e1 x
    rw [h] at h1
    rcases Rat.mul_eq_zero.mp (show q x * g x = 0 by grind) with h2 | h2
    · exact hn h2
    · have h3 := e2 x
      rw [h2] at h3
      rcases Rat.mul_eq_zero.mp (show c * q x ^ k = 0 by grind) with h4 | h4
      · exact hc h4
      · exact pow_ne hn k h4
  have n1 : ∀ x y, x ≤ y → NZ p x y → NZ q x y := fun x y hxy h =>
    NZ.of_mul hg hxy ((((NZ.const hl x y).mul h)).congr fun t => (e1 t).symm)
  have n2 : ∀ x y, x ≤ y → NZ q x y → NZ p x y := fun x y hxy h => by
    have a : NZ g x y := NZ.of_mul hs hxy (((NZ.const hc x y).mul (h.pow k)).congr fun t => (e2 t).symm)
    have b : NZ (fun t => p t * lam) x y := (h.mul a).congr fun t => by rw [← e1]; grind
    exact NZ.of_mul (.const lam) hxy b
  refine ⟨hp, fun M => ?_⟩
  obtain ⟨h, hh, h1⟩ := st M
  refine ⟨h, hh, fun x y t => ?_⟩
  have s1 := h1 x y t
  have lt := Rat.le_of_lt t.lt
  refine ⟨fun a b => ?_, fun a => ?_, fun a b => s1.one (z2 x a) (z2 y b)⟩
  · refine s1.yes (Classical.byContradiction fun hn => b (n2 x y lt (s1.nz (fun h => a (z1 x h)) hn)))
  · refine s1.not fun hn => ?_
    rcases a with a | a
    · exact hn.1 (z2 x a)
    · have b := (n1 x y lt a).same hq lt
      have b2 := (n1 x y lt a).ne lt Rat.le_refl
      rcases hn.2 with c | ⟨c, d⟩ | ⟨c, d⟩
      · exact b2 c
      · rw [sg_pos c, sg_neg d] at b; exact absurd b (by decide)
      · rw [sg_neg c, sg_pos d] at b; exact absurd b (by decide)
section
variable {p : Rat → Rat} {W : Rat → Int}
theorem Stu.mono (S : Stu p W) {x y : Rat} (hxy : x ≤ y) : W y ≤ W x := by
  obtain ⟨M, hx, hy⟩ := Bd.both x y
  obtain ⟨h, hh, h1⟩ := S.loc M
  refine grid hh (fun t => W t ≤ W x) hxy (Int.le_refl _) fun t u a b c d ih => ?_
  obtain ⟨l1, l2, _⟩ := h1 t u ⟨hx.mid hy a (by grind), hx.mid hy (by grind) c, b, d⟩
  by_cases h2 : p t = 0 ∨ NZ p t u
  · have := l2 h2; omega
  · have := l1 (fun h => h2 (.inl h)) (fun h => h2 (.inr h)); omega
theorem Stu.root (S : Stu p W) {x y : Rat} (hxy : x < y) (h0 : p y = 0) : W y < W x := by
  obtain ⟨M, hx, hy⟩ := Bd.both x y
  obtain ⟨h, hh, h1⟩ := S.loc M
  have key : ∀ t, x ≤ t → t < y → y - t ≤ h → W y < W x := fun t a b c => by
    have T : Tiny M h t y := ⟨hx.mid hy a (by grind), hy, b, c⟩
    obtain ⟨l1, _, l3⟩ := h1 t y T
    have h2 : p t ≠ 0 := fun h => l3 h h0
    have h3 := l1 h2 (fun h => h.ne (Rat.le_of_lt b) Rat.le_refl h0)
    have := S.mono a
    omega
  by_cases hc : y - h ≤ x
  · exact key x Rat.le_refl hxy (by grind)
  · exact key (y - h) (by grind) (by grind) (by grind)
theorem Stu.turn (S : Stu p W) {x y : Rat} (hxy : x ≤ y) (h0 : p x ≠ 0) (h0' : sg (p x) ≠ sg (p y)) : W y < W x := by
  refine Classical.byContradiction fun hn => h0' ?_
  have e : ∀ t, x ≤ t → t ≤ y → W t = W x := fun t a b => by
    have := S.mono a
    have := S.mono b
    omega
  obtain ⟨M, hx, hy⟩ := Bd.both x y
  obtain ⟨h, hh, h1⟩ := S.loc M
  refine grid hh (fun t => sg (p x) = sg (p t)) hxy rfl fun t u a b c d ih => ?_
  obtain ⟨l1, _, _⟩ := h1 t u ⟨hx.mid hy a (by grind), hx.mid hy (by grind) c, b, d⟩
  have h2 : p t ≠ 0 := fun h => by
    rw [sg_zero h] at ih
    rcases sg_cases (p x) with ⟨_, q⟩ | ⟨_, q⟩ | ⟨q, _⟩
    · omega
    · omega
    · exact h0 q
  have h3 : NZ p t u := Classical.byContradiction fun hh => by
    have := l1 h2 hh
    have := e t a (by grind)
    have := e u (by grind) c
    omega
  exact ih.trans (h3.same S.pol (Rat.le_of_lt b))
theorem Stu.like {p2 : Rat → Rat} {W2 : Rat → Int} (S : Stu p W) (S2 : Stu p2 W2) (hz : ∀ x, p x = 0 ↔ p2 x = 0) (hn : ∀ x y, x ≤ y → (NZ p x y ↔ NZ p2 x y)) {x y : Rat} (hxy : x ≤ y) : W x - W y = W2 x - W2 y := by
  obtain ⟨M, hx, hy⟩ := Bd.both x y
  obtain ⟨h, hh, h1⟩ := S.loc M
  obtain ⟨h', hh', h2⟩ := S2.loc M
  refine grid (mn_pos hh hh') (fun t => W x - W t = W2 x - W2 t) hxy (by omega) fun t u a b c d ih => ?_
  have T : Tiny M (mn h h') t u := ⟨hx.mid hy a (by grind), hx.mid hy (by grind) c, b, d⟩
  obtain ⟨l1, l2, _⟩ := h1 t u (T.mono (mn_l _ _))
  obtain ⟨m1, m2, _⟩ := h2 t u (T.mono (mn_r _ _))
  have b' := Rat.le_of_lt b
  by_cases h3 : p t = 0 ∨ NZ p t u
  · have := l2 h3
    have := m2 (h3.imp (hz t).mp (hn t u b').mp)
    omega
  · have := l1 (fun h => h3 (.inl h)) (fun h => h3 (.inr h))
    have := m1 (fun h => h3 (.inl ((hz t).mpr h))) (fun h => h3 (.inr ((hn t u b').mpr h)))
    omega
theorem Stu.square {p2 : Rat → Rat} {W2 : Rat → Int} (S : Stu p W) (S2 : Stu p2 W2) (e : ∀ x, p2 x = p x * p x) {x y : Rat} (hxy : x ≤ y) : W x - W y = W2 x - W2 y :=
  S.like S2 (fun x => by
    rw [e]
    exact ⟨fun h => by rw [h]; grind, fun h => by rcases Rat.mul_eq_zero.mp h with h | h <;> exact h⟩)
    (fun x y hxy => ⟨fun h => (h.mul h).congr e, fun h => NZ.of_mul S.pol hxy (h.congr fun t => (e t).symm)⟩) hxy
theorem NZ.turned {p p2 : Rat → Rat} (e : ∀ x, p2 x = p (-x)) {x y : Rat} (h : NZ p x y) : NZ p2 (-y) (-x) := by
  obtain ⟨a, ha, h1⟩ := h
  exact ⟨a, ha, fun t u v => by
    show Far (p2 t) a
    rw [e]
    exact h1 (-t) (by grind) (by grind)⟩
theorem Stu.turned {p2 : Rat → Rat} {W2 : Rat → Int} (S : Stu p W) (S2 : Stu p2 W2) (e : ∀ x, p2 x = p (-x)) {x y : Rat} (hxy : x ≤ y) (hx0 : p x ≠ 0) (hy0 : p y ≠ 0) : W x - W y = W2 (-y) - W2 (-x) := by
  obtain ⟨M, hx, hy⟩ := Bd.both x y
  obtain ⟨h, hh, h1⟩ := S.loc M
  obtain ⟨h', hh', h2⟩ := S2.loc M
  have e' : ∀ x, p x = p2 (-x) := fun x => by rw [e, Rat.neg_neg]
  have key : W x - W y = W2 (-y) - W2 (-x) + (if p y = 0 then 1 else 0) := by
    refine grid (mn_pos hh hh') (fun t => W x - W t = W2 (-t) - W2 (-x) + (if p t = 0 then 1 else 0)) hxy (by rw [if_neg hx0]; omega) fun t u a b c d ih => ?_
    have T : Tiny M (mn h h') t u := ⟨hx.mid hy a (by grind), hx.mid hy (by grind) c, b, d⟩
    have T2 : Tiny M (mn h h') (-u) (-t) := ⟨T.by_.neg, T.bx.neg, by grind, by grind⟩
    obtain ⟨l1, l2, l3⟩ := h1 t u (T.mono (mn_l _ _))
    obtain ⟨m1, m2, m3⟩ := h2 (-u) (-t) (T2.mono (mn_r _ _))
    rw [← e'] at m1 m2 m3
    have b' := Rat.le_of_lt b
    by_cases h3 : NZ p t u
    · rw [if_neg (h3.ne b' Rat.le_refl)]
      rw [if_neg (h3.ne Rat.le_refl b')] at ih
      have := l2 (.inr h3)
      have := m2 (.inr (h3.turned e))
      omega
    · have h4 : ¬ NZ p2 (-u) (-t) := fun h => h3 (by
        have := h.turned e'
        rw [Rat.neg_neg, Rat.neg_neg] at this
        exact this)
      by_cases h5 : p t = 0
      · rw [if_neg (l3 h5)]
        rw [if_pos h5] at ih
        have := l2 (.inl h5)
        have := m1 (l3 h5) h4
        omega
      · rw [if_neg h5] at ih
        have := l1 h5 h3
        by_cases h6 : p u = 0
        · rw [if_pos h6]
          have := m2 (.inl h6)
          omega
        · rw [if_neg h6]
          have := m1 h6 h4
          omega
  rw [if_neg hy0] at key
  omega
/-- where all roots are known -/
def inR (x y r : Rat) : Bool := decide (x < r) && decide (r ≤ y)
theorem filt_one {α : Type} (P : α → Bool) : ∀ {l : List α}, l.Nodup → (∃ a ∈ l, P a = true) → (∀ a ∈ l, ∀ b ∈ l, P a = true → P b = true → a = b) → (l.filter P).length = 1
  | [], _, h, _ => by obtain ⟨a, h, _⟩ := h; simp at h
  | c :: l, hn, h, hu => by
    rw [List.nodup_cons] at hn
    by_cases hc : P c = true
    · have : l.filter P = [] := List.filter_eq_nil_iff.mpr fun a ha hp => hn.1 (by
        rw [hu c (List.mem_cons_self ..) a (List.mem_cons_of_mem _ ha) hc hp]; exact ha)
      rw [List.filter_cons_of_pos hc, this]; rfl
    · rw [List.filter_cons_of_neg hc]
      obtain ⟨a, ha, hp⟩ := h
      rcases List.mem_cons.mp ha with rfl | ha
      · exact absurd hp hc
      · exact filt_one P hn.2 ⟨a, ha, hp⟩ (fun a ha b hb => hu a (List.mem_cons_of_mem _ ha) b (List.mem_cons_of_mem _ hb))
theorem Stu.count (S : Stu p W) {rs : List Rat} (hn : rs.Nodup) (hr : ∀ r ∈ rs, p r = 0) (hnz : ∀ x y, x ≤ y → (∀ r ∈ rs, ¬ (x ≤ r ∧ r ≤ y)) → NZ p x y) {x y : Rat} (hxy : x ≤ y) : W x - W y = ((rs.filter (inR x y)).length : Int) := by
  obtain ⟨M, hx, hy⟩ := Bd.both x y
  obtain ⟨h, hh, h1⟩ := S.loc M
  have add : ∀ t u, x ≤ t → t ≤ u → ∀ l : List Rat, (l.filter (inR x u)).length = (l.filter (inR x t)).length + (l.filter (inR t u)).length := fun t u a b l => by
    induction l with
    | nil => rfl
    | cons c l ih =>
      have : (inR x u c).toNat = (inR x t c).toNat + (inR t u c).toNat := by
        unfold inR
        by_cases h1 : x < c <;> by_cases h2 : c ≤ u <;> by_cases h3 : c ≤ t <;> by_cases h4 : t < c <;> simp [h1, h2, h3, h4] <;> grind
      simp only [List.filter_cons]
      cases e1 : inR x u c <;> cases e2 : inR x t c <;> cases e3 : inR t u c <;> rw [e1, e2, e3] at this <;> simp at this ⊢ <;> omega
  refine grid hh (fun t => W x - W t = ((rs.filter (inR x t)).length : Int)) hxy ?_ fun t u a b c d ih => ?_
  · have : rs.filter (inR x x) = [] := List.filter_eq_nil_iff.mpr fun r _ => by
      unfold inR
      by_cases h1 : x < r <;> by_cases h2 : r ≤ x <;> simp [h1, h2] <;> grind
    rw [this]; simp
  · have T : Tiny M h t u := ⟨hx.mid hy a (by grind), hx.mid hy (by grind) c, b, d⟩
    obtain ⟨l1, l2, l3⟩ := h1 t u T
    have b' := Rat.le_of_lt b
    rw [add t u a b' rs]
    have uq : ∀ r ∈ rs, ∀ s ∈ rs, t ≤ r → r < s → s ≤ u → False := fun r h2 s h3 c1 c2 c3 => by
      have T' : Tiny M h r s := ⟨T.bx.mid T.by_ c1 (by grind), T.bx.mid T.by_ (by grind) c3, c2, by grind⟩
      exact (h1 r s T').2.2 (hr r h2) (hr s h3)
    have inr : ∀ r, inR t u r = true ↔ (t < r ∧ r ≤ u) := fun r => by unfold inR; simp
    by_cases h2 : ∃ r ∈ rs, inR t u r = true
    · have h3 := filt_one (inR t u) hn h2 (fun r c1 s c2 c3 c4 => by
        rw [inr] at c3 c4
        by_cases h4 : r = s
        · exact h4
        · exfalso
          by_cases h5 : r < s
          · exact uq r c1 s c2 (by grind) h5 c4.2
          · exact uq s c2 r c1 (by grind) (by grind) c3.2)
      obtain ⟨r, hr1, hr2⟩ := h2
      rw [inr] at hr2
      have h4 : p t ≠ 0 := fun hz => by
        have T' : Tiny M h t r := ⟨T.bx, T.bx.mid T.by_ (by grind) hr2.2, hr2.1, by have := T.le; grind⟩
        exact (h1 t r T').2.2 hz (hr r hr1)
      have := l1 h4 (fun h => h.ne (by grind) hr2.2 (hr r hr1))
      omega
    · have h3 : rs.filter (inR t u) = [] := List.filter_eq_nil_iff.mpr fun r hr1 hr2 => h2 ⟨r, hr1, hr2⟩
      rw [h3]
      have : W t = W u := by
        refine l2 ?_
        by_cases h4 : p t = 0
        · exact .inl h4
        · refine .inr (hnz t u b' fun r h5 h6 => h2 ⟨r, h5, (inr r).mpr ⟨?_, h6.2⟩⟩)
          have : t ≠ r := fun e => h4 (e ▸ hr r h5)
          grind
      simp
      omega
end
end Sm

set_option Elab.async false
set_option linter.all false
namespace Sm
theorem Der.ev (l : List Rat) : Der (ev l) (ev (D l)) := ⟨l, fun _ => rfl, fun _ => rfl⟩
theorem Pol.pow {f : Rat → Rat} (h : Pol f) : ∀ k : Nat, Pol (fun x => f x ^ k)
  | 0 => (Pol.const 1).congr fun x => by rw [Rat.pow_zero]
  | k + 1 => ((h.pow k).mul h).congr fun x => by rw [Rat.pow_succ]
theorem Der.congr {f f' g g' : Rat → Rat} (h : Der f f') (e : ∀ x, g x = f x) (e' : ∀ x, g' x = f' x) : Der g g' := by
  obtain ⟨l, h1, h2⟩ := h
  exact ⟨l, fun x => by rw [e, h1], fun x => by rw [e', h2]⟩
theorem Der.pow {q q' : Rat → Rat} (h : Der q q') : ∀ k : Nat, ∃ Q', Der (fun x => q x ^ k) Q' ∧ ∀ x, q x * Q' x = (k : Rat) * q' x * q x ^ k
  | 0 => ⟨fun _ => 0, (Der.const 1).congr (fun x => by rw [Rat.pow_zero]) (fun _ => rfl), fun x => by grind⟩
  | k + 1 => by
    obtain ⟨Q', h1, h2⟩ := Der.pow h k
    refine ⟨_, (h1.mul h).congr (fun x => by rw [Rat.pow_succ]) (fun _ => rfl), fun x => ?_⟩
    have := h2 x
    rw [Rat.natCast_add, Rat.pow_succ]
    grind
def Dn : Nat → List Rat → List Rat
  | 0, l => l
  | j + 1, l => D (Dn j l)
theorem Dn_D : ∀ (j : Nat) (l : List Rat), Dn j (D l) = D (Dn j l)
  | 0, _ => rfl
  | j + 1, l => by rw [Dn, Dn, Dn_D j l]
theorem dl_app : ∀ (n : Nat) (as : List Rat) (a : Rat), dl n (as ++ [a]) = dl n as ++ [((n + as.length : Nat) : Rat) * a]
  | n, [], a => by simp [dl]
  | n, b :: as, a => by
    simp only [List.cons_append, dl, dl_app (n + 1) as a, List.length_cons]
    have : n + 1 + as.length = n + (as.length + 1) := by omega
    rw [this]
theorem dl_len : ∀ (n : Nat) (as : List Rat), (dl n as).length = as.length
  | _, [] => rfl
  | n, a :: as => by simp [dl, dl_len (n + 1) as]
theorem Dn_top : ∀ (k : Nat) (as : List Rat) (a : Rat), as.length = k → a ≠ 0 → ∃ c, c ≠ 0 ∧ Dn k (as ++ [a]) = [c]
  | 0, as, a, h, ha => by
    have : as = [] := List.length_eq_zero_iff.mp h
    subst this
    exact ⟨a, ha, rfl⟩
  | k + 1, b :: as, a, h, ha => by
    rw [Dn, ← Dn_D]
    have e : D (b :: as ++ [a]) = dl 1 as ++ [((1 + as.length : Nat) : Rat) * a] := by
      simp only [D, List.cons_append, List.tail_cons, dl_app]
    rw [e]
    refine Dn_top k _ _ (by rw [dl_len]; simpa using h) fun h0 => ?_
    rcases Rat.mul_eq_zero.mp h0 with h1 | h1
    · have := Rat.natCast_eq_zero_iff.mp h1
      omega
    · exact ha h1
theorem ring1 {sj tj s t d w m : Rat} (h1 : sj * tj + d * w = 1) (h2 : s * t + d * m = 1) : sj * s * (tj * t) + d * ((w + m) - d * (w * m)) = 1 := by
  have h3 : sj * s * (tj * t) = (sj * tj) * (s * t) := by grind
  have h4 : sj * tj = 1 - d * w := by grind
  have h5 : s * t = 1 - d * m := by grind
  rw [h3, h4, h5]
  grind
theorem sq_free {p p' g v A B q q' : Rat → Rat} {as : List Rat} {a lam : Rat} (ha : a ≠ 0) (eg : ∀ x, g x = ev (as ++ [a]) x)
    (hp : Der p p') (hv : Pol v) (hA : Pol A) (hB : Pol B) (e1 : ∀ x, p' x = g x * v x) (e2 : ∀ x, g x = A x * p x + B x * p' x)
    (hq : Der q q') (hl : lam ≠ 0) (e3 : ∀ x, lam * p x = q x * g x) :
    (∃ (c : Rat) (k : Nat) (s : Rat → Rat), c ≠ 0 ∧ Pol s ∧ ∀ x, c * q x ^ k = g x * s x) ∧
      ∀ d u w : Rat → Rat, Pol d → Pol u → Pol w → (∀ x, q x = d x * u x) → (∀ x, q' x = d x * w x) → ∃ E, Pol E ∧ ∀ x, d x * E x = 1 := by
  have hg : Pol g := ⟨_, eg⟩
  have hx0 : ∃ x0, g x0 ≠ 0 := by
    have hz : ¬ Z (as ++ [a]) := fun hz => ha (hz a (by simp))
    obtain ⟨b, c, _, hc, h⟩ := grow _ hz
    refine ⟨b, fun h0 => ?_⟩
    rw [eg] at h0
    rcases h with h | h <;> have := h b Rat.le_refl <;> grind
  obtain ⟨x0, hx0⟩ := hx0
  obtain ⟨g', hg', hgp'⟩ : ∃ g', Der g g' ∧ ∀ x, g' x = ev (D (as ++ [a])) x := ⟨_, (Der.ev _).congr eg (fun _ => rfl), fun _ => rfl⟩
  have e4 : ∀ x, lam * p' x = q' x * g x + q x * g' x := fun x => ((hp.smul lam).uniq e3 (hq.mul hg')) x
  have e5 : ∀ x, q x * g' x = g x * (lam * v x - q' x) := fun x => by
    have h1 := e4 x
    have h2 := e1 x
    grind
  have hs : Pol (fun x => lam * v x - q' x) := (hv.smul lam).sub hq.pol'
  have e6 : ∀ x, A x * q x + lam * (B x * v x) = lam := fun x => by
    have : ∀ y, g y * (A y * q y + lam * (B y * v y) - lam) = 0 := fun y => by
      have h1 := e2 y
      have h2 := e1 y
      have h3 := e3 y
      have h4 : g y * (A y * q y) = lam * (A y * p y) := by grind
      have h5 : g y * (lam * (B y * v y)) = lam * (B y * p' y) := by grind
      have h6 : lam * g y = lam * (A y * p y) + lam * (B y * p' y) := by rw [h1]; grind
      grind
    have := hg.cancel (((hA.mul hq.pol).add ((hB.mul hv).smul lam)).sub (.const lam)) hx0 this x
    grind
  have seq : ∀ (d u w : Rat → Rat), Pol d → Pol u → Pol w → (∀ x, q x = d x * u x) → (∀ x, q' x = d x * w x) → ∀ j : Nat, ∃ S W, Pol S ∧ Pol W ∧ (∀ x, q x ^ j * ev (Dn j (as ++ [a])) x = g x * S x) ∧ ∀ x, S x = (lam * v x - q' x) ^ j + d x * W x := by
    intro d u w hd hu hw f1 f2 j
    induction j with
    | zero => exact ⟨fun _ => 1, fun _ => 0, .const 1, .const 0, fun x => by rw [Rat.pow_zero, eg]; simp only [Dn]; grind, fun x => by rw [Rat.pow_zero]; grind⟩
    | succ j ih =>
      obtain ⟨S, W, hS, hW, i1, i2⟩ := ih
      obtain ⟨S', hS', hSp'⟩ := hS.der
      obtain ⟨Q', hQ', hQ2⟩ := hq.pow j
      have i3 := (hQ'.mul (Der.ev (Dn j (as ++ [a])))).uniq i1 (hg'.mul hS')
      refine ⟨fun x => (lam * v x - q' x) * S x + (q x * S' x - (j : Rat) * (q' x * S x)), fun x => (lam * v x - q' x) * W x + (u x * S' x - (j : Rat) * (w x * S x)), (hs.mul hS).add ((hq.pol.mul hSp').sub ((hq.pol'.mul hS).smul _)), (hs.mul hW).add ((hu.mul hSp').sub ((hw.mul hS).smul _)), fun x => ?_, fun x => ?_⟩
      · have h1 := i3 x
        have h2 := i1 x
        have h3 := hQ2 x
        have h4 := e5 x
        rw [Rat.pow_succ, Dn]
        generalize ev (D (Dn j (as ++ [a]))) x = y at *
        generalize ev (Dn j (as ++ [a])) x = z at *
        generalize q x ^ j = qj at *
        generalize (j : Rat) = jj at *
        have k1 : q x * (Q' x * z + qj * y) = q x * (g' x * S x + g x * S' x) := by rw [h1]
        have k2 : q x * (qj * y) = q x * g' x * S x + q x * (g x * S' x) - q x * Q' x * z := by grind
        rw [h3, h4] at k2
        have k3 : jj * q' x * qj * z = jj * q' x * (g x * S x) := by rw [← h2]; grind
        rw [k3] at k2
        grind
      · have h1 := i2 x
        have h2 := f1 x
        have h3 := f2 x
        dsimp only
        have h4 : (lam * v x - q' x) * S x = (lam * v x - q' x) ^ (j + 1) + d x * ((lam * v x - q' x) * W x) := by
          rw [Rat.pow_succ, h1]; grind
        rw [h4, h2]
        have h5 : q' x * S x = d x * (w x * S x) := by rw [h3]; grind
        rw [h5]
        grind
  obtain ⟨c, hc, htop⟩ := Dn_top as.length as a rfl ha
  refine ⟨?_, fun d u w hd hu hw f1 f2 => ?_⟩
  · obtain ⟨S, _, hS, _, i1, _⟩ := seq (fun _ => 1) q q' (.const 1) hq.pol hq.pol' (fun x => by grind) (fun x => by grind) as.length
    refine ⟨c, as.length, S, hc, hS, fun x => ?_⟩
    have := i1 x
    rw [htop] at this
    simp only [ev] at this
    grind
  · obtain ⟨S, W, hS, hW, i1, i2⟩ := seq d u w hd hu hw f1 f2 (as.length + 1)
    have hS0 : ∀ x, S x = 0 := hg.cancel hS hx0 fun x => by
      have := i1 x
      rw [Dn, htop] at this
      simp only [D, List.tail_cons, dl, ev] at this
      grind
    have hs : Pol (fun x => lam * v x - q' x) := (hv.smul lam).sub hq.pol'
    have e7 : ∀ x, (lam * v x - q' x) * (1 / lam * B x) + d x * (1 / lam * (A x * u x + B x * w x)) = 1 := fun x => by
      have h1 := e6 x
      have h2 := f1 x
      have h3 := f2 x
      rw [h2] at h1
      rw [h3]
      have : lam * ((lam * v x - d x * w x) * (1 / lam * B x) + d x * (1 / lam * (A x * u x + B x * w x)) - 1) = 0 := by grind
      rcases Rat.mul_eq_zero.mp this with h | h
      · exact absurd h hl
      · grind
    have pw : ∀ j : Nat, ∃ w0, Pol w0 ∧ ∀ x, (lam * v x - q' x) ^ j * (1 / lam * B x) ^ j + d x * w0 x = 1 := by
      intro j
      induction j with
      | zero => exact ⟨fun _ => 0, .const 0, fun x => by rw [Rat.pow_zero, Rat.pow_zero]; grind⟩
      | succ j ih =>
        obtain ⟨w0, hw0, h⟩ := ih
        have hw1 : Pol (fun x => 1 / lam * (A x * u x + B x * w x)) := ((hA.mul hu).add (hB.mul hw)).smul _
        refine ⟨fun x => (w0 x + 1 / lam * (A x * u x + B x * w x)) - d x * (w0 x * (1 / lam * (A x * u x + B x * w x))), (hw0.add hw1).sub (hd.mul (hw0.mul hw1)), fun x => ?_⟩
        have h1 := h x
        have h2 := e7 x
        rw [Rat.pow_succ, Rat.pow_succ]
        exact ring1 h1 h2
    obtain ⟨w0, hw0, h⟩ := pw (as.length + 1)
    refine ⟨fun x => w0 x - W x * (1 / lam * B x) ^ (as.length + 1), hw0.sub (hW.mul ((hB.smul _).pow _)), fun x => ?_⟩
    have h1 := h x
    have h2 := i2 x
    rw [hS0] at h2
    have h3 : (lam * v x - q' x) ^ (as.length + 1) = - (d x * W x) := by grind
    rw [h3] at h1
    grind
theorem far_big (l : List Rat) (hl : ¬ Z l) (a T : Rat) : ∃ B, ∀ x, B ≤ x → Far (a + x * ev l x) T := by
  obtain ⟨B, c, hB, hc, h⟩ := grow l hl
  rcases h with h | h
  · obtain ⟨B', hB', h2⟩ := exists_big (a - T + 1) B c hc
    refine ⟨B', fun x hx => .inl ?_⟩
    have := h2 x hx
    have := Rat.mul_le_mul_of_nonneg_left (h x (by grind)) (show 0 ≤ x by grind)
    grind
  · obtain ⟨B', hB', h2⟩ := exists_big (-a - T + 1) B c hc
    refine ⟨B', fun x hx => .inr ?_⟩
    have := h2 x hx
    have := Rat.mul_le_mul_of_nonneg_left (h x (by grind)) (show 0 ≤ x by grind)
    grind
theorem unit_const {d E : Rat → Rat} (hd : Pol d) (hE : Pol E) (h : ∀ x, d x * E x = 1) : ∃ c, c ≠ 0 ∧ ∀ x, d x = c := by
  obtain ⟨l, hl⟩ := hd
  have fin : ∀ c, (∀ x, d x = c) → ∃ c, c ≠ 0 ∧ ∀ x, d x = c := fun c hc => ⟨c, fun e => by
    have := h 0
    rw [hc, e] at this
    grind, hc⟩
  cases l with
  | nil => exact fin 0 fun x => by rw [hl]; rfl
  | cons a as =>
    by_cases hz : Z as
    · exact fin a fun x => by rw [hl, ev, hz.ev]; grind
    · obtain ⟨e, he⟩ := hE
      have hz2 : ¬ Z e := fun hz2 => by
        have := h 0
        rw [he, hz2.ev] at this
        grind
      obtain ⟨B, c, hB, hc, h1⟩ := grow e hz2
      obtain ⟨B', h2⟩ := far_big as hz a (2 / c)
      exfalso
      have h3 : Far (E (if B ≤ B' then B' else B)) c := by
        rw [he]
        rcases h1 with h1 | h1
        · exact .inl (h1 _ (by split <;> grind))
        · exact .inr (h1 _ (by split <;> grind))
      have h4 := (h2 (if B ≤ B' then B' else B) (by split <;> grind)).mul (div_pos hc (by grind)) hc h3
      have h5 := h (if B ≤ B' then B' else B)
      rw [hl] at h5
      simp only [ev] at h5
      rw [h5, Rat.div_mul_cancel (by grind)] at h4
      rcases h4 with h4 | h4 <;> grind
end Sm

set_option Elab.async false
set_option linter.all false
namespace Sm
/-! rows of whole numbers -/
def qz (l : List Int) : List Rat := l.map fun i : Int => (i : Rat)
def eZ (l : List Int) : Rat → Rat := ev (qz l)
def Tr (l : List Int) : Prop := ∀ a, l.getLast? = some a → a ≠ 0
def dlZ : Nat → List Int → List Int
  | _, [] => []
  | n, a :: as => ((n : Int) * a) :: dlZ (n + 1) as
def slZ (l : List Int) : List Int := dlZ 1 l.tail
theorem eZ.pol (l : List Int) : Pol (eZ l) := .ev _
theorem qz_dl : ∀ (n : Nat) (l : List Int), qz (dlZ n l) = dl n (qz l)
  | _, [] => rfl
  | n, a :: as => by
    have := qz_dl (n + 1) as
    simp only [qz, dlZ, dl, List.map_cons] at this ⊢
    rw [this, Rat.intCast_mul, Rat.intCast_natCast]
theorem qz_sl (l : List Int) : qz (slZ l) = D (qz l) := by
  unfold slZ D
  rw [qz_dl]
  cases l <;> rfl
theorem Der.eZ (l : List Int) : Der (eZ l) (eZ (slZ l)) := by
  refine (Der.ev (qz l)).congr (fun _ => rfl) fun x => ?_
  unfold Sm.eZ
  rw [qz_sl]
theorem Tr.split {l : List Int} (h : Tr l) (hn : l ≠ []) : ∃ (as : List Rat) (a : Rat), a ≠ 0 ∧ qz l = as ++ [a] := by
  refine ⟨qz l.dropLast, (l.getLast hn : Int), ?_, ?_⟩
  · exact fun e => h _ (List.getLast?_eq_some_getLast hn) (Rat.intCast_eq_zero_iff.mp e)
  · conv => lhs; rw [← List.dropLast_concat_getLast hn]
    simp [qz]
theorem Tr.ne {l : List Int} (h : Tr l) (hn : l ≠ []) : ∃ x, eZ l x ≠ 0 := by
  obtain ⟨as, a, ha, e⟩ := h.split hn
  have hz : ¬ Z (qz l) := fun hz => ha (hz a (by rw [e]; simp))
  obtain ⟨b, c, _, hc, h⟩ := grow _ hz
  refine ⟨b, fun h0 => ?_⟩
  unfold eZ at h0
  rcases h with h | h <;> have := h b Rat.le_refl <;> grind
/-! length of a product -/
theorem add_last : ∀ (a b : List Rat) (c : Rat), a.length ≤ b.length → ∃ d : List Rat, d.length = b.length ∧ addL a (b ++ [c]) = d ++ [c]
  | [], b, c, _ => ⟨b, rfl, rfl⟩
  | x :: as, [], c, h => by simp at h
  | x :: as, y :: bs, c, h => by
    obtain ⟨d, h1, h2⟩ := add_last as bs c (by simpa using h)
    exact ⟨(x + y) :: d, by simp [h1], by simp [addL, h2]⟩
theorem add_last' : ∀ (a b : List Rat) (c : Rat), b.length ≤ a.length → ∃ d : List Rat, d.length = a.length ∧ addL (a ++ [c]) b = d ++ [c]
  | [], [], c, _ => ⟨[], rfl, rfl⟩
  | x :: as, [], c, h => ⟨x :: as, rfl, rfl⟩
  | [], y :: bs, c, h => by simp at h
  | x :: as, y :: bs, c, h => by
    obtain ⟨d, h1, h2⟩ := add_last' as bs c (by simpa using h)
    exact ⟨(x + y) :: d, by simp [h1], by simp [addL, h2]⟩
theorem mul_last (b : List Rat) (c : Rat) : ∀ (a : List Rat) (e : Rat), ∃ d : List Rat, d.length = a.length + b.length ∧ mulL (a ++ [e]) (b ++ [c]) = d ++ [e * c]
  | [], e => by
    have h3 : mulL ([] ++ [e]) (b ++ [c]) = addL (b.map (e * ·) ++ [e * c]) [0] := by simp [mulL, smul]
    rw [h3]
    by_cases hb : b = []
    · subst hb
      exact ⟨[], rfl, by simp [addL]; grind⟩
    · have := List.length_pos_iff.mpr hb
      obtain ⟨d, h1, h2⟩ := add_last' (b.map (e * ·)) [0] (e * c) (by simp; omega)
      exact ⟨d, by simpa using h1, h2⟩
  | x :: as, e => by
    obtain ⟨d, h1, h2⟩ := mul_last b c as e
    obtain ⟨d', h3, h4⟩ := add_last (smul x (b ++ [c])) (0 :: d) (e * c) (by simp [smul, h1])
    refine ⟨d', by rw [h3]; simp [h1]; omega, ?_⟩
    have : mulL (x :: as ++ [e]) (b ++ [c]) = addL (smul x (b ++ [c])) (0 :: mulL (as ++ [e]) (b ++ [c])) := rfl
    rw [this, h2]
    exact h4
theorem same_len {a b : List Rat} {c d : Rat} (hc : c ≠ 0) (hd : d ≠ 0) (h : ∀ x, ev (a ++ [c]) x = ev (b ++ [d]) x) : a.length = b.length := by
  have hz : Z (addL (a ++ [c]) (smul (-1) (b ++ [d]))) := Z_of _ 0 fun x _ => by rw [ev_add, ev_smul, h]; grind
  have e : smul (-1) (b ++ [d]) = smul (-1) b ++ [-1 * d] := by simp [smul]
  rw [e] at hz
  refine Nat.le_antisymm (Nat.le_of_not_lt fun hl => ?_) (Nat.le_of_not_lt fun hl => ?_)
  · obtain ⟨z, _, h2⟩ := add_last' a (smul (-1) b ++ [-1 * d]) c (by simp [smul]; omega)
    rw [h2] at hz
    exact hc (hz c (by simp))
  · obtain ⟨z, _, h2⟩ := add_last (a ++ [c]) (smul (-1) b) (-1 * d) (by simp [smul]; omega)
    rw [h2] at hz
    have := hz (-1 * d) (by simp)
    grind
theorem trim : ∀ l : List Rat, Z l ∨ ∃ (as : List Rat) (a : Rat), a ≠ 0 ∧ ∀ x, ev l x = ev (as ++ [a]) x
  | [] => .inl fun a h => by simp at h
  | b :: bs => by
    rcases trim bs with h | ⟨as, a, ha, h⟩
    · by_cases hb : b = 0
      · exact .inl fun a h' => by
          rcases List.mem_cons.mp h' with rfl | h'
          · exact hb
          · exact h a h'
      · exact .inr ⟨[], b, hb, fun x => by simp only [ev, h.ev, List.nil_append]⟩
    · exact .inr ⟨b :: as, a, ha, fun x => by simp only [List.cons_append, ev, h]⟩
theorem len_le {l w : List Int} {e : Rat → Rat} (hl : Tr l) (hl0 : l ≠ []) (hw : Tr w) (hw0 : w ≠ []) (he : Pol e) (h : ∀ x, eZ l x = eZ w x * e x) : w.length ≤ l.length := by
  obtain ⟨as, a, ha, e1⟩ := hl.split hl0
  obtain ⟨bs, b, hb, e2⟩ := hw.split hw0
  obtain ⟨le, hle⟩ := he
  have el : (qz l).length = l.length := by simp [qz]
  have ew : (qz w).length = w.length := by simp [qz]
  rcases trim le with hz | ⟨cs, c, hc, h3⟩
  · obtain ⟨x, hx⟩ := hl.ne hl0
    exact absurd (by rw [h, hle, hz.ev]; grind) hx
  · obtain ⟨d, h4, h5⟩ := mul_last cs c bs b
    have := same_len (a := as) (b := d) ha (show b * c ≠ 0 from fun h => by
      rcases Rat.mul_eq_zero.mp h with h | h
      · exact hb h
      · exact hc h) fun x => by
      rw [← e1, ← h5, ev_mul, ← e2, ← h3, ← hle]
      exact h x
    rw [e1] at el
    rw [e2] at ew
    simp at el ew
    omega
/-! rows of rests -/
inductive RR : List Int → List Int → List (List Int) → Prop
  | stop (a : List Int) : RR a [] [a]
  | step {a b c : List Int} {rs : List (List Int)} {α : Rat} {β : Rat → Rat} : b ≠ [] → 0 < α → Pol β → (∀ x, α * eZ a x + eZ c x = β x * eZ b x) → Tr c → RR b c rs → RR a b (a :: rs)
theorem RR.head {a b : List Int} {rs : List (List Int)} (h : RR a b rs) : ∃ t, rs = a :: t ∧ (b = [] → t = []) ∧ (b ≠ [] → ∃ t', t = b :: t') := by
  cases h with
  | stop => exact ⟨[], rfl, fun _ => rfl, fun h => absurd rfl h⟩
  | step hb _ _ _ _ h =>
    refine ⟨_, rfl, fun h => absurd h hb, fun _ => ?_⟩
    cases h with
    | stop => exact ⟨[], rfl⟩
    | step _ _ _ _ _ _ => exact ⟨_, rfl⟩
theorem eZ_nil (x : Rat) : eZ [] x = 0 := rfl
theorem RR.gcd {a b : List Int} {rs : List (List Int)} (h : RR a b rs) : a ≠ [] → Tr a → Tr b → ∃ d, rs.getLast? = some d ∧ d ≠ [] ∧ Tr d ∧ (∃ u v, Pol u ∧ Pol v ∧ (∀ x, eZ a x = eZ d x * u x) ∧ ∀ x, eZ b x = eZ d x * v x) ∧ ∃ A B, Pol A ∧ Pol B ∧ ∀ x, eZ d x = A x * eZ a x + B x * eZ b x := by
  induction h with
  | stop a => exact fun h1 h2 _ => ⟨a, rfl, h1, h2, ⟨fun _ => 1, fun _ => 0, .const 1, .const 0, fun x => by grind, fun x => by rw [eZ_nil]; grind⟩, fun _ => 1, fun _ => 0, .const 1, .const 0, fun x => by grind⟩
  | @step a b c rs α β hb hα hβ e hc h ih =>
    intro _ _ htb
    obtain ⟨d, g1, g2, g3, ⟨u, v, hu, hv, e1, e2⟩, A, B, hA, hB, e3⟩ := ih hb htb hc
    refine ⟨d, ?_, g2, g3, ⟨fun x => 1 / α * (β x * u x - v x), u, ((hβ.mul hu).sub hv).smul _, hu, fun x => ?_, e1⟩, fun x => -α * B x, fun x => A x + B x * β x, hB.smul _, hA.add (hB.mul hβ), fun x => ?_⟩
    · obtain ⟨t, ht, _⟩ := h.head
      rw [ht] at g1 ⊢
      rw [List.getLast?_cons_cons]
      exact g1
    · have h1 := e x
      have h2 := e1 x
      have h3 := e2 x
      rw [h2, h3] at h1
      have h4 : α * eZ a x = eZ d x * (β x * u x - v x) := by grind
      have h5 : eZ a x = 1 / α * (α * eZ a x) := by grind
      rw [h5, h4]; grind
    · have h1 := e x
      have h3 := e3 x
      have h4 : eZ c x = β x * eZ b x - α * eZ a x := by grind
      rw [h4] at h3
      rw [h3]
      grind
theorem RR.ch {a b : List Int} {rs : List (List Int)} (h : RR a b rs) : ∀ d, rs.getLast? = some d → (∃ c, c ≠ 0 ∧ ∀ x, eZ d x = c) → Ch (rs.map eZ) := by
  induction h with
  | stop a =>
    intro d hd hc
    simp at hd
    subst hd
    obtain ⟨c, hc, he⟩ := hc
    exact .one hc he
  | @step a b c rs α β hb hα hβ e hc h ih =>
    intro d hd hcd
    obtain ⟨t, ht, h0, h1⟩ := h.head
    have hd' : rs.getLast? = some d := by
      rw [ht] at hd ⊢
      rw [List.getLast?_cons_cons] at hd
      exact hd
    have hC := ih d hd' hcd
    by_cases hcn : c = []
    · have := h0 hcn
      subst this
      subst ht
      exact .two (eZ.pol a) hC
    · obtain ⟨t', ht'⟩ := h1 hcn
      subst ht'
      subst ht
      exact .more (eZ.pol a) hα (show (0:Rat) < 1 by decide) hβ (fun x => by have := e x; grind) hC
theorem sl_len (l : List Int) : (slZ l).length = l.length - 1 := by
  have h : ∀ n (l : List Int), (dlZ n l).length = l.length := fun n l => by
    induction l generalizing n with
    | nil => rfl
    | cons a l ih => simp [dlZ, ih]
  simp [slZ, h]
theorem Tr.sl {l : List Int} (h : Tr l) : Tr (slZ l) := by
  intro a ha
  have key : ∀ (n : Nat) (l : List Int), 0 < n → Tr l → Tr (dlZ n l) := fun n l => by
    induction l generalizing n with
    | nil => intro _ _ a ha; simp [dlZ] at ha
    | cons b l ih =>
      intro hn ht
      cases l with
      | nil =>
        intro a ha
        simp [dlZ] at ha
        have : b ≠ 0 := ht b rfl
        subst ha
        exact Int.mul_ne_zero (by omega) this
      | cons c l =>
        intro a ha
        have h2 := ih (n + 1) (by omega) (fun a ha => ht a (by rw [List.getLast?_cons_cons]; exact ha))
        have : (dlZ n (b :: c :: l)).getLast? = (dlZ (n + 1) (c :: l)).getLast? := by
          simp only [dlZ, List.getLast?_cons_cons]
        rw [this] at ha
        exact h2 a ha
  refine key 1 l.tail (by omega) ?_ a ha
  cases l with
  | nil => exact fun a ha => by simp at ha
  | cons b l =>
    cases l with
    | nil => exact fun a ha => by simp at ha
    | cons c l => exact fun a ha => h a (by rw [List.getLast?_cons_cons]; exact ha)
/-- the rows for a polynomial tell its roots -/
theorem rows_stu {P Q g : List Int} {rs1 rs2 : List (List Int)} {lam : Rat} (hP : Tr P) (hP0 : P ≠ []) (h1 : RR P (slZ P) rs1) (hg : rs1.getLast? = some g)
    (hl : lam ≠ 0) (hQ : Tr Q) (hQ0 : Q ≠ []) (e : ∀ x, lam * eZ P x = eZ Q x * eZ g x) (h2 : RR Q (slZ Q) rs2) : Stu (eZ P) (V (rs2.map eZ)) := by
  obtain ⟨g', hg', hg0, hgt, ⟨u, v, hu, hv, e1, e2⟩, A, B, hA, hB, e3⟩ := h1.gcd hP0 hP hP.sl
  rw [hg] at hg'
  cases hg'
  obtain ⟨as, a, ha, eg⟩ := hgt.split hg0
  obtain ⟨⟨c, k, s, hc, hs, e4⟩, hun⟩ := sq_free (g := eZ g) ha (fun x => by unfold eZ; rw [eg]) (Der.eZ P) hv hA hB e2 e3 (Der.eZ Q) hl e
  obtain ⟨d, hd, hd0, hdt, ⟨u', w', hu', hw', e5, e6⟩, _⟩ := h2.gcd hQ0 hQ hQ.sl
  obtain ⟨E, hE, e7⟩ := hun (eZ d) u' w' (eZ.pol d) hu' hw' e5 e6
  have hC := h2.ch d hd (unit_const (eZ.pol d) hE e7)
  refine stu_of (eZ.pol P) (eZ.pol Q) (eZ.pol g) hs hl hc e e4 fun M => ?_
  obtain ⟨t, ht, t0, t1⟩ := h2.head
  subst ht
  by_cases hb : slZ Q = []
  · have := t0 hb
    subst this
    exact stepQ1 hC M
  · obtain ⟨t', ht'⟩ := t1 hb
    subst ht'
    exact stepQ2 (Der.eZ Q) hC M
end Sm

set_option Elab.async false
set_option linter.all false
namespace Sm
/-! Gauss: a row without a common divisor divides in whole numbers; and bounds by values -/
theorem qz_app (a b : List Int) : qz (a ++ b) = qz a ++ qz b := by simp [qz]
def addZ : List Int → List Int → List Int
  | [], b => b
  | a :: as, [] => a :: as
  | a :: as, b :: bs => (a + b) :: addZ as bs
theorem qz_add : ∀ a b : List Int, qz (addZ a b) = addL (qz a) (qz b)
  | [], b => by simp [addZ, qz, addL]
  | a :: as, [] => by simp [addZ, qz, addL]
  | a :: as, b :: bs => by
    have := qz_add as bs
    simp only [qz, addZ, addL, List.map_cons] at this ⊢
    rw [this, Rat.intCast_add]
theorem qz_smul (c : Int) (b : List Int) : qz (b.map (c * ·)) = smul (c : Rat) (qz b) := by
  simp [qz, smul, Rat.intCast_mul]
theorem eZ_add (a b : List Int) (x : Rat) : eZ (addZ a b) x = eZ a x + eZ b x := by
  unfold eZ; rw [qz_add, ev_add]
theorem eZ_smul (c : Int) (b : List Int) (x : Rat) : eZ (b.map (c * ·)) x = (c : Rat) * eZ b x := by
  unfold eZ; rw [qz_smul, ev_smul]
theorem eZ_cons (a : Int) (as : List Int) (x : Rat) : eZ (a :: as) x = (a : Rat) + x * eZ as x := rfl
def DV (p : Int) (l : List Int) : Prop := ∀ c ∈ l, p ∣ c
theorem DV.add {p : Int} : ∀ {a b : List Int}, DV p a → DV p b → DV p (addZ a b)
  | [], b, _, h => by simpa [addZ] using h
  | a :: as, [], h, _ => by simpa [addZ] using h
  | a :: as, b :: bs, h, h2 => fun c hc => by
    simp only [addZ, List.mem_cons] at hc
    rcases hc with rfl | hc
    · exact Int.dvd_add (h a (by simp)) (h2 b (by simp))
    · exact DV.add (fun c hc => h c (by simp [hc])) (fun c hc => h2 c (by simp [hc])) c hc
theorem eZ_zero (l : List Int) : eZ l 0 = (l.headD 0 : Int) := by
  cases l with
  | nil => rfl
  | cons a as => rw [eZ_cons]; simp; grind
theorem eZ_tail (l : List Int) (h : l.headD 0 = 0) (x : Rat) : eZ l x = x * eZ l.tail x := by
  cases l with
  | nil => rw [List.tail_nil, eZ_nil]; grind
  | cons a as =>
    have : a = 0 := h
    rw [eZ_cons, this, List.tail_cons]; grind
theorem pol_x {f g : Rat → Rat} (hf : Pol f) (hg : Pol g) (h : ∀ x, x * f x = x * g x) (x : Rat) : f x = g x := by
  have := (hf.sub hg).zero_of 1 (fun y hy => by
    have h1 := h y
    have : y * (f y - g y) = 0 := by grind
    rcases Rat.mul_eq_zero.mp this with h | h
    · grind
    · exact h) x
  grind
theorem gauss {p : Int} (hp : ∀ a b : Int, p ∣ a * b → p ∣ a ∨ p ∣ b) : ∀ (n : Nat) (a b c : List Int), a.length + b.length ≤ n → (∀ x, eZ c x = eZ a x * eZ b x) → DV p c → DV p a ∨ DV p b := by
  intro n
  induction n with
  | zero =>
    intro a b c h _ _
    have : a = [] := List.length_eq_zero_iff.mp (by omega)
    subst this
    exact .inl fun c hc => by simp at hc
  | succ n ih =>
    intro a b c h e hd
    cases a with
    | nil => exact .inl fun c hc => by simp at hc
    | cons x as =>
      cases b with
      | nil => exact .inr fun c hc => by simp at hc
      | cons y bs =>
        have h0 : c.headD 0 = x * y := by
          have := e 0
          rw [eZ_zero, eZ_zero, eZ_zero, ← Rat.intCast_mul] at this
          exact Rat.intCast_inj.mp this
        have h1 : p ∣ x * y := by
          rw [← h0]
          cases c with
          | nil => exact Int.dvd_zero p
          | cons z cs => exact hd z (by simp)
        have tl : ∀ l : List Int, DV p l → DV p l.tail := fun l hl c hc => hl c (List.mem_of_mem_tail hc)
        have sm : ∀ (k : Int) (l : List Int), p ∣ k → DV p (l.map (k * ·)) := fun k l hk c hc => by
          obtain ⟨d, _, rfl⟩ := List.mem_map.mp hc
          exact Int.dvd_mul_of_dvd_left hk
        rcases hp x y h1 with h2 | h2
        · have hd' : DV p (addZ c ((y :: bs).map (-x * ·))) := hd.add (sm _ _ ((Int.dvd_neg).mpr h2))
          have e' : ∀ t, eZ (addZ c ((y :: bs).map (-x * ·))) t = t * (eZ as t * eZ (y :: bs) t) := fun t => by
            rw [eZ_add, eZ_smul, e, eZ_cons x as, Rat.intCast_neg]; grind
          have hh : (addZ c ((y :: bs).map (-x * ·))).headD 0 = 0 := by
            have := e' 0
            rw [eZ_zero] at this
            exact Rat.intCast_inj.mp (this.trans (by rw [Rat.zero_mul]; rfl))
          have e'' := pol_x (eZ.pol (addZ c ((y :: bs).map (-x * ·))).tail) ((eZ.pol as).mul (eZ.pol (y :: bs))) (fun t => by rw [← eZ_tail _ hh, e'])
          rcases ih as (y :: bs) _ (by simp at h ⊢; omega) e'' (tl _ hd') with h3 | h3
          · exact .inl fun c hc => by
              rcases List.mem_cons.mp hc with rfl | hc
              · exact h2
              · exact h3 c hc
          · exact .inr h3
        · have hd' : DV p (addZ c ((x :: as).map (-y * ·))) := hd.add (sm _ _ ((Int.dvd_neg).mpr h2))
          have e' : ∀ t, eZ (addZ c ((x :: as).map (-y * ·))) t = t * (eZ (x :: as) t * eZ bs t) := fun t => by
            rw [eZ_add, eZ_smul, e, eZ_cons y bs, Rat.intCast_neg]; grind
          have hh : (addZ c ((x :: as).map (-y * ·))).headD 0 = 0 := by
            have := e' 0
            rw [eZ_zero] at this
            exact Rat.intCast_inj.mp (this.trans (by rw [Rat.zero_mul]; rfl))
          have e'' := pol_x (eZ.pol (addZ c ((x :: as).map (-y * ·))).tail) ((eZ.pol (x :: as)).mul (eZ.pol bs)) (fun t => by rw [← eZ_tail _ hh, e'])
          rcases ih (x :: as) bs _ (by simp at h ⊢; omega) e'' (tl _ hd') with h3 | h3
          · exact .inl h3
          · exact .inr fun c hc => by
              rcases List.mem_cons.mp hc with rfl | hc
              · exact h2
              · exact h3 c hc
theorem least_div : ∀ n : Nat, 1 < n → ∃ p : Nat, 1 < p ∧ p ∣ n ∧ ∀ d : Nat, d ∣ p → d = 1 ∨ d = p := by
  intro n
  induction n using Nat.strongRecOn with
  | _ n ih =>
    intro hn
    by_cases h : ∀ d : Nat, d ∣ n → d = 1 ∨ d = n
    · exact ⟨n, hn, Nat.dvd_refl n, h⟩
    · have : ∃ d : Nat, d ∣ n ∧ d ≠ 1 ∧ d ≠ n := Classical.byContradiction fun hh => h fun d hd => by
        by_cases h1 : d = 1
        · exact .inl h1
        · by_cases h2 : d = n
          · exact .inr h2
          · exact absurd ⟨d, hd, h1, h2⟩ hh
      obtain ⟨d, h1, h2, h3⟩ := this
      have h4 := Nat.le_of_dvd (by omega) h1
      have h5 := Nat.pos_of_dvd_of_pos h1 (by omega)
      obtain ⟨p, a, b, c⟩ := ih d (by omega) (by omega)
      exact ⟨p, a, Nat.dvd_trans b h1, c⟩
theorem euclid {p : Nat} (h : ∀ d : Nat, d ∣ p → d = 1 ∨ d = p) (a b : Int) (hd : (p : Int) ∣ a * b) : (p : Int) ∣ a ∨ (p : Int) ∣ b := by
  have h1 : p ∣ a.natAbs * b.natAbs := by
    rw [← Int.natAbs_mul]
    exact Int.ofNat_dvd_left.mp hd
  rcases h (Nat.gcd p a.natAbs) (Nat.gcd_dvd_left ..) with h2 | h2
  · exact .inr (Int.ofNat_dvd_left.mpr (Nat.Coprime.dvd_of_dvd_mul_left h2 h1))
  · exact .inl (Int.ofNat_dvd_left.mpr (h2 ▸ Nat.gcd_dvd_right p a.natAbs))
/-- no whole number but one divides the whole row -/
def Prim (q : List Int) : Prop := ∀ d : Nat, DV (d : Int) q → d = 1
theorem whole_div {q p : List Int} (hq : Prim q) : ∀ (M : Nat) (h : List Int), 0 < M → (∀ x, (M : Rat) * eZ p x = eZ q x * eZ h x) → ∃ h', ∀ x, eZ p x = eZ q x * eZ h' x := by
  intro M
  induction M using Nat.strongRecOn with
  | _ M ih =>
    intro h hM e
    by_cases h1 : M = 1
    · refine ⟨h, fun x => ?_⟩
      have := e x
      rw [h1] at this
      have h2 : ((1 : Nat) : Rat) = 1 := rfl
      rw [h2] at this
      grind
    · obtain ⟨r, hr1, hr2, hr3⟩ := least_div M (by omega)
      obtain ⟨k, hk⟩ := hr2
      have hdv : DV (r : Int) (p.map ((M : Int) * ·)) := fun c hc => by
        obtain ⟨d, _, rfl⟩ := List.mem_map.mp hc
        exact Int.dvd_mul_of_dvd_left ⟨k, by rw [hk]; exact Int.natCast_mul r k⟩
      have e1 : ∀ x, eZ (p.map ((M : Int) * ·)) x = eZ q x * eZ h x := fun x => by rw [eZ_smul, Rat.intCast_natCast, e]
      rcases gauss (euclid hr3) _ q h _ (Nat.le_refl _) e1 hdv with h2 | h2
      · have := hq r h2; omega
      · have hk0 : 0 < k := Nat.pos_of_ne_zero fun hk0 => by rw [hk0] at hk; omega
        have eh : h = (h.map (· / (r : Int))).map ((r : Int) * ·) := by
          rw [List.map_map]
          conv => lhs; rw [← List.map_id h]
          refine List.map_congr_left fun c hc => ?_
          show c = (r : Int) * (c / (r : Int))
          rw [Int.mul_ediv_cancel' (h2 c hc)]
        refine ih k (by rw [hk]; exact (Nat.lt_mul_iff_one_lt_left hk0).mpr hr1) (h.map (· / (r : Int))) hk0 fun x => ?_
        have h3 := e x
        rw [eh, eZ_smul, Rat.intCast_natCast, hk, Rat.natCast_mul] at h3
        have hr0 : (r : Rat) ≠ 0 := fun h => by have := Rat.natCast_eq_zero_iff.mp h; omega
        have h4 : (r : Rat) * ((k : Rat) * eZ p x - eZ q x * eZ (h.map (· / (r : Int))) x) = 0 := by grind
        rcases Rat.mul_eq_zero.mp h4 with h5 | h5
        · exact absurd h5 hr0
        · grind
/-- lam p = q g with a fraction lam: then p = q h in whole numbers -/
theorem whole_div' {q p g : List Int} (hq : Prim q) {lam : Rat} (hl : lam ≠ 0) (e : ∀ x, lam * eZ p x = eZ q x * eZ g x) : ∃ h', ∀ x, eZ p x = eZ q x * eZ h' x := by
  have hl2 : lam * (lam.den : Rat) = (lam.num : Rat) := by
    have h1 := Rat.num_divInt_den lam
    rw [Rat.divInt_eq_div, Rat.intCast_natCast] at h1
    have h2 : (lam.den : Rat) ≠ 0 := fun h => lam.den_nz (Rat.natCast_eq_zero_iff.mp h)
    have h3 := Rat.div_mul_cancel (a := (lam.num : Rat)) h2
    rw [h1] at h3
    exact h3
  have hn : lam.num ≠ 0 := fun h => hl (Rat.num_eq_zero.mp h)
  by_cases hp : 0 < lam.num
  · refine whole_div hq lam.num.toNat (g.map ((lam.den : Int) * ·)) (by omega) fun x => ?_
    rw [eZ_smul, Rat.intCast_natCast]
    have h1 : ((lam.num.toNat : Nat) : Rat) = (lam.num : Rat) := by
      rw [← Rat.intCast_natCast]; congr 1; omega
    rw [h1, ← hl2]
    have := e x
    grind
  · refine whole_div hq (-lam.num).toNat (g.map (-(lam.den : Int) * ·)) (by omega) fun x => ?_
    rw [eZ_smul, Rat.intCast_neg, Rat.intCast_natCast]
    have h1 : (((-lam.num).toNat : Nat) : Rat) = -(lam.num : Rat) := by
      rw [← Rat.intCast_natCast, ← Rat.intCast_neg]; congr 1; omega
    rw [h1, ← hl2]
    have := e x
    grind
/-! bounds -/
def N1 : List Int → Nat
  | [] => 0
  | a :: as => a.natAbs + N1 as
def eI : List Int → Int → Int
  | [], _ => 0
  | a :: as, x => a + x * eI as x
theorem eI_eZ (x : Int) : ∀ l : List Int, eZ l (x : Rat) = (eI l x : Rat)
  | [] => rfl
  | a :: as => by rw [eZ_cons, eI_eZ x as, eI, Rat.intCast_add, Rat.intCast_mul]
def hd (x : Int) : List Int → List Int
  | [] => []
  | [_] => []
  | _ :: b :: r => eI (b :: r) x :: hd x (b :: r)
theorem hd_len (x : Int) : ∀ l : List Int, (hd x l).length = l.length - 1
  | [] => rfl
  | [_] => rfl
  | _ :: b :: r => by simp [hd, hd_len x (b :: r)]
theorem hd_ev (x : Int) (t : Rat) : ∀ l : List Int, eZ l t = (eI l x : Rat) + (t - (x : Rat)) * eZ (hd x l) t
  | [] => by simp only [hd, eI, eZ_nil]; grind
  | [a] => by simp only [hd, eI, eZ_cons, eZ_nil]; simp
  | a :: b :: r => by
    have := hd_ev x t (b :: r)
    rw [eZ_cons, this, hd, eZ_cons]
    have e : eI (a :: b :: r) x = a + x * eI (b :: r) x := rfl
    rw [e, Rat.intCast_add, Rat.intCast_mul]
    grind
theorem N1_add : ∀ a b : List Int, N1 (addZ a b) ≤ N1 a + N1 b
  | [], b => by simp [addZ, N1]
  | a :: as, [] => by simp [addZ, N1]
  | a :: as, b :: bs => by
    have := N1_add as bs
    simp only [addZ, N1]
    omega
theorem N1_smul (c : Int) : ∀ l : List Int, N1 (l.map (c * ·)) = c.natAbs * N1 l
  | [] => by simp [N1]
  | a :: as => by
    simp only [List.map_cons, N1, N1_smul c as, Int.natAbs_mul, Nat.mul_add]
theorem addZ_len : ∀ a b : List Int, (addZ a b).length = max a.length b.length
  | [], b => by simp [addZ]
  | a :: as, [] => by simp [addZ]
  | a :: as, b :: bs => by simp [addZ, addZ_len as bs]
theorem list_uniq {a b : List Int} (hl : a.length = b.length) (h : ∀ x, eZ a x = eZ b x) : a = b := by
  have hz : Z (addL (qz a) (smul (-1) (qz b))) := Z_of _ 0 fun x _ => by
    rw [ev_add, ev_smul]
    have := h x
    unfold eZ at this
    rw [this]; grind
  clear h
  induction a generalizing b with
  | nil => exact (List.length_eq_zero_iff.mp hl.symm).symm
  | cons x as ih =>
    cases b with
    | nil => simp at hl
    | cons y bs =>
      simp only [qz, List.map_cons, smul, addL] at hz
      have h1 := hz _ (List.mem_cons_self ..)
      have h2 : (x : Rat) = (y : Rat) := by grind
      rw [Rat.intCast_inj.mp h2, ih (b := bs) (by simpa using hl) fun c hc => hz c (List.mem_cons_of_mem _ hc)]
def KB (R : Nat) : Nat → Nat
  | 0 => 0
  | 1 => 1
  | n + 2 => 1 + 2 * (1 + R) * KB R (n + 1)
theorem by_values (R : Nat) : ∀ (n : Nat) (q : List Int) (A : Nat) (pts : List Int), q.length ≤ n → n ≤ pts.length → pts.Nodup → (∀ x ∈ pts, x.natAbs ≤ R ∧ (eI q x).natAbs ≤ A) → N1 q ≤ KB R n * A
  | 0, q, A, pts, h1, _, _, _ => by
    have : q = [] := List.length_eq_zero_iff.mp (by omega)
    subst this
    simp [N1]
  | 1, q, A, x :: pts, h1, _, _, h4 => by
    cases q with
    | nil => simp [N1]
    | cons a as =>
      have : as = [] := List.length_eq_zero_iff.mp (by simp only [List.length_cons] at h1; omega)
      subst this
      have := (h4 x (by simp)).2
      simp only [N1, eI] at this ⊢
      simp [KB]
      simpa using this
  | n + 2, q, A, x :: pts, h1, h2, h3, h4 => by
    rw [List.nodup_cons] at h3
    have hx := h4 x (by simp)
    by_cases hq : q = []
    · subst hq; simp [N1]
    · have hl : 1 ≤ q.length := List.length_pos_iff.mpr hq
      have hh := by_values R (n + 1) (hd x q) (2 * A) pts (by rw [hd_len]; omega) (by simp at h2; omega) h3.2 fun y hy => by
        refine ⟨(h4 y (by simp [hy])).1, ?_⟩
        have hy2 := (h4 y (by simp [hy])).2
        have e := hd_ev x (y : Rat) q
        rw [eI_eZ, eI_eZ, ← Rat.intCast_sub, ← Rat.intCast_mul, ← Rat.intCast_add, Rat.intCast_inj] at e
        have hne : y - x ≠ 0 := fun h => h3.1 (by have : y = x := by omega
                                                  rw [← this]; exact hy)
        have e2 : (y - x).natAbs * (eI (hd x q) y).natAbs = (eI q y - eI q x).natAbs := by
          rw [← Int.natAbs_mul]; congr 1; omega
        have h5 : 1 * (eI (hd x q) y).natAbs ≤ (y - x).natAbs * (eI (hd x q) y).natAbs := Nat.mul_le_mul_right _ (by omega)
        omega
      have el : q = addZ [eI q x] (addZ (0 :: hd x q) ((hd x q).map (-x * ·))) := by
        refine list_uniq ?_ fun t => ?_
        · simp only [addZ_len, List.length_map, hd_len, List.length_cons, List.length_nil]
          omega
        · rw [eZ_add, eZ_add, eZ_smul, eZ_cons, eZ_cons, eZ_nil, hd_ev x t q, Rat.intCast_neg]
          simp
          grind
      rw [el]
      refine Nat.le_trans (N1_add _ _) ?_
      have h6 := N1_add (0 :: hd x q) ((hd x q).map (-x * ·))
      rw [N1_smul, Int.natAbs_neg] at h6
      have h7 : x.natAbs * N1 (hd x q) ≤ R * N1 (hd x q) := Nat.mul_le_mul_right _ hx.1
      have h8 : N1 (0 :: hd x q) = N1 (hd x q) := by simp [N1]
      have h9 : N1 [eI q x] ≤ A := by simp only [N1]; omega
      have h10 : KB R (n + 2) * A = A + (1 + R) * (KB R (n + 1) * (2 * A)) := by
        rw [KB, Nat.add_mul, Nat.one_mul]
        congr 1
        rw [Nat.mul_comm 2 (1 + R), Nat.mul_assoc, Nat.mul_assoc, Nat.mul_left_comm 2]
      have h11 : (1 + R) * N1 (hd x q) ≤ (1 + R) * (KB R (n + 1) * (2 * A)) := Nat.mul_le_mul_left _ hh
      rw [Nat.add_mul, Nat.one_mul] at h11
      rw [h10]
      omega
theorem eI_bd {x : Int} {R : Nat} (hR : 1 ≤ R) (hx : x.natAbs ≤ R) : ∀ l : List Int, (eI l x).natAbs ≤ N1 l * R ^ (l.length - 1)
  | [] => by simp [eI, N1]
  | [a] => by simp [eI, N1]
  | a :: b :: r => by
    have h1 := eI_bd hR hx (b :: r)
    have e : eI (a :: b :: r) x = a + x * eI (b :: r) x := rfl
    have e2 : (a :: b :: r).length - 1 = (b :: r).length - 1 + 1 := by simp
    rw [e, e2, N1, Nat.pow_succ, Nat.add_mul]
    have h2 : (x * eI (b :: r) x).natAbs ≤ R * (N1 (b :: r) * R ^ ((b :: r).length - 1)) := by
      rw [Int.natAbs_mul]
      exact Nat.mul_le_mul hx h1
    have h3 : a.natAbs * 1 ≤ a.natAbs * (R ^ ((b :: r).length - 1) * R) := Nat.mul_le_mul_left _ (Nat.mul_pos (Nat.pow_pos hR) hR)
    have h4 := Int.natAbs_add_le a (x * eI (b :: r) x)
    have h5 : R * (N1 (b :: r) * R ^ ((b :: r).length - 1)) = N1 (b :: r) * (R ^ ((b :: r).length - 1) * R) := by
      rw [Nat.mul_comm, Nat.mul_assoc]
    omega
end Sm

set_option Elab.async false
set_option linter.all false
namespace Sm
/-! where all roots are known; few roots otherwise -/
structure Kn (p : Rat → Rat) (rs : List Rat) : Prop where
  root : ∀ r ∈ rs, p r = 0
  nz : ∀ x y, x ≤ y → (∀ r ∈ rs, ¬ (x ≤ r ∧ r ≤ y)) → NZ p x y
theorem Kn.congr {p q : Rat → Rat} {rs : List Rat} (h : Kn p rs) (e : ∀ x, q x = p x) : Kn q rs :=
  ⟨fun r hr => by rw [e]; exact h.root r hr, fun x y hxy hn => (h.nz x y hxy hn).congr e⟩
theorem Kn.mem {p : Rat → Rat} {rs rs' : List Rat} (h : Kn p rs) (e : ∀ r, r ∈ rs' ↔ r ∈ rs) : Kn p rs' :=
  ⟨fun r hr => h.root r ((e r).mp hr), fun x y hxy hn => h.nz x y hxy fun r hr => hn r ((e r).mpr hr)⟩
theorem Kn.const {c : Rat} (hc : c ≠ 0) : Kn (fun _ => c) [] := ⟨fun _ h => (List.not_mem_nil h).elim, fun x y _ _ => NZ.const hc x y⟩
theorem NZ.pos {f : Rat → Rat} {x y d : Rat} (hd : 0 < d) (h : ∀ t, x ≤ t → t ≤ y → d ≤ f t) : NZ f x y := ⟨d, hd, fun t a b => .inl (h t a b)⟩
theorem NZ.negv {f : Rat → Rat} {x y d : Rat} (hd : d < 0) (h : ∀ t, x ≤ t → t ≤ y → f t ≤ d) : NZ f x y := ⟨-d, by grind, fun t a b => .inr (by have := h t a b; grind)⟩
theorem Kn.free {p q : Rat → Rat} {rs : List Rat} (h : Kn p rs) (hq : ∀ x y, x ≤ y → NZ q x y) : Kn (fun x => p x * q x) rs :=
  ⟨fun r hr => by have := h.root r hr; show p r * q r = 0; rw [this]; grind, fun x y hxy hn => (h.nz x y hxy hn).mul (hq x y hxy)⟩
theorem line_nz {d r : Rat} (hd : 0 < d) {x y : Rat} (hxy : x ≤ y) (h : ¬ (x ≤ r ∧ r ≤ y)) : NZ (fun t => d * (t - r)) x y := by
  by_cases h1 : x ≤ r
  · have h2 : y < r := Rat.not_le.mp fun h2 => h ⟨h1, h2⟩
    have h3 : 0 < d * (r - y) := Rat.mul_pos hd (by grind)
    refine .negv (d := -(d * (r - y))) (by grind) fun t _ b => ?_
    have := Rat.mul_le_mul_of_nonneg_left (show t - r ≤ y - r by grind) (Rat.le_of_lt hd)
    grind
  · have h2 : r < x := Rat.not_le.mp h1
    refine .pos (d := d * (x - r)) (Rat.mul_pos hd (by grind)) fun t a _ => ?_
    exact Rat.mul_le_mul_of_nonneg_left (by grind) (Rat.le_of_lt hd)
theorem Kn.line {p : Rat → Rat} {rs : List Rat} {d r : Rat} (h : Kn p rs) (hd : 0 < d) : Kn (fun x => p x * (d * (x - r))) (rs ++ [r]) := by
  refine ⟨fun s hs => ?_, fun x y hxy hn => ?_⟩
  · rcases List.mem_append.mp hs with hs | hs
    · have := h.root s hs
      show p s * _ = 0
      rw [this]; grind
    · have : s = r := by simpa using hs
      subst this
      show p s * (d * (s - s)) = 0
      grind
  · exact (h.nz x y hxy fun s hs => hn s (by simp [hs])).mul (line_nz hd hxy (hn r (by simp)))
theorem num_den (r : Rat) : (r.num : Rat) = (r.den : Rat) * r := by
  have h1 := Rat.num_divInt_den r
  rw [Rat.divInt_eq_div] at h1
  have h2 : ((r.den : Int) : Rat) ≠ 0 := fun h => by have := Rat.intCast_eq_zero_iff.mp h; have := r.den_pos; omega
  rw [Rat.intCast_natCast] at h1 h2
  grind
theorem den_pos' (r : Rat) : (0 : Rat) < (r.den : Rat) := by
  have := r.den_pos
  exact Rat.natCast_pos.mpr this
theorem eZ_line (r : Rat) (x : Rat) : eZ [-r.num, (r.den : Int)] x = (r.den : Rat) * (x - r) := by
  have h := num_den r
  rw [eZ_cons, eZ_cons, eZ_nil, Rat.intCast_neg, Rat.intCast_natCast, h]
  grind
theorem sq_nn (x : Rat) : 0 ≤ x * x := by
  by_cases h : 0 ≤ x
  · exact Rat.mul_nonneg h h
  · have := Rat.mul_nonneg (show 0 ≤ -x by grind) (show 0 ≤ -x by grind)
    grind
theorem quad_nz {e d : Int} (he : 1 ≤ e) (hd : -1 ≤ d) (hd2 : d ≤ 1) (x y : Rat) : NZ (eZ [e, d, 2]) x y := by
  refine .pos (d := 1 / 2) (by grind) fun t _ _ => ?_
  have h1 : (1 : Rat) ≤ (e : Rat) := Rat.intCast_le_intCast.mpr he
  have h2 : ((2 : Int) : Rat) = 2 := rfl
  rw [eZ_cons, eZ_cons, eZ_cons, eZ_nil, h2]
  have : d = -1 ∨ d = 0 ∨ d = 1 := by omega
  rcases this with rfl | rfl | rfl
  · have h3 : ((-1 : Int) : Rat) = -1 := rfl
    rw [h3]
    have := sq_nn (t - 1 / 4)
    grind
  · have h3 : ((0 : Int) : Rat) = 0 := rfl
    rw [h3]
    have := sq_nn t
    grind
  · have h3 : ((1 : Int) : Rat) = 1 := rfl
    rw [h3]
    have := sq_nn (t + 1 / 4)
    grind
section
variable {p : Rat → Rat} {W : Rat → Int}
theorem Stu.kn (S : Stu p W) {rs : List Rat} (k : Kn p rs) (hn : rs.Nodup) {x y : Rat} (hxy : x ≤ y) : W x - W y = ((rs.filter (inR x y)).length : Int) := S.count hn k.root k.nz hxy
theorem Stu.flat (S : Stu p W) {x y : Rat} (hxy : x ≤ y) (h : NZ p x y) : W x = W y := by
  obtain ⟨M, hx, hy⟩ := Bd.both x y
  obtain ⟨h0, hh, h1⟩ := S.loc M
  refine grid hh (fun t => W x = W t) hxy rfl fun t u a b c d ih => ?_
  obtain ⟨_, l2, _⟩ := h1 t u ⟨hx.mid hy a (by grind), hx.mid hy (by grind) c, b, d⟩
  rw [ih]
  exact l2 (.inr (h.mono a c))
theorem Stu.neg (S : Stu p W) : Stu (fun x => -p x) W := by
  refine ⟨S.pol.neg, fun M => ?_⟩
  obtain ⟨h, hh, h1⟩ := S.loc M
  have hz : ∀ x y, NZ (fun x => -p x) x y ↔ NZ p x y := fun x y =>
    ⟨fun h => (((NZ.const (c := -1) (by decide) x y).mul h)).congr fun t => by grind, fun h => (((NZ.const (c := -1) (by decide) x y).mul h)).congr fun t => by grind⟩
  refine ⟨h, hh, fun x y t => ?_⟩
  obtain ⟨l1, l2, l3⟩ := h1 x y t
  refine ⟨fun a b => l1 (fun e => a (by show -p x = 0; rw [e]; grind)) (fun e => b ((hz x y).mpr e)), fun a => l2 ?_, fun a b => ?_⟩
  · rcases a with a | a
    · exact .inl (by have : -p x = 0 := a; grind)
    · exact .inr ((hz x y).mp a)
  · have a' : -p x = 0 := a
    have b' : -p y = 0 := b
    exact l3 (by grind) (by grind)
theorem Stu.one_up (S : Stu p W) {x y : Rat} (hxy : x ≤ y) (hm : ∀ t u, x ≤ t → t ≤ u → u ≤ y → p t ≤ p u) (hx0 : p x < 0) (hy0 : 0 < p y) : W x - W y = 1 := by
  obtain ⟨M, hx, hy⟩ := Bd.both x y
  obtain ⟨h0, hh, h1⟩ := S.loc M
  have key : W x - W y = if p y < 0 then 0 else 1 := by
    refine grid hh (fun t => W x - W t = if p t < 0 then 0 else 1) hxy (by rw [if_pos hx0]; omega) fun t u a b c d ih => ?_
    obtain ⟨l1, l2, l3⟩ := h1 t u ⟨hx.mid hy a (by grind), hx.mid hy (by grind) c, b, d⟩
    have b' := Rat.le_of_lt b
    have htu := hm t u a b' c
    by_cases hu : p u < 0
    · have ht : p t < 0 := by grind
      have := l2 (.inr (.negv hu fun s e f => hm s u (by grind) f c))
      rw [if_pos hu]
      rw [if_pos ht] at ih
      omega
    · rw [if_neg hu]
      by_cases ht : p t < 0
      · rw [if_pos ht] at ih
        have := l1 (fun e => by grind) (fun e => by
          have h2 := e.same S.pol b'
          rw [sg_neg ht] at h2
          rcases sg_cases (p u) with ⟨e1, q⟩ | ⟨e1, q⟩ | ⟨q, e1⟩ <;> grind)
        omega
      · rw [if_neg ht] at ih
        by_cases ht0 : p t = 0
        · have := l2 (.inl ht0)
          omega
        · have := l2 (.inr (.pos (d := p t) (by grind) fun s e f => hm t s a e (by grind)))
          omega
  rw [if_neg (by grind)] at key
  exact key
end
/-- the cell of the least root above nought -/
structure CellM (p : Rat → Rat) (W : Rat → Int) (g : Rat) (w : Option Int) : Prop where
  stu : Stu p W
  far : ∃ far : Rat, 1 ≤ far ∧ (∀ x : Rat, far ≤ x → p x ≠ 0) ∧ ((w = none ∧ W 0 - W far = 0) ∨
    ∃ low : Int, w = some low ∧ 0 ≤ low ∧ W 0 - W far ≠ 0 ∧ W 0 - W (low / g) = 0 ∧ W 0 - W ((low + 1) / g) ≠ 0)
theorem div_nn {a g : Rat} (ha : 0 ≤ a) (hg : 0 < g) : 0 ≤ a / g := by
  have h1 : g * (a / g) = a := by grind
  by_cases h : 0 ≤ a / g
  · exact h
  · have := Rat.mul_pos hg (show 0 < -(a / g) by grind)
    grind
theorem le_div {a r g : Rat} (hg : 0 < g) : r ≤ a / g ↔ r * g ≤ a := by
  have h1 : (a / g) * g = a := by grind
  constructor
  · intro h
    have := Rat.mul_le_mul_of_nonneg_right h (Rat.le_of_lt hg)
    rwa [h1] at this
  · intro h
    refine Classical.byContradiction fun hn => ?_
    have h2 : a / g < r := Rat.not_le.mp hn
    have := Rat.mul_pos (show 0 < r - a / g by grind) hg
    grind
theorem none_in {rs : List Rat} {x y : Rat} : (rs.filter (inR x y)).length = 0 ↔ ∀ r ∈ rs, ¬ (x < r ∧ r ≤ y) := by
  rw [List.length_eq_zero_iff, List.filter_eq_nil_iff]
  unfold inR
  simp
theorem CellM.none_pos {p : Rat → Rat} {W : Rat → Int} {g : Rat} {w : Option Int} (C : CellM p W g w) {rs : List Rat} (k : Kn p rs) (hn : rs.Nodup) (h : ∀ r ∈ rs, r ≤ 0) : w = none := by
  obtain ⟨far, hf, _, ⟨e, _⟩ | ⟨low, _, _, h1, _⟩⟩ := C.far
  · exact e
  · refine absurd ?_ h1
    rw [C.stu.kn k hn (show 0 ≤ far by grind)]
    have : (rs.filter (inR 0 far)).length = 0 := none_in.mpr fun r hr ⟨a, _⟩ => by have := h r hr; grind
    rw [this]; rfl
theorem CellM.least {p : Rat → Rat} {W : Rat → Int} {g : Rat} {w : Option Int} (C : CellM p W g w) {rs : List Rat} (k : Kn p rs) (hn : rs.Nodup) (hg : 0 < g) {r0 : Rat} (h0 : r0 ∈ rs) (hp : 0 < r0) (h : ∀ r ∈ rs, 0 < r → r0 ≤ r) :
    ∃ low : Int, w = some low ∧ (low : Rat) < r0 * g ∧ r0 * g ≤ low + 1 := by
  have cnt : ∀ y, 0 ≤ y → (W 0 - W y = 0 ↔ ¬ r0 ≤ y) := fun y hy => by
    rw [C.stu.kn k hn hy]
    have h1 := none_in (rs := rs) (x := 0) (y := y)
    constructor
    · intro h2 h3
      have h4 : (rs.filter (inR 0 y)).length = 0 := by omega
      exact h1.mp h4 r0 h0 ⟨hp, h3⟩
    · intro h2
      have h4 := h1.mpr fun r hr ⟨a, b⟩ => h2 (by have := h r hr a; grind)
      rw [h4]; rfl
  obtain ⟨far, hf, hr, hh⟩ := C.far
  have hfar : r0 ≤ far := by
    refine Classical.byContradiction fun hn => hr r0 (by grind) (k.root r0 h0)
  rcases hh with ⟨_, h1⟩ | ⟨low, e, hl, _, h2, h3⟩
  · exact absurd hfar ((cnt far (by grind)).mp h1)
  · have hl0 : (0 : Rat) ≤ (low : Rat) := Rat.intCast_le_intCast.mpr hl
    have a1 := (cnt _ (div_nn hl0 hg)).mp h2
    have a2 : r0 ≤ (low + 1) / g := Classical.byContradiction fun hn => h3 ((cnt _ (div_nn (show 0 ≤ (low : Rat) + 1 by grind) hg)).mpr hn)
    rw [le_div hg] at a1 a2
    exact ⟨low, e, Rat.not_le.mp a1, a2⟩
theorem cell_due {n d g low : Int} (hd : 0 < d) (h1 : low * d < n * g) (h2 : n * g ≤ (low + 1) * d) : -(-n * g / d) - 1 = low := by
  have h3 : -n * g / d = -(low + 1) := by
    refine Int.le_antisymm ?_ ?_
    · have h4 : -n * g / d < -low := by
        rw [Int.ediv_lt_iff_lt_mul hd, Int.neg_mul, Int.neg_mul]
        omega
      omega
    · rw [Int.le_ediv_iff_mul_le hd, Int.neg_mul, Int.neg_mul]
      omega
  omega
theorem cell_num {r : Rat} {g low : Int} (h1 : (low : Rat) < r * g) (h2 : r * g ≤ low + 1) : -(-r.num * g / (r.den : Int)) - 1 = low := by
  have hd := den_pos' r
  have hn := num_den r
  refine cell_due (by have := r.den_pos; omega) ?_ ?_
  · have h3 := Rat.mul_pos hd (show 0 < r * g - low by grind)
    have h4 : ((low * (r.den : Int) : Int) : Rat) < ((r.num * g : Int) : Rat) := by
      rw [Rat.intCast_mul, Rat.intCast_mul, Rat.intCast_natCast, hn]
      grind
    exact Rat.intCast_lt_intCast.mp h4
  · have h3 := Rat.mul_le_mul_of_nonneg_left h2 (Rat.le_of_lt hd)
    have h4 : ((r.num * g : Int) : Rat) ≤ (((low + 1) * (r.den : Int) : Int) : Rat) := by
      rw [Rat.intCast_mul, Rat.intCast_mul, Rat.intCast_natCast, Rat.intCast_add, hn]
      have : ((1 : Int) : Rat) = 1 := rfl
      rw [this]
      grind
    exact Rat.intCast_le_intCast.mp h4
end Sm

set_option Elab.async false
set_option linter.all false
namespace Sm
/-! some polynomials -/
theorem ev2 (a b : Int) (x : Rat) : eZ [a, b] x = (a : Rat) + x * (b : Rat) := by rw [eZ_cons, eZ_cons, eZ_nil]; grind
theorem ev3 (a b c : Int) (x : Rat) : eZ [a, b, c] x = (a : Rat) + x * ((b : Rat) + x * (c : Rat)) := by rw [eZ_cons, eZ_cons, eZ_cons, eZ_nil]; grind
theorem i0 : ((0 : Int) : Rat) = 0 := rfl
theorem i1 : ((1 : Int) : Rat) = 1 := rfl
theorem i2 : ((2 : Int) : Rat) = 2 := rfl
theorem im1 : ((-1 : Int) : Rat) = -1 := rfl
theorem im2 : ((-2 : Int) : Rat) = -2 := rfl
theorem m_up {W : Rat → Int} (S : Stu (eZ [-2, 0, 1]) W) : W 0 - W 2 = 1 := by
  refine S.one_up (by grind) (fun t u a b c => ?_) ?_ ?_
  · rw [ev3, ev3, im2, i0, i1]
    have h1 := Rat.mul_le_mul_of_nonneg_left b a
    have h2 := Rat.mul_le_mul_of_nonneg_right b (show 0 ≤ u by grind)
    grind
  · rw [ev3, im2, i0, i1]; grind
  · rw [ev3, im2, i0, i1]; grind
theorem m_down {W : Rat → Int} (S : Stu (eZ [-2, 0, 1]) W) : W (-2) - W 0 = 1 := by
  refine S.neg.one_up (by grind) (fun t u a b c => ?_) ?_ ?_
  · show -eZ _ t ≤ -eZ _ u
    rw [ev3, ev3, im2, i0, i1]
    have h1 := Rat.mul_le_mul_of_nonneg_left b (show 0 ≤ -u by grind)
    have h2 := Rat.mul_le_mul_of_nonneg_right b (show 0 ≤ -t by grind)
    grind
  · show -eZ _ _ < 0
    rw [ev3, im2, i0, i1]; grind
  · show 0 < -eZ _ _
    rw [ev3, im2, i0, i1]; grind
theorem m_all {W : Rat → Int} (S : Stu (eZ [-2, 0, 1]) W) : W (-2) - W 2 = 2 := by
  have h1 := m_up S
  have h2 := m_down S
  omega
theorem kn_line (a : Rat) : Kn (fun x => x - a) [a] := ((Kn.const (c := 1) (by decide)).line (d := 1) (r := a) (by decide)).congr fun x => by grind
theorem kn_sq : Kn (eZ [1, -2, 1]) [1] := by
  have h := (((Kn.const (c := 1) (by decide)).line (d := 1) (r := 1) (by decide)).line (d := 1) (r := 1) (by decide)).congr (q := eZ [1, -2, 1]) fun x => by
    rw [ev3, im2, i1]; grind
  exact h.mem fun r => by simp
theorem kn_xx : Kn (eZ [0, 0, 1]) [0] := by
  have h := (((Kn.const (c := 1) (by decide)).line (d := 1) (r := 0) (by decide)).line (d := 1) (r := 0) (by decide)).congr (q := eZ [0, 0, 1]) fun x => by
    rw [ev3, i0, i1]; grind
  exact h.mem fun r => by simp
theorem kn_half : Kn (eZ [0, -1, 2]) [0, 1 / 2] := by
  have h := (((Kn.const (c := 1) (by decide)).line (d := 1) (r := 0) (by decide)).line (d := 2) (r := 1 / 2) (by decide)).congr (q := eZ [0, -1, 2]) fun x => by
    rw [ev3, i0, im1, i2]; grind
  exact h.mem fun r => by simp
theorem kn_five : Kn (eZ [5]) [] := (Kn.const (c := 5) (by decide)).congr fun x => by rw [eZ_cons, eZ_nil]; have : ((5 : Int) : Rat) = 5 := rfl; grind
theorem kn_none : Kn (eZ [1, 0, 1]) [] := ⟨fun _ h => (List.not_mem_nil h).elim, fun x y _ _ => .pos (d := 1) (by decide) fun t _ _ => by
  rw [ev3, i0, i1]
  have := sq_nn t
  grind⟩
theorem kn_far (a : Int) : Kn (eZ [-a, 1]) [(a : Rat)] := (kn_line (a : Rat)).congr fun x => by rw [ev2, i1, Rat.intCast_neg]; grind
theorem one_in {W : Rat → Int} (S : Stu (eZ [1, -2, 1]) W) : W 0 - W 1 = 1 := by
  rw [S.kn kn_sq (by simp) (by grind)]
  have : inR 0 1 1 = true := by unfold inR; simp; grind
  simp [List.filter_cons, this]
theorem one_out {W : Rat → Int} (S : Stu (eZ [1, -2, 1]) W) : W 1 - W 9 = 0 := by
  rw [S.kn kn_sq (by simp) (by grind)]
  have : inR 1 9 1 = false := by unfold inR; simp
  simp [List.filter_cons, this]
theorem five_out {W : Rat → Int} (S : Stu (eZ [5]) W) : W (-1) - W 1 = 0 := by
  rw [S.kn kn_five (by simp) (by grind)]
  rfl
theorem gold {W : Rat → Int} {o : Option Int} (C : CellM (eZ [1, -1, -1]) W 8 o) : o = some 4 := by
  have S := C.stu
  have p : ∀ x, eZ [1, -1, -1] x = 1 - x - x * x := fun x => by rw [ev3, i1, im1]; grind
  have h1 : W 0 = W (1 / 2) := S.flat (by grind) (.pos (d := 1 / 4) (by grind) fun t a b => by
    rw [p]
    have h2 := Rat.mul_le_mul_of_nonneg_left b a
    grind)
  have h2 : W (5 / 8) < W 0 := S.turn (by grind) (by rw [p]; grind) (by
    have h3 : sg (eZ [1, -1, -1] 0) = 1 := sg_pos (by rw [p]; grind)
    have h4 : sg (eZ [1, -1, -1] (5 / 8)) = -1 := sg_neg (by rw [p]; grind)
    rw [h3, h4]; decide)
  have up : ∀ y, 5 / 8 ≤ y → W 0 - W y ≠ 0 := fun y hy => by
    have := S.mono hy
    omega
  have dn : ∀ y, 0 ≤ y → y ≤ 1 / 2 → W 0 - W y = 0 := fun y h3 h4 => by
    have := S.mono h3
    have := S.mono h4
    omega
  obtain ⟨far, hf, hr, ⟨rfl, h3⟩ | ⟨low, rfl, hl, h3, h4, h5⟩⟩ := C.far
  · exact absurd h3 (up far (by grind))
  · have h6 : (low : Rat) / 8 < 5 / 8 := Rat.not_le.mp fun h => up _ h h4
    have h7 : ¬ ((low : Rat) + 1) / 8 ≤ 1 / 2 := fun h => h5 (dn _ (div_nn (by have : (0 : Rat) ≤ (low : Rat) := Rat.intCast_le_intCast.mpr hl; grind) (by decide)) h)
    have h8 : (low : Rat) < ((5 : Int) : Rat) := by have : ((5 : Int) : Rat) = 5 := rfl; grind
    have h9 : ((3 : Int) : Rat) < (low : Rat) := by have : ((3 : Int) : Rat) = 3 := rfl; grind
    have h10 := Rat.intCast_lt_intCast.mp h8
    have h11 := Rat.intCast_lt_intCast.mp h9
    congr 1; omega
theorem cell_none {W : Rat → Int} {o : Option Int} (C : CellM (eZ [1, 0, 1]) W 8 o) : o = none := C.none_pos kn_none (by simp) fun r h => (List.not_mem_nil h).elim
theorem cell_xx {W : Rat → Int} {o : Option Int} (C : CellM (eZ [0, 0, 1]) W 1 o) : o = none := C.none_pos kn_xx (by simp) fun r h => by
  have : r = 0 := by simpa using h
  rw [this]; exact Rat.le_refl
theorem cell_half {W : Rat → Int} {o : Option Int} (C : CellM (eZ [0, -1, 2]) W 2 o) : o = some 0 := by
  obtain ⟨low, rfl, h1, h2⟩ := C.least kn_half (by simp; grind) (by decide) (r0 := 1 / 2) (by simp) (by grind) fun r h hp => by
    have : r = 0 ∨ r = 1 / 2 := by simpa using h
    grind
  have h3 : (low : Rat) < ((1 : Int) : Rat) := by rw [i1]; grind
  have h4 : ((0 : Int) : Rat) ≤ ((low + 1 - 1 : Int) : Rat) := by rw [Rat.intCast_sub, Rat.intCast_add, i0, i1]; grind
  have h5 := Rat.intCast_lt_intCast.mp h3
  have h6 := Rat.intCast_le_intCast.mp h4
  congr 1; omega
theorem cell_far {W : Rat → Int} {o : Option Int} {a : Int} (ha : 0 < a) (C : CellM (eZ [-a, 1]) W 3 o) : o = some (3 * a - 1) := by
  have ha' : (0 : Rat) < (a : Rat) := Rat.intCast_pos.mpr ha
  obtain ⟨low, rfl, h1, h2⟩ := C.least (kn_far a) (by simp) (by decide) (r0 := (a : Rat)) (by simp) ha' fun r h hp => by
    have : r = (a : Rat) := by simpa using h
    rw [this]; exact Rat.le_refl
  have i3 : ((3 : Int) : Rat) = 3 := rfl
  have h3 : (low : Rat) < ((a * 3 : Int) : Rat) := by rw [Rat.intCast_mul, i3]; exact h1
  have h4 : ((a * 3 : Int) : Rat) ≤ ((low + 1 : Int) : Rat) := by rw [Rat.intCast_mul, Rat.intCast_add, i3, i1]; exact h2
  have h5 := Rat.intCast_lt_intCast.mp h3
  have h6 := Rat.intCast_le_intCast.mp h4
  congr 1; omega
end Sm

set_option Elab.async false
set_option linter.all false
set_option maxRecDepth 100000
set_option maxHeartbeats 4000000
/-! A plain evaluator for a part of Python, and its bond to the hand layer. -/
namespace Ev
open PySem PySem.Spec PyProof.Rows L2

/-- values: tuples and the script's list by content, other lists by their number in the heap -/
inductive W where
  | non | bl (b : Bool) | int (i : Int) | tup (xs : List W) | rol (xs : List W) | ref (n : Nat)
abbrev G := List (List W)
inductive R (α : Type) where
  | no
  | ok (a : α) (g : G)
def R.bind {α β : Type} (r : R α) (k : α → G → R β) : R β := match r with
  | .no => .no
  | .ok a g => k a g
abbrev Sg := List (Option W)
abbrev Orc := Nat → List W → G → R W
abbrev CE := Orc → Sg → G → R W
abbrev CA := Orc → Sg → G → R (List W)
def lk : Sg → Nat → Option W
  | [], _ => none
  | x :: _, 0 => x
  | _ :: r, n + 1 => lk r n
def stw : Sg → Nat → W → Sg
  | [], _, _ => []
  | _ :: r, 0, w => some w :: r
  | x :: r, n + 1, w => x :: stw r n w

/-! ### how values lie in the heap -/
section
variable (K : PySem.W.Frag)
def SqF (H : Hp) (a : Addr) (xs : List V) : Prop :=
  (∃ o, H a = some (.frz o (.lst xs))) ∨
    ∃ (o : Obj) (its : Array Value) (n : Nat), K.lookup a = some o ∧ o.cls = .type "list" ∧ o.dict = none ∧ o.data = .seq its n ∧ its.size ≤ sizeLine ∧ Vals xs its.toList
theorem SqF.sq {H : Hp} {a : Addr} {xs : List V} (h : SqF K H a xs) : SqL K H a xs := by
  rcases h with h | h
  · exact .inl (.inr h)
  · exact .inr h
mutual
inductive RelW (ι : List Addr) (H : Hp) : V → W → Prop
  | non : RelW ι H .non .non
  | bl (b : Bool) : RelW ι H (.bl b) (.bl b)
  | int (i : Int) : RelW ι H (.int i) (.int i)
  | tup {a : Addr} {vs : List V} {ws : List W} : SqT K H a vs → RelWs ι H vs ws → RelW ι H (.ref a) (.tup ws)
  | rol {a : Addr} {vs : List V} {ws : List W} : SqF K H a vs → RelWs ι H vs ws → RelW ι H (.ref a) (.rol ws)
  | ref {a : Addr} {n : Nat} : ι[n]? = some a → RelW ι H (.ref a) (.ref n)
inductive RelWs (ι : List Addr) (H : Hp) : List V → List W → Prop
  | nil : RelWs ι H [] []
  | cons {v : V} {w : W} {vs : List V} {ws : List W} : RelW ι H v w → RelWs ι H vs ws → RelWs ι H (v :: vs) (w :: ws)
end
end
structure Ext (H H' : Hp) : Prop where
  tups : ∀ a xs, H a = some (.tup xs) → H' a = some (.tup xs)
  frzs : ∀ a o u, H a = some (.frz o u) → H' a = some (.frz o u)
theorem Ext.refl (H : Hp) : Ext H H := ⟨fun _ _ h => h, fun _ _ _ h => h⟩
theorem Ext.trans {H H1 H2 : Hp} (a : Ext H H1) (b : Ext H1 H2) : Ext H H2 := ⟨fun c xs h => b.tups c xs (a.tups c xs h), fun c o u h => b.frzs c o u (a.frzs c o u h)⟩
theorem Ext.new {H : Hp} {p : Addr} {o : HO} (h : H p = none) : Ext H (upd H p o) :=
  ⟨fun a xs e => by rw [upd_ne (ne_of_none e h)]; exact e, fun a ob u e => by rw [upd_ne (ne_of_none e h)]; exact e⟩
theorem Ext.set {H : Hp} {p : Addr} {xs : List V} {o : HO} (h : H p = some (.lst xs)) : Ext H (upd H p o) :=
  ⟨fun a ys e => by rw [upd_ne (ne_of e h (by intro z; cases z))]; exact e, fun a ob u e => by rw [upd_ne (ne_of e h (by intro z; cases z))]; exact e⟩

section
variable {K : PySem.W.Frag}
theorem Ext.sqT {H H' : Hp} (e : Ext H H') {a : Addr} {xs : List V} (h : SqT K H a xs) : SqT K H' a xs := by
  rcases h with (h | ⟨o, h⟩) | h
  · exact .inl (.inl (e.tups _ _ h))
  · exact .inl (.inr ⟨o, e.frzs _ _ _ h⟩)
  · exact .inr h
theorem Ext.sqF {H H' : Hp} (e : Ext H H') {a : Addr} {xs : List V} (h : SqF K H a xs) : SqF K H' a xs := by
  rcases h with ⟨o, h⟩ | h
  · exact .inl ⟨o, e.frzs _ _ _ h⟩
  · exact .inr h
/-- later on -/
structure Fut (ι : List Addr) (H : Hp) (ι' : List Addr) (H' : Hp) : Prop where
  pre : ι <+: ι'
  ext : Ext H H'
theorem Fut.refl (ι : List Addr) (H : Hp) : Fut ι H ι H := ⟨List.prefix_refl _, .refl _⟩
theorem Fut.trans {ι ι1 ι2 : List Addr} {H H1 H2 : Hp} (a : Fut ι H ι1 H1) (b : Fut ι1 H1 ι2 H2) : Fut ι H ι2 H2 := ⟨a.pre.trans b.pre, a.ext.trans b.ext⟩
theorem pre_get {ι ι' : List Addr} (h : ι <+: ι') {n : Nat} {a : Addr} (e : ι[n]? = some a) : ι'[n]? = some a := by
  obtain ⟨t, rfl⟩ := h
  obtain ⟨hn, _⟩ := List.getElem?_eq_some_iff.mp e
  rw [List.getElem?_append_left hn]
  exact e
mutual
theorem RelW.mono {ι ι' : List Addr} {H H' : Hp} (f : Fut ι H ι' H') : ∀ {v : V} {w : W}, RelW K ι H v w → RelW K ι' H' v w
  | _, _, .non => .non
  | _, _, .bl b => .bl b
  | _, _, .int i => .int i
  | _, _, .tup h r => .tup (f.ext.sqT h) (RelWs.mono f r)
  | _, _, .rol h r => .rol (f.ext.sqF h) (RelWs.mono f r)
  | _, _, .ref e => .ref (pre_get f.pre e)
theorem RelWs.mono {ι ι' : List Addr} {H H' : Hp} (f : Fut ι H ι' H') : ∀ {vs : List V} {ws : List W}, RelWs K ι H vs ws → RelWs K ι' H' vs ws
  | _, _, .nil => .nil
  | _, _, .cons r t => .cons (RelW.mono f r) (RelWs.mono f t)
end
section
variable {ι : List Addr} {H : Hp}
theorem RelWs.length : ∀ {vs : List V} {ws : List W}, RelWs K ι H vs ws → vs.length = ws.length
  | _, _, .nil => rfl
  | _, _, .cons _ t => congrArg Nat.succ (RelWs.length t)
theorem RelWs.append : ∀ {vs vs' : List V} {ws ws' : List W}, RelWs K ι H vs ws → RelWs K ι H vs' ws' → RelWs K ι H (vs ++ vs') (ws ++ ws')
  | _, _, _, _, .nil, s => s
  | _, _, _, _, .cons r t, s => .cons r (RelWs.append t s)
theorem RelWs.get : ∀ {vs : List V} {ws : List W} {i : Nat} {w : W}, RelWs K ι H vs ws → ws[i]? = some w → ∃ v, vs[i]? = some v ∧ RelW K ι H v w
  | _, _, _, _, .nil, e => by simp at e
  | _, _, 0, _, .cons r _, e => by simp at e; subst e; exact ⟨_, rfl, r⟩
  | _, _, i + 1, w, .cons r t, e => by
    obtain ⟨v, h1, h2⟩ := RelWs.get (i := i) (w := w) t (by simpa using e)
    exact ⟨v, by simpa using h1, h2⟩
theorem RelWs.get' : ∀ {vs : List V} {ws : List W} {i : Nat} {v : V}, RelWs K ι H vs ws → vs[i]? = some v → ∃ w, ws[i]? = some w ∧ RelW K ι H v w
  | _, _, _, _, .nil, e => by simp at e
  | _, _, 0, _, .cons r _, e => by simp at e; subst e; exact ⟨_, rfl, r⟩
  | _, _, i + 1, w, .cons r t, e => by
    obtain ⟨v, h1, h2⟩ := RelWs.get' (i := i) (v := w) t (by simpa using e)
    exact ⟨v, by simpa using h1, h2⟩
theorem RelWs.set : ∀ {vs : List V} {ws : List W} {v : V} {w : W} (i : Nat), RelWs K ι H vs ws → RelW K ι H v w → RelWs K ι H (vs.set i v) (ws.set i w)
  | _, _, _, _, _, .nil, _ => .nil
  | _, _, _, _, 0, .cons _ t, r => .cons r t
  | _, _, _, _, i + 1, .cons q t, r => .cons q (RelWs.set i t r)
theorem RelWs.take : ∀ {vs : List V} {ws : List W} (n : Nat), RelWs K ι H vs ws → RelWs K ι H (vs.take n) (ws.take n)
  | _, _, 0, _ => .nil
  | _, _, _ + 1, .nil => .nil
  | _, _, n + 1, .cons r t => .cons r (RelWs.take n t)
theorem RelWs.drop : ∀ {vs : List V} {ws : List W} (n : Nat), RelWs K ι H vs ws → RelWs K ι H (vs.drop n) (ws.drop n)
  | _, _, 0, r => r
  | _, _, _ + 1, .nil => .nil
  | _, _, n + 1, .cons _ t => RelWs.drop n t
theorem RelWs.reverse : ∀ {vs : List V} {ws : List W}, RelWs K ι H vs ws → RelWs K ι H vs.reverse ws.reverse
  | _, _, .nil => .nil
  | _, _, .cons r t => by
    rw [List.reverse_cons, List.reverse_cons]
    exact (RelWs.reverse t).append (.cons r .nil)
theorem RelWs.dropLast {vs : List V} {ws : List W} (r : RelWs K ι H vs ws) : RelWs K ι H vs.dropLast ws.dropLast := by
  rw [List.dropLast_eq_take, List.dropLast_eq_take, r.length]
  exact r.take _
theorem RelWs.rep {v : V} {w : W} (r : RelW K ι H v w) : ∀ n : Nat, RelWs K ι H (List.replicate n v) (List.replicate n w)
  | 0 => .nil
  | n + 1 => .cons r (RelWs.rep r n)
end
/-- the heap of lists -/
structure RG (K : PySem.W.Frag) (ι : List Addr) (g : G) (H : Hp) : Prop where
  nd : ι.Nodup
  len : ι.length = g.length
  at_ : ∀ (n : Nat) (a : Addr) (ws : List W), ι[n]? = some a → g[n]? = some ws → ∃ vs, H a = some (.lst vs) ∧ RelWs K ι H vs ws
section
variable {ι : List Addr} {g : G} {H : Hp} {p a : Addr} {n : Nat} {vs : List V} {ws : List W}
theorem RG.get (r : RG K ι g H) (e : ι[n]? = some a) : ∃ ws vs, g[n]? = some ws ∧ H a = some (.lst vs) ∧ RelWs K ι H vs ws := by
  obtain ⟨hn, _⟩ := List.getElem?_eq_some_iff.mp e
  have hg : n < g.length := by rw [← r.len]; exact hn
  obtain ⟨vs, h1, h2⟩ := r.at_ n a g[n] e (List.getElem?_eq_getElem hg)
  exact ⟨g[n], vs, List.getElem?_eq_getElem hg, h1, h2⟩
theorem RG.ne (r : RG K ι g H) (h : H p = none) : p ∉ ι := fun hp => by
  obtain ⟨n, hn, e⟩ := List.getElem_of_mem hp
  obtain ⟨_, _, _, q, _⟩ := r.get (n := n) (a := p) (by rw [List.getElem?_eq_getElem hn, e])
  rw [h] at q
  cases q
theorem RG.new (r : RG K ι g H) (h : H p = none) (rw_ : RelWs K ι H vs ws) : RG K (ι ++ [p]) (g ++ [ws]) (upd H p (.lst vs)) ∧ Fut ι H (ι ++ [p]) (upd H p (.lst vs)) ∧ RelW K (ι ++ [p]) (upd H p (.lst vs)) (.ref p) (.ref g.length) := by
  have f : Fut ι H (ι ++ [p]) (upd H p (.lst vs)) := ⟨List.prefix_append _ _, .new h⟩
  refine ⟨⟨?_, by simp [r.len], fun n a us e1 e2 => ?_⟩, f, .ref ?_⟩
  · rw [List.nodup_append]
    refine ⟨r.nd, by simp, fun x hx y hy => ?_⟩
    have : y = p := by simpa using hy
    subst this
    rintro rfl
    exact r.ne h hx
  · by_cases hn : n < ι.length
    · rw [List.getElem?_append_left hn] at e1
      rw [List.getElem?_append_left (by rw [← r.len]; exact hn)] at e2
      obtain ⟨vs', q1, q2⟩ := r.at_ n a us e1 e2
      exact ⟨vs', by rw [upd_ne (ne_of_none q1 h)]; exact q1, q2.mono f⟩
    · have hn' : ι.length ≤ n := Nat.le_of_not_lt hn
      rw [List.getElem?_append_right hn'] at e1
      rw [List.getElem?_append_right (by rw [← r.len]; exact hn')] at e2
      obtain ⟨h3, _⟩ := List.getElem?_eq_some_iff.mp e1
      have h4 : n - ι.length = 0 := by simpa using h3
      rw [h4] at e1
      rw [← r.len, h4] at e2
      have e3 : p = a := by simpa using e1
      have e4 : ws = us := by simpa using e2
      subst e3 e4
      exact ⟨vs, upd_same, rw_.mono f⟩
  · rw [← r.len]
    simp
theorem RG.set (r : RG K ι g H) (e : ι[n]? = some a) {vs0 : List V} (h : H a = some (.lst vs0)) (rw_ : RelWs K ι H vs ws) : RG K ι (g.set n ws) (upd H a (.lst vs)) ∧ Fut ι H ι (upd H a (.lst vs)) := by
  have f : Fut ι H ι (upd H a (.lst vs)) := ⟨List.prefix_refl _, .set h⟩
  refine ⟨⟨r.nd, by simp [r.len], fun m b us e1 e2 => ?_⟩, f⟩
  by_cases hm : m = n
  · subst hm
    rw [e] at e1
    cases e1
    have hl : m < g.length := by rw [← r.len]; exact (List.getElem?_eq_some_iff.mp e).1
    rw [List.getElem?_set_self hl] at e2
    cases e2
    exact ⟨vs, upd_same, rw_.mono f⟩
  · rw [List.getElem?_set_ne (Ne.symm hm)] at e2
    obtain ⟨vs', q1, q2⟩ := r.at_ m b us e1 e2
    have hne : b ≠ a := by
      rintro rfl
      obtain ⟨h1, k1⟩ := List.getElem?_eq_some_iff.mp e1
      obtain ⟨h2, k2⟩ := List.getElem?_eq_some_iff.mp e
      exact hm ((List.getElem_inj r.nd).mp (k1.trans k2.symm))
    exact ⟨vs', by rw [upd_ne hne]; exact q1, q2.mono f⟩
theorem RG.tup (r : RG K ι g H) (h : H p = none) (rw_ : RelWs K ι H vs ws) : RG K ι g (upd H p (.tup vs)) ∧ Fut ι H ι (upd H p (.tup vs)) ∧ RelW K ι (upd H p (.tup vs)) (.ref p) (.tup ws) := by
  have f : Fut ι H ι (upd H p (.tup vs)) := ⟨List.prefix_refl _, .new h⟩
  refine ⟨⟨r.nd, r.len, fun n a us e1 e2 => ?_⟩, f, .tup (.of upd_same) (rw_.mono f)⟩
  obtain ⟨vs', q1, q2⟩ := r.at_ n a us e1 e2
  exact ⟨vs', by rw [upd_ne (ne_of_none q1 h)]; exact q1, q2.mono f⟩
end
/-! ### slots -/
inductive RelS (K : PySem.W.Frag) (ι : List Addr) (H : Hp) : Sg → L2.St → Prop
  | nil : RelS K ι H [] []
  | some {v : V} {w : W} {s : Sg} {σ : L2.St} : RelW K ι H v w → RelS K ι H s σ → RelS K ι H (some w :: s) (some v :: σ)
  | none {y : Option V} {s : Sg} {σ : L2.St} : RelS K ι H s σ → RelS K ι H (none :: s) (y :: σ)
theorem RelS.mono {ι ι' : List Addr} {H H' : Hp} (f : Fut ι H ι' H') : ∀ {s : Sg} {σ : L2.St}, RelS K ι H s σ → RelS K ι' H' s σ
  | _, _, .nil => .nil
  | _, _, .some r t => .some (r.mono f) (RelS.mono f t)
  | _, _, .none t => .none (RelS.mono f t)
theorem RelS.lk {ι : List Addr} {H : Hp} : ∀ {s : Sg} {σ : L2.St} {i : Nat} {w : W}, RelS K ι H s σ → lk s i = Option.some w → ∃ v, σ[i]? = Option.some (Option.some v) ∧ RelW K ι H v w
  | _, _, _, _, .nil, e => by cases e
  | _, _, 0, w, .some r t, e => by cases e; exact ⟨_, rfl, r⟩
  | _, _, i + 1, w, .some r t, e => by
    obtain ⟨v, h1, h2⟩ := RelS.lk (i := i) (w := w) t e
    exact ⟨v, by simpa using h1, h2⟩
  | _, _, 0, w, .none t, e => by cases e
  | _, _, i + 1, w, .none t, e => by
    obtain ⟨v, h1, h2⟩ := RelS.lk (i := i) (w := w) t e
    exact ⟨v, by simpa using h1, h2⟩
theorem RelS.set {ι : List Addr} {H : Hp} {v : V} {w : W} (r : RelW K ι H v w) : ∀ {s : Sg} {σ : L2.St} (i : Nat), RelS K ι H s σ → RelS K ι H (stw s i w) (σ.set i (Option.some v))
  | _, _, _, .nil => .nil
  | _, _, 0, .some _ t => .some r t
  | _, _, i + 1, .some q t => .some q (RelS.set r i t)
  | _, _, 0, .none t => .some r t
  | _, _, i + 1, .none t => .none (RelS.set r i t)
theorem RelS.length {ι : List Addr} {H : Hp} : ∀ {s : Sg} {σ : L2.St}, RelS K ι H s σ → s.length = σ.length
  | _, _, .nil => rfl
  | _, _, .some _ t => congrArg Nat.succ (RelS.length t)
  | _, _, .none t => congrArg Nat.succ (RelS.length t)
end
end Ev

set_option Elab.async false
set_option linter.all false
set_option maxRecDepth 100000
set_option maxHeartbeats 4000000
/-! Readings of the evaluator: expressions, tests, arguments. -/
namespace Ev
open PySem PySem.Spec PyProof.Rows L2

section
variable (K : PySem.W.Frag)
def Gd (ι : List Addr) (H : Hp) (w : W) (g : G) (Q : VK) : Prop := ∀ ι' H' v, Fut ι H ι' H' → RG K ι' g H' → RelW K ι' H' v w → Q v H'
def Gs (ι : List Addr) (H : Hp) (g : G) (Q : Hp → Prop) : Prop := ∀ ι' H', Fut ι H ι' H' → RG K ι' g H' → Q H'
def rdE (o : Orc) (c : CE) : TE := fun σ H Q => ∃ ι g s w g', RelS K ι H s σ ∧ RG K ι g H ∧ c o s g = .ok w g' ∧ Gd K ι H w g' Q
def rdT (o : Orc) (c : CE) : TT := fun σ H Q => ∃ ι g s b g', RelS K ι H s σ ∧ RG K ι g H ∧ c o s g = .ok (.bl b) g' ∧ Gs K ι H g' (Q b)
def rdA (o : Orc) (c : CA) : TA := fun σ H Q => ∃ ι g s ws g', RelS K ι H s σ ∧ RG K ι g H ∧ c o s g = .ok ws g' ∧ ∀ ι' H' vs, Fut ι H ι' H' → RG K ι' g' H' → RelWs K ι' H' vs ws → Q vs H'
end
section
variable {K : PySem.W.Frag}
theorem Gd.mono {ι ι1 : List Addr} {H H1 : Hp} {w : W} {g : G} {Q : VK} (h : Gd K ι H w g Q) (f : Fut ι H ι1 H1) : Gd K ι1 H1 w g Q := fun ι' H' v f' r q => h ι' H' v (f.trans f') r q
theorem Gs.mono {ι ι1 : List Addr} {H H1 : Hp} {g : G} {Q : Hp → Prop} (h : Gs K ι H g Q) (f : Fut ι H ι1 H1) : Gs K ι1 H1 g Q := fun ι' H' f' r => h ι' H' (f.trans f') r
theorem Gd.here {ι : List Addr} {H : Hp} {v : V} {w : W} {g : G} {Q : VK} (h : Gd K ι H w g Q) (r : RG K ι g H) (q : RelW K ι H v w) : Q v H := h ι H v (.refl _ _) r q
end
theorem R.bind_ok {α β : Type} {r : R α} {k : α → G → R β} {b : β} {g' : G} (h : r.bind k = .ok b g') : ∃ a g1, r = .ok a g1 ∧ k a g1 = .ok b g' := by
  cases r with
  | no => cases h
  | ok a g1 => exact ⟨a, g1, rfl, h⟩
theorem _root_.L2.PE.evi {X : Cx} {e : Expr} {t t' : TE} (h : PE X e t) (i : ∀ σ H Q, t' σ H Q → t σ H Q) : PE X e t' := ⟨fun pins s σ H Q I hw => h.run pins s σ H Q I (i _ _ _ hw)⟩
theorem _root_.L2.PT.evi {X : Cx} {e : Expr} {t t' : TT} (h : PT X e t) (i : ∀ σ H Q, t' σ H Q → t σ H Q) : PT X e t' := ⟨fun pins s σ H Q I hw => h.run pins s σ H Q I (i _ _ _ hw)⟩
theorem _root_.L2.PW.evi {X : Cx} {e : Expr} {t t' : TT} (h : PW X e t) (i : ∀ σ H Q, t' σ H Q → t σ H Q) : PW X e t' := ⟨fun wh pins s σ H Q I hw => h.run wh pins s σ H Q I (i _ _ _ hw)⟩
theorem _root_.L2.PA.evi {X : Cx} {e : List Expr} {t t' : TA} (h : PA X e t) (i : ∀ σ H Q, t' σ H Q → t σ H Q) : PA X e t' := ⟨fun pos pins s σ H Q I hw => h.run pos pins s σ H Q I (i _ _ _ hw)⟩
theorem _root_.L2.PS.evi {X : Cx} {e : Stmt} {t t' : TS} (h : PS X e t) (i : ∀ D σ H, t' D σ H → t D σ H) : PS X e t' := ⟨fun pins s σ H D I hw => h.run pins s σ H D I (i _ _ _ hw)⟩
theorem _root_.L2.PSs.evi {X : Cx} {e : List Stmt} {t t' : TS} (h : PSs X e t) (i : ∀ D σ H, t' D σ H → t D σ H) : PSs X e t' := ⟨fun pins s σ H D I hw => h.run pins s σ H D I (i _ _ _ hw)⟩
theorem OpR.or {X : Cx} {f : Value → Value → Sem Value} {r r' : R2} (h : OpR X f r) (h' : OpR X f r') : OpR X f (fun x y H Q => r x y H Q ∨ r' x y H Q) :=
  fun pins s σ H x y v u Q I rx ry q => q.elim (h pins s σ H x y v u Q I rx ry) (h' pins s σ H x y v u Q I rx ry)

/-! ### the combinators -/
def eVar (i : Nat) : CE := fun _ s g => match lk s i with
  | some w => .ok w g
  | none => .no
def eC (w : W) : CE := fun _ _ g => .ok w g
def eBin (f : W → W → G → R W) (a b : CE) : CE := fun o s g => (a o s g).bind fun x g1 => (b o s g1).bind fun y g2 => f x y g2
def eUn (f : W → G → R W) (a : CE) : CE := fun o s g => (a o s g).bind fun x g1 => f x g1
def aNil : CA := fun _ _ g => .ok [] g
def aCons (a : CE) (r : CA) : CA := fun o s g => (a o s g).bind fun x g1 => (r o s g1).bind fun xs g2 => .ok (x :: xs) g2
def eFun (f : List W → G → R W) (a : CA) : CE := fun o s g => (a o s g).bind fun xs g1 => f xs g1
def eCall (k n : Nat) (a : CA) : CE := fun o s g => (a o s g).bind fun xs g1 => if (xs.length == n) = true then o k xs g1 else .no
def fTup (ws : List W) (g : G) : R W := if ws.length ≤ 1000 then .ok (.tup ws) g else .no
def fLst (ws : List W) (g : G) : R W := if ws.length ≤ 1000 then .ok (.ref g.length) (g ++ [ws]) else .no
def eAnd (a b : CE) : CE := fun o s g => (a o s g).bind fun x g1 => match x with
  | .bl true => b o s g1
  | .bl false => .ok (.bl false) g1
  | _ => .no
def eOr (a b : CE) : CE := fun o s g => (a o s g).bind fun x g1 => match x with
  | .bl true => .ok (.bl true) g1
  | .bl false => b o s g1
  | _ => .no
def eNot (a : CE) : CE := fun o s g => (a o s g).bind fun x g1 => match x with
  | .bl b => .ok (.bl (!b)) g1
  | _ => .no
def eIf (c a b : CE) : CE := fun o s g => (c o s g).bind fun x g1 => match x with
  | .bl true => a o s g1
  | .bl false => b o s g1
  | _ => .no
def eChain (f f' : W → W → G → R W) (a b c : CE) : CE := fun o s g => (a o s g).bind fun x g1 => (b o s g1).bind fun y g2 => (f x y g2).bind fun z g3 => match z with
  | .bl true => (c o s g3).bind fun w g4 => f' y w g4
  | .bl false => .ok (.bl false) g3
  | _ => .no
def isNon : W → Bool
  | .non => true
  | _ => false
def eIsN (a : CE) : CE := fun o s g => (a o s g).bind fun x g1 => .ok (.bl (isNon x)) g1

/-! ### their bonds -/
section
variable {X : Cx} {o : Orc} {a b c e : Expr} {es rest : List Expr} {ca cb cc : CE} {cs : CA} {pos : Pos}
theorem ev_var (i : Nat) {x : Str} (hN : X.N[i]? = some x := by rfl) (hv : Vis X.env.scope x := by first | exact Or.inl rfl | exact Or.inr (Or.inl rfl) | exact Or.inr (Or.inr rfl)) (hd : (x == ("__debug__" : Str)) = false := by decide)
    (hcd : (x == ("__classdict__" : Str)) = false := by decide) : PE X (.Name x pos) (rdE X.K o (eVar i)) := (pe_var hN hv hd hcd).evi fun σ H Q ⟨ι, g, s, w, g', rs, rg, e, gd⟩ => by
  unfold eVar at e
  cases q : lk s i with
  | none => rw [q] at e; cases e
  | some w' =>
    rw [q] at e
    cases e
    obtain ⟨v, h1, h2⟩ := rs.lk q
    exact ⟨v, h1, gd.here rg h2⟩
theorem ev_const {w : W} {v : V} (h : PE X e (tC v)) (r : ∀ ι H, RelW X.K ι H v w) : PE X e (rdE X.K o (eC w)) := h.evi fun σ H Q ⟨ι, g, s, w', g', rs, rg, e, gd⟩ => by
  cases e
  exact gd.here rg (r _ _)
theorem ev_int {i : Int} {j} : PE X (.Constant (.int i) j pos) (rdE X.K o (eC (.int i))) := ev_const pe_int fun _ _ => .int i
theorem ev_bl {i : Bool} {j} : PE X (.Constant (.bool i) j pos) (rdE X.K o (eC (.bl i))) := ev_const pe_bl fun _ _ => .bl i
theorem ev_non {j} : PE X (.Constant .none j pos) (rdE X.K o (eC .non)) := ev_const pe_non fun _ _ => .non
theorem ev_gint {x : Str} {i : Int} {t : Tok} (hm : X.mg x = some (.int i t)) (hg : Gl X x := by rfl) (hd : (x == ("__debug__" : Str)) = false := by decide) : PE X (.Name x pos) (rdE X.K o (eC (.int i))) :=
  ev_const (pe_glob (v := .int i) hg hm ⟨t, rfl⟩ hd) fun _ _ => .int i

def OpS (K : PySem.W.Frag) (r : R2) (f : W → W → G → R W) : Prop := ∀ ι g H x y v u w g' Q, RG K ι g H → RelW K ι H v x → RelW K ι H u y → f x y g = .ok w g' → Gd K ι H w g' Q → r v u H Q
theorem two_rd {r : R2} {f : W → W → G → R W} (hs : OpS X.K r f) {σ : L2.St} {H : Hp} {Q : VK} (h : rdE X.K o (eBin f ca cb) σ H Q) : tOp r (rdE X.K o ca) (rdE X.K o cb) σ H Q := by
  obtain ⟨ι, g, s, w, g', rs, rg, e, gd⟩ := h
  obtain ⟨x, g1, h1, e⟩ := R.bind_ok e
  obtain ⟨y, g2, h2, e⟩ := R.bind_ok e
  exact ⟨ι, g, s, x, g1, rs, rg, h1, fun ι1 H1 v f1 rg1 rv => ⟨ι1, g1, s, y, g2, rs.mono f1, rg1, h2, fun ι2 H2 u f2 rg2 ru => hs ι2 g2 H2 x y v u w g' Q rg2 (rv.mono f2) ru e (gd.mono (f1.trans f2))⟩⟩
theorem ev_bin {op : Operator} {r : R2} {f : W → W → G → R W} (ho : OpR X (binaryOp op) r) (hs : OpS X.K r f) (ha : PE X a (rdE X.K o ca)) (hb : PE X b (rdE X.K o cb)) : PE X (.BinOp a op b pos) (rdE X.K o (eBin f ca cb)) :=
  (pe_op ho ha hb).evi fun _ _ _ h => two_rd hs h
theorem ev_cmp {op : CmpOp} {r : R2} {f : W → W → G → R W} (ho : OpR X (compareOp op) r) (hs : OpS X.K r f) (ha : PE X a (rdE X.K o ca)) (hb : PE X b (rdE X.K o cb)) (hm : behindInMarks op b = false) : PE X (.Compare a [op] [b] pos) (rdE X.K o (eBin f ca cb)) :=
  (pe_cmpR ho ha hb hm).evi fun _ _ _ h => two_rd hs h
theorem ev_ix {r : R2} {f : W → W → G → R W} (ho : IxR X r) (hs : OpS X.K r f) (ha : PE X a (rdE X.K o ca)) (hb : PE X b (rdE X.K o cb)) (hp : PlainIx b) : PE X (.Subscript a b pos) (rdE X.K o (eBin f ca cb)) :=
  (pe_ix ho ha hb hp).evi fun _ _ _ h => two_rd hs h
/-- a reading as a test -/
theorem T_of_E {σ : L2.St} {H : Hp} {Q : Bool → Hp → Prop} (h : rdT X.K o ca σ H Q) : rdE X.K o ca σ H (fun x H1 => ∃ c, x = .bl c ∧ Q c H1) := by
  obtain ⟨ι, g, s, b, g', rs, rg, e, gs⟩ := h
  refine ⟨ι, g, s, _, g', rs, rg, e, fun ι1 H1 v f1 rg1 rv => ?_⟩
  cases rv
  exact ⟨b, rfl, gs ι1 H1 f1 rg1⟩
theorem ev_tcmp {op : CmpOp} {r : R2} {f : W → W → G → R W} (ho : OpR X (compareOp op) r) (hs : OpS X.K r f) (ha : PE X a (rdE X.K o ca)) (hb : PE X b (rdE X.K o cb)) (hm : behindInMarks op b = false) : PT X (.Compare a [op] [b] pos) (rdT X.K o (eBin f ca cb)) :=
  (pt_cmpR ho ha hb hm).evi fun _ _ _ h => two_rd hs (T_of_E h)
theorem ev_tval (h : PE X e (rdE X.K o ca)) (he : ∀ whole, isTrue e X.env whole = (do let v ← whole; standAt e.pos; holding [v] (truthy v)) := by intro _; rfl) : PT X e (rdT X.K o ca) :=
  (pt_val h he).evi fun _ _ _ h => T_of_E h
theorem ev_un {op : UnaryOp} {r : V → Hp → VK → Prop} {f : W → G → R W} (ho : UnR X (unaryOp op) r) (hs : ∀ ι g H x v w g' Q, RG X.K ι g H → RelW X.K ι H v x → f x g = .ok w g' → Gd X.K ι H w g' Q → r v H Q) (ha : PE X a (rdE X.K o ca)) :
    PE X (.UnaryOp op a pos) (rdE X.K o (eUn f ca)) := (pe_un ho ha).evi fun σ H Q ⟨ι, g, s, w, g', rs, rg, e, gd⟩ => by
  obtain ⟨x, g1, h1, e⟩ := R.bind_ok e
  exact ⟨ι, g, s, x, g1, rs, rg, h1, fun ι1 H1 v f1 rg1 rv => hs ι1 g1 H1 x v w g' Q rg1 rv e (gd.mono f1)⟩
/-! arguments -/
theorem av_nil : PA X [] (rdA X.K o aNil) := pa_nil.evi fun σ H Q ⟨ι, g, s, ws, g', rs, rg, e, q⟩ => by
  cases e
  exact q ι H [] (.refl _ _) rg .nil
theorem av_cons (ha : PE X e (rdE X.K o ca)) (hr : PA X es (rdA X.K o cs)) (hs : starEach (e :: es) X.env = (false, eval e X.env) :: starEach es X.env := by rfl) : PA X (e :: es) (rdA X.K o (aCons ca cs)) :=
  (pa_cons ha hr hs).evi fun σ H Q ⟨ι, g, s, ws, g', rs, rg, e, q⟩ => by
    obtain ⟨x, g1, h1, e⟩ := R.bind_ok e
    obtain ⟨xs, g2, h2, e⟩ := R.bind_ok e
    cases e
    exact ⟨ι, g, s, x, g1, rs, rg, h1, fun ι1 H1 v f1 rg1 rv => ⟨ι1, g1, s, xs, g', rs.mono f1, rg1, h2, fun ι2 H2 vs f2 rg2 rvs => q ι2 H2 (v :: vs) (f1.trans f2) rg2 (.cons (rv.mono f2) rvs)⟩⟩
theorem ev_tup {k} (h : PA X es (rdA X.K o cs)) : PE X (.Tuple es k pos) (rdE X.K o (eFun fTup cs)) := (pe_tup h).evi fun σ H Q ⟨ι, g, s, w, g', rs, rg, e, gd⟩ => by
  obtain ⟨xs, g1, h1, e⟩ := R.bind_ok e
  refine ⟨ι, g, s, xs, g1, rs, rg, h1, fun ι1 H1 vs f1 rg1 rvs => ?_⟩
  unfold fTup at e
  split at e
  · rename_i hl
    cases e
    refine ⟨by rw [rvs.length, sizeLine_eq]; omega, fun p hp => ?_⟩
    obtain ⟨r2, f2, q2⟩ := rg1.tup hp rvs
    exact gd _ _ _ (f1.trans f2) r2 q2
  · cases e
theorem ev_lst (h : PA X es (rdA X.K o cs)) : PE X (.List es pos) (rdE X.K o (eFun fLst cs)) := (pe_lst h).evi fun σ H Q ⟨ι, g, s, w, g', rs, rg, e, gd⟩ => by
  obtain ⟨xs, g1, h1, e⟩ := R.bind_ok e
  refine ⟨ι, g, s, xs, g1, rs, rg, h1, fun ι1 H1 vs f1 rg1 rvs => ?_⟩
  unfold fLst at e
  split at e
  · rename_i hl
    cases e
    refine ⟨by rw [rvs.length, sizeLine_eq]; omega, fun p hp => ?_⟩
    obtain ⟨r2, f2, q2⟩ := rg1.new hp rvs
    exact gd _ _ _ (f1.trans f2) r2 q2
  · cases e
/-! and, or, not, if -/
theorem ev_one {op} (h : PE X a (rdE X.K o ca)) : PE X (.BoolOp op [a] pos) (rdE X.K o ca) := pe_one h
theorem ev_and (ha : PE X a (rdE X.K o ca)) (hb : PE X (.BoolOp .And (b :: rest) pos) (rdE X.K o cb)) : PE X (.BoolOp .And (a :: b :: rest) pos) (rdE X.K o (eAnd ca cb)) :=
  (pe_and ha hb).evi fun σ H Q ⟨ι, g, s, w, g', rs, rg, e, gd⟩ => by
    obtain ⟨x, g1, h1, e⟩ := R.bind_ok e
    refine ⟨ι, g, s, x, g1, rs, rg, h1, fun ι1 H1 v f1 rg1 rv => ?_⟩
    cases rv with
    | bl k =>
      refine ⟨k, rfl, ?_⟩
      cases k with
      | true => exact iteT ⟨ι1, g1, s, w, g', rs.mono f1, rg1, e, gd.mono f1⟩
      | false =>
        cases e
        exact iteF (gd _ _ _ f1 rg1 (.bl false))
    | _ => cases e
theorem ev_or (ha : PE X a (rdE X.K o ca)) (hb : PE X (.BoolOp .Or (b :: rest) pos) (rdE X.K o cb)) : PE X (.BoolOp .Or (a :: b :: rest) pos) (rdE X.K o (eOr ca cb)) :=
  (pe_or ha hb).evi fun σ H Q ⟨ι, g, s, w, g', rs, rg, e, gd⟩ => by
    obtain ⟨x, g1, h1, e⟩ := R.bind_ok e
    refine ⟨ι, g, s, x, g1, rs, rg, h1, fun ι1 H1 v f1 rg1 rv => ?_⟩
    cases rv with
    | bl k =>
      refine ⟨k, rfl, ?_⟩
      cases k with
      | true =>
        cases e
        exact iteT (gd _ _ _ f1 rg1 (.bl true))
      | false => exact iteF ⟨ι1, g1, s, w, g', rs.mono f1, rg1, e, gd.mono f1⟩
    | _ => cases e
theorem ev_not (ha : PE X a (rdE X.K o ca)) : PE X (.UnaryOp .Not a pos) (rdE X.K o (eNot ca)) := (pe_not ha).evi fun σ H Q ⟨ι, g, s, w, g', rs, rg, e, gd⟩ => by
  obtain ⟨x, g1, h1, e⟩ := R.bind_ok e
  refine ⟨ι, g, s, x, g1, rs, rg, h1, fun ι1 H1 v f1 rg1 rv => ?_⟩
  cases rv with
  | bl k =>
    cases e
    exact ⟨k, rfl, gd _ _ _ f1 rg1 (.bl _)⟩
  | _ => cases e
theorem ev_if (hc : PT X c (rdT X.K o cc)) (ha : PE X a (rdE X.K o ca)) (hb : PE X b (rdE X.K o cb)) : PE X (.IfExp c a b pos) (rdE X.K o (eIf cc ca cb)) :=
  (pe_ifExp hc ha hb).evi fun σ H Q ⟨ι, g, s, w, g', rs, rg, e, gd⟩ => by
    obtain ⟨x, g1, h1, e⟩ := R.bind_ok e
    cases x with
    | bl k =>
      refine ⟨ι, g, s, k, g1, rs, rg, h1, fun ι1 H1 f1 rg1 => ?_⟩
      cases k with
      | true => exact iteT ⟨ι1, g1, s, w, g', rs.mono f1, rg1, e, gd.mono f1⟩
      | false => exact iteF ⟨ι1, g1, s, w, g', rs.mono f1, rg1, e, gd.mono f1⟩
    | _ => cases e
/-! tests -/
theorem tv_and1 (ha : PT X a (rdT X.K o ca)) : PW X (.BoolOp .And [a] pos) (rdT X.K o ca) := pw_and1 ha
theorem tv_or1 (ha : PT X a (rdT X.K o ca)) : PW X (.BoolOp .Or [a] pos) (rdT X.K o ca) := pw_or1 ha
theorem tv_and (ha : PT X a (rdT X.K o ca)) (hb : PW X (.BoolOp .And (b :: rest) pos) (rdT X.K o cb)) : PW X (.BoolOp .And (a :: b :: rest) pos) (rdT X.K o (eAnd ca cb)) :=
  (pw_and ha hb).evi fun σ H Q ⟨ι, g, s, k2, g', rs, rg, e, gd⟩ => by
    obtain ⟨x, g1, h1, e⟩ := R.bind_ok e
    cases x with
    | bl k =>
      refine ⟨ι, g, s, k, g1, rs, rg, h1, fun ι1 H1 f1 rg1 => ?_⟩
      cases k with
      | true => exact iteT ⟨ι1, g1, s, k2, g', rs.mono f1, rg1, e, gd.mono f1⟩
      | false =>
        cases e
        exact iteF (gd _ _ f1 rg1)
    | _ => cases e
theorem tv_or (ha : PT X a (rdT X.K o ca)) (hb : PW X (.BoolOp .Or (b :: rest) pos) (rdT X.K o cb)) : PW X (.BoolOp .Or (a :: b :: rest) pos) (rdT X.K o (eOr ca cb)) :=
  (pw_or ha hb).evi fun σ H Q ⟨ι, g, s, k2, g', rs, rg, e, gd⟩ => by
    obtain ⟨x, g1, h1, e⟩ := R.bind_ok e
    cases x with
    | bl k =>
      refine ⟨ι, g, s, k, g1, rs, rg, h1, fun ι1 H1 f1 rg1 => ?_⟩
      cases k with
      | true =>
        cases e
        exact iteT (gd _ _ f1 rg1)
      | false => exact iteF ⟨ι1, g1, s, k2, g', rs.mono f1, rg1, e, gd.mono f1⟩
    | _ => cases e
theorem tv_not (ha : PT X a (rdT X.K o ca)) : PT X (.UnaryOp .Not a pos) (rdT X.K o (eNot ca)) := (pt_not ha).evi fun σ H Q ⟨ι, g, s, k2, g', rs, rg, e, gd⟩ => by
  obtain ⟨x, g1, h1, e⟩ := R.bind_ok e
  cases x with
  | bl k =>
    cases e
    exact ⟨ι, g, s, k, _, rs, rg, h1, fun ι1 H1 f1 rg1 => gd _ _ f1 rg1⟩
  | _ => cases e
/-! chains -/
theorem chain_rd {r r' : R2} {f f' : W → W → G → R W} (hs : OpS X.K r f) (hs' : OpS X.K r' f') {σ : L2.St} {H : Hp} {Q : VK} (h : rdE X.K o (eChain f f' ca cb cc) σ H Q) : tChain r r' (rdE X.K o ca) (rdE X.K o cb) (rdE X.K o cc) σ H Q := by
  obtain ⟨ι, g, s, w, g', rs, rg, e, gd⟩ := h
  obtain ⟨x, g1, h1, e⟩ := R.bind_ok e
  obtain ⟨y, g2, h2, e⟩ := R.bind_ok e
  obtain ⟨z, g3, h3, e⟩ := R.bind_ok e
  refine ⟨ι, g, s, x, g1, rs, rg, h1, fun ι1 H1 v f1 rg1 rv => ⟨ι1, g1, s, y, g2, rs.mono f1, rg1, h2, fun ι2 H2 u f2 rg2 ru => hs ι2 g2 H2 x y v u z g3 _ rg2 (rv.mono f2) ru h3 fun ι3 H3 vz f3 rg3 rz => ?_⟩⟩
  cases rz with
  | bl k =>
    refine ⟨k, rfl, ?_⟩
    cases k with
    | true =>
      obtain ⟨w4, g4, h4, e⟩ := R.bind_ok e
      exact iteT ⟨ι3, g3, s, w4, g4, rs.mono ((f1.trans f2).trans f3), rg3, h4, fun ι4 H4 u4 f4 rg4 ru4 => hs' ι4 g4 H4 y w4 u u4 w g' Q rg4 (ru.mono (f3.trans f4)) ru4 e (gd.mono (((f1.trans f2).trans f3).trans f4))⟩
    | false =>
      cases e
      exact iteF (gd _ _ _ ((f1.trans f2).trans f3) rg3 (.bl false))
  | _ => cases e
theorem ev_chain {op op' : CmpOp} {r r' : R2} {f f' : W → W → G → R W} (ho : OpR X (compareOp op) r) (ho' : OpR X (compareOp op') r') (hs : OpS X.K r f) (hs' : OpS X.K r' f') (ha : PE X a (rdE X.K o ca)) (hb : PE X b (rdE X.K o cb)) (hc : PE X c (rdE X.K o cc))
    (hm : lastMarks [op, op'] [b, c] = false := by with_unfolding_all rfl) : PE X (.Compare a [op, op'] [b, c] pos) (rdE X.K o (eChain f f' ca cb cc)) := (pe_chain ho ho' ha hb hc hm).evi fun _ _ _ h => chain_rd hs hs' h
theorem tv_chain {op op' : CmpOp} {r r' : R2} {f f' : W → W → G → R W} (ho : OpR X (compareOp op) r) (ho' : OpR X (compareOp op') r') (hs : OpS X.K r f) (hs' : OpS X.K r' f') (ha : PE X a (rdE X.K o ca)) (hb : PE X b (rdE X.K o cb)) (hc : PE X c (rdE X.K o cc))
    (hm : lastMarks [op, op'] [b, c] = false := by with_unfolding_all rfl) : PT X (.Compare a [op, op'] [b, c] pos) (rdT X.K o (eChain f f' ca cb cc)) := (pt_chain ho ho' ha hb hc hm).evi fun _ _ _ h => chain_rd hs hs' (T_of_E h)
/-! is None -/
theorem isN_rd {σ : L2.St} {H : Hp} {Q : VK} (h : rdE X.K o (eIsN ca) σ H Q) : tIsN (rdE X.K o ca) σ H Q := by
  obtain ⟨ι, g, s, w, g', rs, rg, e, gd⟩ := h
  obtain ⟨x, g1, h1, e2⟩ := R.bind_ok e
  cases e2
  refine ⟨ι, g, s, x, g', rs, rg, h1, fun ι1 H1 v f1 rg1 rv => ?_⟩
  cases rv <;> exact gd _ _ _ f1 rg1 (.bl _)
theorem ev_isN {j pos'} (ha : PE X a (rdE X.K o ca)) : PE X (.Compare a [.Is] [.Constant .none j pos'] pos) (rdE X.K o (eIsN ca)) := (pe_cmp (pc_isN ha)).evi fun _ _ _ h => isN_rd h
theorem tv_isN {j pos'} (ha : PE X a (rdE X.K o ca)) : PT X (.Compare a [.Is] [.Constant .none j pos'] pos) (rdT X.K o (eIsN ca)) := (pt_cmp (pc_isN ha)).evi fun _ _ _ h => isN_rd (T_of_E h)
/-! calls of built-ins -/
def CallS (K : PySem.W.Frag) (r : List V → Hp → VK → Prop) (f : List W → G → R W) : Prop := ∀ ι g H xs vs w g' Q, RG K ι g H → RelWs K ι H vs xs → f xs g = .ok w g' → Gd K ι H w g' Q → r vs H Q
theorem fun_rd {r : List V → Hp → VK → Prop} {f : List W → G → R W} (hs : CallS X.K r f) {σ : L2.St} {H : Hp} {Q : VK} (h : rdE X.K o (eFun f cs) σ H Q) : tCB r (rdA X.K o cs) σ H Q := by
  obtain ⟨ι, g, s, w, g', rs, rg, e, gd⟩ := h
  obtain ⟨xs, g1, h1, e⟩ := R.bind_ok e
  exact ⟨ι, g, s, xs, g1, rs, rg, h1, fun ι1 H1 vs f1 rg1 rvs => hs ι1 g1 H1 xs vs w g' Q rg1 rvs e (gd.mono f1)⟩
theorem ev_fun {id : String} {x : Str} {p : Pos} {r : List V → Hp → VK → Prop} {f : List W → G → R W} (hc : CallR X (.builtin id) r) (hs : CallS X.K r f) (hm : X.mg x = none) (hv : bootBuiltins x = some (.builtin id)) (ha : PA X (e :: es) (rdA X.K o cs)) (hg : Gl X x := by rfl)
    (hn : x ≠ "__name__" := by decide) (hdb : (x == ("__debug__" : Str)) = false := by decide)
    (he : starEach (e :: es) X.env = (false, eval e X.env) :: starEach es X.env := by rfl) (hpl : (backTo pos (starEach es X.env)).any (·.1) = false := by rfl) : PE X (.Call (.Name x p) (e :: es) [] pos) (rdE X.K o (eFun f cs)) :=
  (pe_callB hc hg hm hv ha hn hdb he hpl).evi fun _ _ _ h => fun_rd hs h
theorem ev_ty {id : String} {x : Str} {p : Pos} {r : List V → Hp → VK → Prop} {f : List W → G → R W} (hc : CallR X (.type id) r) (hs : CallS X.K r f) (hm : X.mg x = none) (hv : bootBuiltins x = some (.type id)) (ha : PA X (e :: es) (rdA X.K o cs)) (hg : Gl X x := by rfl)
    (hn : x ≠ "__name__" := by decide) (hdb : (x == ("__debug__" : Str)) = false := by decide)
    (he : starEach (e :: es) X.env = (false, eval e X.env) :: starEach es X.env := by rfl) (hpl : (backTo pos (starEach es X.env)).any (·.1) = false := by rfl) : PE X (.Call (.Name x p) (e :: es) [] pos) (rdE X.K o (eFun f cs)) :=
  (pe_callTy hc hg hm hv ha hn hdb he hpl).evi fun _ _ _ h => fun_rd hs h
end
end Ev

set_option Elab.async false
set_option linter.all false
set_option maxRecDepth 100000
set_option maxHeartbeats 4000000
/-! Operations by values: what each does, and its bond. -/
namespace Ev
open PySem PySem.Spec PyProof.Rows L2

/-! ### what they do -/
def mulOk (i j : Int) : Bool := (Nat.blt i.natAbs.log2 63 || Nat.blt j.natAbs.log2 63) || Nat.blt (i.natAbs.log2 + j.natAbs.log2) 1000000
theorem mulOk_ok {i j : Int} (h : mulOk i j = true) : IntMulOk i j := by
  have b : ∀ x : Int, Builtin.Int.intBits x ≤ x.natAbs.log2 + 1 := fun x => by
    unfold Builtin.Int.intBits
    split <;> omega
  unfold mulOk at h
  rw [Bool.or_eq_true, Bool.or_eq_true] at h
  rcases h with (h | h) | h
  · have := Nat.le_of_ble_eq_true h
    exact .of_left (by have := b i; omega)
  · have := Nat.le_of_ble_eq_true h
    exact .of_right (by have := b j; omega)
  · exact CMulW.ok (Nat.le_of_ble_eq_true h)
def szOk (n : Nat) : Bool := Nat.ble n 16777216
def fAdd : W → W → G → R W
  | .int i, .int j, g => .ok (.int (i + j)) g
  | .ref n, .ref m, g => match g[n]?, g[m]? with
    | some xs, some ys => if szOk (xs.length + ys.length) = true then .ok (.ref g.length) (g ++ [xs ++ ys]) else .no
    | _, _ => .no
  | .tup (x :: xs), .tup (y :: ys), g => if szOk ((x :: xs).length + (y :: ys).length) = true then .ok (.tup ((x :: xs) ++ (y :: ys))) g else .no
  | _, _, _ => .no
def fSub : W → W → G → R W
  | .int i, .int j, g => .ok (.int (i - j)) g
  | .bl i, .bl j, g => .ok (.int (b2i i - b2i j)) g
  | _, _, _ => .no
def fMul : W → W → G → R W
  | .int i, .int j, g => if mulOk i j = true then .ok (.int (i * j)) g else .no
  | .ref n, .int k, g => match g[n]? with
    | some [x] => if (decide (-1000000 ≤ k) && decide (k ≤ 1000000)) = true then .ok (.ref g.length) (g ++ [List.replicate k.toNat x]) else .no
    | _ => .no
  | _, _, _ => .no
def fDiv : W → W → G → R W
  | .int i, .int j, g => if (j != 0 && !(Builtin.divisionGoesByPylong i j)) = true then .ok (.int (i.fdiv j)) g else .no
  | _, _, _ => .no
def fMod : W → W → G → R W
  | .int i, .int j, g => if (j != 0) = true then .ok (.int (i.fmod j)) g else .no
  | _, _, _ => .no
def fPow : W → W → G → R W
  | .int i, .int j, g => if (decide (0 ≤ j) && decide (j ≤ 1000) && decide (i.natAbs < 1000)) = true then .ok (.int (i ^ j.toNat)) g else .no
  | _, _, _ => .no
def fNeg : W → G → R W
  | .int i, g => .ok (.int (-i)) g
  | _, _ => .no
def fLt : W → W → G → R W
  | .int i, .int j, g => .ok (.bl (decide (i < j))) g
  | _, _, _ => .no
def fLe : W → W → G → R W
  | .int i, .int j, g => .ok (.bl (decide (i ≤ j))) g
  | _, _, _ => .no
def fGt : W → W → G → R W
  | .int i, .int j, g => .ok (.bl (decide (j < i))) g
  | _, _, _ => .no
def fGe : W → W → G → R W
  | .int i, .int j, g => .ok (.bl (decide (j ≤ i))) g
  | _, _, _ => .no
def mapO {α β : Type} (f : α → Option β) : List α → Option (List β)
  | [] => some []
  | x :: xs => match f x, mapO f xs with
    | some y, some ys => some (y :: ys)
    | _, _ => none
/-- a value's data -/
def toD (g : G) : Nat → W → Option PyData
  | _, .non => some .none
  | _, .bl b => some (.bool b)
  | _, .int i => some (.int i)
  | 0, _ => none
  | n + 1, .tup xs => (mapO (toD g n) xs).map .tuple
  | n + 1, .rol xs => (mapO (toD g n) xs).map .list
  | n + 1, .ref k => match g[k]? with
    | some xs => (mapO (toD g n) xs).map .list
    | none => none
def shp (d : PyData) : Bool := d.canLay0 && Nat.ble d.depth 32
def fEq : W → W → G → R W
  | .int i, .int j, g => .ok (.bl (i == j)) g
  | x, y, g => match toD g 16 x, toD g 16 y with
    | some d, some e => if (shp d && shp e) = true then .ok (.bl (PyData.eqv d e)) g else .no
    | _, _ => .no
def fNe : W → W → G → R W
  | .int i, .int j, g => .ok (.bl (!(i == j))) g
  | x, y, g => match toD g 16 x, toD g 16 y with
    | some d, some e => if (shp d && shp e) = true then .ok (.bl (!PyData.eqv d e)) g else .no
    | _, _ => .no
def itemsOf : W → G → Option (List W)
  | .tup xs, _ => some xs
  | .rol xs, _ => some xs
  | .ref n, g => g[n]?
  | _, _ => none
def inW (x y : W) (g : G) : Option Bool := match itemsOf y g with
  | some xs => match toD g 16 x, mapO (toD g 16) xs with
    | some d, some ds => if (shp d && ds.all shp) = true then some (ds.any fun e => PyData.eqv e d) else none
    | _, _ => none
  | none => none
def fIn (x y : W) (g : G) : R W := match inW x y g with
  | some b => .ok (.bl b) g
  | none => .no
def fNotIn (x y : W) (g : G) : R W := match inW x y g with
  | some b => .ok (.bl (!b)) g
  | none => .no
def fIx : W → W → G → R W
  | .ref n, .int i, g => match g[n]? with
    | some xs => match atI xs i with
      | some v => .ok v g
      | none => .no
    | none => .no
  | .tup xs, .int i, g => match atI xs i with
    | some v => .ok v g
    | none => .no
  | _, _, _ => .no
def fLen : List W → G → R W
  | [x], g => match itemsOf x g with
    | some xs => .ok (.int xs.length) g
    | none => .no
  | _, _ => .no
def fAbs : List W → G → R W
  | [.int i], g => .ok (.int (if i < 0 then -i else i)) g
  | _, _ => .no
def intsW : List W → Option (List Int)
  | [] => some []
  | .int i :: r => (intsW r).map fun l => i :: l
  | _ => none
def boolsW : List W → Option (List Bool)
  | [] => some []
  | .bl i :: r => (boolsW r).map fun l => i :: l
  | _ => none
def maxL : List Int → Int → Int
  | [], m => m
  | x :: r, m => maxL r (if m < x then x else m)
def fMax : List W → G → R W
  | [.int i, .int j], g => .ok (.int (if j > i then j else i)) g
  | [.ref n], g => match g[n]? with
    | some xs => match intsW xs with
      | some (i :: r) => .ok (.int (maxL r i)) g
      | _ => .no
    | none => .no
  | _, _ => .no
def fAll : List W → G → R W
  | [.ref n], g => match g[n]? with
    | some xs => match boolsW xs with
      | some bs => .ok (.bl (bs.all id)) g
      | none => .no
    | none => .no
  | _, _ => .no
def fList : List W → G → R W
  | [x], g => match itemsOf x g with
    | some xs => .ok (.ref g.length) (g ++ [xs])
    | none => .no
  | _, _ => .no
def fTuple : List W → G → R W
  | [.tup xs], g => .ok (.tup xs) g
  | [.ref n], g => match g[n]? with
    | some xs => .ok (.tup xs) g
    | none => .no
  | _, _ => .no
def fInt : List W → G → R W
  | [.int i], g => .ok (.int i) g
  | _, _ => .no

/-! ### bonds -/
section
variable {K : PySem.W.Frag} {ι : List Addr} {g : G} {H : Hp}
theorem items_rel {v : V} {w : W} {xs : List W} (rg : RG K ι g H) (r : RelW K ι H v w) (h : itemsOf w g = some xs) : ∃ p vs, v = .ref p ∧ (SqL K H p vs ∨ SqT K H p vs) ∧ RelWs K ι H vs xs := by
  cases r with
  | tup h1 h2 => cases h; exact ⟨_, _, rfl, .inr h1, h2⟩
  | rol h1 h2 => cases h; exact ⟨_, _, rfl, .inl h1.sq, h2⟩
  | ref h1 =>
    obtain ⟨ws, vs, q1, q2, q3⟩ := rg.get h1
    have h' : g[_]? = some xs := h
    rw [q1] at h'
    cases h'
    exact ⟨_, vs, rfl, .inl (.of q2), q3⟩
  | _ => cases h
theorem mapO_rel {f : W → Option PyData} (hf : ∀ v w d, RelW K ι H v w → f w = some d → Dp K H v d) : ∀ {vs : List V} {ws : List W} {ds : List PyData}, RelWs K ι H vs ws → mapO f ws = some ds → DpAll K H vs ds
  | _, _, _, .nil, e => by cases e; exact .nil
  | _, _, _, .cons (w := w) (ws := ws) r t, e => by
    unfold mapO at e
    split at e
    · rename_i y ys h1 h2
      cases e
      exact .cons (hf _ _ _ r h1) (mapO_rel hf t h2)
    · cases e
theorem toD_rel (rg : RG K ι g H) : ∀ (n : Nat) (v : V) (w : W) (d : PyData), RelW K ι H v w → toD g n w = some d → Dp K H v d
  | n, _, _, d, .non, e => by cases n <;> (cases e; exact .non)
  | n, _, _, d, .bl b, e => by cases n <;> (cases e; exact .bl b)
  | n, _, _, d, .int b, e => by cases n <;> (cases e; exact .int b)
  | 0, _, _, d, .tup _ _, e => by cases e
  | 0, _, _, d, .rol _ _, e => by cases e
  | 0, _, _, d, .ref _, e => by cases e
  | n + 1, _, _, d, .tup (ws := ws) h r, e => by
    have e' : (mapO (toD g n) ws).map .tuple = some d := e
    cases q : mapO (toD g n) ws with
    | none => rw [q] at e'; cases e'
    | some ds =>
      rw [q] at e'
      cases e'
      exact .tup h (mapO_rel (fun v w d => toD_rel rg n v w d) r q)
  | n + 1, _, _, d, .rol (ws := ws) h r, e => by
    have e' : (mapO (toD g n) ws).map .list = some d := e
    cases q : mapO (toD g n) ws with
    | none => rw [q] at e'; cases e'
    | some ds =>
      rw [q] at e'
      cases e'
      exact .lst h.sq (mapO_rel (fun v w d => toD_rel rg n v w d) r q)
  | n + 1, _, _, d, .ref (n := k) h, e => by
    obtain ⟨ws, vs, q1, q2, q3⟩ := rg.get h
    unfold toD at e
    rw [q1] at e
    have e' : (mapO (toD g n) ws).map .list = some d := e
    cases q : mapO (toD g n) ws with
    | none => rw [q] at e'; cases e'
    | some ds =>
      rw [q] at e'
      cases e'
      exact .lst (.of q2) (mapO_rel (fun v w d => toD_rel rg n v w d) q3 q)
theorem shp_of {d : PyData} (h : shp d = true) : d.canLay0 = true ∧ d.depth ≤ 32 := by
  unfold shp at h
  rw [Bool.and_eq_true] at h
  exact ⟨h.1, Nat.le_of_ble_eq_true h.2⟩
theorem shp_shaped {d : PyData} (h : shp d = true) : SeqAt.shaped d = true := by
  obtain ⟨h1, h2⟩ := shp_of h
  unfold SeqAt.shaped
  rw [h1, Bool.true_and]
  exact decide_eq_true (by omega)
theorem szOk_le {n : Nat} (h : szOk n = true) : n ≤ sizeLine := by
  have := Nat.le_of_ble_eq_true h
  rw [sizeLine_eq]
  omega
end
section
variable {K : PySem.W.Frag}
theorem os_add : OpS K (fun x y H Q => rI0 (fun i j => V.int (i + j)) x y H Q ∨ (rCat x y H Q ∨ rCatT K x y H Q)) fAdd := by
  intro ι g H x y v u w g' Q rg rv ru e gd
  unfold fAdd at e
  split at e
  · cases e
    cases rv; cases ru
    exact .inl ⟨_, _, rfl, rfl, gd.here rg (.int _)⟩
  · split at e
    · rename_i xs ys h1 h2
      split at e
      · rename_i hl
        cases e
        cases rv with
        | ref k1 =>
          cases ru with
          | ref k2 =>
            obtain ⟨ws, vs, q1, q2, q3⟩ := rg.get k1
            obtain ⟨ws', vs', p1, p2, p3⟩ := rg.get k2
            rw [q1] at h1; cases h1
            rw [p1] at h2; cases h2
            refine .inr (.inl ⟨_, _, vs, vs', rfl, rfl, q2, p2, by rw [q3.length, p3.length]; exact szOk_le hl, fun p hp => ?_⟩)
            obtain ⟨r2, f2, s2⟩ := rg.new hp (q3.append p3)
            exact gd _ _ _ f2 r2 s2
      · cases e
    · cases e
  · split at e
    · rename_i hl
      cases e
      cases rv with
      | tup k1 k2 =>
        cases ru with
        | tup l1 l2 =>
          refine .inr (.inr ⟨_, _, _, _, rfl, rfl, k1, l1, ?_, by rw [k2.length, l2.length]; exact szOk_le hl, ?_, ?_⟩)
          · intro z
            have := k2.length
            rw [z] at this
            cases this
          · intro z
            have := l2.length
            rw [z] at this
            cases this
          · intro _ p hp
            obtain ⟨r2, f2, s2⟩ := rg.tup hp (k2.append l2)
            exact gd _ _ _ f2 r2 s2
    · cases e
  · cases e
theorem os_sub : OpS K (fun x y H Q => rI0 (fun i j => V.int (i - j)) x y H Q ∨ ∃ i j, x = .bl i ∧ y = .bl j ∧ Q (.int (b2i i - b2i j)) H) fSub := by
  intro ι g H x y v u w g' Q rg rv ru e gd
  unfold fSub at e
  split at e
  · cases e
    cases rv; cases ru
    exact .inl ⟨_, _, rfl, rfl, gd.here rg (.int _)⟩
  · cases e
    cases rv; cases ru
    exact .inr ⟨_, _, rfl, rfl, gd.here rg (.int _)⟩
  · cases e
theorem flat_one {α : Type} (x : α) : ∀ n : Nat, (List.replicate n [x]).flatten = List.replicate n x
  | 0 => rfl
  | n + 1 => by rw [List.replicate_succ, List.flatten_cons, flat_one x n]; rfl
theorem os_mul : OpS K (fun x y H Q => rI (fun i j => mulOk i j = true) (fun i j => V.int (i * j)) x y H Q ∨ rRep x y H Q) fMul := by
  intro ι g H x y v u w g' Q rg rv ru e gd
  unfold fMul at e
  split at e
  · split at e
    · rename_i hc
      cases e
      cases rv; cases ru
      exact .inl ⟨_, _, rfl, rfl, hc, gd.here rg (.int _)⟩
    · cases e
  · rename_i n k
    split at e
    · rename_i x0 h1
      split at e
      · rename_i hk
        rw [Bool.and_eq_true] at hk
        have hk1 := of_decide_eq_true hk.1
        have hk2 := of_decide_eq_true hk.2
        cases e
        cases ru
        cases rv with
        | ref k1 =>
          obtain ⟨ws, vs, q1, q2, q3⟩ := rg.get k1
          rw [q1] at h1; cases h1
          cases q3 with
          | cons q4 q5 =>
            cases q5
            refine .inr ⟨_, _, _, rfl, rfl, q2, by omega, by omega, by rw [sizeLine_eq]; simp; omega, fun p hp => ?_⟩
            obtain ⟨r2, f2, s2⟩ := rg.new hp (RelWs.rep q4 k.toNat)
            rw [flat_one]
            exact gd _ _ _ f2 r2 s2
      · cases e
    · cases e
  · cases e
theorem os_div : OpS K (rI (fun i j => j ≠ 0 ∧ Builtin.divisionGoesByPylong i j = false) fun i j => V.int (i.fdiv j)) fDiv := by
  intro ι g H x y v u w g' Q rg rv ru e gd
  unfold fDiv at e
  split at e
  · split at e
    · rename_i hc
      rw [Bool.and_eq_true] at hc
      cases e
      cases rv; cases ru
      exact ⟨_, _, rfl, rfl, ⟨by simpa using hc.1, by simpa using hc.2⟩, gd.here rg (.int _)⟩
    · cases e
  · cases e
theorem os_mod : OpS K (rI (fun _ j => j ≠ 0) fun i j => V.int (i.fmod j)) fMod := by
  intro ι g H x y v u w g' Q rg rv ru e gd
  unfold fMod at e
  split at e
  · split at e
    · rename_i hc
      cases e
      cases rv; cases ru
      exact ⟨_, _, rfl, rfl, by simpa using hc, gd.here rg (.int _)⟩
    · cases e
  · cases e
theorem os_pow : OpS K (rI CPow fun i j => V.int (i ^ j.toNat)) fPow := by
  intro ι g H x y v u w g' Q rg rv ru e gd
  unfold fPow at e
  split at e
  · split at e
    · rename_i hc
      simp only [Bool.and_eq_true, decide_eq_true_eq] at hc
      obtain ⟨⟨h1, h2⟩, h3⟩ := hc
      cases e
      cases rv; cases ru
      exact ⟨_, _, rfl, rfl, ⟨h1, by omega, Nat.lt_trans h3 (by decide)⟩, gd.here rg (.int _)⟩
    · cases e
  · cases e
theorem os_neg : ∀ (ι : List Addr) (g : G) (H : Hp) (x : W) (v : V) (w : W) (g' : G) (Q : VK), RG K ι g H → RelW K ι H v x → fNeg x g = .ok w g' → Gd K ι H w g' Q → rU (fun i => .int (-i)) v H Q := by
  intro ι g H x v w g' Q rg rv e gd
  unfold fNeg at e
  split at e
  · cases e
    cases rv
    exact ⟨_, rfl, gd.here rg (.int _)⟩
  · cases e
theorem os_lt : OpS K (rI0 fun i j => .bl (decide (i < j))) fLt := by
  intro ι g H x y v u w g' Q rg rv ru e gd
  unfold fLt at e
  split at e
  · cases e
    cases rv; cases ru
    exact ⟨_, _, rfl, rfl, gd.here rg (.bl _)⟩
  · cases e
theorem os_le : OpS K (rI0 fun i j => .bl (decide (i ≤ j))) fLe := by
  intro ι g H x y v u w g' Q rg rv ru e gd
  unfold fLe at e
  split at e
  · cases e
    cases rv; cases ru
    exact ⟨_, _, rfl, rfl, gd.here rg (.bl _)⟩
  · cases e
theorem os_gt : OpS K (rI0 fun i j => .bl (decide (j < i))) fGt := by
  intro ι g H x y v u w g' Q rg rv ru e gd
  unfold fGt at e
  split at e
  · cases e
    cases rv; cases ru
    exact ⟨_, _, rfl, rfl, gd.here rg (.bl _)⟩
  · cases e
theorem os_ge : OpS K (rI0 fun i j => .bl (decide (j ≤ i))) fGe := by
  intro ι g H x y v u w g' Q rg rv ru e gd
  unfold fGe at e
  split at e
  · cases e
    cases rv; cases ru
    exact ⟨_, _, rfl, rfl, gd.here rg (.bl _)⟩
  · cases e
theorem shaped_int (i : Int) : SeqAt.shaped (.int i) = true := by
  unfold SeqAt.shaped
  rfl
theorem os_eq : OpS K (rEqD K) fEq := by
  intro ι g H x y v u w g' Q rg rv ru e gd
  unfold fEq at e
  split at e
  · cases e
    cases rv; cases ru
    exact ⟨.int _, .int _, .int _, .int _, shaped_int _, shaped_int _, gd.here rg (.bl _)⟩
  · split at e
    · rename_i d e2 h1 h2
      split at e
      · rename_i hc
        rw [Bool.and_eq_true] at hc
        cases e
        exact ⟨d, e2, toD_rel rg _ _ _ _ rv h1, toD_rel rg _ _ _ _ ru h2, shp_shaped hc.1, shp_shaped hc.2, gd.here rg (.bl _)⟩
      · cases e
    · cases e
theorem os_ne : OpS K (rNeD K) fNe := by
  intro ι g H x y v u w g' Q rg rv ru e gd
  unfold fNe at e
  split at e
  · cases e
    cases rv; cases ru
    exact ⟨.int _, .int _, .int _, .int _, shaped_int _, shaped_int _, gd.here rg (.bl _)⟩
  · split at e
    · rename_i d e2 h1 h2
      split at e
      · rename_i hc
        rw [Bool.and_eq_true] at hc
        cases e
        exact ⟨d, e2, toD_rel rg _ _ _ _ rv h1, toD_rel rg _ _ _ _ ru h2, shp_shaped hc.1, shp_shaped hc.2, gd.here rg (.bl _)⟩
      · cases e
    · cases e
theorem atI_rel {ι : List Addr} {H : Hp} {vs : List V} {ws : List W} {i : Int} {w : W} (r : RelWs K ι H vs ws) (h : atI ws i = some w) : ∃ v, atI vs i = some v ∧ RelW K ι H v w := by
  unfold atI at h ⊢
  rw [r.length]
  cases q : ixN ws.length i with
  | none => rw [q] at h; cases h
  | some j =>
    rw [q] at h
    obtain ⟨v, h1, h2⟩ := r.get (show ws[j]? = some w from h)
    exact ⟨v, h1, h2⟩
theorem os_ix : OpS K (fun x y H Q => rIxL K x y H Q ∨ rIxT K x y H Q) fIx := by
  intro ι g H x y v u w g' Q rg rv ru e gd
  unfold fIx at e
  split at e
  · split at e
    · rename_i xs h1
      split at e
      · rename_i v2 h2
        cases e
        cases ru
        cases rv with
        | ref k1 =>
          obtain ⟨ws, vs, q1, q2, q3⟩ := rg.get k1
          rw [q1] at h1; cases h1
          obtain ⟨z, h3, h4⟩ := atI_rel q3 h2
          exact .inl ⟨_, vs, _, z, rfl, rfl, .of q2, h3, gd.here rg h4⟩
      · cases e
    · cases e
  · split at e
    · rename_i v2 h2
      cases e
      cases ru
      cases rv with
      | tup k1 k2 =>
        obtain ⟨z, h3, h4⟩ := atI_rel k2 h2
        exact .inr ⟨_, _, _, z, rfl, rfl, k1, h3, gd.here rg h4⟩
    · cases e
  · cases e
/-! calls -/
theorem cs_len : CallS K (fun xs H Q => ∃ p ys, xs = [.ref p] ∧ (SqL K H p ys ∨ SqT K H p ys) ∧ Q (.int ys.length) H) fLen := by
  intro ι g H xs vs w g' Q rg rvs e gd
  unfold fLen at e
  split at e
  · split at e
    · rename_i xs h1
      cases e
      cases rvs with
      | cons r t =>
        cases t
        obtain ⟨p, us, rfl, h2, h3⟩ := items_rel rg r h1
        refine ⟨p, us, rfl, h2, ?_⟩
        rw [h3.length]
        exact gd.here rg (.int _)
    · cases e
  · cases e
theorem cs_abs : CallS K (fun xs H Q => ∃ i, xs = [.int i] ∧ Q (.int (if i < 0 then -i else i)) H) fAbs := by
  intro ι g H xs vs w g' Q rg rvs e gd
  unfold fAbs at e
  split at e
  · cases e
    cases rvs with
    | cons r t =>
      cases t
      cases r
      exact ⟨_, rfl, gd.here rg (.int _)⟩
  · cases e
theorem intsW_rel {ι : List Addr} {H : Hp} : ∀ {vs : List V} {ws : List W} {is : List Int}, RelWs K ι H vs ws → intsW ws = some is → vs = is.map V.int
  | _, _, _, .nil, e => by cases e; rfl
  | _, _, is, .cons (w := w) (ws := ws) r t, e => by
    cases r with
    | int i =>
      have e' : (intsW ws).map (fun l => i :: l) = some is := e
      cases q : intsW ws with
      | none => rw [q] at e'; cases e'
      | some l =>
        rw [q] at e'
        cases e'
        rw [intsW_rel t q]
        rfl
    | _ => cases e
theorem boolsW_rel {ι : List Addr} {H : Hp} : ∀ {vs : List V} {ws : List W} {is : List Bool}, RelWs K ι H vs ws → boolsW ws = some is → vs = is.map V.bl
  | _, _, _, .nil, e => by cases e; rfl
  | _, _, is, .cons (w := w) (ws := ws) r t, e => by
    cases r with
    | bl i =>
      have e' : (boolsW ws).map (fun l => i :: l) = some is := e
      cases q : boolsW ws with
      | none => rw [q] at e'; cases e'
      | some l =>
        rw [q] at e'
        cases e'
        rw [boolsW_rel t q]
        rfl
    | _ => cases e
theorem maxL_spec : ∀ (l : List Int) (m z : Int), (z = m ∨ z ∈ l) → m ≤ z → (∀ y ∈ l, y ≤ z) → maxL l m = z
  | [], m, z, h, _, _ => by
    rcases h with h | h
    · exact h.symm
    · cases h
  | x :: r, m, z, h, hm, hl => by
    unfold maxL
    have hx := hl x List.mem_cons_self
    refine maxL_spec r _ z ?_ (by split <;> assumption) fun y hy => hl y (List.mem_cons_of_mem _ hy)
    by_cases hc : m < x
    · rw [if_pos hc]
      rcases h with h | h
      · omega
      · rcases List.mem_cons.mp h with h | h
        · exact .inl h
        · exact .inr h
    · rw [if_neg hc]
      rcases h with h | h
      · exact .inl h
      · rcases List.mem_cons.mp h with h | h
        · left; omega
        · exact .inr h
theorem cs_max : CallS K (fun xs H Q => (∃ i j, xs = [.int i, .int j] ∧ Q (.int (if j > i then j else i)) H) ∨ rMax K xs H Q) fMax := by
  intro ι g H xs vs w g' Q rg rvs e gd
  unfold fMax at e
  split at e
  · cases e
    cases rvs with
    | cons r t =>
      cases r
      cases t with
      | cons r t =>
        cases r
        cases t
        exact .inl ⟨_, _, rfl, gd.here rg (.int _)⟩
  · split at e
    · rename_i xs h1
      split at e
      · rename_i i r h2
        cases e
        cases rvs with
        | cons rr t =>
          cases t
          cases rr with
          | ref k1 =>
            obtain ⟨ws, us, q1, q2, q3⟩ := rg.get k1
            rw [q1] at h1; cases h1
            rw [intsW_rel q3 h2] at q2
            refine .inr ⟨_, i :: r, rfl, .of q2, by simp, fun m hm hl => ?_⟩
            rw [← maxL_spec r i m (List.mem_cons.mp hm) (hl i List.mem_cons_self) fun y hy => hl y (List.mem_cons_of_mem _ hy)]
            exact gd.here rg (.int _)
      · cases e
    · cases e
  · cases e
theorem cs_all : CallS K (rAll K) fAll := by
  intro ι g H xs vs w g' Q rg rvs e gd
  unfold fAll at e
  split at e
  · split at e
    · rename_i xs h1
      split at e
      · rename_i bs h2
        cases e
        cases rvs with
        | cons rr t =>
          cases t
          cases rr with
          | ref k1 =>
            obtain ⟨ws, us, q1, q2, q3⟩ := rg.get k1
            rw [q1] at h1; cases h1
            rw [boolsW_rel q3 h2] at q2
            exact ⟨_, bs, rfl, .of q2, gd.here rg (.bl _)⟩
      · cases e
    · cases e
  · cases e
theorem cs_list : CallS K (fun xs H Q => ∃ p ys, xs = [.ref p] ∧ (SqL K H p ys ∨ SqT K H p ys) ∧ ∀ l, H l = none → Q (.ref l) (upd H l (.lst ys))) fList := by
  intro ι g H xs vs w g' Q rg rvs e gd
  unfold fList at e
  split at e
  · split at e
    · rename_i xs h1
      cases e
      cases rvs with
      | cons r t =>
        cases t
        obtain ⟨p, us, rfl, h2, h3⟩ := items_rel rg r h1
        refine ⟨p, us, rfl, h2, fun l hl => ?_⟩
        obtain ⟨r2, f2, s2⟩ := rg.new hl h3
        exact gd _ _ _ f2 r2 s2
    · cases e
  · cases e
theorem cs_tuple : CallS K (fun xs H Q => ∃ p ys, xs = [.ref p] ∧ ((SqL K H p ys ∧ ∀ l, H l = none → Q (.ref l) (upd H l (.tup ys))) ∨ (SqT K H p ys ∧ Q (.ref p) H))) fTuple := by
  intro ι g H xs vs w g' Q rg rvs e gd
  unfold fTuple at e
  split at e
  · cases e
    cases rvs with
    | cons r t =>
      cases t
      cases r with
      | tup h1 h2 => exact ⟨_, _, rfl, .inr ⟨h1, gd.here rg (.tup h1 h2)⟩⟩
  · split at e
    · rename_i xs h1
      cases e
      cases rvs with
      | cons rr t =>
        cases t
        cases rr with
        | ref k1 =>
          obtain ⟨ws, us, q1, q2, q3⟩ := rg.get k1
          rw [q1] at h1; cases h1
          refine ⟨_, us, rfl, .inl ⟨.of q2, fun l hl => ?_⟩⟩
          obtain ⟨r2, f2, s2⟩ := rg.tup hl q3
          exact gd _ _ _ f2 r2 s2
    · cases e
  · cases e
theorem cs_int : CallS K (fun xs H Q => (∃ i, xs = [.int i] ∧ Q (.int i) H) ∨ ∃ k, xs = [.bl k] ∧ Q (.int (if k then 1 else 0)) H) fInt := by
  intro ι g H xs vs w g' Q rg rvs e gd
  unfold fInt at e
  split at e
  · cases e
    cases rvs with
    | cons r t =>
      cases t
      cases r
      exact .inl ⟨_, rfl, gd.here rg (.int _)⟩
  · cases e
end
/-! ### the rules by name -/
section
variable {X : Cx} {o : Orc} {a b c e : Expr} {es : List Expr} {ca cb cc : CE} {cs : CA} {pos p : Pos}
theorem int_sub_bool_bool (a b : Bool) : Gives (Builtin.«int.__sub__» ⟨[.bool a, .bool b], []⟩) (.int ((if a = true then (1 : Int) else 0) - (if b = true then (1 : Int) else 0))) :=
  .of_wp fun M A E s Q h => by obtain ⟨hp, g, d, tk, os⟩ := s; wp_walk; exact ⟨_, rfl, h⟩
theorem op_sub_bb : OpR X (binaryOp .Sub) (fun x y H Q => ∃ i j, x = .bl i ∧ y = .bl j ∧ Q (.int (b2i i - b2i j)) H) := by
  intro pins s σ H x y v u Q I rx ry h
  obtain ⟨i, j, rfl, rfl, q⟩ := h
  cases (show v = Value.bool i from rx)
  cases (show u = Value.bool j from ry)
  refine binaryOp_gives (op := .Sub) (T := "bool") rfl rfl F.fills_bool_sub F.slot_bool_sub F.entry_int_sub (F.args_int_sub_2 _ _) (int_sub_bool_bool i j) trivial ⟨.int (b2i i - b2i j), H, I.tok _, ⟨s.toks, ?_⟩, q⟩
  cases i <;> cases j <;> rfl
theorem op_mulV : OpR X (binaryOp .Mult) (rI (fun i j => mulOk i j = true) fun i j => .int (i * j)) := opI fun _ _ _ _ _ _ _ hc q => mul_int q (mulOk_ok hc)
theorem op_divP : OpR X (binaryOp .FloorDiv) (rI (fun i j => j ≠ 0 ∧ Builtin.divisionGoesByPylong i j = false) fun i j => .int (i.fdiv j)) := opI fun _ _ _ _ _ _ _ hc q => floordiv_int hc.1 q (.inl hc.2)
theorem ev_add (ha : PE X a (rdE X.K o ca)) (hb : PE X b (rdE X.K o cb)) : PE X (.BinOp a .Add b pos) (rdE X.K o (eBin fAdd ca cb)) := ev_bin (op_add.or (op_cat.or op_catT)) os_add ha hb
theorem ev_sub (ha : PE X a (rdE X.K o ca)) (hb : PE X b (rdE X.K o cb)) : PE X (.BinOp a .Sub b pos) (rdE X.K o (eBin fSub ca cb)) := ev_bin (op_sub.or op_sub_bb) os_sub ha hb
theorem ev_mul (ha : PE X a (rdE X.K o ca)) (hb : PE X b (rdE X.K o cb)) : PE X (.BinOp a .Mult b pos) (rdE X.K o (eBin fMul ca cb)) := ev_bin (op_mulV.or op_rep) os_mul ha hb
theorem ev_div (ha : PE X a (rdE X.K o ca)) (hb : PE X b (rdE X.K o cb)) : PE X (.BinOp a .FloorDiv b pos) (rdE X.K o (eBin fDiv ca cb)) := ev_bin op_divP os_div ha hb
theorem ev_mod (ha : PE X a (rdE X.K o ca)) (hb : PE X b (rdE X.K o cb)) : PE X (.BinOp a .Mod b pos) (rdE X.K o (eBin fMod ca cb)) := ev_bin op_modN os_mod ha hb
theorem ev_pow (ha : PE X a (rdE X.K o ca)) (hb : PE X b (rdE X.K o cb)) : PE X (.BinOp a .Pow b pos) (rdE X.K o (eBin fPow ca cb)) := ev_bin op_pow os_pow ha hb
theorem ev_neg (ha : PE X a (rdE X.K o ca)) : PE X (.UnaryOp .USub a pos) (rdE X.K o (eUn fNeg ca)) := ev_un un_neg os_neg ha
end
end Ev

set_option Elab.async false
set_option linter.all false
set_option maxRecDepth 100000
set_option maxHeartbeats 4000000
/-! More rules by name. -/
namespace Ev
open PySem PySem.Spec PyProof.Rows L2

/-- the built-ins that are used stand as they were -/
structure Bs (mg : Str → Option Value) : Prop where
  len : mg "len" = none
  abs : mg "abs" = none
  max : mg "max" = none
  all : mg "all" = none
  list : mg "list" = none
  tuple : mg "tuple" = none
  int : mg "int" = none
  bool : mg "bool" = none
  str : mg "str" = none
  isinstance : mg "isinstance" = none
  range : mg "range" = none
  enumerate : mg "enumerate" = none
  zip : mg "zip" = none

section
variable {X : Cx} {o : Orc} {a b c e : Expr} {es rest : List Expr} {ca cb cc : CE} {cs : CA} {pos p : Pos}
/-! ### comparisons -/
theorem ev_lt (ha : PE X a (rdE X.K o ca)) (hb : PE X b (rdE X.K o cb)) : PE X (.Compare a [.Lt] [b] pos) (rdE X.K o (eBin fLt ca cb)) := ev_cmp op_lt os_lt ha hb (nomark _)
theorem ev_le (ha : PE X a (rdE X.K o ca)) (hb : PE X b (rdE X.K o cb)) : PE X (.Compare a [.LtE] [b] pos) (rdE X.K o (eBin fLe ca cb)) := ev_cmp op_le os_le ha hb (nomark _)
theorem ev_gt (ha : PE X a (rdE X.K o ca)) (hb : PE X b (rdE X.K o cb)) : PE X (.Compare a [.Gt] [b] pos) (rdE X.K o (eBin fGt ca cb)) := ev_cmp op_gt os_gt ha hb (nomark _)
theorem ev_ge (ha : PE X a (rdE X.K o ca)) (hb : PE X b (rdE X.K o cb)) : PE X (.Compare a [.GtE] [b] pos) (rdE X.K o (eBin fGe ca cb)) := ev_cmp op_ge os_ge ha hb (nomark _)
theorem ev_eq (hu : X.A.units + 64 < cLine) (ha : PE X a (rdE X.K o ca)) (hb : PE X b (rdE X.K o cb)) : PE X (.Compare a [.Eq] [b] pos) (rdE X.K o (eBin fEq ca cb)) := ev_cmp (op_eqD hu) os_eq ha hb (nomark _)
theorem ev_ne (hu : X.A.units + 64 < cLine) (ha : PE X a (rdE X.K o ca)) (hb : PE X b (rdE X.K o cb)) : PE X (.Compare a [.NotEq] [b] pos) (rdE X.K o (eBin fNe ca cb)) := ev_cmp (op_neD hu) os_ne ha hb (nomark _)
theorem tv_lt (ha : PE X a (rdE X.K o ca)) (hb : PE X b (rdE X.K o cb)) : PT X (.Compare a [.Lt] [b] pos) (rdT X.K o (eBin fLt ca cb)) := ev_tcmp op_lt os_lt ha hb (nomark _)
theorem tv_le (ha : PE X a (rdE X.K o ca)) (hb : PE X b (rdE X.K o cb)) : PT X (.Compare a [.LtE] [b] pos) (rdT X.K o (eBin fLe ca cb)) := ev_tcmp op_le os_le ha hb (nomark _)
theorem tv_gt (ha : PE X a (rdE X.K o ca)) (hb : PE X b (rdE X.K o cb)) : PT X (.Compare a [.Gt] [b] pos) (rdT X.K o (eBin fGt ca cb)) := ev_tcmp op_gt os_gt ha hb (nomark _)
theorem tv_ge (ha : PE X a (rdE X.K o ca)) (hb : PE X b (rdE X.K o cb)) : PT X (.Compare a [.GtE] [b] pos) (rdT X.K o (eBin fGe ca cb)) := ev_tcmp op_ge os_ge ha hb (nomark _)
theorem tv_eq (hu : X.A.units + 64 < cLine) (ha : PE X a (rdE X.K o ca)) (hb : PE X b (rdE X.K o cb)) : PT X (.Compare a [.Eq] [b] pos) (rdT X.K o (eBin fEq ca cb)) := ev_tcmp (op_eqD hu) os_eq ha hb (nomark _)
theorem tv_ne (hu : X.A.units + 64 < cLine) (ha : PE X a (rdE X.K o ca)) (hb : PE X b (rdE X.K o cb)) : PT X (.Compare a [.NotEq] [b] pos) (rdT X.K o (eBin fNe ca cb)) := ev_tcmp (op_neD hu) os_ne ha hb (nomark _)
theorem ev_leLe (ha : PE X a (rdE X.K o ca)) (hb : PE X b (rdE X.K o cb)) (hc : PE X c (rdE X.K o cc)) (hm : lastMarks [.LtE, .LtE] [b, c] = false := by with_unfolding_all rfl) : PE X (.Compare a [.LtE, .LtE] [b, c] pos) (rdE X.K o (eChain fLe fLe ca cb cc)) := ev_chain op_le op_le os_le os_le ha hb hc hm
theorem tv_leLe (ha : PE X a (rdE X.K o ca)) (hb : PE X b (rdE X.K o cb)) (hc : PE X c (rdE X.K o cc)) (hm : lastMarks [.LtE, .LtE] [b, c] = false := by with_unfolding_all rfl) : PT X (.Compare a [.LtE, .LtE] [b, c] pos) (rdT X.K o (eChain fLe fLe ca cb cc)) := tv_chain op_le op_le os_le os_le ha hb hc hm
end
/-! ### in -/
section
def rInD (K : PySem.W.Frag) (neg : Bool) : R2 := fun x y H Q => ∃ p xs dx ds, y = .ref p ∧ (SqL K H p xs ∨ SqT K H p xs) ∧ Dp K H x dx ∧ DpAll K H xs ds ∧ shp dx = true ∧ ds.all shp = true ∧ Q (.bl (if neg then !(ds.any fun e => PyData.eqv e dx) else ds.any fun e => PyData.eqv e dx)) H
def eqZ (us : List Value) (ds : List PyData) (dx : PyData) (u : Value) : Bool := (us.zip ds).any fun q => decide (q.1 = u) && PyData.eqv q.2 dx
theorem readsAll_zip {h : Heap} : ∀ {us : List Value} {ds : List PyData} {as : List Addr}, ReadsAll h us ds as → us.length = ds.length ∧ ∀ q ∈ us.zip ds, ∃ as', Reads h q.1 q.2 as'
  | _, _, _, .nil => ⟨rfl, fun q hq => by cases hq⟩
  | _, _, _, .cons r t => by
    obtain ⟨h1, h2⟩ := readsAll_zip t
    refine ⟨congrArg Nat.succ h1, fun q hq => ?_⟩
    rcases List.mem_cons.mp (show q ∈ (_, _) :: _ from hq) with rfl | hq
    · exact ⟨_, r⟩
    · exact h2 q hq
theorem zip_fst {α β : Type} : ∀ {us : List α} {ds : List β} {u : α}, us.length = ds.length → u ∈ us → ∃ d, (u, d) ∈ us.zip ds
  | [], _, _, _, hu => by cases hu
  | _ :: _, [], _, hl, _ => by cases hl
  | _ :: us, d :: ds, u, hl, hu => by
    rcases List.mem_cons.mp hu with rfl | hu
    · exact ⟨d, List.mem_cons_self⟩
    · obtain ⟨d', hd⟩ := zip_fst (us := us) (ds := ds) (Nat.succ.inj hl) hu
      exact ⟨d', List.mem_cons_of_mem _ hd⟩
theorem zip_snd {α β : Type} : ∀ {us : List α} {ds : List β} {d : β}, us.length = ds.length → d ∈ ds → ∃ u, (u, d) ∈ us.zip ds
  | _, [], _, _, hd => by cases hd
  | [], _ :: _, _, hl, _ => by cases hl
  | u :: us, _ :: ds, d, hl, hd => by
    rcases List.mem_cons.mp hd with rfl | hd
    · exact ⟨u, List.mem_cons_self⟩
    · obtain ⟨u', hu⟩ := zip_snd (us := us) (ds := ds) (Nat.succ.inj hl) hd
      exact ⟨u', List.mem_cons_of_mem _ hu⟩
theorem zip_mem {α β : Type} {us : List α} {ds : List β} {q : α × β} (h : q ∈ us.zip ds) : q.1 ∈ us ∧ q.2 ∈ ds := by
  obtain ⟨a, b⟩ := q
  exact List.of_mem_zip h
theorem eqZ_any {us : List Value} {ds : List PyData} {dx : PyData} (hl : us.length = ds.length) : us.any (eqZ us ds dx) = ds.any fun e => PyData.eqv e dx := by
  rw [Bool.eq_iff_iff, List.any_eq_true, List.any_eq_true]
  constructor
  · rintro ⟨u, hu, h⟩
    obtain ⟨q, hq, h2⟩ := List.any_eq_true.mp h
    rw [Bool.and_eq_true] at h2
    exact ⟨q.2, (zip_mem hq).2, h2.2⟩
  · rintro ⟨d, hd, h⟩
    obtain ⟨u, hu⟩ := zip_snd hl hd
    exact ⟨u, (zip_mem hu).1, List.any_eq_true.mpr ⟨(u, d), hu, by rw [Bool.and_eq_true]; exact ⟨decide_eq_true rfl, h⟩⟩⟩
theorem eqZ_at {A : Around} {s : Shared} {us : List Value} {ds : List PyData} {dx : PyData} {v : Value} {as bs : List Addr} (ra : ReadsAll s.heap us ds as) (rb : Reads s.heap v dx bs) (hx : shp dx = true) (hd : ds.all shp = true) (hu : A.units + 64 < cLine) :
    ∀ u ∈ us, SeqAt.EqAt A s u v (eqZ us ds dx u) := fun u hm => by
  obtain ⟨hl, hz⟩ := readsAll_zip ra
  have at1 : ∀ d, (u, d) ∈ us.zip ds → SeqAt.EqAt A s u v (PyData.eqv d dx) := fun d hq => by
    obtain ⟨as', r⟩ := hz _ hq
    have h1 := shp_of (List.all_eq_true.mp hd d (zip_mem hq).2)
    have h2 := shp_of hx
    exact SeqAt.eqAt_reads d dx A s u v as' bs r rb h1.1 h2.1 (by have := Nat.min_le_left d.depth dx.depth; omega)
  cases q : eqZ us ds dx u with
  | true =>
    obtain ⟨⟨u', d⟩, hq, h2⟩ := List.any_eq_true.mp q
    rw [Bool.and_eq_true] at h2
    have e1 : u' = u := of_decide_eq_true h2.1
    subst e1
    have := at1 d hq
    rw [h2.2] at this
    exact this
  | false =>
    obtain ⟨d, hq⟩ := zip_fst hl hm
    have h3 : PyData.eqv d dx = false := by
      cases z : PyData.eqv d dx with
      | false => rfl
      | true =>
        have : eqZ us ds dx u = true := List.any_eq_true.mpr ⟨(u, d), hq, by rw [Bool.and_eq_true]; exact ⟨decide_eq_true rfl, z⟩⟩
        rw [this] at q
        cases q
    have := at1 d hq
    rw [h3] at this
    exact this
variable {X : Cx}
theorem op_inD (hu : X.A.units + 70 < cLine) : OpR X (compareOp .In) (rInD X.K false) := by
  intro pins s σ H x y v u Q I rx ry h
  obtain ⟨p, xs, dx, ds, rfl, hq, hx, hxs, sx, ss, q⟩ := h
  cases ry
  obtain ⟨bs, rb⟩ := Dp.reads I dx x v hx rx
  have hu1 : X.A.in1.units + 64 < cLine := by show X.A.units + 1 + 64 < cLine; omega
  rcases hq with hq | hq
  · obtain ⟨its, r, pl, hz⟩ := I.list hq
    obtain ⟨as, ra⟩ := Dp.readsAll I ds xs its hxs r
    refine SeqAt.in_listAt (eqZ its ds dx) pl.isList (fun w hw => eqZ_at ra rb sx ss hu1 w (by simpa using hw)) ⟨.bl _, H, I, rfl, ?_⟩
    rw [show its.toArray.any (eqZ its ds dx) = its.any (eqZ its ds dx) by simp, eqZ_any (readsAll_zip ra).1]
    exact q
  · obtain ⟨its, r, pl, hz⟩ := I.tuple hq
    obtain ⟨as, ra⟩ := Dp.readsAll I ds xs its hxs r
    refine SeqAt.in_tupleAt (eqZ its ds dx) pl (fun w hw => eqZ_at ra rb sx ss hu1 w (by simpa using hw)) ⟨.bl _, H, I, rfl, ?_⟩
    rw [show its.toArray.any (eqZ its ds dx) = its.any (eqZ its ds dx) by simp, eqZ_any (readsAll_zip ra).1]
    exact q
theorem op_notInD (hu : X.A.units + 70 < cLine) : OpR X (compareOp .NotIn) (rInD X.K true) := by
  intro pins s σ H x y v u Q I rx ry h
  obtain ⟨p, xs, dx, ds, rfl, hq, hx, hxs, sx, ss, q⟩ := h
  cases ry
  obtain ⟨bs, rb⟩ := Dp.reads I dx x v hx rx
  have hu1 : X.A.in1.units + 64 < cLine := by show X.A.units + 1 + 64 < cLine; omega
  rcases hq with hq | hq
  · obtain ⟨its, r, pl, hz⟩ := I.list hq
    obtain ⟨as, ra⟩ := Dp.readsAll I ds xs its hxs r
    refine SeqAt.notIn_listAt (eqZ its ds dx) pl.isList (fun w hw => eqZ_at ra rb sx ss hu1 w (by simpa using hw)) ⟨.bl _, H, I, rfl, ?_⟩
    rw [show its.toArray.any (eqZ its ds dx) = its.any (eqZ its ds dx) by simp, eqZ_any (readsAll_zip ra).1]
    exact q
  · obtain ⟨its, r, pl, hz⟩ := I.tuple hq
    obtain ⟨as, ra⟩ := Dp.readsAll I ds xs its hxs r
    refine SeqAt.notIn_tupleAt (eqZ its ds dx) pl (fun w hw => eqZ_at ra rb sx ss hu1 w (by simpa using hw)) ⟨.bl _, H, I, rfl, ?_⟩
    rw [show its.toArray.any (eqZ its ds dx) = its.any (eqZ its ds dx) by simp, eqZ_any (readsAll_zip ra).1]
    exact q
theorem inW_rel {K : PySem.W.Frag} {ι : List Addr} {g : G} {H : Hp} {x y : W} {v u : V} {b : Bool} (rg : RG K ι g H) (rv : RelW K ι H v x) (ru : RelW K ι H u y) (h : inW x y g = some b) :
    ∃ p xs dx ds, u = .ref p ∧ (SqL K H p xs ∨ SqT K H p xs) ∧ Dp K H v dx ∧ DpAll K H xs ds ∧ shp dx = true ∧ ds.all shp = true ∧ b = ds.any fun e => PyData.eqv e dx := by
  unfold inW at h
  split at h
  · rename_i xs h1
    split at h
    · rename_i d ds h2 h3
      split at h
      · rename_i hc
        rw [Bool.and_eq_true] at hc
        cases h
        obtain ⟨p, vs, rfl, q1, q2⟩ := items_rel rg ru h1
        exact ⟨p, vs, d, ds, rfl, q1, toD_rel rg _ _ _ _ rv h2, mapO_rel (fun v w d => toD_rel rg _ v w d) q2 h3, hc.1, hc.2, rfl⟩
      · cases h
    · cases h
  · cases h
theorem os_in {K : PySem.W.Frag} : OpS K (rInD K false) fIn := by
  intro ι g H x y v u w g' Q rg rv ru e gd
  unfold fIn at e
  split at e
  · rename_i b h
    cases e
    obtain ⟨p, xs, dx, ds, rfl, q1, q2, q3, q4, q5, rfl⟩ := inW_rel rg rv ru h
    exact ⟨p, xs, dx, ds, rfl, q1, q2, q3, q4, q5, gd.here rg (.bl _)⟩
  · cases e
theorem os_notIn {K : PySem.W.Frag} : OpS K (rInD K true) fNotIn := by
  intro ι g H x y v u w g' Q rg rv ru e gd
  unfold fNotIn at e
  split at e
  · rename_i b h
    cases e
    obtain ⟨p, xs, dx, ds, rfl, q1, q2, q3, q4, q5, rfl⟩ := inW_rel rg rv ru h
    exact ⟨p, xs, dx, ds, rfl, q1, q2, q3, q4, q5, gd.here rg (.bl _)⟩
  · cases e
variable {o : Orc} {a b c e : Expr} {es rest : List Expr} {ca cb cc : CE} {cs : CA} {pos p : Pos}
theorem ev_in (hu : X.A.units + 70 < cLine) (ha : PE X a (rdE X.K o ca)) (hb : PE X b (rdE X.K o cb)) (hm : behindInMarks .In b = false := by rfl) : PE X (.Compare a [.In] [b] pos) (rdE X.K o (eBin fIn ca cb)) := ev_cmp (op_inD hu) os_in ha hb hm
theorem ev_notIn (hu : X.A.units + 70 < cLine) (ha : PE X a (rdE X.K o ca)) (hb : PE X b (rdE X.K o cb)) (hm : behindInMarks .NotIn b = false := by rfl) : PE X (.Compare a [.NotIn] [b] pos) (rdE X.K o (eBin fNotIn ca cb)) := ev_cmp (op_notInD hu) os_notIn ha hb hm
theorem tv_in (hu : X.A.units + 70 < cLine) (ha : PE X a (rdE X.K o ca)) (hb : PE X b (rdE X.K o cb)) (hm : behindInMarks .In b = false := by rfl) : PT X (.Compare a [.In] [b] pos) (rdT X.K o (eBin fIn ca cb)) := ev_tcmp (op_inD hu) os_in ha hb hm
theorem tv_notIn (hu : X.A.units + 70 < cLine) (ha : PE X a (rdE X.K o ca)) (hb : PE X b (rdE X.K o cb)) (hm : behindInMarks .NotIn b = false := by rfl) : PT X (.Compare a [.NotIn] [b] pos) (rdT X.K o (eBin fNotIn ca cb)) := ev_tcmp (op_notInD hu) os_notIn ha hb hm
/-! ### subscripts, slices -/
theorem ev_at (ha : PE X a (rdE X.K o ca)) (hb : PE X b (rdE X.K o cb)) (hp : PlainIx b := by exact fun _ _ => rfl) : PE X (.Subscript a b pos) (rdE X.K o (eBin fIx ca cb)) := ev_ix (ix_list.or ix_tup) os_ix ha hb hp
def evO (c : Option CE) : Orc → Sg → G → R (Option Int) := fun o s g => match c with
  | none => .ok none g
  | some c => (c o s g).bind fun x g1 => match x with
    | .int i => .ok (some i) g1
    | _ => .no
def cutW (xs : List W) (lo hi : Option Int) : List W := (xs.drop (HT.sIx xs.length 0 lo)).take (HT.sIx xs.length xs.length hi - HT.sIx xs.length 0 lo)
def fSl (x : W) (l h : Option Int) (g : G) : R W := match x with
  | .ref n => match g[n]? with
    | some xs => .ok (.ref g.length) (g ++ [cutW xs l h])
    | none => .no
  | _ => .no
def eSl (a : CE) (lo hi : Option CE) : CE := fun o s g => (a o s g).bind fun x g1 => (evO lo o s g1).bind fun l g2 => (evO hi o s g2).bind fun h g3 => fSl x l h g3
def rdO (K : PySem.W.Frag) (o : Orc) (c : Option CE) : TO := fun σ H Q => ∃ ι g s r g', RelS K ι H s σ ∧ RG K ι g H ∧ evO c o s g = .ok r g' ∧ Gs K ι H g' (Q r)
theorem _root_.L2.PO.evi {e : Option Expr} {t t' : TO} (h : PO X e t) (i : ∀ σ H Q, t' σ H Q → t σ H Q) : PO X e t' := ⟨fun pins s σ H Q I hw => h.run pins s σ H Q I (i _ _ _ hw)⟩
theorem ov_none : PO X none (rdO X.K o none) := po_none.evi fun σ H Q ⟨ι, g, s, r, g', rs, rg, e, gs⟩ => by
  cases e
  exact gs ι H (.refl _ _) rg
theorem ov_some (h : PE X e (rdE X.K o ca)) : PO X (some e) (rdO X.K o (some ca)) := (po_some h).evi fun σ H Q ⟨ι, g, s, r, g', rs, rg, e, gs⟩ => by
  obtain ⟨x, g1, h1, e⟩ := R.bind_ok e
  refine ⟨ι, g, s, x, g1, rs, rg, h1, fun ι1 H1 v f1 rg1 rv => ?_⟩
  cases rv with
  | int i =>
    cases e
    exact ⟨i, rfl, gs ι1 H1 f1 rg1⟩
  | _ => cases e
theorem cut_rel {K : PySem.W.Frag} {ι : List Addr} {H : Hp} {vs : List V} {ws : List W} {l h : Option Int} (q3 : RelWs K ι H vs ws) : RelWs K ι H (cutV vs l h) (cutW ws l h) := by
  unfold cutV cutW
  rw [q3.length]
  exact (q3.drop _).take _
theorem ev_slice {lo hi : Option Expr} {cl ch : Option CE} {p2 : Pos} (ha : PE X a (rdE X.K o ca)) (hl : PO X lo (rdO X.K o cl)) (hh : PO X hi (rdO X.K o ch)) : PE X (.Subscript a (.Slice lo hi none p2) pos) (rdE X.K o (eSl ca cl ch)) :=
  (pe_slice sl_list ha hl hh).evi fun σ H Q ⟨ι, g, s, w, g', rs, rg, e, gd⟩ => by
    obtain ⟨x, g1, h1, e⟩ := R.bind_ok e
    obtain ⟨l, g2, h2, e⟩ := R.bind_ok e
    obtain ⟨h, g3, h3, e⟩ := R.bind_ok e
    refine ⟨ι, g, s, x, g1, rs, rg, h1, fun ι1 H1 v f1 rg1 rv => ⟨ι1, g1, s, l, g2, rs.mono f1, rg1, h2, fun ι2 H2 f2 rg2 => ⟨ι2, g2, s, h, g3, rs.mono (f1.trans f2), rg2, h3, fun ι3 H3 f3 rg3 => ?_⟩⟩⟩
    unfold fSl at e
    split at e
    · split at e
      · rename_i xs hx
        cases e
        cases rv.mono (f2.trans f3) with
        | ref k1 =>
          obtain ⟨ws, vs, q1, q2, q3⟩ := rg3.get k1
          rw [q1] at hx; cases hx
          refine ⟨_, vs, rfl, .of q2, fun p hp => ?_⟩
          obtain ⟨r2, f4, s2⟩ := rg3.new hp (cut_rel (l := l) (h := h) q3)
          exact gd _ _ _ (((f1.trans f2).trans f3).trans f4) r2 s2
      · cases e
    · cases e
def fRev : W → G → R W
  | .ref n, g => match g[n]? with
    | some xs => .ok (.ref g.length) (g ++ [xs.reverse])
    | none => .no
  | _, _ => .no
theorem ev_rev {k : Nat} {p1 p2 p3 : Pos} (ha : PE X a (rdE X.K o ca)) : PE X (.Subscript a (.Slice none none (some (.UnaryOp .USub (.Constant (.int 1) k p1) p2)) p3) pos) (rdE X.K o (eUn fRev ca)) :=
  (pe_revL ha).evi fun σ H Q ⟨ι, g, s, w, g', rs, rg, e, gd⟩ => by
    obtain ⟨x, g1, h1, e⟩ := R.bind_ok e
    refine ⟨ι, g, s, x, g1, rs, rg, h1, fun ι1 H1 v f1 rg1 rv => ?_⟩
    unfold fRev at e
    split at e
    · split at e
      · rename_i xs hx
        cases e
        cases rv with
        | ref k1 =>
          obtain ⟨ws, vs, q1, q2, q3⟩ := rg1.get k1
          rw [q1] at hx; cases hx
          refine ⟨_, vs, rfl, .of q2, fun p hp => ?_⟩
          obtain ⟨r2, f4, s2⟩ := rg1.new hp q3.reverse
          exact gd _ _ _ (f1.trans f4) r2 s2
      · cases e
    · cases e
/-! ### built-ins by name -/
variable (B : Bs X.mg)
include B
theorem ev_len (ha : PA X [e] (rdA X.K o cs)) (hg : Gl X "len" := by rfl) (he : starEach [e] X.env = (false, eval e X.env) :: starEach [] X.env := by rfl) : PE X (.Call (.Name "len" p) [e] [] pos) (rdE X.K o (eFun fLen cs)) := ev_fun call_len_seq cs_len B.len PySem.boot_len ha hg (by decide) (by decide) he
theorem ev_abs (ha : PA X [e] (rdA X.K o cs)) (hg : Gl X "abs" := by rfl) (he : starEach [e] X.env = (false, eval e X.env) :: starEach [] X.env := by rfl) : PE X (.Call (.Name "abs" p) [e] [] pos) (rdE X.K o (eFun fAbs cs)) := ev_fun call_abs cs_abs B.abs (by decide +kernel) ha hg (by decide) (by decide) he
theorem ev_max (hc : X.calm = true) (ha : PA X (e :: es) (rdA X.K o cs)) (hg : Gl X "max" := by rfl) (he : starEach (e :: es) X.env = (false, eval e X.env) :: starEach es X.env := by rfl) (hpl : (backTo pos (starEach es X.env)).any (·.1) = false := by rfl) : PE X (.Call (.Name "max" p) (e :: es) [] pos) (rdE X.K o (eFun fMax cs)) :=
  ev_fun ((call_max2 hc).or (cr_max hc)) cs_max B.max (by decide +kernel) ha hg (by decide) (by decide) he hpl
theorem ev_all (hc : X.calm = true) (ha : PA X [e] (rdA X.K o cs)) (hg : Gl X "all" := by rfl) (he : starEach [e] X.env = (false, eval e X.env) :: starEach [] X.env := by rfl) : PE X (.Call (.Name "all" p) [e] [] pos) (rdE X.K o (eFun fAll cs)) := ev_fun (cr_all hc) cs_all B.all (by decide +kernel) ha hg (by decide) (by decide) he
theorem ev_list (ha : PA X [e] (rdA X.K o cs)) (hg : Gl X "list" := by rfl) (he : starEach [e] X.env = (false, eval e X.env) :: starEach [] X.env := by rfl) : PE X (.Call (.Name "list" p) [e] [] pos) (rdE X.K o (eFun fList cs)) := ev_ty call_list_of cs_list B.list (by decide +kernel) ha hg (by decide) (by decide) he
theorem ev_tuple (ha : PA X [e] (rdA X.K o cs)) (hg : Gl X "tuple" := by rfl) (he : starEach [e] X.env = (false, eval e X.env) :: starEach [] X.env := by rfl) : PE X (.Call (.Name "tuple" p) [e] [] pos) (rdE X.K o (eFun fTuple cs)) := ev_ty call_tuple_of cs_tuple B.tuple (by decide +kernel) ha hg (by decide) (by decide) he
theorem ev_toint (ha : PA X [e] (rdA X.K o cs)) (hg : Gl X "int" := by rfl) (he : starEach [e] X.env = (false, eval e X.env) :: starEach [] X.env := by rfl) : PE X (.Call (.Name "int" p) [e] [] pos) (rdE X.K o (eFun fInt cs)) := ev_ty call_int1 cs_int B.int (by decide +kernel) ha hg (by decide) (by decide) he
end
/-! ### isinstance -/
inductive Ty where
  | int | bool | str | tuple | list
def isi : Ty → W → Bool
  | .int, .int _ => true
  | .int, .bl _ => true
  | .bool, .bl _ => true
  | .tuple, .tup _ => true
  | .list, .ref _ => true
  | .list, .rol _ => true
  | _, _ => false
def eIsi (t : Ty) (a : CE) : CE := fun o s g => (a o s g).bind fun x g1 => .ok (.bl (isi t x)) g1
def Ty.name : Ty → String
  | .int => "int"
  | .bool => "bool"
  | .str => "str"
  | .tuple => "tuple"
  | .list => "list"
def tyn : W → String
  | .non => "NoneType"
  | .bl _ => "bool"
  | .int _ => "int"
  | .tup _ => "tuple"
  | .rol _ => "list"
  | .ref _ => "list"
theorem kit_isi (t : Ty) (w : W) : kitB (tyn w) t.name = some (isi t w) := by
  cases t <;> cases w <;> (simp only [tyn, Ty.name, isi]; decide +kernel)
theorem tyx_rel {K : PySem.W.Frag} {ι : List Addr} {g : G} {H : Hp} {v : V} {w : W} (rg : RG K ι g H) (r : RelW K ι H v w) : TyX K H v (.type (tyn w)) := by
  cases r with
  | non => exact .base .non
  | bl b => exact .base (.bl b)
  | int i => exact .base (.int i)
  | tup h1 h2 =>
    rcases h1 with (h1 | ⟨ob, h1⟩) | ⟨ob, its, n, h1, h2, _⟩
    · exact .base (.tup h1)
    · exact .fTuple h1
    · exact .kTuple h1 h2
  | rol h1 h2 =>
    rcases h1 with ⟨ob, h1⟩ | ⟨ob, its, n, h1, h2, _⟩
    · exact .base (.frz h1)
    · exact .kList h1 h2
  | ref h1 =>
    obtain ⟨ws, vs, q1, q2, q3⟩ := rg.get h1
    exact .base (.lst q2)
section
variable {X : Cx} {o : Orc} {e : Expr} {ca : CE} {pos p p2 : Pos}
theorem ev_isi (t : Ty) {T : Str} (B : X.mg "isinstance" = none) (hT : X.mg T = none) (hv : bootBuiltins T = some (.type t.name)) (he : PE X e (rdE X.K o ca)) (hg : Gl X "isinstance" := by rfl) (hg2 : Gl X T := by rfl) (hn : T ≠ "__name__" := by decide) (hd : (T == ("__debug__" : Str)) = false := by decide)
    (hs : starEach [e, .Name T p2] X.env = (false, eval e X.env) :: starEach [.Name T p2] X.env := by rfl) : PE X (.Call (.Name "isinstance" p) [e, .Name T p2] [] pos) (rdE X.K o (eIsi t ca)) :=
  (pe_callB call_isi hg B (by decide +kernel) (pa_cons he (pa_cons (pe_bltn (v := .ty t.name) hg2 hT hv rfl hn hd) pa_nil) hs) (by decide) (by decide) hs).evi fun σ H Q ⟨ι, g, s, w, g', rs, rg, e, gd⟩ => by
    obtain ⟨x, g1, h1, e⟩ := R.bind_ok e
    cases e
    exact ⟨ι, g, s, x, g', rs, rg, h1, fun ι1 H1 v f1 rg1 rv => ⟨v, .ty t.name, .type (tyn x), .type t.name, isi t x, rfl, .ty _, tyx_rel rg1 rv, kit_ty (kit_isi t x), gd _ _ _ f1 rg1 (.bl _)⟩⟩
/-! ### append, pop -/
def eApp (a : CE) (as : CA) : CE := fun o s g => (a o s g).bind fun x g1 => (as o s g1).bind fun ys g2 => match x, ys with
  | .ref n, [y] => match g2[n]? with
    | some xs => if szOk (xs.length + 1) = true then .ok .non (g2.set n (xs ++ [y])) else .no
    | none => .no
  | _, _ => .no
def lastW : List W → Option W
  | [] => none
  | [x] => some x
  | _ :: y :: r => lastW (y :: r)
theorem lastW_eq : ∀ xs : List W, lastW xs = xs[xs.length - 1]?
  | [] => rfl
  | [x] => rfl
  | x :: y :: r => by
    show lastW (y :: r) = _
    rw [lastW_eq (y :: r)]
    simp
def ePop (a : CE) : CE := fun o s g => (a o s g).bind fun x g1 => match x with
  | .ref n => match g1[n]? with
    | some xs => match lastW xs with
      | some y => .ok y (g1.set n xs.dropLast)
      | none => .no
    | none => .no
  | _ => .no
theorem ev_app {apos cpos : Pos} {l : Expr} {as : CA} (hl : PE X l (rdE X.K o ca)) (ha : PA X [e] (rdA X.K o as))
    (hbase : attributeBase l "append" X.env (eval l X.env) = eval l X.env := by rfl)
    (hfew : ((backTo cpos (starEach [e] X.env)).all (fun x => !x.1) && (backToKw cpos (keywordEach [] X.env)).all (fun x => x.1.isSome)
      && decide (([e]).length + ([] : List Keyword).length + (if ([] : List Keyword).isEmpty then 0 else 1) < 30)) = true := by rfl)
    (hline : (apos.endLine == cpos.line) = true := by rfl) (hs : starEach [e] X.env = (false, eval e X.env) :: starEach [] X.env := by rfl) : PE X (.Call (.Attribute l "append" apos) [e] [] cpos) (rdE X.K o (eApp ca as)) :=
  (pe_bm PySem.F.plainAttrs_list PySem.F.slot_list_append PySem.F.type_list_append mt_append hl ha hbase hfew hline hs).evi fun σ H Q ⟨ι, g, s, w, g', rs, rg, e, gd⟩ => by
    obtain ⟨x, g1, h1, e⟩ := R.bind_ok e
    obtain ⟨ys, g2, h2, e⟩ := R.bind_ok e
    split at e
    · split at e
      · rename_i xs hx
        split at e
        · rename_i hz
          cases e
          refine ⟨ι, g, s, _, g1, rs, rg, h1, fun ι1 H1 v f1 rg1 rv => ?_⟩
          cases rv with
          | ref k1 =>
            obtain ⟨ws, vs, q1, q2, q3⟩ := rg1.get k1
            refine ⟨.inl ⟨rfl, vs, .of q2⟩, ι1, g1, s, _, g2, rs.mono f1, rg1, h2, fun ι2 H2 us f2 rg2 rus => ?_⟩
            cases rus with
            | cons ry t =>
              cases t
              have k2 := pre_get f2.pre k1
              obtain ⟨ws2, vs2, p1, p2, p3⟩ := rg2.get k2
              rw [p1] at hx; cases hx
              refine ⟨_, vs2, _, rfl, rfl, p2, ?_, ?_⟩
              · have := szOk_le hz
                rw [p3.length]
                omega
              · obtain ⟨r3, f3⟩ := rg2.set k2 p2 (p3.append (.cons ry .nil))
                exact gd _ _ _ ((f1.trans f2).trans f3) r3 .non
        · cases e
      · cases e
    · cases e
theorem ev_pop {apos cpos : Pos} {l : Expr} (hl : PE X l (rdE X.K o ca))
    (hbase : attributeBase l "pop" X.env (eval l X.env) = eval l X.env := by rfl) (hline : (apos.endLine == cpos.line) = true := by rfl) : PE X (.Call (.Attribute l "pop" apos) [] [] cpos) (rdE X.K o (ePop ca)) :=
  (pe_bm0 PySem.F.plainAttrs_list PySem.F.slot_list_pop PySem.F.type_list_pop mt_pop hl hbase hline).evi fun σ H Q ⟨ι, g, s, w, g', rs, rg, e, gd⟩ => by
    obtain ⟨x, g1, h1, e⟩ := R.bind_ok e
    split at e
    · split at e
      · rename_i xs hx
        split at e
        · rename_i y hy
          cases e
          refine ⟨ι, g, s, _, g1, rs, rg, h1, fun ι1 H1 v f1 rg1 rv => ?_⟩
          cases rv with
          | ref k1 =>
            obtain ⟨ws, vs, q1, q2, q3⟩ := rg1.get k1
            rw [q1] at hx; cases hx
            rw [lastW_eq] at hy
            obtain ⟨vy, hvy, ry⟩ := q3.get hy
            refine ⟨.inl ⟨rfl, vs, .of q2⟩, _, vs, vy, rfl, rfl, q2, by rw [q3.length]; exact hvy, ?_⟩
            obtain ⟨r3, f3⟩ := rg1.set k1 q2 q3.dropLast
            exact gd _ _ _ (f1.trans f3) r3 (ry.mono f3)
        · cases e
      · cases e
    · cases e
end
end Ev

set_option Elab.async false
set_option linter.all false
set_option maxRecDepth 100000
set_option maxHeartbeats 4000000
/-! enumerate over a tuple -/
namespace Ev
open PySem PySem.Spec PyProof.Rows L2
open AutoSeq1 (wpAny_loadPart')

theorem meets_enumerate_newT (l : Addr) (items : Array Value) (n : Nat) (dct : Option Addr) (sl : Array (Option Value)) :
    Meets (Builtin.«enumerate.__new__» ⟨[.type "enumerate", .ref l], []⟩) (fun _ R s => s.heap.get? l = some { cls := .type "tuple", dict := dct, data := .seq items n, slots := sl } ∧
      R (.ok (.ret (.ref (s.heap.push { cls := .type "tuple_iterator", data := .fields #[.ref l, .int 0 0] }).objs.size)))
        { s with heap := (s.heap.push { cls := .type "tuple_iterator", data := .fields #[.ref l, .int 0 0] }).push { cls := .type "enumerate", data := .fields #[.none, .bool false, .ref s.heap.objs.size, rawInt 0, .none, .none] } }) :=
  .of_wp fun prog w A R s h => by
    obtain ⟨hp, g, d, tk, os⟩ := s; obtain ⟨hl, h⟩ := h
    have hsub := sub_enumerate
    have hL : Heap.IsTuple (Shared.heap ⟨hp, g, d, tk, os⟩) l items := ⟨_, hl, rfl, n, rfl⟩
    wp_walk using wpAny_loadPart' hl
    refine wpAny_stack_any fun st => wpAny_pure ?_
    split
    · rename_i c _ _ _ _ _
      cases (c == Value.type "enumerate")
      · wp_walk using wpAny_loadPart' hl, wpAny_pyIter_tuple hL
        exact ⟨_, rfl, h⟩
      · wp_walk using wpAny_loadPart' hl, wpAny_pyIter_tuple hL
        exact ⟨_, rfl, h⟩
    · wp_walk using wpAny_loadPart' hl, wpAny_pyIter_tuple hL
      exact ⟨_, rfl, h⟩
section
variable {prog : Program} {w : World} {A : Around} {E : Value → Shared → Prop} {s : Shared}
theorem call_enumerate_tuple {l : Addr} {items : Array Value} {Q : Value → Shared → Prop} (hL : s.heap.IsTuple l items)
    (h : ∀ h', IsEnum h' (s.heap.objs.size + 1) s.heap.objs.size 0 .none → h'.IsTupleIter s.heap.objs.size l 0 → h'.objs.size = s.heap.objs.size + 2 →
      (∀ b o, s.heap.get? b = some o → h'.get? b = some o) → Q (.ref (s.heap.objs.size + 1)) { s with heap := h' }) :
    wpAny (model prog w) A (call (.type "enumerate") [.ref l]) Q E s := by
  obtain ⟨⟨c, dct, dt, sl⟩, hl, hc, n, hd⟩ := hL
  replace hc : c = .type "tuple" := hc
  replace hd : dt = .seq items n := hd
  subst hc hd
  refine callType_new F.called_enumerate (by decide) (F.typeCall_enumerate_1 _) (F.newCall_enumerate_1 _) (fun obj => F.args_object_init_2 obj _) F.entry_enumerate_new
    (meets_enumerate_newT l items n dct sl) ⟨hl, ?_⟩
  have hz : (s.heap.push { cls := .type "tuple_iterator", data := .fields #[.ref l, .int 0 0] }).objs.size = s.heap.objs.size + 1 := Heap.size_push ..
  show _ ∧ _
  rw [hz]
  have he : IsEnum ((s.heap.push { cls := .type "tuple_iterator", data := .fields #[.ref l, .int 0 0] }).push
      { cls := .type "enumerate", data := .fields #[.none, .bool false, .ref s.heap.objs.size, rawInt 0, .none, .none] }) (s.heap.objs.size + 1) s.heap.objs.size 0 .none := by
    have := Heap.get?_push_size (s.heap.push { cls := .type "tuple_iterator", data := .fields #[.ref l, .int 0 0] })
      (o := { cls := .type "enumerate", data := .fields #[.none, .bool false, .ref s.heap.objs.size, rawInt 0, .none, .none] }) rfl
    rw [hz] at this; exact this
  refine ⟨⟨_, he, rfl⟩, h _ he ⟨_, Heap.get?_push_of_some _ (Heap.get?_push_size _ rfl), rfl, rfl⟩ (by rw [Heap.size_push, hz]) fun b o x => Heap.get?_push_of_some _ (Heap.get?_push_of_some _ x)⟩
end
def IteT (K : PySem.W.Frag) (a : Addr) : It :=
  ⟨fun i H => ∃ (xs : List V) (x : V), SqT K H a xs ∧ xs[i]? = some x, fun i H v H' => ∃ T x, v = .ref T ∧ H T = none ∧ H' = upd H T (.tup [.int (i : Nat), x]) ∧ ∀ xs, SqT K H a xs → xs[i]? = some x, fun i H => ∃ xs : List V, SqT K H a xs ∧ xs.length ≤ i⟩
theorem turn_enumT {P : Program} {w : World} {K : PySem.W.Frag} {elts : List Expr} {kk : Nat} {tpos : Pos} (a e it : Addr) (hta : a ≠ it) :
    Turn P w K (.Tuple elts kk tpos) (IteT K a) [e, it] e (fun i h => (∃ old, IsEnum h e it ((i : Nat) : Int) old) ∧ h.IsTupleIter it a i ∧ e ≠ it ∧ e ≠ a) where
  mem := by simp
  obj := fun i h st b hb => by
    obtain ⟨⟨old, he⟩, ⟨o, ho, hc, hd⟩, _⟩ := st
    have e' : b = e ∨ b = it := by simpa using hb
    rcases e' with z | z
    · rw [z]; exact ⟨_, he, fun v q => nomatch q⟩
    · rw [z]; exact ⟨o, ho, fun v q => by rw [hd] at q; cases q⟩
  keep := fun i h h' st k => let ⟨⟨old, he⟩, hi, hne⟩ := st; ⟨⟨old, k e (by simp) _ he⟩, hi.at fun o q => k it (by simp) o q, hne⟩
  item := by
    intro X hP hw hK hc i pins s σ H E I hf st hg
    subst hP hw hK
    obtain ⟨⟨old, he⟩, hit, hne, hea⟩ := st
    obtain ⟨xs, x, hq, hx⟩ := hg
    obtain ⟨its, rv, p, hz⟩ := I.tuple hq
    obtain ⟨u, hu, ru⟩ := rv.get hx
    have hel : e < s.heap.objs.size := Heap.lt_size he
    have hil : it < s.heap.objs.size := by obtain ⟨_, q, _⟩ := hit; exact Heap.lt_size q
    have hlt : i < its.toArray.size := by
      have := (List.getElem?_eq_some_iff.mp hu).1
      simpa using this
    refine wpAny_pyNext_enum_itemD (Draws.tuple (A := X.A.in1) (I.ok.hd hc) it a hta its.toArray) he ⟨hit, p⟩ hlt hne (by simp [hne, hea]) fun x' h' tk hx' ho hst' hT hsz hk => ?_
    have ex : x' = u := by
      have h1 : its.toArray[i]? = some x' := hx'
      have h2 : its.toArray[i]? = some u := by simpa using hu
      rw [h1] at h2
      exact Option.some.inj h2
    subst ex
    refine ⟨_, rfl, wpAny_letOwnedTupleGo_enum (s := { s with heap := h', toks := tk + 1 }) ho fun h'' he' sb => ?_⟩
    have hT2 : h''.get? s.heap.objs.size = some { cls := .type "tuple", data := .seq #[.int i tk, x'] } := (sb.2 _ (Nat.ne_of_gt hel)).trans hT
    have new : ObjOk X.prog X.w (upd H s.heap.objs.size (.tup [.int (i : Nat), x])) h'' s.heap.objs.size (.tup [.int (i : Nat), x]) :=
      ⟨by show 2 ≤ sizeLine; decide, [.int i tk, x'], .cons ⟨_, rfl⟩ (.cons ru .nil), ⟨_, hT2, rfl, _, rfl⟩⟩
    have I1 : Inv X pins σ (upd H s.heap.objs.size (.tup [.int (i : Nat), x])) { s with heap := h'', toks := tk + 1 } :=
      I.turnedNew (ch := [e, it]) (fun b ob hb q => (sb.2 b (fun z => hb (by simp [z]))).trans (hk b ob (fun z => hb (by simp [z])) (fun z => hb (by simp [z])) q)) hf (Nat.le_refl _) new
    refine ⟨.ref s.heap.objs.size, _, I1, rfl, ⟨_, x, rfl, I.hok.fresh (Nat.le_refl _), rfl, fun ys hy => by rw [I.tuple_inj hy hq]; exact hx⟩, ⟨⟨x', ?_⟩, hst'.1.at fun o q => (sb.2 it (Ne.symm hne)).trans q, hne, hea⟩, fun b hb => ?_⟩
    · have e1 : ((i + 1 : Nat) : Int) = (i : Int) + 1 := by omega
      rw [e1]; exact he'
    · have hb' : b < s.heap.objs.size := by
        have e' : b = e ∨ b = it := by simpa using hb
        rcases e' with z | z
        · rw [z]; exact hel
        · rw [z]; exact hil
      rw [upd_ne (Nat.ne_of_lt hb')]
      exact (hf b hb).1
  done := by
    intro X hP hw hK hc i pins s σ H E I hf st hg
    subst hP hw hK
    obtain ⟨⟨old, he⟩, hit, hne, hea⟩ := st
    obtain ⟨xs, hq, hx⟩ := hg
    obtain ⟨its, rv, p, hz⟩ := I.tuple hq
    obtain ⟨f0, f1, f2, f3, f4, f5⟩ := hf it (by simp)
    have hl := rv.length
    have hT : s.TypeIs (.ref e) "enumerate" := ⟨_, he, rfl⟩
    unfold pyNext
    refine wpAny_bind (wpAny_attempt (wpAny_callSpecial?_slot (name := Str.ofString "__next__") hT F.slot_enumerate_next
      (wpAny_call_entry F.slot_enumerate_next hT F.entry_enumerate_next ?_ (F.args_enumerate_next_1 _))))
    show wpAny _ _ (field (.ref e) 2 >>= _) _ _ _
    refine wpAny_bind (wpAny_field he rfl (x := .ref it) rfl ?_)
    refine wpAny_bind (wpAny_nextOf_tuple_end (I.ok.hd hc) hit p (by simp; omega) fun h' x he' hx' => ?_)
    obtain ⟨o, ho, hc'⟩ := hx'
    refine wpAny_bind (wpAny_isInstance (T := "StopIteration") (b := true) ⟨o, ho, hc'⟩ isSubtype_stop ?_)
    exact wpAny_pure ⟨rfl, I.turned (t' := s.toks) (fun b o hb q => he' b o hb q) f0 f1 f3 f4 f5⟩
  self := fun A i s Q E st h => let ⟨⟨_, he⟩, _⟩ := st; wpAny_pyIter_enum he h
def iEnumA (K : PySem.W.Frag) (ta : TA) : TI := fun σ H R => ta σ H fun vs H1 => ∃ a xs, vs = [.ref a] ∧ ((SqL K H1 a xs ∧ R (Ite K a) H1) ∨ (SqT K H1 a xs ∧ R (IteT K a) H1))
theorem pi_enumA {X : Cx} {e : Expr} {ta : TA} {p pos tpos : Pos} {elts : List Expr} {kk : Nat} (hg : Gl X "enumerate") (hm : X.mg "enumerate" = none) (ha : PA X [e] ta) (hs : starEach [e] X.env = [(false, eval e X.env)] := by rfl) :
    PI X (.Tuple elts kk tpos) (.Call (.Name "enumerate" p) [e] [] pos) (iEnumA X.K ta) := by
  refine ⟨fun pins s σ H R I h => ?_⟩
  refine Call_ (ld_blt I hg hm boot_enumerate (PyProof.Rows.callWith_type1 (thn (ha.run pos pins s σ H _ I h) fun us s1 ⟨vs, H1, I1, r1, q1⟩ => ?_) hs rfl))
  obtain ⟨a, xs, ex, q1⟩ := q1
  subst ex
  cases r1 with
  | cons r rr =>
    cases rr
    cases r
    have fp : ∀ b ∈ [s1.heap.objs.size + 1, s1.heap.objs.size], FpOk X pins H1 b := fun b hb => by
      have e' : b = s1.heap.objs.size + 1 ∨ b = s1.heap.objs.size := by simpa using hb
      have hle : s1.heap.objs.size ≤ b := by
        rcases e' with z | z
        · rw [z]; exact Nat.le_add_right _ _
        · rw [z]; exact Nat.le_refl _
      exact I1.fpOk hle (I1.hok.fresh hle)
    rcases q1 with ⟨hq, q⟩ | ⟨hq, q⟩
    · obtain ⟨its, rv, p', hz⟩ := I1.list hq
      refine call_enumerate_list p'.isList fun h' he hit hsz hk => wpAny_pyIter_enum he ?_
      have I2 : Inv X pins σ H1 { s1 with heap := h' } := I1.kept (t' := s1.toks) hk
      exact ⟨s1.heap.objs.size + 1, [s1.heap.objs.size + 1, s1.heap.objs.size], _, _, H1, rfl, I2, turn_enum a (s1.heap.objs.size + 1) s1.heap.objs.size, ⟨⟨.none, he⟩, hit, Nat.succ_ne_self _⟩, fp, q⟩
    · obtain ⟨its, rv, p', hz⟩ := I1.tuple hq
      have hal : a < s1.heap.objs.size := p'.lt
      refine call_enumerate_tuple (show s1.heap.IsTuple a its.toArray from p') fun h' he hit hsz hk => wpAny_pyIter_enum he ?_
      have I2 : Inv X pins σ H1 { s1 with heap := h' } := I1.kept (t' := s1.toks) hk
      exact ⟨s1.heap.objs.size + 1, [s1.heap.objs.size + 1, s1.heap.objs.size], _, _, H1, rfl, I2, turn_enumT a (s1.heap.objs.size + 1) s1.heap.objs.size (Nat.ne_of_lt hal), ⟨⟨.none, he⟩, hit, Nat.succ_ne_self _, Nat.ne_of_gt (Nat.lt_succ_of_lt hal)⟩, fp, q⟩
end Ev

set_option Elab.async false
set_option linter.all false
set_option maxRecDepth 100000
set_option maxHeartbeats 4000000
/-! Iterators, targets, comprehensions, statements. -/
namespace Ev
open PySem PySem.Spec PyProof.Rows L2

/-! ### iterators -/
inductive Itr where
  | lst (n : Nat) | fix (ws : List W) | rng (lo : Int) (n : Nat) | rngc (lo c : Int) (n : Nat) | enl (n : Nat) | enf (ws : List W) | zll (n m : Nat) | zff (ws us : List W)
def at? : List W → Nat → Option W
  | [], _ => none
  | x :: _, 0 => some x
  | _ :: r, n + 1 => at? r n
theorem at?_eq : ∀ (l : List W) (n : Nat), at? l n = l[n]?
  | [], _ => by simp [at?]
  | x :: _, 0 => rfl
  | _ :: r, n + 1 => by show at? r n = _; rw [at?_eq r n]; simp
def itemI : Itr → Nat → G → Option W
  | .lst n, i, g => match g[n]? with
    | some xs => at? xs i
    | none => none
  | .fix ws, i, _ => at? ws i
  | .rng lo n, i, _ => if Nat.blt i n = true then some (.int (lo + (i : Nat))) else none
  | .rngc lo c n, i, _ => if Nat.blt i n = true then some (.int (lo + (i : Nat) * c)) else none
  | .enl n, i, g => match g[n]? with
    | some xs => (at? xs i).map fun x => .tup [.int (i : Nat), x]
    | none => none
  | .enf ws, i, _ => (at? ws i).map fun x => .tup [.int (i : Nat), x]
  | .zll n m, i, g => match g[n]?, g[m]? with
    | some xs, some ys => match at? xs i, at? ys i with
      | some x, some y => some (.tup [x, y])
      | _, _ => none
    | _, _ => none
  | .zff xs ys, i, _ => match at? xs i, at? ys i with
      | some x, some y => some (.tup [x, y])
      | _, _ => none
def cntI : Itr → G → Nat
  | .lst n, g => match g[n]? with
    | some xs => xs.length
    | none => 0
  | .fix ws, _ => ws.length
  | .rng _ n, _ => n
  | .rngc _ _ n, _ => n
  | .enl n, g => match g[n]? with
    | some xs => xs.length
    | none => 0
  | .enf ws, _ => ws.length
  | .zll n m, g => match g[n]?, g[m]? with
    | some xs, some ys => min xs.length ys.length
    | _, _ => 0
  | .zff xs ys, _ => min xs.length ys.length
def stopI : Itr → Nat → G → Bool
  | .lst n, i, g => match g[n]? with
    | some xs => Nat.ble xs.length i
    | none => false
  | .fix ws, i, _ => Nat.ble ws.length i
  | .rng _ n, i, _ => Nat.ble n i
  | .rngc _ _ n, i, _ => Nat.ble n i
  | .enl n, i, g => match g[n]? with
    | some xs => Nat.ble xs.length i
    | none => false
  | .enf ws, i, _ => Nat.ble ws.length i
  | .zll n m, i, g => match g[n]?, g[m]? with
    | some xs, some ys => Nat.ble xs.length i || Nat.ble ys.length i
    | _, _ => false
  | .zff xs ys, i, _ => Nat.ble xs.length i || Nat.ble ys.length i
structure RelI (K : PySem.W.Frag) (ι : List Addr) (H : Hp) (J : It) (it : Itr) : Prop where
  go : ∀ ι' H' g' i w, Fut ι H ι' H' → RG K ι' g' H' → itemI it i g' = some w → J.go i H' ∧ ∀ x H'', J.yld i H' x H'' → Fut ι' H' ι' H'' ∧ RG K ι' g' H'' ∧ RelW K ι' H'' x w
  stop : ∀ ι' H' g' i, Fut ι H ι' H' → RG K ι' g' H' → stopI it i g' = true → J.stop i H'
abbrev CI := Orc → Sg → G → R Itr
def rdI (K : PySem.W.Frag) (o : Orc) (c : CI) : TI := fun σ H Rr => ∃ ι g s it g', RelS K ι H s σ ∧ RG K ι g H ∧ c o s g = .ok it g' ∧ ∀ ι' H' J, Fut ι H ι' H' → RG K ι' g' H' → RelI K ι' H' J it → Rr J H'
theorem _root_.L2.PI.evi {X : Cx} {tg e : Expr} {t t' : TI} (h : PI X tg e t) (i : ∀ σ H Q, t' σ H Q → t σ H Q) : PI X tg e t' := ⟨fun pins s σ H Q I hw => h.run pins s σ H Q I (i _ _ _ hw)⟩
theorem PI.or {X : Cx} {tg e : Expr} {t t' : TI} (h : PI X tg e t) (h' : PI X tg e t') : PI X tg e (fun σ H Q => t σ H Q ∨ t' σ H Q) := ⟨fun pins s σ H Q I hw => hw.elim (h.run pins s σ H Q I) (h'.run pins s σ H Q I)⟩
section
variable {K : PySem.W.Frag} {ι : List Addr} {H : Hp}
theorem relI_lst {n : Nat} {a : Addr} (h : ι[n]? = some a) : RelI K ι H (Itl K a) (.lst n) where
  go := fun ι' H' g' i w f rg e => by
    obtain ⟨ws, vs, q1, q2, q3⟩ := rg.get (pre_get f.pre h)
    simp only [itemI, q1] at e
    have e : at? ws i = some w := e
    rw [at?_eq] at e
    obtain ⟨v, h1, h2⟩ := q3.get e
    refine ⟨⟨vs, v, .of q2, h1⟩, fun x H'' y => ?_⟩
    obtain ⟨rfl, y⟩ := y
    have := y vs (.of q2)
    rw [h1] at this
    cases this
    exact ⟨.refl _ _, rg, h2⟩
  stop := fun ι' H' g' i f rg e => by
    obtain ⟨ws, vs, q1, q2, q3⟩ := rg.get (pre_get f.pre h)
    simp only [stopI, q1] at e
    exact ⟨vs, .of q2, by rw [q3.length]; exact Nat.le_of_ble_eq_true e⟩
theorem relI_fix {a : Addr} {vs : List V} {ws : List W} (h : SqT K H a vs) (r : RelWs K ι H vs ws) : RelI K ι H (Itt K a) (.fix ws) where
  go := fun ι' H' g' i w f rg e => by
    have e : at? ws i = some w := e
    rw [at?_eq] at e
    obtain ⟨v, h1, h2⟩ := (r.mono f).get e
    refine ⟨⟨vs, v, f.ext.sqT h, h1⟩, fun x H'' y => ?_⟩
    obtain ⟨rfl, y⟩ := y
    have := y vs (f.ext.sqT h)
    rw [h1] at this
    cases this
    exact ⟨.refl _ _, rg, h2⟩
  stop := fun ι' H' g' i f rg e => ⟨vs, f.ext.sqT h, by rw [r.length]; exact Nat.le_of_ble_eq_true e⟩
theorem relI_rng {lo : Int} {n : Nat} : RelI K ι H (L2.Itr lo n) (.rng lo n) where
  go := fun ι' H' g' i w f rg e => by
    simp only [itemI] at e
    split at e
    · rename_i hl
      cases e
      refine ⟨Nat.le_of_ble_eq_true hl, fun x H'' y => ?_⟩
      obtain ⟨rfl, rfl⟩ := y
      exact ⟨.refl _ _, rg, .int _⟩
    · cases e
  stop := fun ι' H' g' i f rg e => Nat.le_of_ble_eq_true e
theorem relI_rngc {lo c : Int} {n : Nat} : RelI K ι H (Itc lo c n) (.rngc lo c n) where
  go := fun ι' H' g' i w f rg e => by
    simp only [itemI] at e
    split at e
    · rename_i hl
      cases e
      refine ⟨Nat.le_of_ble_eq_true hl, fun x H'' y => ?_⟩
      obtain ⟨rfl, rfl⟩ := y
      exact ⟨.refl _ _, rg, .int _⟩
    · cases e
  stop := fun ι' H' g' i f rg e => Nat.le_of_ble_eq_true e
theorem relI_enl {n : Nat} {a : Addr} (h : ι[n]? = some a) : RelI K ι H (Ite K a) (.enl n) where
  go := fun ι' H' g' i w f rg e => by
    obtain ⟨ws, vs, q1, q2, q3⟩ := rg.get (pre_get f.pre h)
    simp only [itemI, q1] at e
    have e : (at? ws i).map (fun x => W.tup [.int (i : Nat), x]) = some w := e
    cases q : at? ws i with
    | none => rw [q] at e; cases e
    | some z =>
      rw [q] at e
      cases e
      rw [at?_eq] at q
      obtain ⟨v, h1, h2⟩ := q3.get q
      refine ⟨⟨vs, v, .of q2, h1⟩, fun x H'' y => ?_⟩
      obtain ⟨T, x', rfl, hT, rfl, y⟩ := y
      have := y vs (.of q2)
      rw [h1] at this
      cases this
      obtain ⟨r1, r2, r3⟩ := rg.tup hT (.cons (.int (i : Nat)) (.cons h2 .nil))
      exact ⟨r2, r1, r3⟩
  stop := fun ι' H' g' i f rg e => by
    obtain ⟨ws, vs, q1, q2, q3⟩ := rg.get (pre_get f.pre h)
    simp only [stopI, q1] at e
    exact ⟨vs, .of q2, by rw [q3.length]; exact Nat.le_of_ble_eq_true e⟩
theorem relI_enf {a : Addr} {vs : List V} {ws : List W} (h : SqT K H a vs) (r : RelWs K ι H vs ws) : RelI K ι H (IteT K a) (.enf ws) where
  go := fun ι' H' g' i w f rg e => by
    have e : (at? ws i).map (fun x => W.tup [.int (i : Nat), x]) = some w := e
    cases q : at? ws i with
    | none => rw [q] at e; cases e
    | some z =>
      rw [q] at e
      cases e
      rw [at?_eq] at q
      obtain ⟨v, h1, h2⟩ := (r.mono f).get q
      refine ⟨⟨vs, v, f.ext.sqT h, h1⟩, fun x H'' y => ?_⟩
      obtain ⟨T, x', rfl, hT, rfl, y⟩ := y
      have := y vs (f.ext.sqT h)
      rw [h1] at this
      cases this
      obtain ⟨r1, r2, r3⟩ := rg.tup hT (.cons (.int (i : Nat)) (.cons h2 .nil))
      exact ⟨r2, r1, r3⟩
  stop := fun ι' H' g' i f rg e => ⟨vs, f.ext.sqT h, by rw [r.length]; exact Nat.le_of_ble_eq_true e⟩
theorem relI_zll {n m : Nat} {a b : Addr} (h : ι[n]? = some a) (h' : ι[m]? = some b) : RelI K ι H (Itz K a b) (.zll n m) where
  go := fun ι' H' g' i w f rg e => by
    obtain ⟨ws, vs, q1, q2, q3⟩ := rg.get (pre_get f.pre h)
    obtain ⟨ws', vs', p1, p2, p3⟩ := rg.get (pre_get f.pre h')
    simp only [itemI, q1, p1] at e
    split at e
    · rename_i x y hx hy
      cases e
      rw [at?_eq] at hx hy
      obtain ⟨v, h1, h2⟩ := q3.get hx
      obtain ⟨v', h1', h2'⟩ := p3.get hy
      refine ⟨⟨vs, vs', v, v', .of q2, .of p2, h1, h1'⟩, fun x H'' y => ?_⟩
      obtain ⟨T, x', y', rfl, hT, rfl, y1, y2⟩ := y
      have := y1 vs (.of q2)
      rw [h1] at this
      cases this
      have := y2 vs' (.of p2)
      rw [h1'] at this
      cases this
      obtain ⟨r1, r2, r3⟩ := rg.tup hT (.cons h2 (.cons h2' .nil))
      exact ⟨r2, r1, r3⟩
    · cases e
  stop := fun ι' H' g' i f rg e => by
    obtain ⟨ws, vs, q1, q2, q3⟩ := rg.get (pre_get f.pre h)
    obtain ⟨ws', vs', p1, p2, p3⟩ := rg.get (pre_get f.pre h')
    simp only [stopI, q1, p1, Bool.or_eq_true] at e
    refine ⟨vs, vs', .of q2, .of p2, ?_⟩
    rw [q3.length, p3.length]
    exact e.imp Nat.le_of_ble_eq_true Nat.le_of_ble_eq_true
theorem relI_zff {a b : Addr} {vs vs' : List V} {ws ws' : List W} (h : SqT K H a vs) (r : RelWs K ι H vs ws) (h' : SqT K H b vs') (r' : RelWs K ι H vs' ws') : RelI K ι H (RZ.ItzT K a b) (.zff ws ws') where
  go := fun ι' H' g' i w f rg e => by
    simp only [itemI] at e
    split at e
    · rename_i x y hx hy
      cases e
      rw [at?_eq] at hx hy
      obtain ⟨v, h1, h2⟩ := (r.mono f).get hx
      obtain ⟨v', h1', h2'⟩ := (r'.mono f).get hy
      refine ⟨⟨vs, vs', v, v', f.ext.sqT h, f.ext.sqT h', h1, h1'⟩, fun x H'' y => ?_⟩
      obtain ⟨T, x', y', rfl, hT, rfl, y1, y2⟩ := y
      have := y1 vs (f.ext.sqT h)
      rw [h1] at this
      cases this
      have := y2 vs' (f.ext.sqT h')
      rw [h1'] at this
      cases this
      obtain ⟨r1, r2, r3⟩ := rg.tup hT (.cons h2 (.cons h2' .nil))
      exact ⟨r2, r1, r3⟩
    · cases e
  stop := fun ι' H' g' i f rg e => by
    simp only [stopI, Bool.or_eq_true] at e
    refine ⟨vs, vs', f.ext.sqT h, f.ext.sqT h', ?_⟩
    rw [r.length, r'.length]
    exact e.imp Nat.le_of_ble_eq_true Nat.le_of_ble_eq_true
end
def iSeq (a : CE) : CI := fun o s g => (a o s g).bind fun x g1 => match x with
  | .ref n => .ok (.lst n) g1
  | .tup ws => .ok (.fix ws) g1
  | _ => .no
def smallI (i : Int) : Bool := decide (-1000000000 ≤ i) && decide (i ≤ 1000000000)
def iRg1 (a : CA) : CI := fun o s g => (a o s g).bind fun xs g1 => match xs with
  | [.int i] => if smallI i = true then .ok (.rng 0 i.toNat) g1 else .no
  | _ => .no
def iRg2 (a : CA) : CI := fun o s g => (a o s g).bind fun xs g1 => match xs with
  | [.int i, .int j] => if (smallI i && smallI j) = true then .ok (.rng i (j - i).toNat) g1 else .no
  | _ => .no
def iRgD (a : CA) : CI := fun o s g => (a o s g).bind fun xs g1 => match xs with
  | [.int i, .int j, .int k] => if (smallI i && smallI j && decide (k = -1)) = true then .ok (.rngc i (-1) (i - j).toNat) g1 else .no
  | _ => .no
def iEn (a : CA) : CI := fun o s g => (a o s g).bind fun xs g1 => match xs with
  | [.ref n] => .ok (.enl n) g1
  | [.tup ws] => .ok (.enf ws) g1
  | _ => .no
def iZp (a : CA) : CI := fun o s g => (a o s g).bind fun xs g1 => match xs with
  | [.ref n, .ref m] => .ok (.zll n m) g1
  | [.tup ws, .tup us] => .ok (.zff ws us) g1
  | _ => .no
theorem smallI_of {i : Int} (h : smallI i = true) : -(2 ^ 62) ≤ i ∧ i < 2 ^ 62 := by
  unfold smallI at h
  simp only [Bool.and_eq_true, decide_eq_true_eq] at h
  omega
section
variable {X : Cx} {tg : Expr} {o : Orc} {a b c e : Expr} {ca cb cc : CE} {cs : CA} {pos p : Pos}
theorem iv_seq (h : PE X e (rdE X.K o ca)) : PI X tg e (rdI X.K o (iSeq ca)) := ((PI.or (pi_list h) (pi_tup h))).evi fun σ H Q ⟨ι, g, s, it, g', rs, rg, e, k⟩ => by
  obtain ⟨x, g1, h1, e⟩ := R.bind_ok e
  cases x with
  | ref n =>
    cases e
    refine .inl ⟨ι, g, s, _, g', rs, rg, h1, fun ι1 H1 v f1 rg1 rv => ?_⟩
    cases rv with
    | ref k1 =>
      obtain ⟨ws, vs, q1, q2, q3⟩ := rg1.get k1
      exact ⟨_, rfl, ⟨vs, .of q2⟩, k ι1 H1 _ f1 rg1 (relI_lst k1)⟩
  | tup ws =>
    cases e
    refine .inr ⟨ι, g, s, _, g', rs, rg, h1, fun ι1 H1 v f1 rg1 rv => ?_⟩
    cases rv with
    | tup k1 k2 => exact ⟨_, rfl, ⟨_, k1⟩, k ι1 H1 _ f1 rg1 (relI_fix k1 k2)⟩
  | _ => cases e
theorem iv_rg1 (B : X.mg "range" = none) (ha : PA X [a] (rdA X.K o cs)) (hg : Gl X "range" := by rfl) (hs : starEach [a] X.env = [(false, eval a X.env)] := by rfl) : PI X tg (.Call (.Name "range" p) [a] [] pos) (rdI X.K o (iRg1 cs)) :=
  (pi_range1 hg B ha hs).evi fun σ H Q ⟨ι, g, s, it, g', rs, rg, e, k⟩ => by
    obtain ⟨xs, g1, h1, e⟩ := R.bind_ok e
    split at e
    · split at e
      · rename_i hc
        cases e
        refine ⟨ι, g, s, _, _, rs, rg, h1, fun ι1 H1 vs f1 rg1 rvs => ?_⟩
        cases rvs with
        | cons r t =>
          cases t
          cases r
          exact ⟨_, rfl, (smallI_of hc).1, (smallI_of hc).2, k ι1 H1 _ f1 rg1 relI_rng⟩
      · cases e
    · cases e
theorem iv_rg2 (B : X.mg "range" = none) (ha : PA X [a, b] (rdA X.K o cs)) (hg : Gl X "range" := by rfl) (hs : starEach [a, b] X.env = [(false, eval a X.env), (false, eval b X.env)] := by rfl) (hs2 : starEach [b] X.env = [(false, eval b X.env)] := by rfl) :
    PI X tg (.Call (.Name "range" p) [a, b] [] pos) (rdI X.K o (iRg2 cs)) :=
  (pi_range2 hg B ha hs hs2).evi fun σ H Q ⟨ι, g, s, it, g', rs, rg, e, k⟩ => by
    obtain ⟨xs, g1, h1, e⟩ := R.bind_ok e
    split at e
    · split at e
      · rename_i hc
        rw [Bool.and_eq_true] at hc
        cases e
        refine ⟨ι, g, s, _, _, rs, rg, h1, fun ι1 H1 vs f1 rg1 rvs => ?_⟩
        cases rvs with
        | cons r t =>
          cases r
          cases t with
          | cons r t =>
            cases r
            cases t
            exact ⟨_, _, rfl, ⟨(smallI_of hc.1).1, (smallI_of hc.1).2, (smallI_of hc.2).1, (smallI_of hc.2).2⟩, k ι1 H1 _ f1 rg1 relI_rng⟩
      · cases e
    · cases e
theorem iv_rgD (B : X.mg "range" = none) (ha : PA X [a, b, c] (rdA X.K o cs)) (hg : Gl X "range" := by rfl) (hs : starEach [a, b, c] X.env = (false, eval a X.env) :: starEach [b, c] X.env := by rfl) (hpl : (backTo pos (starEach [b, c] X.env)).any (·.1) = false := by rfl) :
    PI X tg (.Call (.Name "range" p) [a, b, c] [] pos) (rdI X.K o (iRgD cs)) :=
  (pi_range3 hg B ha hs hpl).evi fun σ H Q ⟨ι, g, s, it, g', rs, rg, e, k⟩ => by
    obtain ⟨xs, g1, h1, e⟩ := R.bind_ok e
    split at e
    · split at e
      · rename_i hc
        simp only [Bool.and_eq_true, decide_eq_true_eq] at hc
        obtain ⟨⟨hc1, hc2⟩, rfl⟩ := hc
        cases e
        refine ⟨ι, g, s, _, _, rs, rg, h1, fun ι1 H1 vs f1 rg1 rvs => ?_⟩
        cases rvs with
        | cons r t =>
          cases r
          cases t with
          | cons r t =>
            cases r
            cases t with
            | cons r t =>
              cases r
              cases t
              exact ⟨_, _, _, _, rfl, RgC.neg (smallI_of hc1).1 (smallI_of hc1).2 (smallI_of hc2).1 (smallI_of hc2).2, k ι1 H1 _ f1 rg1 relI_rngc⟩
      · cases e
    · cases e
theorem iv_en {elts : List Expr} {kk : Nat} {tpos : Pos} (B : X.mg "enumerate" = none) (ha : PA X [a] (rdA X.K o cs)) (hg : Gl X "enumerate" := by rfl) (hs : starEach [a] X.env = [(false, eval a X.env)] := by rfl) : PI X (.Tuple elts kk tpos) (.Call (.Name "enumerate" p) [a] [] pos) (rdI X.K o (iEn cs)) :=
  (pi_enumA hg B ha hs).evi fun σ H Q ⟨ι, g, s, it, g', rs, rg, e, k⟩ => by
    obtain ⟨xs, g1, h1, e⟩ := R.bind_ok e
    refine ⟨ι, g, s, xs, g1, rs, rg, h1, fun ι1 H1 vs f1 rg1 rvs => ?_⟩
    split at e
    · cases e
      cases rvs with
      | cons r t =>
        cases t
        cases r with
        | ref k1 =>
          obtain ⟨ws, us, q1, q2, q3⟩ := rg1.get k1
          exact ⟨_, us, rfl, .inl ⟨.of q2, k ι1 H1 _ f1 rg1 (relI_enl k1)⟩⟩
    · cases e
      cases rvs with
      | cons r t =>
        cases t
        cases r with
        | tup k1 k2 => exact ⟨_, _, rfl, .inr ⟨k1, k ι1 H1 _ f1 rg1 (relI_enf k1 k2)⟩⟩
    · cases e
theorem iv_zip {elts : List Expr} {kk : Nat} {tpos : Pos} (B : X.mg "zip" = none) (ha : PA X [a, b] (rdA X.K o cs)) (hg : Gl X "zip" := by rfl) (hs : starEach [a, b] X.env = (false, eval a X.env) :: starEach [b] X.env := by rfl) (hpl : (backTo pos (starEach [b] X.env)).any (·.1) = false := by rfl) :
    PI X (.Tuple elts kk tpos) (.Call (.Name "zip" p) [a, b] [] pos) (rdI X.K o (iZp cs)) :=
  (RZ.pi_zipA hg B ha hs hpl).evi fun σ H Q ⟨ι, g, s, it, g', rs, rg, e, k⟩ => by
    obtain ⟨xs, g1, h1, e⟩ := R.bind_ok e
    refine ⟨ι, g, s, xs, g1, rs, rg, h1, fun ι1 H1 vs f1 rg1 rvs => ?_⟩
    split at e
    · cases e
      cases rvs with
      | cons r t =>
        cases t with
        | cons r' t =>
          cases t
          cases r with
          | ref k1 =>
            cases r' with
            | ref k2 =>
              obtain ⟨ws, us, q1, q2, q3⟩ := rg1.get k1
              obtain ⟨ws', us', p1, p2, p3⟩ := rg1.get k2
              exact ⟨_, _, us, us', rfl, .inl ⟨.of q2, .of p2, k ι1 H1 _ f1 rg1 (relI_zll k1 k2)⟩⟩
    · cases e
      cases rvs with
      | cons r t =>
        cases t with
        | cons r' t =>
          cases t
          cases r with
          | tup k1 k2 =>
            cases r' with
            | tup l1 l2 => exact ⟨_, _, _, _, rfl, .inr ⟨k1, l1, k ι1 H1 _ f1 rg1 (relI_zff k1 k2 l1 l2)⟩⟩
    · cases e
end
/-! ### targets -/
abbrev TGT := W → Sg → Option Sg
def tName (i : Nat) : TGT := fun w s => some (stw s i w)
def stws : Sg → List Nat → List W → Sg
  | s, i :: is, w :: ws => stws (stw s i w) is ws
  | s, _, _ => s
def tTups (is : List Nat) : TGT := fun w s => match w with
  | .tup ws => if (ws.length == is.length) = true then some (stws s is ws) else none
  | _ => none
theorem wipe_set (σ : L2.St) (i : Nat) (x : Option V) : ∀ vs : List Nat, i ∈ vs → wipe (σ.set i x) vs = wipe σ vs
  | [], h => by cases h
  | v :: vs, h => by
    unfold wipe
    by_cases hi : i ∈ vs
    · rw [wipe_set σ i x vs hi]
    · rcases List.mem_cons.mp h with rfl | h
      · have aux : ∀ us : List Nat, i ∉ us → wipe (σ.set i x) us = (wipe σ us).set i x := fun us => by
          induction us with
          | nil => intro _; rfl
          | cons u us ih =>
            intro hu
            rw [List.mem_cons, not_or] at hu
            unfold wipe
            rw [ih hu.2, List.set_comm _ _ hu.1]
        rw [aux vs hi, List.set_set]
      · exact absurd h hi
theorem wipe_idem (σ : L2.St) (vs : List Nat) : wipe (wipe σ vs) vs = wipe σ vs := by
  have aux : ∀ us : List Nat, (∀ u ∈ us, u ∈ vs) → wipe (wipe σ us) vs = wipe σ vs := fun us => by
    induction us with
    | nil => intro _; rfl
    | cons u us ih =>
      intro h
      show wipe ((wipe σ us).set u none) vs = _
      rw [wipe_set _ _ _ _ (h u List.mem_cons_self)]
      exact ih fun z hz => h z (List.mem_cons_of_mem _ hz)
  exact aux vs fun _ h => h
def stn : Sg → Nat → Sg
  | [], _ => []
  | _ :: r, 0 => none :: r
  | x :: r, n + 1 => x :: stn r n
def wipew (s : Sg) : List Nat → Sg
  | [] => s
  | v :: vs => stn (wipew s vs) v
section
variable {K : PySem.W.Frag} {ι : List Addr} {H : Hp}
theorem RelS.setN : ∀ {s : Sg} {σ : L2.St} (i : Nat), RelS K ι H s σ → RelS K ι H (stn s i) (σ.set i Option.none)
  | _, _, _, .nil => .nil
  | _, _, 0, .some _ t => .none t
  | _, _, i + 1, .some q t => .some q (RelS.setN i t)
  | _, _, 0, .none t => .none t
  | _, _, i + 1, .none t => .none (RelS.setN i t)
theorem RelS.wipe {s : Sg} {σ : L2.St} (h : RelS K ι H s σ) : ∀ vs : List Nat, RelS K ι H (wipew s vs) (L2.wipe σ vs)
  | [] => h
  | v :: vs => RelS.setN v (RelS.wipe h vs)
end
def rdG (K : PySem.W.Frag) (t : TGT) (sl : List Nat) : TG := fun v σ H Q => ∃ ι g s w s', RelS K ι H s σ ∧ RG K ι g H ∧ RelW K ι H v w ∧ t w s = some s' ∧ ∀ σ', RelS K ι H s' σ' → (∀ vs, (∀ i ∈ sl, i ∈ vs) → wipe σ' vs = wipe σ vs) → Q σ' H
def rdGs (K : PySem.W.Frag) (is : List Nat) : TGs := fun vs σ H Q => ∃ ι g s ws, RelS K ι H s σ ∧ RG K ι g H ∧ RelWs K ι H vs ws ∧ ws.length = is.length ∧ ∀ σ', RelS K ι H (stws s is ws) σ' → (∀ vs, (∀ i ∈ is, i ∈ vs) → wipe σ' vs = wipe σ vs) → Q σ' H
theorem _root_.L2.PG.evi {X : Cx} {e : Expr} {t t' : TG} (h : PG X e t) (i : ∀ v σ H Q, t' v σ H Q → t v σ H Q) : PG X e t' := ⟨fun pins s σ H v u Q I r hw => h.run pins s σ H v u Q I r (i _ _ _ _ hw)⟩
theorem _root_.L2.PGs.evi {X : Cx} {e : List Expr} {t t' : TGs} (h : PGs X e t) (i : ∀ v σ H Q, t' v σ H Q → t v σ H Q) : PGs X e t' := ⟨fun pins s σ H v u Q I r hw => h.run pins s σ H v u Q I r (i _ _ _ _ hw)⟩
section
variable {X : Cx} {pos : Pos}
theorem gv_name (i : Nat) {x : Str} (hN : X.N.Nodup) (hi : X.N[i]? = some x := by rfl) (hx : Loc X.env.scope x := by first | exact Or.inl rfl | exact Or.inr rfl) (hf : X.fn x = true ∨ X.env.scope.names.lookup x = some .local := by first | exact .inl rfl | exact .inr rfl | assumption) : PG X (.Name x pos) (rdG X.K (tName i) [i]) :=
  (pg_name hN hi hx hf).evi fun v σ H Q ⟨ι, g, s, w, s', rs, rg, rv, e, k⟩ => by
    cases e
    exact k _ (rs.set rv i) fun vs hvs => wipe_set σ i _ vs (hvs i (by simp))
theorem gvs_nil : PGs X [] (rdGs X.K []) := pgs_nil.evi fun vs σ H Q ⟨ι, g, s, ws, rs, rg, rvs, hl, k⟩ => by
  have e : ws = [] := List.eq_nil_of_length_eq_zero hl
  subst e
  cases rvs
  exact ⟨rfl, k σ rs fun _ _ => rfl⟩
theorem gvs_name (i : Nat) {is : List Nat} {x : Str} {es : List Expr} (hN : X.N.Nodup) (hr : PGs X es (rdGs X.K is)) (hi : X.N[i]? = some x := by rfl) (hx : Loc X.env.scope x := by first | exact Or.inl rfl | exact Or.inr rfl) (hf : X.fn x = true ∨ X.env.scope.names.lookup x = some .local := by first | exact .inl rfl | exact .inr rfl | assumption)
    (hs : (assignEach (.Name x pos :: es) X.env).map (·.2) = assign (.Name x pos) X.env :: (assignEach es X.env).map (·.2) := by rfl) : PGs X (.Name x pos :: es) (rdGs X.K (i :: is)) :=
  (pgs_cons (pg_name hN hi hx hf) hr hs).evi fun vs σ H Q ⟨ι, g, s, ws, rs, rg, rvs, hl, k⟩ => by
    cases rvs with
    | nil => cases hl
    | cons rv t =>
      refine ⟨_, _, rfl, ι, g, stw s i _, _, rs.set rv i, rg, t, Nat.succ.inj hl, fun σ' rs' hw => k σ' rs' fun vs hvs => ?_⟩
      rw [hw vs fun j hj => hvs j (List.mem_cons_of_mem _ hj)]
      exact wipe_set σ i _ vs (hvs i List.mem_cons_self)
theorem gv_tup {es : List Expr} {k : Nat} {is : List Nat} (hc : X.calm = true) (h : PGs X es (rdGs X.K is)) (hl : es.length = is.length := by rfl)
    (hn : (assignEach es X.env).length = is.length := by rfl) (hst : (assignEach es X.env).findIdx? (·.1) = none := by rfl) : PG X (.Tuple es k pos) (rdG X.K (tTups is) is) :=
  (pg_tup hc h hn hst).evi fun v σ H Q ⟨ι, g, s, w, s', rs, rg, rv, e, k⟩ => by
    cases rv with
    | tup k1 k2 =>
      unfold tTups at e
      simp only at e
      split at e
      · rename_i hz
        cases e
        have hz' := eq_of_beq hz
        exact ⟨_, _, rfl, k1, by rw [k2.length]; exact hz', ι, g, s, _, rs, rg, k2, hz', k⟩
      · cases e
    | _ => cases e
end
/-! ### comprehensions -/
def lcLoop (it : Itr) (t : TGT) (vs : List Nat) (test elt : CE) (o : Orc) (s : Sg) (D : Nat) : Nat → Nat → G → R W
  | 0, i, g => if stopI it i g = true then .ok (.ref D) g else .no
  | m + 1, i, g => match itemI it i g with
    | none => .no
    | some w => match t w (wipew s vs) with
      | none => .no
      | some s2 => match test o s2 g with
        | .ok (.bl true) g1 => match elt o s2 g1 with
          | .ok y g2 => match g2[D]? with
            | some acc => if szOk (acc.length + 1) = true then lcLoop it t vs test elt o s D m (i + 1) (g2.set D (acc ++ [y])) else .no
            | none => .no
          | .no => .no
        | .ok (.bl false) g1 => lcLoop it t vs test elt o s D m (i + 1) g1
        | _ => .no
def eLc (ci : CI) (t : TGT) (vs : List Nat) (test elt : CE) : CE := fun o s g => (ci o s g).bind fun it g1 => lcLoop it t vs test elt o s g1.length (cntI it g1) 0 (g1 ++ [[]])
section
variable {X : Cx} {o : Orc}
theorem lc_rd {ci : CI} {t : TGT} {sl vs : List Nat} {test elt : CE} {K : PySem.W.Frag} (hsub : ∀ i ∈ sl, i ∈ vs) {σ : L2.St} {H : Hp} {Q : VK} (h : rdE K o (eLc ci t vs test elt) σ H Q) : tLc (rdI K o ci) (rdG K t sl) (rdT K o test) (rdE K o elt) vs σ H Q := by
  obtain ⟨ι, g, s, w, gf, rs, rg, e, gd⟩ := h
  obtain ⟨it, g1, h1, e⟩ := R.bind_ok e
  refine ⟨ι, g, s, it, g1, rs, rg, h1, fun ι1 H1 J f1 rg1 rj => ?_⟩
  intro d hd
  obtain ⟨rg2, f2, rd2⟩ := rg1.new hd (RelWs.nil (K := K) (ι := ι1) (H := H1))
  have hD : (ι1 ++ [d])[g1.length]? = some d := by
    cases rd2 with
    | ref q => exact q
  refine ⟨fun i m H' => ∃ ι' g', Fut (ι1 ++ [d]) (upd H1 d (.lst [])) ι' H' ∧ RG K ι' g' H' ∧ lcLoop it t vs test elt o s g1.length m i g' = .ok w gf, ⟨cntI it g1, _, _, .refl _ _, rg2, e⟩, ?_⟩
  rintro i m H' ⟨ι', g', f3, rg3, e3⟩
  have f13 : Fut ι1 H1 ι' H' := f2.trans f3
  have f03 : Fut ι H ι' H' := f1.trans f13
  cases m with
  | zero =>
    unfold lcLoop at e3
    split at e3
    · rename_i hs
      cases e3
      exact .inl ⟨rj.stop ι' H' _ i f13 rg3 hs, gd _ _ _ f03 rg3 (.ref (pre_get f3.pre hD))⟩
    · cases e3
  | succ m =>
    unfold lcLoop at e3
    split at e3
    · cases e3
    · rename_i wv hi
      split at e3
      · cases e3
      · rename_i s2 ht
        obtain ⟨j1, j2⟩ := rj.go ι' H' g' i wv f13 rg3 hi
        split at e3
        · rename_i ga hte
          split at e3
          · rename_i y gb hel
            split at e3
            · rename_i acc hac
              split at e3
              · rename_i hz
                refine .inr ⟨j1, fun H5 => ∃ ι5 g5, Fut (ι1 ++ [d]) (upd H1 d (.lst [])) ι5 H5 ∧ RG K ι5 g5 H5 ∧ lcLoop it t vs test elt o s g1.length m (i + 1) g5 = .ok w gf, fun H5 q => ⟨m, Nat.lt_succ_self m, q⟩, fun x H4 hy => ?_⟩
                obtain ⟨f4, rg4, rx⟩ := j2 x H4 hy
                refine ⟨ι', g', wipew s vs, wv, s2, (rs.mono (f03.trans f4)).wipe vs, rg4, rx, ht, fun σ' rs' hw => ⟨by rw [hw vs hsub, wipe_idem], ι', g', s2, true, ga, rs', rg4, hte, fun ι6 H6 f6 rg6 => iteT ⟨ι6, ga, s2, y, gb, rs'.mono f6, rg6, hel, fun ι7 H7 v f7 rg7 rv => ?_⟩⟩⟩
                have hD7 := pre_get (((f3.trans f4).trans f6).trans f7).pre hD
                obtain ⟨ws, us, q1, q2, q3⟩ := rg7.get hD7
                rw [q1] at hac
                cases hac
                obtain ⟨r8, f8⟩ := rg7.set hD7 q2 (q3.append (.cons rv .nil))
                refine ⟨us, q2, ?_, ι7, _, (((f3.trans f4).trans f6).trans f7).trans f8, r8, e3⟩
                have := szOk_le hz
                rw [q3.length]
                omega
              · cases e3
            · cases e3
          · cases e3
        · rename_i ga hte
          refine .inr ⟨j1, fun H5 => ∃ ι5 g5, Fut (ι1 ++ [d]) (upd H1 d (.lst [])) ι5 H5 ∧ RG K ι5 g5 H5 ∧ lcLoop it t vs test elt o s g1.length m (i + 1) g5 = .ok w gf, fun H5 q => ⟨m, Nat.lt_succ_self m, q⟩, fun x H4 hy => ?_⟩
          obtain ⟨f4, rg4, rx⟩ := j2 x H4 hy
          exact ⟨ι', g', wipew s vs, wv, s2, (rs.mono (f03.trans f4)).wipe vs, rg4, rx, ht, fun σ' rs' hw => ⟨by rw [hw vs hsub, wipe_idem], ι', g', s2, false, ga, rs', rg4, hte, fun ι6 H6 f6 rg6 => iteF ⟨ι6, ga, (f3.trans f4).trans f6, rg6, e3⟩⟩⟩
        · cases e3
end
end Ev

set_option Elab.async false
set_option linter.all false
set_option maxRecDepth 100000
set_option maxHeartbeats 4000000
/-! Statements, defs. -/
namespace Ev
open PySem PySem.Spec PyProof.Rows L2

section
variable {X : Cx} {o : Orc} {ci : CI} {t : TGT} {sl vs : List Nat} {ct ce : CE} {elt tg iter : Expr} {ifs : List Expr} {scope : Scope} {own : List (Str × Nat)} {pos : Pos}
theorem pts_nilv {K : PySem.W.Frag} : PTs X [] (rdT K o (eC (.bl true))) := ⟨fun pins s σ H Q I ⟨ι, g, sg, b, g', rs, rg, e, k⟩ => by
  cases e
  exact pts_nil.run pins s σ H Q I (k ι H (.refl _ _) rg)⟩
theorem pts_onev {c : Expr} {K : PySem.W.Frag} (h : PT X c (rdT K o ct)) : PTs X [c] (rdT K o ct) := pts_one h
theorem ev_lc (hc : X.calm = true) (hN : X.N.Nodup) (hi : PI X tg iter (rdI X.K o ci)) (ok : BlkOk X.N X.env.scope scope own)
    (hg : ∀ (s : Shared) (H : Hp) (C : Addr) (cl : List (Str × Addr)) (fp : List Addr), PG (X.blk s H scope (compEnvC scope cl C X.env) fp) tg (rdG X.K t sl)) (ht : ∀ (s : Shared) (H : Hp) (C : Addr) (cl : List (Str × Addr)) (fp : List Addr), PTs (X.blk s H scope (compEnvC scope cl C X.env) fp) ifs (rdT X.K o ct))
    (he : ∀ (s : Shared) (H : Hp) (C : Addr) (cl : List (Str × Addr)) (fp : List Addr), PE (X.blk s H scope (compEnvC scope cl C X.env) fp) elt (rdE X.K o ce)) (hvs : own.map (·.2) = vs := by rfl) (hsub : ∀ i ∈ sl, i ∈ vs := by decide) (hs : ∀ x, foldedSetIterable iter X.env x = pure x := by intro _; rfl) :
    PE X (.ListComp elt [⟨tg, iter, ifs, 0⟩] scope pos) (rdE X.K o (eLc ci t vs ct ce)) := (pe_lc hc hN hi ok hg ht he hs).evi fun σ H Q h => by
  subst hvs
  exact lc_rd hsub h
end
/-! ### statements -/
inductive RS where
  | no
  | nx (s : Sg) (g : G)
  | rt (w : W) (g : G)
  | bk (s : Sg) (g : G)
  | ct (s : Sg) (g : G)
abbrev CS := Orc → Sg → G → RS
def OkS (K : PySem.W.Frag) (ι : List Addr) (H : Hp) (D : Ends) : RS → Prop
  | .no => False
  | .nx s' g' => ∀ ι' H' σ', Fut ι H ι' H' → RG K ι' g' H' → RelS K ι' H' s' σ' → D.nx σ' H'
  | .rt w g' => Gd K ι H w g' D.rt
  | .bk s' g' => ∀ ι' H' σ', Fut ι H ι' H' → RG K ι' g' H' → RelS K ι' H' s' σ' → D.bk σ' H'
  | .ct s' g' => ∀ ι' H' σ', Fut ι H ι' H' → RG K ι' g' H' → RelS K ι' H' s' σ' → D.ct σ' H'
def rdS (K : PySem.W.Frag) (o : Orc) (c : CS) : TS := fun D σ H => ∃ ι g s, RelS K ι H s σ ∧ RG K ι g H ∧ OkS K ι H D (c o s g)
theorem OkS.mono {K : PySem.W.Frag} {ι ι1 : List Addr} {H H1 : Hp} {D : Ends} {r : RS} (h : OkS K ι H D r) (f : Fut ι H ι1 H1) : OkS K ι1 H1 D r := by
  cases r with
  | no => exact h
  | nx s g => exact fun ι' H' σ' f' r q => h ι' H' σ' (f.trans f') r q
  | rt w g => exact Gd.mono h f
  | bk s g => exact fun ι' H' σ' f' r q => h ι' H' σ' (f.trans f') r q
  | ct s g => exact fun ι' H' σ' f' r q => h ι' H' σ' (f.trans f') r q
def sNo : CS := fun _ _ _ => .no
def sNext : CS := fun _ s g => .nx s g
def sSeq (a b : CS) : CS := fun o s g => match a o s g with
  | .nx s' g' => b o s' g'
  | r => r
def sExp (c : CE) : CS := fun o s g => match c o s g with
  | .ok _ g' => .nx s g'
  | .no => .no
def sRet (c : CE) : CS := fun o s g => match c o s g with
  | .ok w g' => .rt w g'
  | .no => .no
def sRetN : CS := fun _ _ g => .rt .non g
def sBrk : CS := fun _ s g => .bk s g
def sCont : CS := fun _ s g => .ct s g
def sIf (c : CE) (a b : CS) : CS := fun o s g => match c o s g with
  | .ok (.bl true) g' => a o s g'
  | .ok (.bl false) g' => b o s g'
  | _ => .no
def sAsg (t : TGT) (c : CE) : CS := fun o s g => match c o s g with
  | .ok w g' => match t w s with
    | some s' => .nx s' g'
    | none => .no
  | .no => .no
def sPar (is : List Nat) (c : CA) : CS := fun o s g => match c o s g with
  | .ok ws g' => if (ws.length == is.length) = true then .nx (stws s is ws) g' else .no
  | .no => .no
def sSet (a i v : CE) : CS := fun o s g => match v o s g with
  | .ok y g1 => match a o s g1 with
    | .ok x g2 => match i o s g2 with
      | .ok k g3 => match x, k with
        | .ref n, .int k => match g3[n]? with
          | some xs => match ixN xs.length k with
            | some j => .nx s (g3.set n (xs.set j y))
            | none => .no
          | none => .no
        | _, _ => .no
      | .no => .no
    | .no => .no
  | .no => .no
def fuelS : Sg → Nat
  | [] => 1000000000
  | some (.int i) :: r => i.natAbs + fuelS r
  | _ :: r => fuelS r
def whileN (c : CE) (b : CS) (o : Orc) : Nat → Sg → G → RS
  | 0, _, _ => .no
  | m + 1, s, g => match c o s g with
    | .ok (.bl true) g1 => match b o s g1 with
      | .nx s' g' => whileN c b o m s' g'
      | .ct s' g' => whileN c b o m s' g'
      | .bk s' g' => .nx s' g'
      | .rt w g' => .rt w g'
      | .no => .no
    | .ok (.bl false) g1 => .nx s g1
    | _ => .no
def sWhile (c : CE) (b : CS) : CS := fun o s g => whileN c b o (fuelS s) s g
def forN (it : Itr) (t : TGT) (b : CS) (o : Orc) : Nat → Nat → Sg → G → RS
  | 0, i, s, g => if stopI it i g = true then .nx s g else .no
  | m + 1, i, s, g => match itemI it i g with
    | none => .no
    | some w => match t w s with
      | none => .no
      | some s1 => match b o s1 g with
        | .nx s' g' => forN it t b o m (i + 1) s' g'
        | .ct s' g' => forN it t b o m (i + 1) s' g'
        | .bk s' g' => .nx s' g'
        | .rt w g' => .rt w g'
        | .no => .no
def sFor (ci : CI) (t : TGT) (b : CS) : CS := fun o s g => match ci o s g with
  | .ok it g1 => forN it t b o (cntI it g1) 0 s g1
  | .no => .no

section
variable {X : Cx} {o : Orc} {st : Stmt} {rest : List Stmt} {c1 c2 cb : CS} {a b e i : Expr} {ca cc ce ci' : CE} {cs : CA} {pos : Pos}
theorem sv_no : PS X st (rdS X.K o sNo) := ps_never.evi fun D σ H ⟨_, _, _, _, _, h⟩ => h
theorem svs_nil : PSs X [] (rdS X.K o sNext) := pss_nil.evi fun D σ H ⟨ι, g, s, rs, rg, h⟩ => h ι H σ (.refl _ _) rg rs
theorem svs_one (h : PS X st (rdS X.K o c1)) : PSs X [st] (rdS X.K o c1) := pss_one h
theorem svs_cons (h1 : PS X st (rdS X.K o c1)) (h2 : PSs X rest (rdS X.K o c2)) : PSs X (st :: rest) (rdS X.K o (sSeq c1 c2)) := (pss_cons h1 h2).evi fun D σ H ⟨ι, g, s, rs, rg, h⟩ => by
  refine ⟨ι, g, s, rs, rg, ?_⟩
  unfold sSeq at h
  cases q : c1 o s g with
  | no => rw [q] at h; exact h
  | nx s' g' =>
    rw [q] at h
    exact fun ι' H' σ' f r rs' => ⟨ι', g', s', rs', r, OkS.mono h f⟩
  | rt w g' => rw [q] at h; exact h
  | bk s' g' => rw [q] at h; exact h
  | ct s' g' => rw [q] at h; exact h
theorem sv_expr (he : PE X e (rdE X.K o ce)) (hs : swapsWith e none pos.line X.env = pure false := by rfl) : PS X (.Expr e pos) (rdS X.K o (sExp ce)) := (ps_expr he hs).evi fun D σ H ⟨ι, g, s, rs, rg, h⟩ => by
  unfold sExp at h
  cases q : ce o s g with
  | no => rw [q] at h; exact h.elim
  | ok w g' =>
    rw [q] at h
    exact ⟨ι, g, s, w, g', rs, rg, q, fun ι1 H1 v f1 rg1 rv => h ι1 H1 σ f1 rg1 (rs.mono f1)⟩
theorem sv_ret (he : PE X e (rdE X.K o ce)) : PS X (.Return (some e) pos) (rdS X.K o (sRet ce)) := (ps_ret he).evi fun D σ H ⟨ι, g, s, rs, rg, h⟩ => by
  unfold sRet at h
  cases q : ce o s g with
  | no => rw [q] at h; exact h.elim
  | ok w g' =>
    rw [q] at h
    exact ⟨ι, g, s, w, g', rs, rg, q, h⟩
theorem sv_retN : PS X (.Return none pos) (rdS X.K o sRetN) := ps_retN.evi fun D σ H ⟨ι, g, s, rs, rg, h⟩ => Gd.here h rg .non
theorem sv_pass : PS X (.Pass pos) (rdS X.K o sNext) := ps_pass.evi fun D σ H ⟨ι, g, s, rs, rg, h⟩ => h ι H σ (.refl _ _) rg rs
theorem sv_brk : PS X (.Break pos) (rdS X.K o sBrk) := ps_break.evi fun D σ H ⟨ι, g, s, rs, rg, h⟩ => h ι H σ (.refl _ _) rg rs
theorem sv_cont : PS X (.Continue pos) (rdS X.K o sCont) := ps_continue.evi fun D σ H ⟨ι, g, s, rs, rg, h⟩ => h ι H σ (.refl _ _) rg rs
theorem sv_if {c : Expr} {xa xb : List Stmt} (hc : PT X c (rdT X.K o cc)) (ha : PSs X xa (rdS X.K o c1)) (hb : PSs X xb (rdS X.K o c2)) : PS X (.If c xa xb pos) (rdS X.K o (sIf cc c1 c2)) := (ps_if hc ha hb).evi fun D σ H ⟨ι, g, s, rs, rg, h⟩ => by
  unfold sIf at h
  split at h
  · rename_i g' q
    exact ⟨ι, g, s, true, g', rs, rg, q, fun ι1 H1 f1 rg1 => iteT ⟨ι1, g', s, rs.mono f1, rg1, OkS.mono h f1⟩⟩
  · rename_i g' q
    exact ⟨ι, g, s, false, g', rs, rg, q, fun ι1 H1 f1 rg1 => iteF ⟨ι1, g', s, rs.mono f1, rg1, OkS.mono h f1⟩⟩
  · exact h.elim
theorem asg_rd {t : TGT} {sl : List Nat} {D : Ends} {σ : L2.St} {H : Hp} (h : rdS X.K o (sAsg t ce) D σ H) : tAsg (rdE X.K o ce) (rdG X.K t sl) D σ H := by
  obtain ⟨ι, g, s, rs, rg, h⟩ := h
  unfold sAsg at h
  cases q : ce o s g with
  | no => rw [q] at h; exact h.elim
  | ok w g' =>
    rw [q] at h
    simp only at h
    cases q2 : t w s with
    | none => rw [q2] at h; exact h.elim
    | some s' =>
      rw [q2] at h
      exact ⟨ι, g, s, w, g', rs, rg, q, fun ι1 H1 v f1 rg1 rv => ⟨ι1, g', s, w, s', rs.mono f1, rg1, rv, q2, fun σ' rs' _ => h ι1 H1 σ' f1 rg1 rs'⟩⟩
theorem sv_asg {tg : Expr} {t : TGT} {sl : List Nat} (he : PE X e (rdE X.K o ce)) (hg : PG X tg (rdG X.K t sl)) (hs : swapsWithSole [tg] e pos.line X.env = pure false := by rfl) (hw : swappedStores [tg] e X.env = pure none := by rfl)
    (h1 : (assignEach [tg] X.env).map (·.2) = [assign tg X.env] := by rfl) : PS X (.Assign [tg] e pos) (rdS X.K o (sAsg t ce)) := (ps_asg he hg hs hw h1).evi fun D σ H h => asg_rd h
/-- name = [..], the frame swapped -/
theorem sv_setLc {ix : Nat} {y : Str} {py spos : Pos} {ci : CI} {t : TGT} {sl vs : List Nat} {ct : CE} {elt tg iter : Expr} {ifs : List Expr} {scope : Scope} {own : List (Str × Nat)} (hc : X.calm = true) (hN : X.N.Nodup) (hsw : swapsWith (.ListComp elt [⟨tg, iter, ifs, 0⟩] scope pos) (some (.Name y py)) spos.line X.env = pure true)
    (hi : PI X tg iter (rdI X.K o ci)) (ok : BlkOk X.N X.env.scope scope own)
    (hg : ∀ (s : Shared) (H : Hp) (C : Addr) (cl : List (Str × Addr)) (fp : List Addr), PG (X.blk s H scope (compEnvC scope cl C X.env) fp) tg (rdG X.K t sl)) (ht : ∀ (s : Shared) (H : Hp) (C : Addr) (cl : List (Str × Addr)) (fp : List Addr), PTs (X.blk s H scope (compEnvC scope cl C X.env) fp) ifs (rdT X.K o ct))
    (he : ∀ (s : Shared) (H : Hp) (C : Addr) (cl : List (Str × Addr)) (fp : List Addr), PE (X.blk s H scope (compEnvC scope cl C X.env) fp) elt (rdE X.K o ce)) (hy : X.N[ix]? = some y := by rfl) (hyl : X.env.scope.names.lookup y = some .local := by rfl) (hvs : own.map (·.2) = vs := by rfl) (hsub : ∀ i ∈ sl, i ∈ vs := by decide) (hs : ∀ x, foldedSetIterable iter X.env x = pure x := by intro _; rfl) :
    PS X (.Assign [.Name y py] (.ListComp elt [⟨tg, iter, ifs, 0⟩] scope pos) spos) (rdS X.K o (sAsg (tName ix) (eLc ci t vs ct ce))) := (ps_setLc hc hN hy hyl hsw hi ok hg ht he hs).evi fun D σ H h => by
  subst hvs
  obtain ⟨ι, g, s, rs, rg, h⟩ := h
  unfold sAsg at h
  refine lc_rd (Q := fun x H1 => gName ix x σ H1 D.nx) hsub ?_
  cases q : eLc ci t (own.map (·.2)) ct ce o s g with
  | no => rw [q] at h; exact h.elim
  | ok w g' =>
    rw [q] at h
    exact ⟨ι, g, s, w, g', rs, rg, q, fun ι1 H1 v f1 rg1 rv => h ι1 H1 _ f1 rg1 ((rs.mono f1).set rv ix)⟩
theorem sv_par2 {ix jx : Nat} {x y : Str} {px py pt : Pos} {kt k2 : Nat} {pt2 : Pos} (hc : X.calm = true) (hN : X.N.Nodup) (ha : PA X [a, b] (rdA X.K o cs)) (hw : swappedStores [.Tuple [.Name x px, .Name y py] kt pt] (.Tuple [a, b] k2 pt2) X.env = pure (some [x, y]))
    (hi : X.N[ix]? = some x := by rfl) (hj : X.N[jx]? = some y := by rfl) (hij : ix ≠ jx := by decide)
    (hx : X.env.scope.names.lookup x = some .local := by rfl) (hy : X.env.scope.names.lookup y = some .local := by rfl)
    (hs : swapsWithSole [.Tuple [.Name x px, .Name y py] kt pt] (.Tuple [a, b] k2 pt2) pos.line X.env = pure false := by rfl) :
    PS X (.Assign [.Tuple [.Name x px, .Name y py] kt pt] (.Tuple [a, b] k2 pt2) pos) (rdS X.K o (sPar [ix, jx] cs)) := (ps_par hc hN hi hj hij hx hy ha hw hs).evi fun D σ H ⟨ι, g, s, rs, rg, h⟩ => by
  unfold sPar at h
  cases q : cs o s g with
  | no => rw [q] at h; exact h.elim
  | ok ws g' =>
    rw [q] at h
    simp only at h
    split at h
    · rename_i hl
      refine ⟨ι, g, s, ws, g', rs, rg, q, fun ι1 H1 vs f1 rg1 rvs => ?_⟩
      cases rvs with
      | nil => cases hl
      | cons r t =>
        cases t with
        | nil => cases hl
        | cons r' t =>
          cases t with
          | nil => exact ⟨_, _, rfl, h ι1 H1 _ f1 rg1 (((rs.mono f1).set r ix).set r' jx)⟩
          | cons _ _ => have := eq_of_beq hl; simp at this
    · exact h.elim
theorem sv_par3 {ix jx lx : Nat} {c : Expr} {x y z : Str} {px py pz pt : Pos} {kt k2 : Nat} {pt2 : Pos} (hc : X.calm = true) (hN : X.N.Nodup) (ha : PA X [a, b, c] (rdA X.K o cs)) (hw : swappedStores [.Tuple [.Name x px, .Name y py, .Name z pz] kt pt] (.Tuple [a, b, c] k2 pt2) X.env = pure (some [x, y, z]))
    (hi : X.N[ix]? = some x := by rfl) (hj : X.N[jx]? = some y := by rfl) (hl : X.N[lx]? = some z := by rfl) (hij : ix ≠ jx := by decide) (hil : ix ≠ lx := by decide) (hjl : jx ≠ lx := by decide)
    (hx : X.env.scope.names.lookup x = some .local := by rfl) (hy : X.env.scope.names.lookup y = some .local := by rfl) (hz : X.env.scope.names.lookup z = some .local := by rfl)
    (hs : swapsWithSole [.Tuple [.Name x px, .Name y py, .Name z pz] kt pt] (.Tuple [a, b, c] k2 pt2) pos.line X.env = pure false := by rfl) :
    PS X (.Assign [.Tuple [.Name x px, .Name y py, .Name z pz] kt pt] (.Tuple [a, b, c] k2 pt2) pos) (rdS X.K o (sPar [ix, jx, lx] cs)) := (ps_par3 hc hN hi hj hl hij hil hjl hx hy hz ha hw hs).evi fun D σ H ⟨ι, g, s, rs, rg, h⟩ => by
  unfold sPar at h
  cases q : cs o s g with
  | no => rw [q] at h; exact h.elim
  | ok ws g' =>
    rw [q] at h
    simp only at h
    split at h
    · rename_i hl
      refine ⟨ι, g, s, ws, g', rs, rg, q, fun ι1 H1 vs f1 rg1 rvs => ?_⟩
      cases rvs with
      | nil => cases hl
      | cons r t =>
        cases t with
        | nil => cases hl
        | cons r' t =>
          cases t with
          | nil => cases hl
          | cons r'' t =>
            cases t with
            | nil => exact ⟨_, _, _, rfl, h ι1 H1 _ f1 rg1 ((((rs.mono f1).set r ix).set r' jx).set r'' lx)⟩
            | cons _ _ => have := eq_of_beq hl; simp at this
    · exact h.elim
theorem sv_set (he : PE X e (rdE X.K o ce)) (ha : PE X a (rdE X.K o ca)) (hi : PE X i (rdE X.K o ci')) {p2 : Pos} (hq : ∀ v, assign (.Subscript a i p2) X.env v = (do
      let ov ← holding [v] (eval a X.env)
      let iv ← holding [v, ov] (eval i X.env)
      standAt p2
      holding [v, ov, iv] (setItem ov iv v)
      release [v, ov, iv] []) := by intro _; rfl) (hs : swapsWithSole [.Subscript a i p2] e pos.line X.env = pure false := by rfl) (hw : swappedStores [.Subscript a i p2] e X.env = pure none := by rfl)
    (h1 : (assignEach [.Subscript a i p2] X.env).map (·.2) = [assign (.Subscript a i p2) X.env] := by rfl) : PS X (.Assign [.Subscript a i p2] e pos) (rdS X.K o (sSet ca ci' ce)) :=
  (ps_asg he (pg_sub ha hi set_list hq) hs hw h1).evi fun D σ H ⟨ι, g, s, rs, rg, h⟩ => by
    unfold sSet at h
    cases q : ce o s g with
    | no => rw [q] at h; exact h.elim
    | ok y g1 =>
      rw [q] at h
      simp only at h
      cases q2 : ca o s g1 with
      | no => rw [q2] at h; exact h.elim
      | ok x g2 =>
        rw [q2] at h
        simp only at h
        cases q3 : ci' o s g2 with
        | no => rw [q3] at h; exact h.elim
        | ok k g3 =>
          rw [q3] at h
          simp only at h
          split at h
          · split at h
            · rename_i xs hx
              split at h
              · rename_i j hj
                refine ⟨ι, g, s, y, g1, rs, rg, q, fun ι1 H1 v f1 rg1 rv => ⟨ι1, g1, s, _, g2, rs.mono f1, rg1, q2, fun ι2 H2 u f2 rg2 ru => ⟨ι2, g2, s, _, g3, rs.mono (f1.trans f2), rg2, q3, fun ι3 H3 z f3 rg3 rz => ?_⟩⟩⟩
                cases rz
                cases ru.mono f3 with
                | ref k1 =>
                  obtain ⟨ws, vs, p1, p2, p3⟩ := rg3.get k1
                  rw [p1] at hx
                  cases hx
                  obtain ⟨r4, f4⟩ := rg3.set k1 p2 (p3.set j (rv.mono (f2.trans f3)))
                  refine ⟨_, vs, _, j, rfl, rfl, p2, by rw [p3.length]; exact hj, ?_⟩
                  exact h ι3 _ σ (((f1.trans f2).trans f3).trans f4) r4 (rs.mono (((f1.trans f2).trans f3).trans f4))
              · exact h.elim
            · exact h.elim
          · exact h.elim
theorem sv_while {c : Expr} {body : List Stmt} (hp : PassesOwn (model X.prog X.w) X.A X.env X.xe) (hc : PT X c (rdT X.K o cc)) (hb : PSs X body (rdS X.K o cb)) : PS X (.While c body [] pos) (rdS X.K o (sWhile cc cb)) := (ps_while hp hc hb).evi fun D σ H ⟨ι, g, s, rs, rg, h⟩ => by
  refine ⟨fun m σ' H' => ∃ ι' g' s', Fut ι H ι' H' ∧ RelS X.K ι' H' s' σ' ∧ RG X.K ι' g' H' ∧ OkS X.K ι' H' D (whileN cc cb o m s' g'), ⟨_, ι, g, s, .refl _ _, rs, rg, h⟩, ?_⟩
  rintro m σ' H' ⟨ι', g', s', f, rs', rg', h'⟩
  cases m with
  | zero => exact h'.elim
  | succ m =>
    unfold whileN at h'
    split at h'
    · rename_i g1 q
      refine ⟨ι', g', s', true, g1, rs', rg', q, fun ι1 H1 f1 rg1 => iteT ⟨fun σ2 H2 => ∃ ι2 g2 s2, Fut ι H ι2 H2 ∧ RelS X.K ι2 H2 s2 σ2 ∧ RG X.K ι2 g2 H2 ∧ OkS X.K ι2 H2 D (whileN cc cb o m s2 g2), fun σ2 H2 w2 => ⟨m, Nat.lt_succ_self m, w2⟩, ι1, g1, s', rs'.mono f1, rg1, ?_⟩⟩
      cases q2 : cb o s' g1 with
      | no => rw [q2] at h'; exact h'
      | nx s2 g2 =>
        rw [q2] at h'
        exact fun ι2 H2 σ2 f2 rg2 rs2 => ⟨ι2, g2, s2, (f.trans f1).trans f2, rs2, rg2, OkS.mono h' (f1.trans f2)⟩
      | ct s2 g2 =>
        rw [q2] at h'
        exact fun ι2 H2 σ2 f2 rg2 rs2 => ⟨ι2, g2, s2, (f.trans f1).trans f2, rs2, rg2, OkS.mono h' (f1.trans f2)⟩
      | bk s2 g2 =>
        rw [q2] at h'
        exact fun ι2 H2 σ2 f2 rg2 rs2 => h' ι2 H2 σ2 (f1.trans f2) rg2 rs2
      | rt w g2 =>
        rw [q2] at h'
        exact Gd.mono h' f1
    · rename_i g1 q
      exact ⟨ι', g', s', false, g1, rs', rg', q, fun ι1 H1 f1 rg1 => iteF (h' ι1 H1 σ' f1 rg1 (rs'.mono f1))⟩
    · exact h'.elim
theorem sv_for {iter tg : Expr} {body : List Stmt} {ci : CI} {t : TGT} {sl : List Nat} (hp : PassesOwn (model X.prog X.w) X.A X.env X.xe) (hc : X.calm = true) (hi : PI X tg iter (rdI X.K o ci)) (hg : PG X tg (rdG X.K t sl)) (hb : PSs X body (rdS X.K o cb))
    (hs : ∀ x, foldedSetIterable iter X.env x = pure x := by intro _; rfl) : PS X (.For tg iter body [] pos) (rdS X.K o (sFor ci t cb)) := (ps_for hp hc hi hg hb hs).evi fun D σ H ⟨ι, g, s, rs, rg, h⟩ => by
  unfold sFor at h
  cases q : ci o s g with
  | no => rw [q] at h; exact h.elim
  | ok it g1 =>
    rw [q] at h
    simp only at h
    refine ⟨ι, g, s, it, g1, rs, rg, q, fun ι1 H1 J f1 rg1 rj => ?_⟩
    refine ⟨fun i m σ' H' => ∃ ι' g' s', Fut ι1 H1 ι' H' ∧ RelS X.K ι' H' s' σ' ∧ RG X.K ι' g' H' ∧ OkS X.K ι' H' D (forN it t cb o m i s' g'), ⟨_, ι1, g1, s, .refl _ _, rs.mono f1, rg1, OkS.mono h f1⟩, ?_⟩
    rintro i m σ' H' ⟨ι', g', s', f, rs', rg', h'⟩
    cases m with
    | zero =>
      unfold forN at h'
      split at h'
      · rename_i hz
        exact .inl ⟨rj.stop ι' H' g' i f rg' hz, h' ι' H' σ' (.refl _ _) rg' rs'⟩
      · exact h'.elim
    | succ m =>
      unfold forN at h'
      cases q1 : itemI it i g' with
      | none => rw [q1] at h'; exact h'.elim
      | some w =>
        rw [q1] at h'
        simp only at h'
        cases q2 : t w s' with
        | none => rw [q2] at h'; exact h'.elim
        | some s1 =>
          rw [q2] at h'
          simp only at h'
          obtain ⟨j1, j2⟩ := rj.go ι' H' g' i w f rg' q1
          refine .inr ⟨j1, fun σ2 H2 => ∃ ι2 g2 s2, Fut ι1 H1 ι2 H2 ∧ RelS X.K ι2 H2 s2 σ2 ∧ RG X.K ι2 g2 H2 ∧ OkS X.K ι2 H2 D (forN it t cb o m (i + 1) s2 g2), fun σ2 H2 w2 => ⟨m, Nat.lt_succ_self m, w2⟩, fun x H3 hy => ?_⟩
          obtain ⟨f3, rg3, rx⟩ := j2 x H3 hy
          refine ⟨ι', g', s', w, s1, rs'.mono f3, rg3, rx, q2, fun σ4 rs4 _ => ⟨ι', g', s1, rs4, rg3, ?_⟩⟩
          cases q3 : cb o s1 g' with
          | no => rw [q3] at h'; exact h'
          | nx s2 g2 =>
            rw [q3] at h'
            exact fun ι2 H2 σ2 f2 rg2 rs2 => ⟨ι2, g2, s2, (f.trans f3).trans f2, rs2, rg2, OkS.mono h' (f3.trans f2)⟩
          | ct s2 g2 =>
            rw [q3] at h'
            exact fun ι2 H2 σ2 f2 rg2 rs2 => ⟨ι2, g2, s2, (f.trans f3).trans f2, rs2, rg2, OkS.mono h' (f3.trans f2)⟩
          | bk s2 g2 =>
            rw [q3] at h'
            exact fun ι2 H2 σ2 f2 rg2 rs2 => h' ι2 H2 σ2 (f3.trans f2) rg2 rs2
          | rt w g2 =>
            rw [q3] at h'
            exact Gd.mono h' f3
end
theorem ev_gintE {X : Cx} {o : Orc} {pos : Pos} {x : Str} {i : Int} (hm : ∃ t, X.mg x = some (.int i t)) (hg : Gl X x := by rfl) (hd : (x == ("__debug__" : Str)) = false := by decide) : PE X (.Name x pos) (rdE X.K o (eC (.int i))) := by
  obtain ⟨t, hm⟩ := hm
  exact ev_gint hm hg hd
theorem hu70_of {A : Around} {k : Nat} (hr : Room k A) : A.units + 70 < cLine := by
  have := hr.un
  omega
/-! ### defs -/
/-- a def's promise: what the evaluator says -/
def spE (K : PySem.W.Frag) (o : Orc) (k n : Nat) : Sp := fun vs H Q _ => ∃ ι g ws w g', vs.length = n ∧ RG K ι g H ∧ RelWs K ι H vs ws ∧ o k ws g = .ok w g' ∧ Gd K ι H w g' Q
def Cal (P : Program) (w : World) (K : PySem.W.Frag) (mg : Str → Option Value) (base : Heap) (o : Orc) (lv : Nat) (j : Nat) (name : Str) (ps : List Str) : Prop :=
  ∃ f fd, FnOk P w K mg base CX0 lv f fd ps (spE K o j ps.length) ∧ mg name = some (.ref f) ∧ PySem.W.keepIn K (.ref f) = true ∧ Binds K fd ps []
section
variable {X : Cx} {o : Orc} {e : Expr} {es : List Expr} {cs : CA} {pos p : Pos}
theorem ev_call {lv j n : Nat} {x : Str} {ps : List Str} (C : Cal X.prog X.w X.K X.mg X.base o lv j x ps) (hr : Room lv X.A) (ha : PA X (e :: es) (rdA X.K o cs)) (hn : n = ps.length := by rfl) (hg : Gl X x := by rfl) (hdb : (x == ("__debug__" : Str)) = false := by decide)
    (he : starEach (e :: es) X.env = (false, eval e X.env) :: starEach es X.env := by rfl) (hpl : (backTo pos (starEach es X.env)).any (·.1) = false := by rfl) : PE X (.Call (.Name x p) (e :: es) [] pos) (rdE X.K o (eCall j n cs)) := by
  subst hn
  obtain ⟨f, fd, F, hm, hk, hb⟩ := C
  refine (pe_call F hr hg hm hk hb .nil pass0 ha hdb he hpl).evi fun σ H Q ⟨ι, g, s, w, g', rs, rg, e, gd⟩ => ?_
  obtain ⟨xs, g1, h1, e⟩ := R.bind_ok e
  split at e
  · rename_i hl
    refine ⟨ι, g, s, xs, g1, rs, rg, h1, fun ι1 H1 vs f1 rg1 rvs => ?_⟩
    show spE X.K o j ps.length (vs ++ []) H1 Q E0
    rw [List.append_nil]
    exact ⟨ι1, g1, xs, w, g', by rw [rvs.length]; exact eq_of_beq hl, rg1, rvs, e, gd.mono f1⟩
  · cases e
end
def callS (n : Nat) (b : CS) (o : Orc) (ws : List W) (g : G) : R W := match b o (ws.map some ++ List.replicate (n - ws.length) none) g with
  | .rt w g' => .ok w g'
  | .nx _ g' => .ok .non g'
  | _ => .no
theorem relS_start {K : PySem.W.Frag} {ι : List Addr} {H : Hp} : ∀ {vs : List V} {ws : List W} (n : Nat), RelWs K ι H vs ws → RelS K ι H (ws.map some ++ List.replicate n none) (vs.map some ++ List.replicate n none)
  | _, _, n, .nil => by
    show RelS K ι H (List.replicate n none) (List.replicate n none)
    induction n with
    | zero => exact .nil
    | succ n ih => exact .none ih
  | _, _, n, .cons r t => .some r (relS_start n t)
theorem def_ok {P : Program} {w : World} {K : PySem.W.Frag} {mg : Str → Option Value} {base : Heap} {x qual : Str} {params : Arguments} {body : List Stmt} {scope : Scope} {f : Addr} {fd : FuncData} {N ps : List Str} {lv j : Nat} {o o' : Orc} {b : CS} (F : FunD K x qual params body scope [] [] f fd) (S : FnScope N ps scope)
    (ho : ∀ ws g, o' j ws g = callS N.length b o ws g)
    (hb : ∀ (cdv : Value) (A : Around) (outer : List Env) (s : Shared) (H : Hp) (E : XK), Room lv (A.deeper (envOfC qual scope s.heap.objs.size f cdv)) → PSs (cxOf CX0 P w K mg base N qual scope f cdv A outer s H E).nox body (rdS K o b)) :
    FnOk P w K mg base CX0 (lv + 1) f fd ps (spE K o' j ps.length) := by
  refine F.ok S (fun vs H Q E h => ?_) (fun cdv A outer s H vs Q E hr h => ⟨_, PSs.nox (hb cdv A outer s H E hr), ?_⟩)
  · obtain ⟨_, _, _, _, _, hl, _⟩ := h
    exact hl
  · obtain ⟨ι, g, ws, w', g', hl, rg, rvs, e, gd⟩ := h
    rw [ho] at e
    unfold callS at e
    have hN : N.length - vs.length = N.length - ws.length := by rw [rvs.length]
    refine ⟨ι, g, ws.map some ++ List.replicate (N.length - ws.length) none, ?_, rg, ?_⟩
    · unfold L2.start
      rw [hN]
      exact relS_start _ rvs
    · split at e
      · rename_i q
        cases e
        rw [q]
        exact gd
      · rename_i q
        cases e
        rw [q]
        exact fun ι' H' σ' f' r' _ => gd ι' H' _ f' r' .non
      · cases e
end Ev

set_option Elab.async false
set_option linter.all false
set_option maxRecDepth 100000
set_option maxHeartbeats 4000000
/-! Printed by gen.py: each def of the linked text as a term of the evaluator. -/
namespace LK77
open PySem L2 Ev
/-- divisor_of: slots 0 one 1 other -/
def b0 : CS := sSeq (sPar [0, 1] (aCons (eFun fAbs (aCons (eVar 0) aNil)) (aCons (eFun fAbs (aCons (eVar 1) aNil)) aNil))) (sSeq (sWhile (eBin fNe (eVar 1) (eC (.int 0))) (sPar [0, 1] (aCons (eVar 1) (aCons (eBin fMod (eVar 0) (eVar 1)) aNil)))) (sRet (eVar 0)))
/-- lowest: slots 0 above 1 below 2 common -/
def b1 : CS := sSeq (sAsg (tName 2) (eBin fMul (eCall 0 2 (aCons (eVar 0) (aCons (eVar 1) aNil))) (eIf (eBin fGt (eVar 1) (eC (.int 0))) (eC (.int 1)) (eUn fNeg (eC (.int 1)))))) (sRet (eFun fTup (aCons (eBin fDiv (eVar 0) (eVar 2)) (aCons (eBin fDiv (eVar 1) (eVar 2)) aNil))))
/-- made_low: slots 0 row 1 common 2 own -/
def b2 : CS := sSeq (sAsg (tName 1) (eC (.int 0))) (sSeq (sFor (iSeq (eVar 0)) (tName 2) (sAsg (tName 1) (eCall 0 2 (aCons (eVar 1) (aCons (eVar 2) aNil))))) (sRet (eIf (eBin fGt (eVar 1) (eC (.int 1))) (eLc (iSeq (eVar 0)) (tName 2) [2] (eC (.bl true)) (eBin fDiv (eVar 2) (eVar 1))) (eFun fList (aCons (eVar 0) aNil)))))
/-- cut_zeros: slots 0 row 1 found -/
def b3 : CS := sSeq (sAsg (tName 1) (eFun fList (aCons (eVar 0) aNil))) (sSeq (sWhile (eAnd (eBin fNe (eVar 1) (eFun fLst aNil)) (eBin fEq (eBin fIx (eVar 1) (eUn fNeg (eC (.int 1)))) (eC (.int 0)))) (sExp (ePop (eVar 1)))) (sRet (eVar 1)))
/-- is_integer: slots 0 value -/
def b4 : CS := sRet (eAnd (eIsi .int (eVar 0)) (eNot (eIsi .bool (eVar 0))))
/-- is_number: slots 0 value 1 low 2 high -/
def b5 : CS := sRet (eAnd (eCall 4 1 (aCons (eVar 0) aNil)) (eChain fLe fLe (eVar 1) (eVar 0) (eVar 2)))
/-- need_number: slots 0 value 1 low 2 high -/
def b6 : CS := sIf (eNot (eCall 5 3 (aCons (eVar 0) (aCons (eVar 1) (aCons (eVar 2) aNil))))) sNo sNext
/-- is_tuple_of: slots 0 value 1 low 2 high -/
def b7 : CS := sRet (eAnd (eIsi .tuple (eVar 0)) (eChain fLe fLe (eVar 1) (eFun fLen (aCons (eVar 0) aNil)) (eVar 2)))
/-- fits_polynomial: slots 0 value 1 entry -/
def b8 : CS := sSeq (sIf (eOr (eNot (eCall 7 3 (aCons (eVar 0) (aCons (eC (.int 0)) (aCons (eC (.int 401)) aNil))))) (eNot (eFun fAll (aCons (eLc (iSeq (eVar 0)) (tName 1) [1] (eC (.bl true)) (eCall 4 1 (aCons (eVar 1) aNil))) aNil)))) (sRet (eC (.bl false))) sNext) (sRet (eOr (eBin fEq (eVar 0) (eFun fTup aNil)) (eBin fNe (eBin fIx (eVar 0) (eUn fNeg (eC (.int 1)))) (eC (.int 0)))))
/-- cut_off: slots 0 entries 1 found -/
def b9 : CS := sSeq (sAsg (tName 1) (eFun fList (aCons (eVar 0) aNil))) (sSeq (sWhile (eAnd (eBin fNe (eVar 1) (eFun fLst aNil)) (eBin fEq (eBin fIx (eVar 1) (eUn fNeg (eC (.int 1)))) (eC (.int 0)))) (sExp (ePop (eVar 1)))) (sRet (eFun fTuple (aCons (eVar 1) aNil))))
/-- times: slots 0 one 1 two 2 found 3 at 4 first 5 to 6 second -/
def b10 : CS := sSeq (sAsg (tName 2) (eBin fMul (eFun fLst (aCons (eC (.int 0)) aNil)) (eFun fMax (aCons (eC (.int 0)) (aCons (eBin fSub (eBin fAdd (eFun fLen (aCons (eVar 0) aNil)) (eFun fLen (aCons (eVar 1) aNil))) (eC (.int 1))) aNil))))) (sSeq (sFor (iEn (aCons (eVar 0) aNil)) (tTups [3, 4]) (sFor (iEn (aCons (eVar 1) aNil)) (tTups [5, 6]) (sSet (eVar 2) (eBin fAdd (eVar 3) (eVar 5)) (eBin fAdd (eBin fIx (eVar 2) (eBin fAdd (eVar 3) (eVar 5))) (eBin fMul (eVar 4) (eVar 6)))))) (sRet (eCall 9 1 (aCons (eVar 2) aNil))))
/-- need_two_polys: slots 0 one 1 two -/
def b11 : CS := sIf (eOr (eNot (eCall 8 1 (aCons (eVar 0) aNil))) (eNot (eCall 8 1 (aCons (eVar 1) aNil)))) sNo sNext
/-- poly_product: slots 0 one 1 two -/
def b12 : CS := sSeq (sExp (eCall 11 2 (aCons (eVar 0) (aCons (eVar 1) aNil)))) (sSeq (sIf (eAnd (eBin fGt (eBin fSub (eBin fAdd (eFun fLen (aCons (eVar 0) aNil)) (eFun fLen (aCons (eVar 1) aNil))) (eC (.int 1))) (eC (.int 401))) (eAnd (eBin fNe (eVar 0) (eFun fTup aNil)) (eBin fNe (eVar 1) (eFun fTup aNil)))) sNo sNext) (sRet (eCall 10 2 (aCons (eVar 0) (aCons (eVar 1) aNil)))))
/-- is_at_most: slots 0 one 1 other -/
def b13 : CS := sRet (eBin fLe (eBin fMul (eBin fIx (eVar 0) (eC (.int 0))) (eBin fIx (eVar 1) (eC (.int 1)))) (eBin fMul (eBin fIx (eVar 1) (eC (.int 0))) (eBin fIx (eVar 0) (eC (.int 1)))))
/-- fits_polynomial: slots 0 value 1 own -/
def b14 : CS := sRet (eAnd (eCall 7 3 (aCons (eVar 0) (aCons (eC (.int 1)) (aCons (eC (.int 401)) aNil)))) (eAnd (eFun fAll (aCons (eLc (iSeq (eVar 0)) (tName 1) [1] (eC (.bl true)) (eCall 4 1 (aCons (eVar 1) aNil))) aNil)) (eBin fNe (eBin fIx (eVar 0) (eUn fNeg (eC (.int 1)))) (eC (.int 0)))))
/-- slope_of: slots 0 row 1 at 2 own -/
def b15 : CS := sRet (eSl (eLc (iEn (aCons (eVar 0) aNil)) (tTups [1, 2]) [1, 2] (eC (.bl true)) (eBin fMul (eVar 1) (eVar 2))) (some (eC (.int 1))) none)
/-- rest_of: slots 0 one 1 other 2 left 3 far 4 top 5 shift 6 at 7 own -/
def b16 : CS := sSeq (sAsg (tTups [2, 3]) (eFun fTup (aCons (eFun fList (aCons (eVar 0) aNil)) (aCons (eFun fAbs (aCons (eBin fIx (eVar 1) (eUn fNeg (eC (.int 1)))) aNil)) aNil)))) (sSeq (sWhile (eBin fGe (eFun fLen (aCons (eVar 2) aNil)) (eFun fLen (aCons (eVar 1) aNil))) (sSeq (sPar [4, 5] (aCons (eBin fMul (eBin fIx (eVar 2) (eUn fNeg (eC (.int 1)))) (eIf (eBin fGt (eBin fIx (eVar 1) (eUn fNeg (eC (.int 1)))) (eC (.int 0))) (eC (.int 1)) (eUn fNeg (eC (.int 1))))) (aCons (eBin fSub (eFun fLen (aCons (eVar 2) aNil)) (eFun fLen (aCons (eVar 1) aNil))) aNil))) (sSeq (sAsg (tName 2) (eLc (iSeq (eVar 2)) (tName 7) [7] (eC (.bl true)) (eBin fMul (eVar 7) (eVar 3)))) (sSeq (sFor (iEn (aCons (eVar 1) aNil)) (tTups [6, 7]) (sSet (eVar 2) (eBin fAdd (eVar 6) (eVar 5)) (eBin fSub (eBin fIx (eVar 2) (eBin fAdd (eVar 6) (eVar 5))) (eBin fMul (eVar 4) (eVar 7))))) (sAsg (tName 2) (eCall 2 1 (aCons (eCall 3 1 (aCons (eSl (eVar 2) none (some (eUn fNeg (eC (.int 1))))) aNil)) aNil))))))) (sRet (eVar 2)))
/-- rows_of_rests: slots 0 polynomial 1 found 2 own -/
def b17 : CS := sSeq (sAsg (tName 1) (eFun fLst (aCons (eFun fList (aCons (eVar 0) aNil)) (aCons (eCall 15 1 (aCons (eVar 0) aNil)) aNil)))) (sSeq (sWhile (eBin fNe (eBin fIx (eVar 1) (eUn fNeg (eC (.int 1)))) (eFun fLst aNil)) (sExp (eApp (eVar 1) (aCons (eLc (iSeq (eCall 16 2 (aCons (eBin fIx (eVar 1) (eUn fNeg (eC (.int 2)))) (aCons (eBin fIx (eVar 1) (eUn fNeg (eC (.int 1)))) aNil)))) (tName 2) [2] (eC (.bl true)) (eUn fNeg (eVar 2))) aNil)))) (sRet (eSl (eVar 1) none (some (eUn fNeg (eC (.int 1)))))))
/-- sign_at: slots 0 row 1 number 2 above 3 below 4 found 5 scale 6 own -/
def b18 : CS := sSeq (sAsg (tTups [2, 3]) (eVar 1)) (sSeq (sAsg (tTups [4, 5]) (eFun fTup (aCons (eC (.int 0)) (aCons (eC (.int 1)) aNil)))) (sSeq (sFor (iSeq (eUn fRev (eVar 0))) (tName 6) (sPar [4, 5] (aCons (eBin fAdd (eBin fMul (eVar 4) (eVar 2)) (eBin fMul (eVar 6) (eVar 5))) (aCons (eBin fMul (eVar 5) (eVar 3)) aNil)))) (sRet (eBin fSub (eBin fGt (eVar 4) (eC (.int 0))) (eBin fLt (eVar 4) (eC (.int 0)))))))
/-- changes_at: slots 0 rows 1 number 2 signs 3 sign 4 one 5 other 6 row -/
def b19 : CS := sSeq (sAsg (tName 2) (eLc (iSeq (eLc (iSeq (eVar 0)) (tName 6) [6] (eC (.bl true)) (eCall 18 2 (aCons (eVar 6) (aCons (eVar 1) aNil))))) (tName 3) [3] (eBin fNe (eVar 3) (eC (.int 0))) (eVar 3))) (sRet (eFun fLen (aCons (eLc (iZp (aCons (eVar 2) (aCons (eSl (eVar 2) (some (eC (.int 1))) none) aNil))) (tTups [4, 5]) [4, 5] (eBin fNe (eVar 4) (eVar 5)) (eVar 4)) aNil)))
/-- quotient_of: slots 0 one 1 other 2 left 3 found 4 far 5 shift 6 top 7 at 8 own -/
def b20 : CS := sSeq (sAsg (tTups [2, 3, 4]) (eFun fTup (aCons (eFun fList (aCons (eVar 0) aNil)) (aCons (eFun fLst aNil) (aCons (eBin fIx (eVar 1) (eUn fNeg (eC (.int 1)))) aNil))))) (sSeq (sFor (iRgD (aCons (eBin fSub (eFun fLen (aCons (eVar 0) aNil)) (eFun fLen (aCons (eVar 1) aNil))) (aCons (eUn fNeg (eC (.int 1))) (aCons (eUn fNeg (eC (.int 1))) aNil)))) (tName 5) (sSeq (sAsg (tName 3) (eLc (iSeq (eVar 3)) (tName 8) [8] (eC (.bl true)) (eBin fMul (eVar 8) (eVar 4)))) (sSeq (sAsg (tName 6) (eBin fIx (eVar 2) (eBin fAdd (eBin fSub (eFun fLen (aCons (eVar 1) aNil)) (eC (.int 1))) (eVar 5)))) (sSeq (sAsg (tName 2) (eLc (iSeq (eVar 2)) (tName 8) [8] (eC (.bl true)) (eBin fMul (eVar 8) (eVar 4)))) (sSeq (sFor (iEn (aCons (eVar 1) aNil)) (tTups [7, 8]) (sSet (eVar 2) (eBin fAdd (eVar 7) (eVar 5)) (eBin fSub (eBin fIx (eVar 2) (eBin fAdd (eVar 7) (eVar 5))) (eBin fMul (eVar 6) (eVar 8))))) (sExp (eApp (eVar 3) (aCons (eVar 6) aNil)))))))) (sRet (eCall 2 1 (aCons (eUn fRev (eVar 3)) aNil))))
/-- without_doubles: slots 0 polynomial 1 common -/
def b21 : CS := sSeq (sAsg (tName 1) (eBin fIx (eCall 17 1 (aCons (eVar 0) aNil)) (eUn fNeg (eC (.int 1))))) (sRet (eIf (eBin fLt (eFun fLen (aCons (eVar 1) aNil)) (eC (.int 2))) (eFun fList (aCons (eVar 0) aNil)) (eCall 20 2 (aCons (eVar 0) (aCons (eVar 1) aNil)))))
/-- roots_in: slots 0 rows 1 low 2 high -/
def b22 : CS := sRet (eBin fSub (eCall 19 2 (aCons (eVar 0) (aCons (eVar 1) aNil))) (eCall 19 2 (aCons (eVar 0) (aCons (eVar 2) aNil))))
/-- rows_for: slots 0 polynomial -/
def b23 : CS := sRet (eCall 17 1 (aCons (eCall 21 1 (aCons (eVar 0) aNil)) aNil))
/-- cell_in: slots 0 polynomial 1 grain 2 rows 3 far 4 low 5 high 6 middle 7 own -/
def b24 : CS := sSeq (sAsg (tName 2) (eCall 23 1 (aCons (eVar 0) aNil))) (sSeq (sAsg (tName 3) (eBin fAdd (eC (.int 2)) (eFun fMax (aCons (eLc (iSeq (eBin fIx (eVar 2) (eC (.int 0)))) (tName 7) [7] (eC (.bl true)) (eFun fAbs (aCons (eVar 7) aNil))) aNil)))) (sSeq (sIf (eBin fEq (eCall 22 3 (aCons (eVar 2) (aCons (eFun fTup (aCons (eC (.int 0)) (aCons (eC (.int 1)) aNil))) (aCons (eFun fTup (aCons (eVar 3) (aCons (eC (.int 1)) aNil))) aNil)))) (eC (.int 0))) (sRet (eC .non)) sNext) (sSeq (sPar [4, 5] (aCons (eC (.int 0)) (aCons (eBin fMul (eVar 3) (eVar 1)) aNil))) (sSeq (sWhile (eBin fGt (eBin fSub (eVar 5) (eVar 4)) (eC (.int 1))) (sSeq (sAsg (tName 6) (eBin fDiv (eBin fAdd (eVar 4) (eVar 5)) (eC (.int 2)))) (sIf (eBin fEq (eCall 22 3 (aCons (eVar 2) (aCons (eFun fTup (aCons (eC (.int 0)) (aCons (eC (.int 1)) aNil))) (aCons (eFun fTup (aCons (eVar 6) (aCons (eVar 1) aNil))) aNil)))) (eC (.int 0))) (sAsg (tName 4) (eVar 6)) (sAsg (tName 5) (eVar 6))))) (sRet (eVar 4))))))
/-- need_polynomial: slots 0 value -/
def b25 : CS := sIf (eNot (eCall 14 1 (aCons (eVar 0) aNil))) sNo sNext
/-- need_fraction: slots 0 value 1 own -/
def b26 : CS := sSeq (sIf (eOr (eNot (eCall 7 3 (aCons (eVar 0) (aCons (eC (.int 2)) (aCons (eC (.int 2)) aNil))))) (eNot (eFun fAll (aCons (eLc (iSeq (eVar 0)) (tName 1) [1] (eC (.bl true)) (eCall 4 1 (aCons (eVar 1) aNil))) aNil)))) sNo sNext) (sIf (eOr (eBin fLt (eBin fIx (eVar 0) (eC (.int 1))) (eC (.int 1))) (eBin fNe (eCall 1 2 (aCons (eBin fIx (eVar 0) (eC (.int 0))) (aCons (eBin fIx (eVar 0) (eC (.int 1))) aNil))) (eVar 0))) sNo sNext)
/-- roots_between: slots 0 polynomial 1 low 2 high -/
def b27 : CS := sSeq (sExp (eCall 25 1 (aCons (eVar 0) aNil))) (sSeq (sExp (eCall 26 1 (aCons (eVar 1) aNil))) (sSeq (sExp (eCall 26 1 (aCons (eVar 2) aNil))) (sSeq (sIf (eNot (eCall 13 2 (aCons (eVar 1) (aCons (eVar 2) aNil)))) sNo sNext) (sRet (eCall 22 3 (aCons (eCall 23 1 (aCons (eVar 0) aNil)) (aCons (eVar 1) (aCons (eVar 2) aNil))))))))
/-- least_root_cell: slots 0 polynomial 1 grain -/
def b28 : CS := sSeq (sExp (eCall 25 1 (aCons (eVar 0) aNil))) (sSeq (sExp (eCall 6 3 (aCons (eVar 1) (aCons (eC (.int 1)) (aCons (eC (.int 64)) aNil))))) (sRet (eCall 24 2 (aCons (eVar 0) (aCons (eVar 1) aNil)))))
/-- _law_cup: slots 0 script 1 cell -/
def b29 : CS := sSeq (sAsg (tName 1) (eFun fAbs (aCons (eBin fIx (eBin fAdd (eFun fList (aCons (eVar 0) aNil)) (eFun fLst (aCons (eC (.int 0)) aNil))) (eC (.int 0))) aNil))) (sRet (eFun fLst (aCons (eIf (eBin fGe (eVar 1) (eBin fPow (eC (.int 10)) (eC (.int 18)))) (eBin fDiv (eVar 1) (eC (.int 73))) (eC (.int 0))) (aCons (eBin fAdd (eBin fMod (eFun fInt (aCons (eBin fAdd (eBin fMul (eVar 1) (eC (.int 283))) (eC (.int 3907))) aNil)) (eC (.int 2077503167))) (eC (.int 167))) aNil))))
/-- _law_roll: slots 0 cup 1 many 2 found 3 deep -/
def b30 : CS := sSeq (sIf (eBin fGt (eBin fIx (eVar 0) (eC (.int 0))) (eC (.int 0))) (sSeq (sAsg (tName 2) (eBin fMod (eFun fInt (aCons (eBin fIx (eVar 0) (eC (.int 0))) aNil)) (eVar 1))) (sSeq (sSet (eVar 0) (eC (.int 0)) (eBin fDiv (eBin fIx (eVar 0) (eC (.int 0))) (eVar 1))) (sRet (eVar 2)))) sNext) (sSeq (sSet (eVar 0) (eC (.int 1)) (eBin fMod (eFun fInt (aCons (eBin fAdd (eBin fMul (eBin fIx (eVar 0) (eC (.int 1))) (eC (.int 31051))) (eC (.int 7993))) aNil)) (eC (.int 2147483543)))) (sSeq (sAsg (tName 3) (eBin fMod (eFun fInt (aCons (eBin fMul (eBin fIx (eVar 0) (eC (.int 1))) (eBin fAdd (eBin fIx (eVar 0) (eC (.int 1))) (eC (.int 229)))) aNil)) (eC (.int 2147483587)))) (sRet (eBin fMod (eFun fInt (aCons (eBin fDiv (eVar 3) (eC (.int 821))) aNil)) (eVar 1)))))
/-- _law_sort: slots 0 value -/
def b31 : CS := sSeq (sIf (eOr (eIsN (eVar 0)) (eIsi .bool (eVar 0))) (sRet (eIf (eIsN (eVar 0)) (eC (.int 0)) (eC (.int 1)))) sNext) (sSeq (sIf (eOr (eIsi .int (eVar 0)) (eIsi .str (eVar 0))) (sRet (eIf (eIsi .int (eVar 0)) (eC (.int 2)) (eC (.int 3)))) sNext) (sRet (eIf (eIsi .tuple (eVar 0)) (eC (.int 4)) (eIf (eIsi .list (eVar 0)) (eC (.int 5)) (eC (.int 6))))))
/-- _law_like: slots 0 one 1 other 2 sort 3 first 4 second -/
def b32 : CS := sSeq (sAsg (tName 2) (eCall 31 1 (aCons (eVar 1) aNil))) (sSeq (sIf (eOr (eBin fNe (eCall 31 1 (aCons (eVar 0) aNil)) (eVar 2)) (eBin fEq (eVar 2) (eC (.int 6)))) (sRet (eC (.bl false))) sNext) (sSeq (sIf (eBin fIn (eVar 2) (eFun fTup (aCons (eC (.int 4)) (aCons (eC (.int 5)) aNil)))) (sRet (eAnd (eBin fEq (eFun fLen (aCons (eVar 0) aNil)) (eFun fLen (aCons (eVar 1) aNil))) (eBin fEq (eLc (iZp (aCons (eVar 0) (aCons (eVar 1) aNil))) (tTups [3, 4]) [3, 4] (eNot (eCall 32 2 (aCons (eVar 3) (aCons (eVar 4) aNil)))) (eC (.int 1))) (eFun fLst aNil)))) sNext) (sRet (eBin fEq (eVar 0) (eVar 1)))))
/-- _law_gcd: slots 0 one 1 other -/
def b33 : CS := sSeq (sPar [0, 1] (aCons (eFun fAbs (aCons (eVar 0) aNil)) (aCons (eFun fAbs (aCons (eVar 1) aNil)) aNil))) (sSeq (sWhile (eBin fNe (eVar 1) (eC (.int 0))) (sPar [0, 1] (aCons (eVar 1) (aCons (eBin fMod (eFun fInt (aCons (eVar 0) aNil)) (eVar 1)) aNil)))) (sRet (eVar 0)))
/-- _law_low: slots 0 above 1 below 2 common -/
def b34 : CS := sSeq (sAsg (tName 2) (eCall 33 2 (aCons (eVar 0) (aCons (eVar 1) aNil)))) (sRet (eIf (eBin fGt (eVar 1) (eC (.int 0))) (eFun fTup (aCons (eBin fDiv (eVar 0) (eVar 2)) (aCons (eBin fDiv (eVar 1) (eVar 2)) aNil))) (eFun fTup (aCons (eBin fDiv (eUn fNeg (eVar 0)) (eVar 2)) (aCons (eBin fDiv (eUn fNeg (eVar 1)) (eVar 2)) aNil)))))
/-- _law_is_most: slots 0 one 1 other -/
def b35 : CS := sRet (eBin fLe (eBin fMul (eBin fIx (eVar 0) (eC (.int 0))) (eBin fIx (eVar 1) (eC (.int 1)))) (eBin fMul (eBin fIx (eVar 1) (eC (.int 0))) (eBin fIx (eVar 0) (eC (.int 1)))))
/-- _law_value: slots 0 polynomial 1 number 2 above 3 below 4 total 5 power 6 rest 7 turn 8 own -/
def b36 : CS := sSeq (sAsg (tTups [2, 3]) (eVar 1)) (sSeq (sAsg (tTups [4, 5, 6]) (eFun fTup (aCons (eC (.int 0)) (aCons (eC (.int 1)) (aCons (eC (.int 1)) aNil))))) (sSeq (sFor (iRg1 (aCons (eBin fSub (eFun fLen (aCons (eVar 0) aNil)) (eC (.int 1))) aNil)) (tName 7) (sAsg (tName 6) (eBin fMul (eVar 6) (eVar 3)))) (sSeq (sFor (iSeq (eVar 0)) (tName 8) (sPar [4, 5, 6] (aCons (eBin fAdd (eVar 4) (eBin fMul (eBin fMul (eVar 8) (eVar 5)) (eVar 6))) (aCons (eBin fMul (eVar 5) (eVar 2)) (aCons (eBin fDiv (eVar 6) (eVar 3)) aNil))))) (sRet (eIf (eBin fGt (eVar 4) (eC (.int 0))) (eC (.int 1)) (eIf (eBin fLt (eVar 4) (eC (.int 0))) (eUn fNeg (eC (.int 1))) (eC (.int 0))))))))
/-- _law_product: slots 0 cup 1 many 2 found 3 roots 4 turn 5 root -/
def b37 : CS := sSeq (sPar [2, 3] (aCons (eFun fTup (aCons (eBin fAdd (eC (.int 1)) (eCall 30 2 (aCons (eVar 0) (aCons (eC (.int 3)) aNil)))) aNil)) (aCons (eFun fLst aNil) aNil))) (sSeq (sFor (iRg1 (aCons (eVar 1) aNil)) (tName 4) (sSeq (sAsg (tName 5) (eCall 34 2 (aCons (eBin fSub (eCall 30 2 (aCons (eVar 0) (aCons (eC (.int 13)) aNil))) (eC (.int 6))) (aCons (eBin fAdd (eC (.int 1)) (eCall 30 2 (aCons (eVar 0) (aCons (eC (.int 4)) aNil)))) aNil)))) (sSeq (sExp (eApp (eVar 3) (aCons (eVar 5) aNil))) (sAsg (tName 2) (eCall 12 2 (aCons (eVar 2) (aCons (eFun fTup (aCons (eUn fNeg (eBin fIx (eVar 5) (eC (.int 0)))) (aCons (eBin fIx (eVar 5) (eC (.int 1))) aNil))) aNil))))))) (sSeq (sIf (eBin fEq (eCall 30 2 (aCons (eVar 0) (aCons (eC (.int 2)) aNil))) (eC (.int 0))) (sAsg (tName 2) (eCall 12 2 (aCons (eVar 2) (aCons (eFun fTup (aCons (eBin fAdd (eC (.int 1)) (eCall 30 2 (aCons (eVar 0) (aCons (eC (.int 4)) aNil)))) (aCons (eBin fSub (eCall 30 2 (aCons (eVar 0) (aCons (eC (.int 3)) aNil))) (eC (.int 1))) (aCons (eC (.int 2)) aNil)))) aNil)))) sNext) (sRet (eFun fTup (aCons (eVar 2) (aCons (eCall 38 1 (aCons (eVar 3) aNil)) aNil))))))
/-- _law_sorted: slots 0 roots 1 found 2 root 3 own -/
def b38 : CS := sSeq (sAsg (tName 1) (eFun fLst aNil)) (sSeq (sFor (iSeq (eVar 0)) (tName 2) (sIf (eBin fNotIn (eVar 2) (eVar 1)) (sAsg (tName 1) (eBin fAdd (eBin fAdd (eLc (iSeq (eVar 1)) (tName 3) [3] (eCall 35 2 (aCons (eVar 3) (aCons (eVar 2) aNil))) (eVar 3)) (eFun fLst (aCons (eVar 2) aNil))) (eLc (iSeq (eVar 1)) (tName 3) [3] (eNot (eCall 35 2 (aCons (eVar 3) (aCons (eVar 2) aNil)))) (eVar 3)))) sNext)) (sRet (eVar 1)))
/-- _law_right: slots 0 cup 1 polynomial 2 roots 3 some 4 low 5 high 6 due 7 grain 8 able 9 root 10 turn -/
def b39 : CS := sSeq (sAsg (tName 3) (eBin fAdd (eLc (iRg1 (aCons (eC (.int 3)) aNil)) (tName 10) [10] (eC (.bl true)) (eCall 34 2 (aCons (eBin fSub (eCall 30 2 (aCons (eVar 0) (aCons (eC (.int 41)) aNil))) (eC (.int 20))) (aCons (eBin fAdd (eC (.int 1)) (eCall 30 2 (aCons (eVar 0) (aCons (eC (.int 5)) aNil)))) aNil)))) (eVar 2))) (sSeq (sFor (iSeq (eVar 3)) (tName 4) (sFor (iSeq (eVar 3)) (tName 5) (sIf (eCall 35 2 (aCons (eVar 4) (aCons (eVar 5) aNil))) (sSeq (sAsg (tName 6) (eFun fLen (aCons (eLc (iSeq (eVar 2)) (tName 9) [9] (eAnd (eNot (eCall 35 2 (aCons (eVar 9) (aCons (eVar 4) aNil)))) (eCall 35 2 (aCons (eVar 9) (aCons (eVar 5) aNil)))) (eVar 9)) aNil))) (sIf (eNot (eCall 32 2 (aCons (eCall 27 3 (aCons (eVar 1) (aCons (eVar 4) (aCons (eVar 5) aNil)))) (aCons (eVar 6) aNil)))) (sRet (eC (.bl false))) sNext)) sNext))) (sSeq (sAsg (tName 7) (eBin fAdd (eC (.int 1)) (eCall 30 2 (aCons (eVar 0) (aCons (eC (.int 64)) aNil))))) (sSeq (sAsg (tName 8) (eLc (iSeq (eVar 2)) (tName 9) [9] (eBin fGt (eBin fIx (eVar 9) (eC (.int 0))) (eC (.int 0))) (eVar 9))) (sSeq (sAsg (tName 6) (eIf (eBin fNe (eVar 8) (eFun fLst aNil)) (eBin fSub (eUn fNeg (eBin fDiv (eBin fMul (eUn fNeg (eBin fIx (eBin fIx (eVar 8) (eC (.int 0))) (eC (.int 0)))) (eVar 7)) (eBin fIx (eBin fIx (eVar 8) (eC (.int 0))) (eC (.int 1))))) (eC (.int 1))) (eC .non))) (sRet (eCall 32 2 (aCons (eCall 28 2 (aCons (eVar 1) (aCons (eVar 7) aNil))) (aCons (eVar 6) aNil))))))))
/-- _law_signs_right: slots 0 cup 1 polynomial 2 low 3 high 4 at 5 many 6 one 7 two 8 wide 9 turned 10 square 11 own 12 turn -/
def b40 : CS := sSeq (sAsg (tName 1) (eBin fAdd (eFun fTuple (aCons (eLc (iRg1 (aCons (eBin fAdd (eC (.int 1)) (eCall 30 2 (aCons (eVar 0) (aCons (eC (.int 5)) aNil)))) aNil)) (tName 12) [12] (eC (.bl true)) (eBin fSub (eCall 30 2 (aCons (eVar 0) (aCons (eC (.int 9)) aNil))) (eC (.int 4)))) aNil)) (eFun fTup (aCons (eBin fAdd (eC (.int 1)) (eCall 30 2 (aCons (eVar 0) (aCons (eC (.int 3)) aNil)))) aNil)))) (sSeq (sPar [2, 3] (aCons (eCall 34 2 (aCons (eUn fNeg (eC (.int 30))) (aCons (eC (.int 1)) aNil))) (aCons (eCall 34 2 (aCons (eUn fNeg (eC (.int 30))) (aCons (eC (.int 1)) aNil))) aNil))) (sSeq (sFor (iRg2 (aCons (eUn fNeg (eC (.int 30))) (aCons (eC (.int 31)) aNil))) (tName 4) (sSeq (sPar [2, 3] (aCons (eVar 3) (aCons (eFun fTup (aCons (eVar 4) (aCons (eC (.int 1)) aNil))) aNil))) (sIf (eBin fNe (eVar 2) (eVar 3)) (sSeq (sPar [5, 6, 7] (aCons (eCall 27 3 (aCons (eVar 1) (aCons (eVar 2) (aCons (eVar 3) aNil)))) (aCons (eCall 36 2 (aCons (eVar 1) (aCons (eVar 2) aNil))) (aCons (eCall 36 2 (aCons (eVar 1) (aCons (eVar 3) aNil))) aNil)))) (sIf (eOr (eAnd (eBin fLt (eBin fMul (eVar 6) (eVar 7)) (eC (.int 0))) (eBin fEq (eVar 5) (eC (.int 0)))) (eAnd (eBin fEq (eVar 7) (eC (.int 0))) (eBin fEq (eVar 5) (eC (.int 0))))) (sRet (eC (.bl false))) sNext)) sNext))) (sSeq (sAsg (tName 8) (eFun fTup (aCons (eFun fTup (aCons (eUn fNeg (eC (.int 31))) (aCons (eC (.int 1)) aNil))) (aCons (eFun fTup (aCons (eC (.int 31)) (aCons (eC (.int 1)) aNil))) aNil)))) (sSeq (sAsg (tName 9) (eFun fTuple (aCons (eLc (iEn (aCons (eVar 1) aNil)) (tTups [4, 11]) [4, 11] (eC (.bl true)) (eIf (eBin fEq (eBin fMod (eFun fInt (aCons (eVar 4) aNil)) (eC (.int 2))) (eC (.int 0))) (eVar 11) (eUn fNeg (eVar 11)))) aNil))) (sSeq (sAsg (tName 10) (eCall 12 2 (aCons (eVar 1) (aCons (eVar 1) aNil)))) (sSeq (sAsg (tName 5) (eCall 27 3 (aCons (eVar 1) (aCons (eBin fIx (eVar 8) (eC (.int 0))) (aCons (eBin fIx (eVar 8) (eC (.int 1))) aNil))))) (sRet (eCall 32 2 (aCons (eFun fLst (aCons (eCall 27 3 (aCons (eVar 10) (aCons (eBin fIx (eVar 8) (eC (.int 0))) (aCons (eBin fIx (eVar 8) (eC (.int 1))) aNil)))) (aCons (eCall 27 3 (aCons (eVar 9) (aCons (eBin fIx (eVar 8) (eC (.int 0))) (aCons (eBin fIx (eVar 8) (eC (.int 1))) aNil)))) aNil))) (aCons (eFun fLst (aCons (eVar 5) (aCons (eVar 5) aNil))) aNil))))))))))
/-- law: slots 0 script 1 cup 2 many 3 polynomial 4 roots 5 told 6 far -/
def b41 : CS := sSeq (sAsg (tName 1) (eCall 29 1 (aCons (eVar 0) aNil))) (sSeq (sFor (iSeq (eFun fTup (aCons (eC (.int 0)) (aCons (eC (.int 1)) (aCons (eC (.int 2)) (aCons (eC (.int 3)) (aCons (eC (.int 4)) aNil))))))) (tName 2) (sSeq (sAsg (tTups [3, 4]) (eCall 37 2 (aCons (eVar 1) (aCons (eVar 2) aNil)))) (sIf (eOr (eNot (eCall 39 3 (aCons (eVar 1) (aCons (eVar 3) (aCons (eVar 4) aNil))))) (eNot (eCall 40 1 (aCons (eVar 1) aNil)))) (sRet (eC (.bl false))) sNext))) (sSeq (sAsg (tName 5) (eFun fLst (aCons (eCall 27 3 (aCons (eFun fTup (aCons (eUn fNeg (eC (.int 2))) (aCons (eC (.int 0)) (aCons (eC (.int 1)) aNil)))) (aCons (eFun fTup (aCons (eC (.int 0)) (aCons (eC (.int 1)) aNil))) (aCons (eFun fTup (aCons (eC (.int 2)) (aCons (eC (.int 1)) aNil))) aNil)))) (aCons (eCall 27 3 (aCons (eFun fTup (aCons (eUn fNeg (eC (.int 2))) (aCons (eC (.int 0)) (aCons (eC (.int 1)) aNil)))) (aCons (eFun fTup (aCons (eUn fNeg (eC (.int 2))) (aCons (eC (.int 1)) aNil))) (aCons (eFun fTup (aCons (eC (.int 2)) (aCons (eC (.int 1)) aNil))) aNil)))) (aCons (eCall 27 3 (aCons (eFun fTup (aCons (eC (.int 1)) (aCons (eUn fNeg (eC (.int 2))) (aCons (eC (.int 1)) aNil)))) (aCons (eFun fTup (aCons (eC (.int 0)) (aCons (eC (.int 1)) aNil))) (aCons (eFun fTup (aCons (eC (.int 1)) (aCons (eC (.int 1)) aNil))) aNil)))) aNil))))) (sSeq (sAsg (tName 5) (eBin fAdd (eVar 5) (eFun fLst (aCons (eCall 27 3 (aCons (eFun fTup (aCons (eC (.int 1)) (aCons (eUn fNeg (eC (.int 2))) (aCons (eC (.int 1)) aNil)))) (aCons (eFun fTup (aCons (eC (.int 1)) (aCons (eC (.int 1)) aNil))) (aCons (eFun fTup (aCons (eC (.int 9)) (aCons (eC (.int 1)) aNil))) aNil)))) (aCons (eCall 28 2 (aCons (eFun fTup (aCons (eC (.int 1)) (aCons (eUn fNeg (eC (.int 1))) (aCons (eUn fNeg (eC (.int 1))) aNil)))) (aCons (eC (.int 8)) aNil))) (aCons (eCall 28 2 (aCons (eFun fTup (aCons (eC (.int 1)) (aCons (eC (.int 0)) (aCons (eC (.int 1)) aNil)))) (aCons (eC (.int 8)) aNil))) aNil)))))) (sSeq (sIf (eNot (eCall 32 2 (aCons (eVar 5) (aCons (eFun fLst (aCons (eC (.int 1)) (aCons (eC (.int 2)) (aCons (eC (.int 1)) (aCons (eC (.int 0)) (aCons (eC (.int 4)) (aCons (eC .non) aNil))))))) aNil)))) (sRet (eC (.bl false))) sNext) (sSeq (sAsg (tName 6) (eBin fAdd (eBin fPow (eC (.int 10)) (eC (.int 30))) (eCall 30 2 (aCons (eVar 1) (aCons (eC (.int 9)) aNil))))) (sSeq (sAsg (tName 5) (eFun fLst (aCons (eCall 28 2 (aCons (eFun fTup (aCons (eUn fNeg (eVar 6)) (aCons (eC (.int 1)) aNil))) (aCons (eC (.int 3)) aNil))) (aCons (eCall 27 3 (aCons (eFun fTup (aCons (eC (.int 5)) aNil)) (aCons (eFun fTup (aCons (eUn fNeg (eC (.int 1))) (aCons (eC (.int 1)) aNil))) (aCons (eFun fTup (aCons (eC (.int 1)) (aCons (eC (.int 1)) aNil))) aNil)))) (aCons (eCall 28 2 (aCons (eFun fTup (aCons (eC (.int 0)) (aCons (eC (.int 0)) (aCons (eC (.int 1)) aNil)))) (aCons (eC (.int 1)) aNil))) (aCons (eCall 28 2 (aCons (eFun fTup (aCons (eC (.int 0)) (aCons (eUn fNeg (eC (.int 1))) (aCons (eC (.int 2)) aNil)))) (aCons (eC (.int 2)) aNil))) aNil)))))) (sRet (eCall 32 2 (aCons (eVar 5) (aCons (eFun fLst (aCons (eBin fSub (eBin fMul (eC (.int 3)) (eVar 6)) (eC (.int 1))) (aCons (eC (.int 0)) (aCons (eC .non) (aCons (eC (.int 0)) aNil))))) aNil))))))))))
def tbl : Nat → Orc
  | 0 => fun _ _ _ => .no
  | n + 1 => fun k ws g => match k with
    | 0 => callS 2 b0 (tbl n) ws g
    | 1 => callS 3 b1 (tbl n) ws g
    | 2 => callS 3 b2 (tbl n) ws g
    | 3 => callS 2 b3 (tbl n) ws g
    | 4 => callS 1 b4 (tbl n) ws g
    | 5 => callS 3 b5 (tbl n) ws g
    | 6 => callS 3 b6 (tbl n) ws g
    | 7 => callS 3 b7 (tbl n) ws g
    | 8 => callS 2 b8 (tbl n) ws g
    | 9 => callS 2 b9 (tbl n) ws g
    | 10 => callS 7 b10 (tbl n) ws g
    | 11 => callS 2 b11 (tbl n) ws g
    | 12 => callS 2 b12 (tbl n) ws g
    | 13 => callS 2 b13 (tbl n) ws g
    | 14 => callS 2 b14 (tbl n) ws g
    | 15 => callS 3 b15 (tbl n) ws g
    | 16 => callS 8 b16 (tbl n) ws g
    | 17 => callS 3 b17 (tbl n) ws g
    | 18 => callS 7 b18 (tbl n) ws g
    | 19 => callS 7 b19 (tbl n) ws g
    | 20 => callS 9 b20 (tbl n) ws g
    | 21 => callS 2 b21 (tbl n) ws g
    | 22 => callS 3 b22 (tbl n) ws g
    | 23 => callS 1 b23 (tbl n) ws g
    | 24 => callS 8 b24 (tbl n) ws g
    | 25 => callS 1 b25 (tbl n) ws g
    | 26 => callS 2 b26 (tbl n) ws g
    | 27 => callS 3 b27 (tbl n) ws g
    | 28 => callS 2 b28 (tbl n) ws g
    | 29 => callS 2 b29 (tbl n) ws g
    | 30 => callS 4 b30 (tbl n) ws g
    | 31 => callS 1 b31 (tbl n) ws g
    | 32 => callS 5 b32 (tbl n) ws g
    | 33 => callS 2 b33 (tbl n) ws g
    | 34 => callS 3 b34 (tbl n) ws g
    | 35 => callS 2 b35 (tbl n) ws g
    | 36 => callS 9 b36 (tbl n) ws g
    | 37 => callS 6 b37 (tbl n) ws g
    | 38 => callS 4 b38 (tbl n) ws g
    | 39 => callS 11 b39 (tbl n) ws g
    | 40 => callS 13 b40 (tbl n) ws g
    | 41 => callS 7 b41 (tbl n) ws g
    | _ => .no
end LK77

set_option Elab.async false
set_option linter.all false
set_option maxRecDepth 100000
set_option maxHeartbeats 4000000
/-! Rules for the evaluator: what a term gives. -/
namespace Ev
open PySem L2
def WR {α : Type} (r : R α) (Q : α → G → Prop) : Prop := match r with
  | .ok a g => Q a g
  | .no => False
def WS (r : RS) (N : Sg → G → Prop) (T : W → G → Prop) : Prop := match r with
  | .nx s g => N s g
  | .rt w g => T w g
  | _ => False
theorem WR.out {α : Type} {r : R α} {Q : α → G → Prop} (h : WR r Q) : ∃ a g, r = .ok a g ∧ Q a g := by
  cases r with
  | no => exact h.elim
  | ok a g => exact ⟨a, g, rfl, h⟩
theorem WR.mono {α : Type} {r : R α} {Q Q' : α → G → Prop} (h : WR r Q) (k : ∀ a g, Q a g → Q' a g) : WR r Q' := by
  obtain ⟨a, g, rfl, h⟩ := h.out
  exact k a g h
theorem WS.mono {r : RS} {N N' : Sg → G → Prop} {T T' : W → G → Prop} (h : WS r N T) (k : ∀ s g, N s g → N' s g) (k' : ∀ w g, T w g → T' w g) : WS r N' T' := by
  cases r with
  | no => exact h.elim
  | nx s g => exact k s g h
  | rt w g => exact k' w g h
  | bk s g => exact h.elim
  | ct s g => exact h.elim
section
variable {α β : Type} {o : Orc} {s : Sg} {g : G} {Q : W → G → Prop} {N : Sg → G → Prop} {T : W → G → Prop}
theorem WR_ok (a : α) (g : G) (Q : α → G → Prop) : WR (.ok a g) Q = Q a g := propext Iff.rfl
theorem WR_bind (r : R α) (k : α → G → R β) (Q : β → G → Prop) : WR (r.bind k) Q = WR r (fun a g => WR (k a g) Q) := by cases r <;> rfl
theorem WS_seq (a b : CS) : WS (sSeq a b o s g) N T = WS (a o s g) (fun s' g' => WS (b o s' g') N T) T := by
  unfold sSeq
  cases a o s g <;> rfl
theorem WS_asg (t : TGT) (c : CE) : WS (sAsg t c o s g) N T = WR (c o s g) (fun w g' => ∃ s', t w s = some s' ∧ N s' g') := by
  unfold sAsg
  cases c o s g with
  | no => rfl
  | ok w g' =>
    show WS (match t w s with | some s' => .nx s' g' | none => .no) N T = (∃ s', t w s = some s' ∧ N s' g')
    cases h : t w s with
    | none => exact propext ⟨fun h => h.elim, fun ⟨_, h, _⟩ => by cases h⟩
    | some s' => exact propext ⟨fun h => ⟨s', rfl, h⟩, fun ⟨_, h, h'⟩ => by cases h; exact h'⟩
theorem WS_asgN (i : Nat) (c : CE) : WS (sAsg (tName i) c o s g) N T = WR (c o s g) (fun w g' => N (stw s i w) g') := by
  rw [WS_asg]
  congr 1
  funext w g'
  exact propext ⟨fun ⟨_, h, h'⟩ => by cases h; exact h', fun h => ⟨_, rfl, h⟩⟩
theorem WS_ret (c : CE) : WS (sRet c o s g) N T = WR (c o s g) T := by
  unfold sRet
  cases c o s g <;> rfl
theorem WS_exp (c : CE) : WS (sExp c o s g) N T = WR (c o s g) (fun _ g' => N s g') := by
  unfold sExp
  cases c o s g <;> rfl
theorem WS_next : WS (sNext o s g) N T = N s g := propext Iff.rfl
theorem WS_no : WS (sNo o s g) N T = False := propext Iff.rfl
theorem WS_par (is : List Nat) (c : CA) : WS (sPar is c o s g) N T = WR (c o s g) (fun ws g' => (ws.length == is.length) = true ∧ N (stws s is ws) g') := by
  unfold sPar
  cases c o s g with
  | no => rfl
  | ok ws g' =>
    show WS (if (ws.length == is.length) = true then .nx (stws s is ws) g' else .no) N T = _
    split
    · rename_i h; exact propext ⟨fun q => ⟨h, q⟩, fun q => q.2⟩
    · rename_i h; exact propext ⟨fun q => q.elim, fun q => absurd q.1 h⟩
theorem WS_if {c : CE} {a b : CS} (v : Bool) {g1 : G} (h : c o s g = .ok (.bl v) g1) (h1 : v = true → WS (a o s g1) N T) (h2 : v = false → WS (b o s g1) N T) : WS (sIf c a b o s g) N T := by
  unfold sIf
  rw [h]
  cases v
  · exact h2 rfl
  · exact h1 rfl
theorem WS_ifR {c : CE} {a b : CS} (h : WR (c o s g) fun w g1 => ∃ v, w = .bl v ∧ (v = true → WS (a o s g1) N T) ∧ (v = false → WS (b o s g1) N T)) : WS (sIf c a b o s g) N T := by
  obtain ⟨w, g1, e, v, rfl, h1, h2⟩ := h.out
  exact WS_if v e h1 h2
theorem WR_callS {n : Nat} {b : CS} {ws : List W} (h : WS (b o (ws.map some ++ List.replicate (n - ws.length) none) g) (fun _ g' => Q .non g') Q) : WR (callS n b o ws g) Q := by
  unfold callS
  cases e : b o (ws.map some ++ List.replicate (n - ws.length) none) g <;> rw [e] at h <;> exact h
theorem WS_while {c : CE} {b : CS} (I : Nat → Sg → G → Prop) (step : ∀ k s g, I k s g → WR (c o s g) (fun w g1 => ∃ v, w = .bl v ∧ (v = false → N s g1) ∧ (v = true → WS (b o s g1) (fun s' g' => ∃ k', k' < k ∧ I k' s' g') T))) :
    ∀ (m k : Nat) (s : Sg) (g : G), I k s g → k < m → WS (whileN c b o m s g) N T := by
  intro m
  induction m with
  | zero => intro k s g _ h; omega
  | succ m ih =>
    intro k s g hi hk
    obtain ⟨w, g1, e, v, rfl, h1, h2⟩ := (step k s g hi).out
    simp only [whileN, e]
    cases v with
    | false => exact h1 rfl
    | true =>
      have h3 := h2 rfl
      show WS (match b o s g1 with | .nx s' g' => whileN c b o m s' g' | .ct s' g' => whileN c b o m s' g' | .bk s' g' => .nx s' g' | .rt w g' => .rt w g' | .no => .no) N T
      cases hb : b o s g1 with
      | nx s' g' =>
        rw [hb] at h3
        obtain ⟨k', hk', hi'⟩ := h3
        exact ih k' s' g' hi' (by omega)
      | rt w g' => rw [hb] at h3; exact h3
      | no => rw [hb] at h3; exact h3.elim
      | bk _ _ => rw [hb] at h3; exact h3.elim
      | ct _ _ => rw [hb] at h3; exact h3.elim
theorem WS_for {it : Itr} {t : TGT} {b : CS} (M : Nat) (I : Nat → Sg → G → Prop)
    (step : ∀ i s g, i < M → I i s g → ∃ w s1, itemI it i g = some w ∧ t w s = some s1 ∧ WS (b o s1 g) (I (i + 1)) T)
    (stop : ∀ s g, I M s g → stopI it M g = true ∧ N s g) :
    ∀ (m i : Nat) (s : Sg) (g : G), i + m = M → I i s g → WS (forN it t b o m i s g) N T := by
  intro m
  induction m with
  | zero =>
    intro i s g h hi
    have : i = M := by omega
    subst this
    obtain ⟨h1, h2⟩ := stop s g hi
    simp only [forN, h1, if_true]
    exact h2
  | succ m ih =>
    intro i s g h hi
    obtain ⟨w, s1, e1, e2, h3⟩ := step i s g (by omega) hi
    simp only [forN, e1, e2]
    cases hb : b o s1 g with
    | nx s' g' =>
      rw [hb] at h3
      exact ih (i + 1) s' g' (by omega) h3
    | rt w g' => rw [hb] at h3; exact h3
    | no => rw [hb] at h3; exact h3.elim
    | bk _ _ => rw [hb] at h3; exact h3.elim
    | ct _ _ => rw [hb] at h3; exact h3.elim
theorem WS_sFor {ci : CI} {t : TGT} {b : CS} : WS (sFor ci t b o s g) N T = WR (ci o s g) (fun it g1 => WS (forN it t b o (cntI it g1) 0 s g1) N T) := by
  unfold sFor
  cases ci o s g <;> rfl
theorem WR_lc {ci : CI} {t : TGT} {vs : List Nat} {test elt : CE} : WR (eLc ci t vs test elt o s g) Q = WR (ci o s g) (fun it g1 => WR (lcLoop it t vs test elt o s g1.length (cntI it g1) 0 (g1 ++ [[]])) Q) := by
  unfold eLc
  exact WR_bind _ _ _
def OW {γ : Type} (x : Option γ) (P : γ → Prop) : Prop := match x with
  | some w => P w
  | none => False
theorem OW_some {γ : Type} (w : γ) (P : γ → Prop) : OW (some w) P = P w := propext Iff.rfl
theorem WR_var (i : Nat) : WR (eVar i o s g) Q = OW (lk s i) fun w => Q w g := by
  unfold eVar OW
  cases lk s i <;> exact propext Iff.rfl
theorem WR_c (w : W) : WR (eC w o s g) Q = Q w g := propext Iff.rfl
theorem WR_bin (f : W → W → G → R W) (a b : CE) : WR (eBin f a b o s g) Q = WR (a o s g) fun x g1 => WR (b o s g1) fun y g2 => WR (f x y g2) Q := by
  unfold eBin
  rw [WR_bind]
  congr 1
  funext x g1
  rw [WR_bind]
theorem WR_un (f : W → G → R W) (a : CE) : WR (eUn f a o s g) Q = WR (a o s g) fun x g1 => WR (f x g1) Q := by
  unfold eUn
  rw [WR_bind]
theorem WA_nil {Q : List W → G → Prop} : WR (aNil o s g) Q = Q [] g := propext Iff.rfl
theorem WA_cons {Q : List W → G → Prop} (a : CE) (r : CA) : WR (aCons a r o s g) Q = WR (a o s g) fun x g1 => WR (r o s g1) fun xs g2 => Q (x :: xs) g2 := by
  unfold aCons
  rw [WR_bind]
  congr 1
  funext x g1
  rw [WR_bind]
  congr 1
theorem WR_fun (f : List W → G → R W) (a : CA) : WR (eFun f a o s g) Q = WR (a o s g) fun xs g1 => WR (f xs g1) Q := by
  unfold eFun
  rw [WR_bind]
theorem WR_call (k n : Nat) (a : CA) : WR (eCall k n a o s g) Q = WR (a o s g) fun xs g1 => (xs.length == n) = true ∧ WR (o k xs g1) Q := by
  unfold eCall
  rw [WR_bind]
  congr 1
  funext xs g1
  split
  · rename_i h; exact propext ⟨fun q => ⟨h, q⟩, fun q => q.2⟩
  · rename_i h; exact propext ⟨fun q => q.elim, fun q => absurd q.1 h⟩
def BW (w : W) (P : Bool → Prop) : Prop := match w with
  | .bl b => P b
  | _ => False
theorem BW_bl (b : Bool) (P : Bool → Prop) : BW (.bl b) P = P b := propext Iff.rfl
theorem WR_and (a b : CE) : WR (eAnd a b o s g) Q = WR (a o s g) fun x g1 => BW x fun v => (v = false → Q (.bl false) g1) ∧ (v = true → WR (b o s g1) Q) := by
  unfold eAnd
  rw [WR_bind]
  congr 1
  funext x g1
  unfold BW
  cases x with
  | bl v => cases v <;> exact propext ⟨fun h => by simp; exact h, fun h => by simp at h; exact h⟩
  | _ => exact propext Iff.rfl
theorem WR_or (a b : CE) : WR (eOr a b o s g) Q = WR (a o s g) fun x g1 => BW x fun v => (v = true → Q (.bl true) g1) ∧ (v = false → WR (b o s g1) Q) := by
  unfold eOr
  rw [WR_bind]
  congr 1
  funext x g1
  unfold BW
  cases x with
  | bl v => cases v <;> exact propext ⟨fun h => by simp; exact h, fun h => by simp at h; exact h⟩
  | _ => exact propext Iff.rfl
theorem WR_not (a : CE) : WR (eNot a o s g) Q = WR (a o s g) fun x g1 => BW x fun v => Q (.bl (!v)) g1 := by
  unfold eNot
  rw [WR_bind]
  congr 1
  funext x g1
  unfold BW
  cases x <;> exact propext Iff.rfl
theorem WR_if (c a b : CE) : WR (eIf c a b o s g) Q = WR (c o s g) fun x g1 => BW x fun v => (v = true → WR (a o s g1) Q) ∧ (v = false → WR (b o s g1) Q) := by
  unfold eIf
  rw [WR_bind]
  congr 1
  funext x g1
  unfold BW
  cases x with
  | bl v => cases v <;> exact propext ⟨fun h => by simp; exact h, fun h => by simp at h; exact h⟩
  | _ => exact propext Iff.rfl
theorem WS_sif (c : CE) (a b : CS) : WS (sIf c a b o s g) N T = WR (c o s g) fun x g1 => BW x fun v => (v = true → WS (a o s g1) N T) ∧ (v = false → WS (b o s g1) N T) := by
  unfold sIf
  cases c o s g with
  | no => exact propext Iff.rfl
  | ok x g1 =>
    rw [WR_ok]
    unfold BW
    cases x with
    | bl v => cases v <;> exact propext ⟨fun h => by simp; exact h, fun h => by simp at h; exact h⟩
    | _ => exact propext Iff.rfl
theorem WR_chain (f f' : W → W → G → R W) (a b c : CE) : WR (eChain f f' a b c o s g) Q = WR (a o s g) fun x g1 => WR (b o s g1) fun y g2 => WR (f x y g2) fun z g3 => BW z fun v => (v = false → Q (.bl false) g3) ∧ (v = true → WR (c o s g3) fun w g4 => WR (f' y w g4) Q) := by
  unfold eChain
  rw [WR_bind]
  congr 1
  funext x g1
  rw [WR_bind]
  congr 1
  funext y g2
  rw [WR_bind]
  congr 1
  funext z g3
  unfold BW
  cases z with
  | bl v =>
    cases v with
    | false => exact propext ⟨fun h => by simp; exact h, fun h => by simp at h; exact h⟩
    | true => rw [WR_bind]; exact propext ⟨fun h => by simp; exact h, fun h => by simp at h; exact h⟩
  | _ => exact propext Iff.rfl
theorem WR_isn (a : CE) : WR (eIsN a o s g) Q = WR (a o s g) fun x g1 => Q (.bl (isNon x)) g1 := by
  unfold eIsN
  rw [WR_bind]
  congr 1
theorem WR_isi (t : Ty) (a : CE) : WR (eIsi t a o s g) Q = WR (a o s g) fun x g1 => Q (.bl (isi t x)) g1 := by
  unfold eIsi
  rw [WR_bind]
  congr 1
theorem WR_iteT {c : Prop} [Decidable c] (r : R α) {Q : α → G → Prop} : WR (if c then r else .no) Q = (c ∧ WR r Q) := by
  split
  · rename_i h; exact propext ⟨fun q => ⟨h, q⟩, fun q => q.2⟩
  · rename_i h; exact propext ⟨fun q => q.elim, fun q => absurd q.1 h⟩
theorem WR_seqI {Q : Itr → G → Prop} (a : CE) : WR (iSeq a o s g) Q = WR (a o s g) fun x g1 => match x with
    | .ref n => Q (.lst n) g1
    | .tup ws => Q (.fix ws) g1
    | _ => False := by
  unfold iSeq
  rw [WR_bind]
  congr 1
  funext x g1
  cases x <;> exact propext Iff.rfl
theorem WR_enI {Q : Itr → G → Prop} (a : CA) : WR (iEn a o s g) Q = WR (a o s g) fun xs g1 => match xs with
    | [.ref n] => Q (.enl n) g1
    | [.tup ws] => Q (.enf ws) g1
    | _ => False := by
  unfold iEn
  rw [WR_bind]
  congr 1
  funext xs g1
  match xs with
  | [.ref n] => exact propext Iff.rfl
  | [.tup ws] => exact propext Iff.rfl
  | [] => exact propext Iff.rfl
  | [.non] => exact propext Iff.rfl
  | [.bl _] => exact propext Iff.rfl
  | [.int _] => exact propext Iff.rfl
  | [.rol _] => exact propext Iff.rfl
  | .non :: _ :: _ => exact propext Iff.rfl
  | .bl _ :: _ :: _ => exact propext Iff.rfl
  | .int _ :: _ :: _ => exact propext Iff.rfl
  | .rol _ :: _ :: _ => exact propext Iff.rfl
  | .ref _ :: _ :: _ => exact propext Iff.rfl
  | .tup _ :: _ :: _ => exact propext Iff.rfl
theorem WR_app {a : CE} {as : CA} : WR (eApp a as o s g) Q = WR (a o s g) fun x g1 => WR (as o s g1) fun ys g2 => ∃ n y xs, x = .ref n ∧ ys = [y] ∧ g2[n]? = some xs ∧ szOk (xs.length + 1) = true ∧ Q .non (g2.set n (xs ++ [y])) := by
  unfold eApp
  rw [WR_bind]
  congr 1
  funext x g1
  rw [WR_bind]
  congr 1
  funext ys g2
  refine propext ⟨fun h => ?_, fun ⟨n, y, xs, e1, e2, e3, e4, h⟩ => ?_⟩
  · split at h
    · split at h
      · split at h
        · exact ⟨_, _, _, rfl, rfl, by assumption, by assumption, h⟩
        · exact h.elim
      · exact h.elim
    · exact h.elim
  · subst e1 e2
    simp only [e3, e4, if_true]
    exact h
theorem WR_pop {a : CE} : WR (ePop a o s g) Q = WR (a o s g) fun x g1 => ∃ n y xs, x = .ref n ∧ g1[n]? = some xs ∧ lastW xs = some y ∧ Q y (g1.set n xs.dropLast) := by
  unfold ePop
  rw [WR_bind]
  congr 1
  funext x g1
  refine propext ⟨fun h => ?_, fun ⟨n, y, xs, e1, e2, e3, h⟩ => ?_⟩
  · split at h
    · split at h
      · split at h
        · exact ⟨_, _, _, rfl, by assumption, by assumption, h⟩
        · exact h.elim
      · exact h.elim
    · exact h.elim
  · subst e1
    simp only [e2, e3]
    exact h
theorem WS_set {a i v : CE} : WS (sSet a i v o s g) N T = WR (v o s g) fun y g1 => WR (a o s g1) fun x g2 => WR (i o s g2) fun k g3 => ∃ n kk xs j, x = .ref n ∧ k = .int kk ∧ g3[n]? = some xs ∧ ixN xs.length kk = some j ∧ N s (g3.set n (xs.set j y)) := by
  have e0 : sSet a i v o s g = match v o s g with
      | .ok y g1 => match a o s g1 with
        | .ok x g2 => match i o s g2 with
          | .ok k g3 => match x, k with
            | .ref n, .int k => match g3[n]? with
              | some xs => match ixN xs.length k with
                | some j => .nx s (g3.set n (xs.set j y))
                | none => .no
              | none => .no
            | _, _ => .no
          | .no => .no
        | .no => .no
      | .no => .no := rfl
  rw [e0]
  cases v o s g with
  | no => exact propext ⟨fun h => h.elim, fun h => h.elim⟩
  | ok y g1 =>
    rw [WR_ok]
    dsimp only
    cases a o s g1 with
    | no => exact propext ⟨fun h => h.elim, fun h => h.elim⟩
    | ok x g2 =>
      rw [WR_ok]
      dsimp only
      cases i o s g2 with
      | no => exact propext ⟨fun h => h.elim, fun h => h.elim⟩
      | ok k g3 =>
        rw [WR_ok]
        dsimp only
        refine propext ⟨fun h => ?_, fun ⟨n, kk, xs, j, e1, e2, e3, e4, h⟩ => ?_⟩
        · split at h
          · split at h
            · split at h
              · exact ⟨_, _, _, _, rfl, rfl, by assumption, by assumption, h⟩
              · exact h.elim
            · exact h.elim
          · exact h.elim
        · subst e1 e2
          simp only [e3, e4]
          exact h
theorem WS_asgT (is : List Nat) (c : CE) : WS (sAsg (tTups is) c o s g) N T = WR (c o s g) (fun w g' => ∃ ws, w = .tup ws ∧ (ws.length == is.length) = true ∧ N (stws s is ws) g') := by
  rw [WS_asg]
  congr 1
  funext w g'
  refine propext ⟨fun ⟨s', h, h'⟩ => ?_, fun ⟨ws, e1, e2, h⟩ => ?_⟩
  · unfold tTups at h
    split at h
    · split at h
      · rename_i h1; cases h; exact ⟨_, rfl, h1, h'⟩
      · cases h
    · cases h
  · subst e1
    exact ⟨_, by simp only [tTups, e2, if_true], h⟩
/-- a comprehension, each turn by itself -/
theorem lc_rule {it : Itr} {t : TGT} {vs : List Nat} {test elt : CE} {Dn : Nat} (M : Nat) (I : Nat → List W → G → Prop)
    (step : ∀ i acc g, i < M → g[Dn]? = some acc → I i acc g → ∃ w s2, itemI it i g = some w ∧ t w (wipew s vs) = some s2 ∧ WR (test o s2 g) (fun b g1 => ∃ v, b = .bl v ∧ g1[Dn]? = some acc ∧
      (v = false → I (i + 1) acc g1) ∧ (v = true → WR (elt o s2 g1) fun y g2 => g2[Dn]? = some acc ∧ szOk (acc.length + 1) = true ∧ I (i + 1) (acc ++ [y]) (g2.set Dn (acc ++ [y])))))
    (stop : ∀ acc g, g[Dn]? = some acc → I M acc g → stopI it M g = true ∧ Q (.ref Dn) g) :
    ∀ (m i : Nat) (acc : List W) (g : G), i + m = M → g[Dn]? = some acc → I i acc g → WR (lcLoop it t vs test elt o s Dn m i g) Q := by
  intro m
  induction m with
  | zero =>
    intro i acc g h hd hi
    have : i = M := by omega
    subst this
    obtain ⟨h1, h2⟩ := stop acc g hd hi
    simp only [lcLoop, h1, if_true]
    exact h2
  | succ m ih =>
    intro i acc g h hd hi
    obtain ⟨w, s2, e1, e2, h3⟩ := step i acc g (by omega) hd hi
    obtain ⟨b, g1, e3, v, rfl, hd1, h4, h5⟩ := h3.out
    cases v with
    | false =>
      simp only [lcLoop, e1, e2, e3]
      exact ih (i + 1) acc g1 (by omega) hd1 (h4 rfl)
    | true =>
      obtain ⟨y, g2, e4, hd2, hz, hi2⟩ := (h5 rfl).out
      simp only [lcLoop, e1, e2, e3, e4, hd2, hz, if_true]
      refine ih (i + 1) (acc ++ [y]) _ (by omega) ?_ hi2
      have := (List.getElem?_eq_some_iff.mp hd2).1
      simp [List.getElem?_set, this]
theorem filterMap_take_succ {α β : Type} (f : α → Option β) (l : List α) (i : Nat) (x : α) (h : l[i]? = some x) : (l.take (i + 1)).filterMap f = (l.take i).filterMap f ++ (f x).toList := by
  rw [List.take_add_one, h, List.filterMap_append]
  cases e : f x <;> simp [e]
/-- a comprehension that leaves the heap alone -/
theorem lc_pure {it : Itr} {t : TGT} {vs : List Nat} {test elt : CE} (zs : List (Option W)) (hl : zs.length ≤ 1000000)
    (hm : cntI it g = zs.length) (hst : ∀ acc, stopI it zs.length (g ++ [acc]) = true)
    (step : ∀ i z acc, zs[i]? = some z → ∃ w s2, itemI it i (g ++ [acc]) = some w ∧ t w (wipew s vs) = some s2 ∧
      ((z = none ∧ test o s2 (g ++ [acc]) = .ok (.bl false) (g ++ [acc])) ∨ ∃ y, z = some y ∧ test o s2 (g ++ [acc]) = .ok (.bl true) (g ++ [acc]) ∧ elt o s2 (g ++ [acc]) = .ok y (g ++ [acc]))) :
    lcLoop it t vs test elt o s g.length (cntI it g) 0 (g ++ [[]]) = .ok (.ref g.length) (g ++ [zs.filterMap id]) := by
  rw [hm]
  have h := lc_rule (o := o) (s := s) (it := it) (t := t) (vs := vs) (test := test) (elt := elt) (Dn := g.length) (Q := fun w g' => w = .ref g.length ∧ g' = g ++ [zs.filterMap id]) zs.length (fun i acc g' => g' = g ++ [acc] ∧ acc = (zs.take i).filterMap id)
    (fun i acc g' hi hd ⟨e1, e2⟩ => by
      subst e1
      obtain ⟨w, s2, h1, h2, h3⟩ := step i zs[i] acc (List.getElem?_eq_getElem hi)
      have hf := filterMap_take_succ id zs i zs[i] (List.getElem?_eq_getElem hi)
      refine ⟨w, s2, h1, h2, ?_⟩
      rcases h3 with ⟨hz, h4⟩ | ⟨y, hz, h4, h5⟩
      · rw [h4]
        exact ⟨false, rfl, hd, fun _ => ⟨rfl, by rw [hf, hz, e2]; simp⟩, fun h => by cases h⟩
      · rw [h4]
        refine ⟨true, rfl, hd, (fun h => Bool.noConfusion h), fun _ => ?_⟩
        rw [h5]
        refine ⟨hd, ?_, ?_, ?_⟩
        · have h6 : acc.length ≤ (zs.take i).length := by rw [e2]; exact List.length_filterMap_le _ _
          rw [List.length_take] at h6
          unfold szOk
          exact Nat.ble_eq_true_of_le (by omega)
        · simp
        · rw [hf, hz, e2]; simp)
    (fun acc g' hd ⟨e1, e2⟩ => by
      subst e1
      refine ⟨hst acc, rfl, ?_⟩
      rw [e2, List.take_length]) zs.length 0 [] (g ++ [[]]) (by omega) (by simp) ⟨rfl, by simp⟩
  obtain ⟨w, g', e, rfl, rfl⟩ := h.out
  exact e
end
theorem R_ok_bind {α β : Type} (a : α) (g : G) (k : α → G → R β) : (R.ok a g).bind k = k a g := rfl
theorem fuel_ge : ∀ s : Sg, 1000000000 ≤ fuelS s
  | [] => Nat.le_refl _
  | none :: r => fuel_ge r
  | some (.int i) :: r => Nat.le_trans (fuel_ge r) (Nat.le_add_left _ _)
  | some .non :: r => fuel_ge r
  | some (.bl _) :: r => fuel_ge r
  | some (.tup _) :: r => fuel_ge r
  | some (.rol _) :: r => fuel_ge r
  | some (.ref _) :: r => fuel_ge r
theorem fuel_mem : ∀ (s : Sg) (i : Int), some (.int i) ∈ s → i.natAbs < fuelS s
  | [], i, h => by cases h
  | x :: r, i, h => by
    rcases List.mem_cons.mp h with rfl | h
    · have := fuel_ge r
      show i.natAbs < i.natAbs + fuelS r
      omega
    · have h1 := fuel_mem r i h
      cases x with
      | none => exact h1
      | some w =>
        cases w with
        | int j => exact Nat.lt_of_lt_of_le h1 (Nat.le_add_left _ _)
        | _ => exact h1
theorem fuel_memN (s : Sg) (n : Nat) (h : some (.int (n : Int)) ∈ s) : n < fuelS s := by
  have := fuel_mem s (n : Int) h
  rwa [Int.natAbs_natCast] at this
theorem WS_sWhile {o : Orc} {s : Sg} {g : G} {N : Sg → G → Prop} {T : W → G → Prop} {c : CE} {b : CS} (I : Nat → Sg → G → Prop) (k : Nat) (hk : k < fuelS s) (hI : I k s g)
    (step : ∀ k s g, I k s g → WR (c o s g) (fun w g1 => ∃ v, w = .bl v ∧ (v = false → N s g1) ∧ (v = true → WS (b o s g1) (fun s' g' => ∃ k', k' < k ∧ I k' s' g') T))) : WS (sWhile c b o s g) N T := by
  unfold sWhile
  exact WS_while I step (fuelS s) k s g hI hk
/-! heaps that grow -/
theorem pre_lk {g g' : G} (h : g <+: g') {n : Nat} {xs : List W} (e : g[n]? = some xs) : g'[n]? = some xs := by
  obtain ⟨t, rfl⟩ := h
  obtain ⟨hn, _⟩ := List.getElem?_eq_some_iff.mp e
  rw [List.getElem?_append_left hn]
  exact e
theorem pre_set {g g' : G} (h : g <+: g') {n : Nat} (hn : g.length ≤ n) (xs : List W) : g <+: g'.set n xs := by
  obtain ⟨t, rfl⟩ := h
  rw [List.set_append_right _ _ hn]
  exact List.prefix_append _ _
theorem pre_app {g g' : G} (h : g <+: g') (e : G) : g <+: g' ++ e := h.trans (List.prefix_append _ _)
theorem lk_len {g : G} {n : Nat} {xs : List W} (h : g[n]? = some xs) : n < g.length := (List.getElem?_eq_some_iff.mp h).1
def iw (xs : List Int) : List W := xs.map .int
theorem iw_len (xs : List Int) : (iw xs).length = xs.length := by simp [iw]
theorem iw_get (xs : List Int) (i : Nat) : (iw xs)[i]? = (xs[i]?).map .int := by simp [iw]
theorem at_get (xs : List Int) (i : Nat) : at? (iw xs) i = (xs[i]?).map .int := by rw [at?_eq, iw_get]
end Ev

set_option Elab.async false
set_option linter.all false
set_option maxRecDepth 100000
namespace LK77
open Ev
theorem tbl_0 (n : Nat) (ws : List W) (g : G) : tbl (n + 1) 0 ws g = callS 2 b0 (tbl n) ws g := rfl
theorem tbl_1 (n : Nat) (ws : List W) (g : G) : tbl (n + 1) 1 ws g = callS 3 b1 (tbl n) ws g := rfl
theorem tbl_2 (n : Nat) (ws : List W) (g : G) : tbl (n + 1) 2 ws g = callS 3 b2 (tbl n) ws g := rfl
theorem tbl_3 (n : Nat) (ws : List W) (g : G) : tbl (n + 1) 3 ws g = callS 2 b3 (tbl n) ws g := rfl
theorem tbl_4 (n : Nat) (ws : List W) (g : G) : tbl (n + 1) 4 ws g = callS 1 b4 (tbl n) ws g := rfl
theorem tbl_5 (n : Nat) (ws : List W) (g : G) : tbl (n + 1) 5 ws g = callS 3 b5 (tbl n) ws g := rfl
theorem tbl_6 (n : Nat) (ws : List W) (g : G) : tbl (n + 1) 6 ws g = callS 3 b6 (tbl n) ws g := rfl
theorem tbl_7 (n : Nat) (ws : List W) (g : G) : tbl (n + 1) 7 ws g = callS 3 b7 (tbl n) ws g := rfl
theorem tbl_8 (n : Nat) (ws : List W) (g : G) : tbl (n + 1) 8 ws g = callS 2 b8 (tbl n) ws g := rfl
theorem tbl_9 (n : Nat) (ws : List W) (g : G) : tbl (n + 1) 9 ws g = callS 2 b9 (tbl n) ws g := rfl
theorem tbl_10 (n : Nat) (ws : List W) (g : G) : tbl (n + 1) 10 ws g = callS 7 b10 (tbl n) ws g := rfl
theorem tbl_11 (n : Nat) (ws : List W) (g : G) : tbl (n + 1) 11 ws g = callS 2 b11 (tbl n) ws g := rfl
theorem tbl_12 (n : Nat) (ws : List W) (g : G) : tbl (n + 1) 12 ws g = callS 2 b12 (tbl n) ws g := rfl
theorem tbl_13 (n : Nat) (ws : List W) (g : G) : tbl (n + 1) 13 ws g = callS 2 b13 (tbl n) ws g := rfl
theorem tbl_14 (n : Nat) (ws : List W) (g : G) : tbl (n + 1) 14 ws g = callS 2 b14 (tbl n) ws g := rfl
theorem tbl_15 (n : Nat) (ws : List W) (g : G) : tbl (n + 1) 15 ws g = callS 3 b15 (tbl n) ws g := rfl
theorem tbl_16 (n : Nat) (ws : List W) (g : G) : tbl (n + 1) 16 ws g = callS 8 b16 (tbl n) ws g := rfl
theorem tbl_17 (n : Nat) (ws : List W) (g : G) : tbl (n + 1) 17 ws g = callS 3 b17 (tbl n) ws g := rfl
theorem tbl_18 (n : Nat) (ws : List W) (g : G) : tbl (n + 1) 18 ws g = callS 7 b18 (tbl n) ws g := rfl
theorem tbl_19 (n : Nat) (ws : List W) (g : G) : tbl (n + 1) 19 ws g = callS 7 b19 (tbl n) ws g := rfl
theorem tbl_20 (n : Nat) (ws : List W) (g : G) : tbl (n + 1) 20 ws g = callS 9 b20 (tbl n) ws g := rfl
theorem tbl_21 (n : Nat) (ws : List W) (g : G) : tbl (n + 1) 21 ws g = callS 2 b21 (tbl n) ws g := rfl
theorem tbl_22 (n : Nat) (ws : List W) (g : G) : tbl (n + 1) 22 ws g = callS 3 b22 (tbl n) ws g := rfl
theorem tbl_23 (n : Nat) (ws : List W) (g : G) : tbl (n + 1) 23 ws g = callS 1 b23 (tbl n) ws g := rfl
theorem tbl_24 (n : Nat) (ws : List W) (g : G) : tbl (n + 1) 24 ws g = callS 8 b24 (tbl n) ws g := rfl
theorem tbl_25 (n : Nat) (ws : List W) (g : G) : tbl (n + 1) 25 ws g = callS 1 b25 (tbl n) ws g := rfl
theorem tbl_26 (n : Nat) (ws : List W) (g : G) : tbl (n + 1) 26 ws g = callS 2 b26 (tbl n) ws g := rfl
theorem tbl_27 (n : Nat) (ws : List W) (g : G) : tbl (n + 1) 27 ws g = callS 3 b27 (tbl n) ws g := rfl
theorem tbl_28 (n : Nat) (ws : List W) (g : G) : tbl (n + 1) 28 ws g = callS 2 b28 (tbl n) ws g := rfl
theorem tbl_29 (n : Nat) (ws : List W) (g : G) : tbl (n + 1) 29 ws g = callS 2 b29 (tbl n) ws g := rfl
theorem tbl_30 (n : Nat) (ws : List W) (g : G) : tbl (n + 1) 30 ws g = callS 4 b30 (tbl n) ws g := rfl
theorem tbl_31 (n : Nat) (ws : List W) (g : G) : tbl (n + 1) 31 ws g = callS 1 b31 (tbl n) ws g := rfl
theorem tbl_32 (n : Nat) (ws : List W) (g : G) : tbl (n + 1) 32 ws g = callS 5 b32 (tbl n) ws g := rfl
theorem tbl_33 (n : Nat) (ws : List W) (g : G) : tbl (n + 1) 33 ws g = callS 2 b33 (tbl n) ws g := rfl
theorem tbl_34 (n : Nat) (ws : List W) (g : G) : tbl (n + 1) 34 ws g = callS 3 b34 (tbl n) ws g := rfl
theorem tbl_35 (n : Nat) (ws : List W) (g : G) : tbl (n + 1) 35 ws g = callS 2 b35 (tbl n) ws g := rfl
theorem tbl_36 (n : Nat) (ws : List W) (g : G) : tbl (n + 1) 36 ws g = callS 9 b36 (tbl n) ws g := rfl
theorem tbl_37 (n : Nat) (ws : List W) (g : G) : tbl (n + 1) 37 ws g = callS 6 b37 (tbl n) ws g := rfl
theorem tbl_38 (n : Nat) (ws : List W) (g : G) : tbl (n + 1) 38 ws g = callS 4 b38 (tbl n) ws g := rfl
theorem tbl_39 (n : Nat) (ws : List W) (g : G) : tbl (n + 1) 39 ws g = callS 11 b39 (tbl n) ws g := rfl
theorem tbl_40 (n : Nat) (ws : List W) (g : G) : tbl (n + 1) 40 ws g = callS 13 b40 (tbl n) ws g := rfl
theorem tbl_41 (n : Nat) (ws : List W) (g : G) : tbl (n + 1) 41 ws g = callS 7 b41 (tbl n) ws g := rfl
end LK77

set_option Elab.async false
set_option linter.all false
set_option maxRecDepth 100000
set_option maxHeartbeats 4000000
namespace LK77
open PySem L2 Ev Sm
theorem absI (a : Int) : (if a < 0 then -a else a) = (a.natAbs : Int) := by split <;> omega
theorem fmodI {x y : Int} (hx : 0 ≤ x) (hy : 0 < y) : x.fmod y = ((x.toNat % y.toNat : Nat) : Int) := by
  rw [Int.fmod_eq_emod_of_nonneg _ (by omega), Int.natCast_emod]
  congr 1 <;> omega
theorem C0 (n : Nat) (a b : Int) (g : G) : tbl (n + 1) 0 [.int a, .int b] g = .ok (.int (Int.gcd a b)) g := by
  have h : WR (tbl (n + 1) 0 [.int a, .int b] g) (fun w g' => w = .int (Int.gcd a b) ∧ g' = g) := by
    rw [tbl_0]
    refine WR_callS ?_
    simp only [b0, WR_ok, OW_some, BW_bl, WS_seq, WS_asgN, WS_asgT, WS_ret, WS_exp, WS_next, WS_no, WS_par, WS_sFor, WS_sif, WS_set, WR_lc, WR_var, WR_c, WR_bin, WR_un, WA_nil, WA_cons, WR_fun, WR_call, WR_and, WR_or, WR_not, WR_if, WR_chain, WR_isn, WR_isi, WR_iteT, WR_seqI, WR_enI, WR_app, WR_pop, lk, stw, stws, wipew, stn, List.map_cons, List.map_nil, List.length_cons, List.length_nil, List.cons_append, List.nil_append, List.replicate, Nat.reduceAdd, Nat.reduceSub, Nat.reduceLeDiff, Nat.reduceEqDiff, BEq.rfl, beq_self_eq_true, if_true, true_and, and_true, forall_const, Bool.false_eq_true, Bool.true_eq_false, reduceCtorEq, false_implies, true_implies, W.ref.injEq, W.int.injEq, W.tup.injEq, W.bl.injEq, List.cons.injEq, Option.some.injEq, exists_eq_left', exists_eq_left, exists_and_left, exists_eq', exists_const, fAbs, absI]
    refine WS_sWhile (fun k s g' => g' = g ∧ ∃ x : Nat, s = [some (.int x), some (.int k)] ∧ Nat.gcd x k = Int.gcd a b) b.natAbs (fuel_memN _ _ (by simp)) ⟨rfl, a.natAbs, rfl, rfl⟩ (fun k s g' ⟨hg, x, hs, hgcd⟩ => ?_)
    subst hg hs
    simp only [WR_ok, OW_some, BW_bl, WS_seq, WS_asgN, WS_asgT, WS_ret, WS_exp, WS_next, WS_no, WS_par, WS_sFor, WS_sif, WS_set, WR_lc, WR_var, WR_c, WR_bin, WR_un, WA_nil, WA_cons, WR_fun, WR_call, WR_and, WR_or, WR_not, WR_if, WR_chain, WR_isn, WR_isi, WR_iteT, WR_seqI, WR_enI, WR_app, WR_pop, lk, stw, stws, wipew, stn, List.map_cons, List.map_nil, List.length_cons, List.length_nil, List.cons_append, List.nil_append, List.replicate, Nat.reduceAdd, Nat.reduceSub, Nat.reduceLeDiff, Nat.reduceEqDiff, BEq.rfl, beq_self_eq_true, if_true, true_and, and_true, forall_const, Bool.false_eq_true, Bool.true_eq_false, reduceCtorEq, false_implies, true_implies, W.ref.injEq, W.int.injEq, W.tup.injEq, W.bl.injEq, List.cons.injEq, Option.some.injEq, exists_eq_left', exists_eq_left, exists_and_left, exists_eq', exists_const, fNe]
    refine ⟨fun h => ?_, fun h => ?_⟩
    · have h0 : (k : Int) = 0 := by simpa using h
      have h1 : k = 0 := by omega
      subst h1
      simp only [← hgcd, Nat.gcd_zero_right]
    · have h0 : ¬ (k : Int) = 0 := by simpa using h
      have h1 : ((k : Int) != 0) = true := by simpa using h0
      simp only [WR_ok, OW_some, BW_bl, WS_seq, WS_asgN, WS_asgT, WS_ret, WS_exp, WS_next, WS_no, WS_par, WS_sFor, WS_sif, WS_set, WR_lc, WR_var, WR_c, WR_bin, WR_un, WA_nil, WA_cons, WR_fun, WR_call, WR_and, WR_or, WR_not, WR_if, WR_chain, WR_isn, WR_isi, WR_iteT, WR_seqI, WR_enI, WR_app, WR_pop, lk, stw, stws, wipew, stn, List.map_cons, List.map_nil, List.length_cons, List.length_nil, List.cons_append, List.nil_append, List.replicate, Nat.reduceAdd, Nat.reduceSub, Nat.reduceLeDiff, Nat.reduceEqDiff, BEq.rfl, beq_self_eq_true, if_true, true_and, and_true, forall_const, Bool.false_eq_true, Bool.true_eq_false, reduceCtorEq, false_implies, true_implies, W.ref.injEq, W.int.injEq, W.tup.injEq, W.bl.injEq, List.cons.injEq, Option.some.injEq, exists_eq_left', exists_eq_left, exists_and_left, exists_eq', exists_const, fMod, h1]
      rw [fmodI (by omega) (by omega)]
      exact ⟨x % k, Nat.mod_lt _ (by omega), k, ⟨rfl, rfl⟩, by rw [Nat.gcd_comm, ← Nat.gcd_rec, Nat.gcd_comm]; exact hgcd⟩
  obtain ⟨w, g', e, rfl, rfl⟩ := h.out
  exact e
theorem C33 (n : Nat) (a b : Int) (g : G) : tbl (n + 1) 33 [.int a, .int b] g = .ok (.int (Int.gcd a b)) g := by
  have h : WR (tbl (n + 1) 33 [.int a, .int b] g) (fun w g' => w = .int (Int.gcd a b) ∧ g' = g) := by
    rw [tbl_33]
    refine WR_callS ?_
    simp only [b33, WR_ok, OW_some, BW_bl, WS_seq, WS_asgN, WS_asgT, WS_ret, WS_exp, WS_next, WS_no, WS_par, WS_sFor, WS_sif, WS_set, WR_lc, WR_var, WR_c, WR_bin, WR_un, WA_nil, WA_cons, WR_fun, WR_call, WR_and, WR_or, WR_not, WR_if, WR_chain, WR_isn, WR_isi, WR_iteT, WR_seqI, WR_enI, WR_app, WR_pop, lk, stw, stws, wipew, stn, List.map_cons, List.map_nil, List.length_cons, List.length_nil, List.cons_append, List.nil_append, List.replicate, Nat.reduceAdd, Nat.reduceSub, Nat.reduceLeDiff, Nat.reduceEqDiff, BEq.rfl, beq_self_eq_true, if_true, true_and, and_true, forall_const, Bool.false_eq_true, Bool.true_eq_false, reduceCtorEq, false_implies, true_implies, W.ref.injEq, W.int.injEq, W.tup.injEq, W.bl.injEq, List.cons.injEq, Option.some.injEq, exists_eq_left', exists_eq_left, exists_and_left, exists_eq', exists_const, fAbs, absI]
    refine WS_sWhile (fun k s g' => g' = g ∧ ∃ x : Nat, s = [some (.int x), some (.int k)] ∧ Nat.gcd x k = Int.gcd a b) b.natAbs (fuel_memN _ _ (by simp)) ⟨rfl, a.natAbs, rfl, rfl⟩ (fun k s g' ⟨hg, x, hs, hgcd⟩ => ?_)
    subst hg hs
    simp only [WR_ok, OW_some, BW_bl, WS_seq, WS_asgN, WS_asgT, WS_ret, WS_exp, WS_next, WS_no, WS_par, WS_sFor, WS_sif, WS_set, WR_lc, WR_var, WR_c, WR_bin, WR_un, WA_nil, WA_cons, WR_fun, WR_call, WR_and, WR_or, WR_not, WR_if, WR_chain, WR_isn, WR_isi, WR_iteT, WR_seqI, WR_enI, WR_app, WR_pop, lk, stw, stws, wipew, stn, List.map_cons, List.map_nil, List.length_cons, List.length_nil, List.cons_append, List.nil_append, List.replicate, Nat.reduceAdd, Nat.reduceSub, Nat.reduceLeDiff, Nat.reduceEqDiff, BEq.rfl, beq_self_eq_true, if_true, true_and, and_true, forall_const, Bool.false_eq_true, Bool.true_eq_false, reduceCtorEq, false_implies, true_implies, W.ref.injEq, W.int.injEq, W.tup.injEq, W.bl.injEq, List.cons.injEq, Option.some.injEq, exists_eq_left', exists_eq_left, exists_and_left, exists_eq', exists_const, fNe]
    refine ⟨fun h => ?_, fun h => ?_⟩
    · have h0 : (k : Int) = 0 := by simpa using h
      have h1 : k = 0 := by omega
      subst h1
      simp only [← hgcd, Nat.gcd_zero_right]
    · have h0 : ¬ (k : Int) = 0 := by simpa using h
      have h1 : ((k : Int) != 0) = true := by simpa using h0
      simp only [WR_ok, OW_some, BW_bl, WS_seq, WS_asgN, WS_asgT, WS_ret, WS_exp, WS_next, WS_no, WS_par, WS_sFor, WS_sif, WS_set, WR_lc, WR_var, WR_c, WR_bin, WR_un, WA_nil, WA_cons, WR_fun, WR_call, WR_and, WR_or, WR_not, WR_if, WR_chain, WR_isn, WR_isi, WR_iteT, WR_seqI, WR_enI, WR_app, WR_pop, lk, stw, stws, wipew, stn, List.map_cons, List.map_nil, List.length_cons, List.length_nil, List.cons_append, List.nil_append, List.replicate, Nat.reduceAdd, Nat.reduceSub, Nat.reduceLeDiff, Nat.reduceEqDiff, BEq.rfl, beq_self_eq_true, if_true, true_and, and_true, forall_const, Bool.false_eq_true, Bool.true_eq_false, reduceCtorEq, false_implies, true_implies, W.ref.injEq, W.int.injEq, W.tup.injEq, W.bl.injEq, List.cons.injEq, Option.some.injEq, exists_eq_left', exists_eq_left, exists_and_left, exists_eq', exists_const, fMod, fInt, h1]
      rw [fmodI (by omega) (by omega)]
      exact ⟨x % k, Nat.mod_lt _ (by omega), k, ⟨rfl, rfl⟩, by rw [Nat.gcd_comm, ← Nat.gcd_rec, Nat.gcd_comm]; exact hgcd⟩
  obtain ⟨w, g', e, rfl, rfl⟩ := h.out
  exact e
theorem nopy {i j : Int} (h0 : j ≠ 0) {e : Nat} (h : j.natAbs < 2 ^ e) (he : e ≤ 9000) : (j != 0 && !Builtin.divisionGoesByPylong i j) = true := by
  have h1 : j.natAbs.log2 < e := (Nat.log2_lt (by omega)).mpr h
  have h2 : (j == 0) = false := by simpa using h0
  have h3 : ¬ (j.natAbs.log2 / 30 + 1 > 300) := by omega
  simp only [Builtin.divisionGoesByPylong, bne, h2, Bool.false_eq_true, if_false, decide_eq_false h3]
  rfl
theorem log2_le {n e : Nat} (h : n < 2 ^ e) : n.log2 ≤ e := by
  by_cases h0 : n = 0
  · subst h0; simp
  · exact Nat.le_of_lt ((Nat.log2_lt h0).mpr h)
theorem mok {i j : Int} {a b : Nat} (h1 : i.natAbs < 2 ^ a) (h2 : j.natAbs < 2 ^ b) (h : a + b < 1000000) : mulOk i j = true := by
  unfold mulOk
  rw [Bool.or_eq_true]
  right
  exact Nat.ble_eq_true_of_le (by have := log2_le h1; have := log2_le h2; omega)
theorem mokL {i j : Int} (h1 : i.natAbs < 2 ^ 62) : mulOk i j = true := by
  unfold mulOk
  rw [Bool.or_eq_true, Bool.or_eq_true]
  left; left
  exact Nat.ble_eq_true_of_le (by have := log2_le h1; omega)
theorem mokR {i j : Int} (h1 : j.natAbs < 2 ^ 62) : mulOk i j = true := by
  unfold mulOk
  rw [Bool.or_eq_true, Bool.or_eq_true]
  left; right
  exact Nat.ble_eq_true_of_le (by have := log2_le h1; omega)
theorem gcd_small {a b : Int} (hb : 0 < b) (h : b.natAbs < 2 ^ 9000) : ((Int.gcd a b : Nat) : Int) ≠ 0 ∧ ((Int.gcd a b : Nat) : Int).natAbs < 2 ^ 9000 := by
  have h1 : Int.gcd a b ≤ b.natAbs := Nat.le_of_dvd (by omega) (Int.gcd_dvd_natAbs_right a b)
  have h2 : 0 < Int.gcd a b := Int.gcd_pos_of_ne_zero_right a (by omega)
  exact ⟨by omega, by rw [Int.natAbs_natCast]; omega⟩
theorem C1 (n : Nat) (a b : Int) (g : G) (hb : 0 < b) (h : b.natAbs < 2 ^ 9000) : tbl (n + 2) 1 [.int a, .int b] g = .ok (.tup [.int (a / (Int.gcd a b : Int)), .int (b / (Int.gcd a b : Int))]) g := by
  have hh : WR (tbl (n + 2) 1 [.int a, .int b] g) (fun w g' => w = .tup [.int (a / (Int.gcd a b : Int)), .int (b / (Int.gcd a b : Int))] ∧ g' = g) := by
    rw [tbl_1]
    refine WR_callS ?_
    obtain ⟨h1, h2⟩ := gcd_small (a := a) hb h
    simp only [b1, WR_ok, OW_some, BW_bl, WS_seq, WS_asgN, WS_asgT, WS_ret, WS_exp, WS_next, WS_no, WS_par, WS_sFor, WS_sif, WS_set, WR_lc, WR_var, WR_c, WR_bin, WR_un, WA_nil, WA_cons, WR_fun, WR_call, WR_and, WR_or, WR_not, WR_if, WR_chain, WR_isn, WR_isi, WR_iteT, WR_seqI, WR_enI, WR_app, WR_pop, lk, stw, stws, wipew, stn, List.map_cons, List.map_nil, List.length_cons, List.length_nil, List.cons_append, List.nil_append, List.replicate, Nat.reduceAdd, Nat.reduceSub, Nat.reduceLeDiff, Nat.reduceEqDiff, BEq.rfl, beq_self_eq_true, if_true, true_and, and_true, forall_const, Bool.false_eq_true, Bool.true_eq_false, reduceCtorEq, false_implies, true_implies, W.ref.injEq, W.int.injEq, W.tup.injEq, W.bl.injEq, List.cons.injEq, Option.some.injEq, exists_eq_left', exists_eq_left, exists_and_left, exists_eq', exists_const, C0, fGt, hb, decide_true, fMul, mokR (show (1 : Int).natAbs < 2 ^ 62 by decide), Int.mul_one, fDiv, nopy h1 h2 (Nat.le_refl _), fTup, Nat.reduceLeDiff]
    rw [Int.fdiv_eq_ediv_of_nonneg _ (by omega), Int.fdiv_eq_ediv_of_nonneg _ (by omega)]
    exact ⟨rfl, rfl⟩
  obtain ⟨w, g', e, rfl, rfl⟩ := hh.out
  exact e
theorem C34 (n : Nat) (a b : Int) (g : G) (hb : 0 < b) (h : b.natAbs < 2 ^ 9000) : tbl (n + 2) 34 [.int a, .int b] g = .ok (.tup [.int (a / (Int.gcd a b : Int)), .int (b / (Int.gcd a b : Int))]) g := by
  have hh : WR (tbl (n + 2) 34 [.int a, .int b] g) (fun w g' => w = .tup [.int (a / (Int.gcd a b : Int)), .int (b / (Int.gcd a b : Int))] ∧ g' = g) := by
    rw [tbl_34]
    refine WR_callS ?_
    obtain ⟨h1, h2⟩ := gcd_small (a := a) hb h
    simp only [b34, WR_ok, OW_some, BW_bl, WS_seq, WS_asgN, WS_asgT, WS_ret, WS_exp, WS_next, WS_no, WS_par, WS_sFor, WS_sif, WS_set, WR_lc, WR_var, WR_c, WR_bin, WR_un, WA_nil, WA_cons, WR_fun, WR_call, WR_and, WR_or, WR_not, WR_if, WR_chain, WR_isn, WR_isi, WR_iteT, WR_seqI, WR_enI, WR_app, WR_pop, lk, stw, stws, wipew, stn, List.map_cons, List.map_nil, List.length_cons, List.length_nil, List.cons_append, List.nil_append, List.replicate, Nat.reduceAdd, Nat.reduceSub, Nat.reduceLeDiff, Nat.reduceEqDiff, BEq.rfl, beq_self_eq_true, if_true, true_and, and_true, forall_const, Bool.false_eq_true, Bool.true_eq_false, reduceCtorEq, false_implies, true_implies, W.ref.injEq, W.int.injEq, W.tup.injEq, W.bl.injEq, List.cons.injEq, Option.some.injEq, exists_eq_left', exists_eq_left, exists_and_left, exists_eq', exists_const, C33, fGt, hb, decide_true, fDiv, nopy h1 h2 (Nat.le_refl _), fTup, Nat.reduceLeDiff]
    rw [Int.fdiv_eq_ediv_of_nonneg _ (by omega), Int.fdiv_eq_ediv_of_nonneg _ (by omega)]
    exact ⟨rfl, rfl⟩
  obtain ⟨w, g', e, rfl, rfl⟩ := hh.out
  exact e
theorem at0 {α : Type} (x y : α) : atI [x, y] 0 = some x := rfl
theorem at1 {α : Type} (x y : α) : atI [x, y] 1 = some y := rfl
theorem C13 (n : Nat) (a b c d : Int) (g : G) (h1 : b.natAbs < 2 ^ 62) (h2 : d.natAbs < 2 ^ 62) : tbl (n + 1) 13 [.tup [.int a, .int b], .tup [.int c, .int d]] g = .ok (.bl (decide (a * d ≤ c * b))) g := by
  have hh : WR (tbl (n + 1) 13 [.tup [.int a, .int b], .tup [.int c, .int d]] g) (fun w g' => w = .bl (decide (a * d ≤ c * b)) ∧ g' = g) := by
    rw [tbl_13]
    refine WR_callS ?_
    simp only [b13, WR_ok, OW_some, BW_bl, WS_seq, WS_asgN, WS_asgT, WS_ret, WS_exp, WS_next, WS_no, WS_par, WS_sFor, WS_sif, WS_set, WR_lc, WR_var, WR_c, WR_bin, WR_un, WA_nil, WA_cons, WR_fun, WR_call, WR_and, WR_or, WR_not, WR_if, WR_chain, WR_isn, WR_isi, WR_iteT, WR_seqI, WR_enI, WR_app, WR_pop, lk, stw, stws, wipew, stn, List.map_cons, List.map_nil, List.length_cons, List.length_nil, List.cons_append, List.nil_append, List.replicate, Nat.reduceAdd, Nat.reduceSub, Nat.reduceLeDiff, Nat.reduceEqDiff, BEq.rfl, beq_self_eq_true, if_true, true_and, and_true, forall_const, Bool.false_eq_true, Bool.true_eq_false, reduceCtorEq, false_implies, true_implies, W.ref.injEq, W.int.injEq, W.tup.injEq, W.bl.injEq, List.cons.injEq, Option.some.injEq, exists_eq_left', exists_eq_left, exists_and_left, exists_eq', exists_const, fIx, at0, at1, fMul, mokR h1, mokR h2, fLe]
  obtain ⟨w, g', e, rfl, rfl⟩ := hh.out
  exact e
theorem C35 (n : Nat) (a b c d : Int) (g : G) (h1 : b.natAbs < 2 ^ 62) (h2 : d.natAbs < 2 ^ 62) : tbl (n + 1) 35 [.tup [.int a, .int b], .tup [.int c, .int d]] g = .ok (.bl (decide (a * d ≤ c * b))) g := by
  have hh : WR (tbl (n + 1) 35 [.tup [.int a, .int b], .tup [.int c, .int d]] g) (fun w g' => w = .bl (decide (a * d ≤ c * b)) ∧ g' = g) := by
    rw [tbl_35]
    refine WR_callS ?_
    simp only [b35, WR_ok, OW_some, BW_bl, WS_seq, WS_asgN, WS_asgT, WS_ret, WS_exp, WS_next, WS_no, WS_par, WS_sFor, WS_sif, WS_set, WR_lc, WR_var, WR_c, WR_bin, WR_un, WA_nil, WA_cons, WR_fun, WR_call, WR_and, WR_or, WR_not, WR_if, WR_chain, WR_isn, WR_isi, WR_iteT, WR_seqI, WR_enI, WR_app, WR_pop, lk, stw, stws, wipew, stn, List.map_cons, List.map_nil, List.length_cons, List.length_nil, List.cons_append, List.nil_append, List.replicate, Nat.reduceAdd, Nat.reduceSub, Nat.reduceLeDiff, Nat.reduceEqDiff, BEq.rfl, beq_self_eq_true, if_true, true_and, and_true, forall_const, Bool.false_eq_true, Bool.true_eq_false, reduceCtorEq, false_implies, true_implies, W.ref.injEq, W.int.injEq, W.tup.injEq, W.bl.injEq, List.cons.injEq, Option.some.injEq, exists_eq_left', exists_eq_left, exists_and_left, exists_eq', exists_const, fIx, at0, at1, fMul, mokR h1, mokR h2, fLe]
  obtain ⟨w, g', e, rfl, rfl⟩ := hh.out
  exact e
theorem C4 (n : Nat) (a : Int) (g : G) : tbl (n + 1) 4 [.int a] g = .ok (.bl true) g := by
  have hh : WR (tbl (n + 1) 4 [.int a] g) (fun w g' => w = .bl true ∧ g' = g) := by
    rw [tbl_4]
    refine WR_callS ?_
    simp only [b4, WR_ok, OW_some, BW_bl, WS_seq, WS_asgN, WS_asgT, WS_ret, WS_exp, WS_next, WS_no, WS_par, WS_sFor, WS_sif, WS_set, WR_lc, WR_var, WR_c, WR_bin, WR_un, WA_nil, WA_cons, WR_fun, WR_call, WR_and, WR_or, WR_not, WR_if, WR_chain, WR_isn, WR_isi, WR_iteT, WR_seqI, WR_enI, WR_app, WR_pop, lk, stw, stws, wipew, stn, List.map_cons, List.map_nil, List.length_cons, List.length_nil, List.cons_append, List.nil_append, List.replicate, Nat.reduceAdd, Nat.reduceSub, Nat.reduceLeDiff, Nat.reduceEqDiff, BEq.rfl, beq_self_eq_true, if_true, true_and, and_true, forall_const, Bool.false_eq_true, Bool.true_eq_false, reduceCtorEq, false_implies, true_implies, W.ref.injEq, W.int.injEq, W.tup.injEq, W.bl.injEq, List.cons.injEq, Option.some.injEq, exists_eq_left', exists_eq_left, exists_and_left, exists_eq', exists_const, isi, Bool.not_false]
  obtain ⟨w, g', e, rfl, rfl⟩ := hh.out
  exact e
theorem C7 (n : Nat) (ws : List W) (l h : Int) (g : G) (h1 : l ≤ ws.length) (h2 : (ws.length : Int) ≤ h) : tbl (n + 1) 7 [.tup ws, .int l, .int h] g = .ok (.bl true) g := by
  have hh : WR (tbl (n + 1) 7 [.tup ws, .int l, .int h] g) (fun w g' => w = .bl true ∧ g' = g) := by
    rw [tbl_7]
    refine WR_callS ?_
    simp only [b7, WR_ok, OW_some, BW_bl, WS_seq, WS_asgN, WS_asgT, WS_ret, WS_exp, WS_next, WS_no, WS_par, WS_sFor, WS_sif, WS_set, WR_lc, WR_var, WR_c, WR_bin, WR_un, WA_nil, WA_cons, WR_fun, WR_call, WR_and, WR_or, WR_not, WR_if, WR_chain, WR_isn, WR_isi, WR_iteT, WR_seqI, WR_enI, WR_app, WR_pop, lk, stw, stws, wipew, stn, List.map_cons, List.map_nil, List.length_cons, List.length_nil, List.cons_append, List.nil_append, List.replicate, Nat.reduceAdd, Nat.reduceSub, Nat.reduceLeDiff, Nat.reduceEqDiff, BEq.rfl, beq_self_eq_true, if_true, true_and, and_true, forall_const, Bool.false_eq_true, Bool.true_eq_false, reduceCtorEq, false_implies, true_implies, W.ref.injEq, W.int.injEq, W.tup.injEq, W.bl.injEq, List.cons.injEq, Option.some.injEq, exists_eq_left', exists_eq_left, exists_and_left, exists_eq', exists_const, isi, Bool.not_false, fLen, itemsOf, fLe, decide_eq_true h1, decide_eq_true h2]
  obtain ⟨w, g', e, rfl, rfl⟩ := hh.out
  exact e
theorem C6 (n : Nat) (v l h : Int) (g : G) (h1 : l ≤ v) (h2 : v ≤ h) : tbl (n + 3) 6 [.int v, .int l, .int h] g = .ok .non g := by
  have h5 : tbl (n + 2) 5 [.int v, .int l, .int h] g = .ok (.bl true) g := by
    have hh : WR (tbl (n + 2) 5 [.int v, .int l, .int h] g) (fun w g' => w = .bl true ∧ g' = g) := by
      rw [tbl_5]
      refine WR_callS ?_
      simp only [b5, WR_ok, OW_some, BW_bl, WS_seq, WS_asgN, WS_asgT, WS_ret, WS_exp, WS_next, WS_no, WS_par, WS_sFor, WS_sif, WS_set, WR_lc, WR_var, WR_c, WR_bin, WR_un, WA_nil, WA_cons, WR_fun, WR_call, WR_and, WR_or, WR_not, WR_if, WR_chain, WR_isn, WR_isi, WR_iteT, WR_seqI, WR_enI, WR_app, WR_pop, lk, stw, stws, wipew, stn, List.map_cons, List.map_nil, List.length_cons, List.length_nil, List.cons_append, List.nil_append, List.replicate, Nat.reduceAdd, Nat.reduceSub, Nat.reduceLeDiff, Nat.reduceEqDiff, BEq.rfl, beq_self_eq_true, if_true, true_and, and_true, forall_const, Bool.false_eq_true, Bool.true_eq_false, reduceCtorEq, false_implies, true_implies, W.ref.injEq, W.int.injEq, W.tup.injEq, W.bl.injEq, List.cons.injEq, Option.some.injEq, exists_eq_left', exists_eq_left, exists_and_left, exists_eq', exists_const, C4, fLe, decide_eq_true h1, decide_eq_true h2]
    obtain ⟨w, g', e, rfl, rfl⟩ := hh.out
    exact e
  have hh : WR (tbl (n + 3) 6 [.int v, .int l, .int h] g) (fun w g' => w = .non ∧ g' = g) := by
    rw [tbl_6]
    refine WR_callS ?_
    simp only [b6, WR_ok, OW_some, BW_bl, WS_seq, WS_asgN, WS_asgT, WS_ret, WS_exp, WS_next, WS_no, WS_par, WS_sFor, WS_sif, WS_set, WR_lc, WR_var, WR_c, WR_bin, WR_un, WA_nil, WA_cons, WR_fun, WR_call, WR_and, WR_or, WR_not, WR_if, WR_chain, WR_isn, WR_isi, WR_iteT, WR_seqI, WR_enI, WR_app, WR_pop, lk, stw, stws, wipew, stn, List.map_cons, List.map_nil, List.length_cons, List.length_nil, List.cons_append, List.nil_append, List.replicate, Nat.reduceAdd, Nat.reduceSub, Nat.reduceLeDiff, Nat.reduceEqDiff, BEq.rfl, beq_self_eq_true, if_true, true_and, and_true, forall_const, Bool.false_eq_true, Bool.true_eq_false, reduceCtorEq, false_implies, true_implies, W.ref.injEq, W.int.injEq, W.tup.injEq, W.bl.injEq, List.cons.injEq, Option.some.injEq, exists_eq_left', exists_eq_left, exists_and_left, exists_eq', exists_const, h5, Bool.not_true]
  obtain ⟨w, g', e, rfl, rfl⟩ := hh.out
  exact e
/-! rows as data -/
theorem mapO_int (g : G) (n : Nat) : ∀ xs : List Int, mapO (toD g n) (iw xs) = some (xs.map .int)
  | [] => rfl
  | x :: xs => by
    have := mapO_int g n xs
    have e : toD g n (.int x) = some (.int x) := by cases n <;> rfl
    simp only [iw, List.map_cons, mapO, e] at this ⊢
    rw [this]
theorem lay_ints : ∀ xs : List Int, PyData.canLayAll0 (xs.map .int) = true
  | [] => by simp [PyData.canLayAll0]
  | x :: xs => by simp [PyData.canLayAll0, PyData.canLay0, lay_ints xs]
theorem dep_ints : ∀ xs : List Int, PyData.depthAll (xs.map .int) ≤ 1
  | [] => by simp [PyData.depthAll]
  | x :: xs => by
    have := dep_ints xs
    simp [PyData.depthAll, PyData.depth]
    omega
theorem shp_tup (xs : List Int) : shp (.tuple (xs.map .int)) = true := by
  have := dep_ints xs
  simp only [shp, PyData.canLay0, lay_ints, PyData.depth, Bool.true_and]
  exact Nat.ble_eq_true_of_le (by omega)
theorem shp_lst (xs : List Int) : shp (.list (xs.map .int)) = true := by
  have := dep_ints xs
  simp only [shp, PyData.canLay0, lay_ints, PyData.depth, Bool.true_and]
  exact Nat.ble_eq_true_of_le (by omega)
theorem toD_tup (g : G) (xs : List Int) : toD g 16 (.tup (iw xs)) = some (.tuple (xs.map .int)) := by
  simp only [toD, mapO_int, Option.map_some]
theorem toD_ref {g : G} {n : Nat} {xs : List Int} (h : g[n]? = some (iw xs)) : toD g 16 (.ref n) = some (.list (xs.map .int)) := by
  simp only [toD, h, mapO_int, Option.map_some]
theorem eq_tup_nil (g : G) (xs : List Int) : fEq (.tup (iw xs)) (.tup []) g = .ok (.bl xs.isEmpty) g := by
  have h1 := toD_tup g xs
  have h2 : toD g 16 (.tup []) = some (.tuple (([] : List Int).map .int)) := toD_tup g []
  simp only [fEq, h1, h2, shp_tup, Bool.and_self, if_true]
  cases xs <;> simp [PyData.eqv, PyData.eqvAll]
theorem ne_tup_nil (g : G) (xs : List Int) : fNe (.tup (iw xs)) (.tup []) g = .ok (.bl (!xs.isEmpty)) g := by
  have h1 := toD_tup g xs
  have h2 : toD g 16 (.tup []) = some (.tuple (([] : List Int).map .int)) := toD_tup g []
  simp only [fNe, h1, h2, shp_tup, Bool.and_self, if_true]
  cases xs <;> simp [PyData.eqv, PyData.eqvAll]
theorem ne_lst_nil {g : G} {n m : Nat} {xs : List Int} (h : g[n]? = some (iw xs)) (hm : g[m]? = some []) : fNe (.ref n) (.ref m) g = .ok (.bl (!xs.isEmpty)) g := by
  have h1 := toD_ref h
  have h2 : toD g 16 (.ref m) = some (.list (([] : List Int).map .int)) := toD_ref (xs := []) hm
  simp only [fNe, h1, h2, shp_lst, Bool.and_self, if_true]
  cases xs <;> simp [PyData.eqv, PyData.eqvAll]
theorem at_last (xs : List Int) (h : xs ≠ []) : atI (iw xs) (-1) = some (.int (xs.getLast h)) := by
  have hl : 0 < xs.length := List.length_pos_iff.mpr h
  have e : ixN (iw xs).length (-1) = some (xs.length - 1) := by
    rw [iw_len]
    simp only [ixN]
    rw [if_neg (by omega), if_pos (by omega)]
    congr 1
    omega
  simp only [atI, e, Option.bind_some, iw_get]
  rw [← List.getLast?_eq_getElem?, List.getLast?_eq_some_getLast h]
  rfl
end LK77

set_option Elab.async false
set_option linter.all false
set_option maxRecDepth 100000
set_option maxHeartbeats 4000000
namespace LK77
open PySem L2 Ev Sm
/-! comprehensions over lists -/
section
variable {o : Orc} {s : Sg} {g : G} {t : TGT} {vs : List Nat} {test elt : CE}
theorem ble_refl (n : Nat) : Nat.ble n n = true := Nat.ble_eq_true_of_le (Nat.le_refl n)
theorem lc_fix (ws : List W) (f : W → Option W) (hl : ws.length ≤ 1000000) (step : ∀ w ∈ ws, ∀ h : G, ∃ s2, t w (wipew s vs) = some s2 ∧ ((f w = none ∧ test o s2 h = .ok (.bl false) h) ∨ ∃ y, f w = some y ∧ test o s2 h = .ok (.bl true) h ∧ elt o s2 h = .ok y h)) :
    lcLoop (.fix ws) t vs test elt o s g.length (cntI (.fix ws) g) 0 (g ++ [[]]) = .ok (.ref g.length) (g ++ [ws.filterMap f]) := by
  have h := lc_pure (o := o) (s := s) (g := g) (it := .fix ws) (t := t) (vs := vs) (test := test) (elt := elt) (ws.map f) (by simpa using hl) (by simp [cntI]) (fun acc => by simp only [stopI, List.length_map]; exact ble_refl _) (fun i z acc hz => by
    rw [List.getElem?_map] at hz
    cases e : ws[i]? with
    | none => rw [e] at hz; cases hz
    | some w =>
      rw [e] at hz
      cases hz
      obtain ⟨s2, h1, h2⟩ := step w (List.mem_of_getElem? e) (g ++ [acc])
      exact ⟨w, s2, by simp only [itemI, at?_eq, e], h1, h2⟩)
  rw [h, List.filterMap_map]
  rfl
theorem lc_lst {n : Nat} {ws : List W} (hg : g[n]? = some ws) (f : W → Option W) (hl : ws.length ≤ 1000000) (step : ∀ w ∈ ws, ∀ h : G, ∃ s2, t w (wipew s vs) = some s2 ∧ ((f w = none ∧ test o s2 h = .ok (.bl false) h) ∨ ∃ y, f w = some y ∧ test o s2 h = .ok (.bl true) h ∧ elt o s2 h = .ok y h)) :
    lcLoop (.lst n) t vs test elt o s g.length (cntI (.lst n) g) 0 (g ++ [[]]) = .ok (.ref g.length) (g ++ [ws.filterMap f]) := by
  have hg' : ∀ acc, (g ++ [acc])[n]? = some ws := fun acc => pre_lk (List.prefix_append _ _) hg
  have h := lc_pure (o := o) (s := s) (g := g) (it := .lst n) (t := t) (vs := vs) (test := test) (elt := elt) (ws.map f) (by simpa using hl) (by simp [cntI, hg]) (fun acc => by simp only [stopI, List.length_map, hg']; exact ble_refl _) (fun i z acc hz => by
    rw [List.getElem?_map] at hz
    cases e : ws[i]? with
    | none => rw [e] at hz; cases hz
    | some w =>
      rw [e] at hz
      cases hz
      obtain ⟨s2, h1, h2⟩ := step w (List.mem_of_getElem? e) (g ++ [acc])
      exact ⟨w, s2, by simp only [itemI, hg', at?_eq, e], h1, h2⟩)
  rw [h, List.filterMap_map]
  rfl
theorem lc_enf (ws zs : List W) (hl : ws.length ≤ 1000000) (hz : zs.length = ws.length) (step : ∀ i w z, ws[i]? = some w → zs[i]? = some z → ∀ h : G, ∃ s2, t (.tup [.int (i : Nat), w]) (wipew s vs) = some s2 ∧ elt o s2 h = .ok z h) :
    lcLoop (.enf ws) t vs (eC (.bl true)) elt o s g.length (cntI (.enf ws) g) 0 (g ++ [[]]) = .ok (.ref g.length) (g ++ [zs]) := by
  have h := lc_pure (o := o) (s := s) (g := g) (it := .enf ws) (t := t) (vs := vs) (test := eC (.bl true)) (elt := elt) (zs.map some) (by simp; omega) (by simp [cntI, hz]) (fun acc => by simp only [stopI, List.length_map, hz]; exact ble_refl _) (fun i z acc hzz => by
    rw [List.getElem?_map] at hzz
    cases e : zs[i]? with
    | none => rw [e] at hzz; cases hzz
    | some z' =>
      rw [e] at hzz
      cases hzz
      have hi := (List.getElem?_eq_some_iff.mp e).1
      have e2 : ws[i]? = some (ws[i]'(by omega)) := List.getElem?_eq_getElem _
      obtain ⟨s2, h1, h2⟩ := step i _ z' e2 e (g ++ [acc])
      exact ⟨_, s2, by simp only [itemI, at?_eq, e2, Option.map_some], h1, .inr ⟨z', rfl, rfl, h2⟩⟩)
  rw [h, List.filterMap_map]
  simp
theorem lc_enl {n : Nat} {ws zs : List W} (hg : g[n]? = some ws) (hl : ws.length ≤ 1000000) (hz : zs.length = ws.length) (step : ∀ i w z, ws[i]? = some w → zs[i]? = some z → ∀ h : G, ∃ s2, t (.tup [.int (i : Nat), w]) (wipew s vs) = some s2 ∧ elt o s2 h = .ok z h) :
    lcLoop (.enl n) t vs (eC (.bl true)) elt o s g.length (cntI (.enl n) g) 0 (g ++ [[]]) = .ok (.ref g.length) (g ++ [zs]) := by
  have hg' : ∀ acc, (g ++ [acc])[n]? = some ws := fun acc => pre_lk (List.prefix_append _ _) hg
  have h := lc_pure (o := o) (s := s) (g := g) (it := .enl n) (t := t) (vs := vs) (test := eC (.bl true)) (elt := elt) (zs.map some) (by simp; omega) (by simp [cntI, hz, hg]) (fun acc => by simp only [stopI, List.length_map, hz, hg']; exact ble_refl _) (fun i z acc hzz => by
    rw [List.getElem?_map] at hzz
    cases e : zs[i]? with
    | none => rw [e] at hzz; cases hzz
    | some z' =>
      rw [e] at hzz
      cases hzz
      have hi := (List.getElem?_eq_some_iff.mp e).1
      have e2 : ws[i]? = some (ws[i]'(by omega)) := List.getElem?_eq_getElem _
      obtain ⟨s2, h1, h2⟩ := step i _ z' e2 e (g ++ [acc])
      exact ⟨_, s2, by simp only [itemI, hg', at?_eq, e2, Option.map_some], h1, .inr ⟨z', rfl, rfl, h2⟩⟩)
  rw [h, List.filterMap_map]
  simp
end
def intF (f : Int → Int) : W → Option W := fun w => match w with
  | .int i => some (.int (f i))
  | _ => none
theorem fm_map (xs : List Int) (f : Int → Int) : (iw xs).filterMap (intF f) = iw (xs.map f) := by
  induction xs with
  | nil => rfl
  | cons x xs ih =>
    simp only [iw, List.map_cons, List.filterMap_cons, intF] at ih ⊢
    rw [ih]
theorem mem_iw {w : W} {xs : List Int} (h : w ∈ iw xs) : ∃ x ∈ xs, w = .int x := by
  obtain ⟨x, hx, rfl⟩ := List.mem_map.mp h
  exact ⟨x, hx, rfl⟩
theorem bools_map (xs : List Int) : boolsW (xs.map fun _ => W.bl true) = some (xs.map fun _ => true) := by
  induction xs with
  | nil => rfl
  | cons x xs ih => simp only [List.map_cons, boolsW, ih, Option.map_some]
theorem fm_bl (xs : List Int) : (iw xs).filterMap (fun w => some (W.bl true)) = xs.map fun _ => W.bl true := by
  induction xs with
  | nil => rfl
  | cons x xs ih =>
    simp only [iw, List.map_cons, List.filterMap_cons] at ih ⊢
    rw [ih]
theorem fLst_nil (g : G) : fLst [] g = .ok (.ref g.length) (g ++ [[]]) := rfl
theorem fTup_nil (g : G) : fTup [] g = .ok (.tup []) g := rfl
theorem lk_new (g : G) (xs : List W) (e : G) : (g ++ xs :: e)[g.length]? = some xs := by simp
theorem last_ne {xs : List Int} (h : Tr xs) (hn : xs ≠ []) : xs.getLast hn ≠ 0 := h _ (List.getLast?_eq_some_getLast hn)
theorem C8 (n : Nat) (xs : List Int) (g : G) (ht : Tr xs) (hl : xs.length ≤ 401) : ∃ e, tbl (n + 2) 8 [.tup (iw xs)] g = .ok (.bl true) (g ++ e) := by
  have h : WR (tbl (n + 2) 8 [.tup (iw xs)] g) (fun w g' => w = .bl true ∧ ∃ e, g' = g ++ e) := by
    rw [tbl_8]
    refine WR_callS ?_
    have h7 := C7 n (iw xs) 0 401 g (by omega) (by rw [iw_len]; omega)
    have hc := lc_fix (o := tbl (n + 1)) (s := [some (.tup (iw xs)), none]) (g := g) (t := tName 1) (vs := [1]) (test := eC (.bl true)) (elt := eCall 4 1 (aCons (eVar 1) aNil)) (iw xs) (fun _ => some (.bl true)) (by rw [iw_len]; omega) (fun w hw h => by
      obtain ⟨x, _, rfl⟩ := mem_iw hw
      refine ⟨_, rfl, .inr ⟨_, rfl, rfl, ?_⟩⟩
      show tbl (n + 1) 4 [.int x] h = _
      rw [C4])
    rw [fm_bl] at hc
    simp only [b8, WR_ok, OW_some, BW_bl, WS_seq, WS_asgN, WS_asgT, WS_ret, WS_exp, WS_next, WS_no, WS_par, WS_sFor, WS_sif, WS_set, WR_lc, WR_var, WR_c, WR_bin, WR_un, WA_nil, WA_cons, WR_fun, WR_call, WR_and, WR_or, WR_not, WR_if, WR_chain, WR_isn, WR_isi, WR_iteT, WR_seqI, WR_enI, WR_app, WR_pop, lk, stw, stws, wipew, stn, List.map_cons, List.map_nil, List.length_cons, List.length_nil, List.cons_append, List.nil_append, List.replicate, Nat.reduceAdd, Nat.reduceSub, Nat.reduceLeDiff, Nat.reduceEqDiff, BEq.rfl, beq_self_eq_true, if_true, true_and, and_true, forall_const, Bool.false_eq_true, Bool.true_eq_false, reduceCtorEq, false_implies, true_implies, W.ref.injEq, W.int.injEq, W.tup.injEq, W.bl.injEq, List.cons.injEq, Option.some.injEq, exists_eq_left', exists_eq_left, exists_and_left, exists_eq', exists_const, h7, Bool.not_true, hc, fAll, lk_new, bools_map, fTup_nil, eq_tup_nil]
    have hall : (xs.map fun _ => true).all id = true := by simp
    rw [hall]
    simp only [WR_ok, OW_some, BW_bl, WS_seq, WS_asgN, WS_asgT, WS_ret, WS_exp, WS_next, WS_no, WS_par, WS_sFor, WS_sif, WS_set, WR_lc, WR_var, WR_c, WR_bin, WR_un, WA_nil, WA_cons, WR_fun, WR_call, WR_and, WR_or, WR_not, WR_if, WR_chain, WR_isn, WR_isi, WR_iteT, WR_seqI, WR_enI, WR_app, WR_pop, lk, stw, stws, wipew, stn, List.map_cons, List.map_nil, List.length_cons, List.length_nil, List.cons_append, List.nil_append, List.replicate, Nat.reduceAdd, Nat.reduceSub, Nat.reduceLeDiff, Nat.reduceEqDiff, BEq.rfl, beq_self_eq_true, if_true, true_and, and_true, forall_const, Bool.false_eq_true, Bool.true_eq_false, reduceCtorEq, false_implies, true_implies, W.ref.injEq, W.int.injEq, W.tup.injEq, W.bl.injEq, List.cons.injEq, Option.some.injEq, exists_eq_left', exists_eq_left, exists_and_left, exists_eq', exists_const, Bool.not_true]
    refine ⟨fun h => ⟨_, rfl⟩, fun h => ?_⟩
    have hn : xs ≠ [] := by simpa using h
    have h1 : (xs.getLast hn == 0) = false := by simpa using last_ne ht hn
    simp only [WR_ok, OW_some, BW_bl, WS_seq, WS_asgN, WS_asgT, WS_ret, WS_exp, WS_next, WS_no, WS_par, WS_sFor, WS_sif, WS_set, WR_lc, WR_var, WR_c, WR_bin, WR_un, WA_nil, WA_cons, WR_fun, WR_call, WR_and, WR_or, WR_not, WR_if, WR_chain, WR_isn, WR_isi, WR_iteT, WR_seqI, WR_enI, WR_app, WR_pop, lk, stw, stws, wipew, stn, List.map_cons, List.map_nil, List.length_cons, List.length_nil, List.cons_append, List.nil_append, List.replicate, Nat.reduceAdd, Nat.reduceSub, Nat.reduceLeDiff, Nat.reduceEqDiff, BEq.rfl, beq_self_eq_true, if_true, true_and, and_true, forall_const, Bool.false_eq_true, Bool.true_eq_false, reduceCtorEq, false_implies, true_implies, W.ref.injEq, W.int.injEq, W.tup.injEq, W.bl.injEq, List.cons.injEq, Option.some.injEq, exists_eq_left', exists_eq_left, exists_and_left, exists_eq', exists_const, fNeg, fIx, at_last xs hn, fNe, h1, Bool.not_false]
    exact ⟨_, rfl⟩
  obtain ⟨w, g', e, rfl, e', rfl⟩ := h.out
  exact ⟨e', e⟩
theorem C14 (n : Nat) (xs : List Int) (g : G) (ht : Tr xs) (hn : xs ≠ []) (hl : xs.length ≤ 401) : ∃ e, tbl (n + 2) 14 [.tup (iw xs)] g = .ok (.bl true) (g ++ e) := by
  have h : WR (tbl (n + 2) 14 [.tup (iw xs)] g) (fun w g' => w = .bl true ∧ ∃ e, g' = g ++ e) := by
    rw [tbl_14]
    refine WR_callS ?_
    have hp := List.length_pos_iff.mpr hn
    have h7 := C7 n (iw xs) 1 401 g (by rw [iw_len]; omega) (by rw [iw_len]; omega)
    have hc := lc_fix (o := tbl (n + 1)) (s := [some (.tup (iw xs)), none]) (g := g) (t := tName 1) (vs := [1]) (test := eC (.bl true)) (elt := eCall 4 1 (aCons (eVar 1) aNil)) (iw xs) (fun _ => some (.bl true)) (by rw [iw_len]; omega) (fun w hw h => by
      obtain ⟨x, _, rfl⟩ := mem_iw hw
      refine ⟨_, rfl, .inr ⟨_, rfl, rfl, ?_⟩⟩
      show tbl (n + 1) 4 [.int x] h = _
      rw [C4])
    rw [fm_bl] at hc
    simp only [b14, WR_ok, OW_some, BW_bl, WS_seq, WS_asgN, WS_asgT, WS_ret, WS_exp, WS_next, WS_no, WS_par, WS_sFor, WS_sif, WS_set, WR_lc, WR_var, WR_c, WR_bin, WR_un, WA_nil, WA_cons, WR_fun, WR_call, WR_and, WR_or, WR_not, WR_if, WR_chain, WR_isn, WR_isi, WR_iteT, WR_seqI, WR_enI, WR_app, WR_pop, lk, stw, stws, wipew, stn, List.map_cons, List.map_nil, List.length_cons, List.length_nil, List.cons_append, List.nil_append, List.replicate, Nat.reduceAdd, Nat.reduceSub, Nat.reduceLeDiff, Nat.reduceEqDiff, BEq.rfl, beq_self_eq_true, if_true, true_and, and_true, forall_const, Bool.false_eq_true, Bool.true_eq_false, reduceCtorEq, false_implies, true_implies, W.ref.injEq, W.int.injEq, W.tup.injEq, W.bl.injEq, List.cons.injEq, Option.some.injEq, exists_eq_left', exists_eq_left, exists_and_left, exists_eq', exists_const, h7, Bool.not_true, hc, fAll, lk_new, bools_map]
    have hall : (xs.map fun _ => true).all id = true := by simp
    have h1 : (xs.getLast hn == 0) = false := by simpa using last_ne ht hn
    rw [hall]
    simp only [WR_ok, OW_some, BW_bl, WS_seq, WS_asgN, WS_asgT, WS_ret, WS_exp, WS_next, WS_no, WS_par, WS_sFor, WS_sif, WS_set, WR_lc, WR_var, WR_c, WR_bin, WR_un, WA_nil, WA_cons, WR_fun, WR_call, WR_and, WR_or, WR_not, WR_if, WR_chain, WR_isn, WR_isi, WR_iteT, WR_seqI, WR_enI, WR_app, WR_pop, lk, stw, stws, wipew, stn, List.map_cons, List.map_nil, List.length_cons, List.length_nil, List.cons_append, List.nil_append, List.replicate, Nat.reduceAdd, Nat.reduceSub, Nat.reduceLeDiff, Nat.reduceEqDiff, BEq.rfl, beq_self_eq_true, if_true, true_and, and_true, forall_const, Bool.false_eq_true, Bool.true_eq_false, reduceCtorEq, false_implies, true_implies, W.ref.injEq, W.int.injEq, W.tup.injEq, W.bl.injEq, List.cons.injEq, Option.some.injEq, exists_eq_left', exists_eq_left, exists_and_left, exists_eq', exists_const, fNeg, fIx, at_last xs hn, fNe, h1, Bool.not_false]
    exact ⟨_, rfl⟩
  obtain ⟨w, g', e, rfl, e', rfl⟩ := h.out
  exact ⟨e', e⟩
theorem C25 (n : Nat) (xs : List Int) (g : G) (ht : Tr xs) (hn : xs ≠ []) (hl : xs.length ≤ 401) : ∃ e, tbl (n + 3) 25 [.tup (iw xs)] g = .ok .non (g ++ e) := by
  have h : WR (tbl (n + 3) 25 [.tup (iw xs)] g) (fun w g' => w = .non ∧ ∃ e, g' = g ++ e) := by
    rw [tbl_25]
    refine WR_callS ?_
    obtain ⟨e, h14⟩ := C14 n xs g ht hn hl
    simp only [b25, WR_ok, OW_some, BW_bl, WS_seq, WS_asgN, WS_asgT, WS_ret, WS_exp, WS_next, WS_no, WS_par, WS_sFor, WS_sif, WS_set, WR_lc, WR_var, WR_c, WR_bin, WR_un, WA_nil, WA_cons, WR_fun, WR_call, WR_and, WR_or, WR_not, WR_if, WR_chain, WR_isn, WR_isi, WR_iteT, WR_seqI, WR_enI, WR_app, WR_pop, lk, stw, stws, wipew, stn, List.map_cons, List.map_nil, List.length_cons, List.length_nil, List.cons_append, List.nil_append, List.replicate, Nat.reduceAdd, Nat.reduceSub, Nat.reduceLeDiff, Nat.reduceEqDiff, BEq.rfl, beq_self_eq_true, if_true, true_and, and_true, forall_const, Bool.false_eq_true, Bool.true_eq_false, reduceCtorEq, false_implies, true_implies, W.ref.injEq, W.int.injEq, W.tup.injEq, W.bl.injEq, List.cons.injEq, Option.some.injEq, exists_eq_left', exists_eq_left, exists_and_left, exists_eq', exists_const, h14, Bool.not_true]
    exact ⟨_, rfl⟩
  obtain ⟨w, g', e, rfl, e', rfl⟩ := h.out
  exact ⟨e', e⟩
theorem C26 (n : Nat) (a b : Int) (g : G) (hb : 0 < b) (h : b.natAbs < 2 ^ 9000) (hc : Int.gcd a b = 1) : ∃ e, tbl (n + 3) 26 [.tup [.int a, .int b]] g = .ok .non (g ++ e) := by
  have h : WR (tbl (n + 3) 26 [.tup [.int a, .int b]] g) (fun w g' => w = .non ∧ ∃ e, g' = g ++ e) := by
    rw [tbl_26]
    refine WR_callS ?_
    have h7 := C7 (n + 1) (iw [a, b]) 2 2 g (by rw [iw_len]; simp) (by rw [iw_len]; simp)
    have hcc := lc_fix (o := tbl (n + 2)) (s := [some (.tup (iw [a, b])), none]) (g := g) (t := tName 1) (vs := [1]) (test := eC (.bl true)) (elt := eCall 4 1 (aCons (eVar 1) aNil)) (iw [a, b]) (fun _ => some (.bl true)) (by rw [iw_len]; simp) (fun w hw h => by
      obtain ⟨x, _, rfl⟩ := mem_iw hw
      refine ⟨_, rfl, .inr ⟨_, rfl, rfl, ?_⟩⟩
      show tbl (n + 2) 4 [.int x] h = _
      rw [C4])
    rw [fm_bl] at hcc
    have hbl := bools_map [a, b]
    have hall : ([a, b].map fun _ => true).all id = true := by simp
    have hb1 : ¬ b < 1 := by omega
    have hne : ∀ g, fNe (.tup (iw [a, b])) (.tup (iw [a, b])) g = .ok (.bl false) g := fun g => by
      have h1 := toD_tup g [a, b]
      simp only [fNe, h1, shp_tup, Bool.and_self, if_true]
      simp [PyData.eqv, PyData.eqvAll]
    simp only [iw, List.map_cons, List.map_nil] at h7 hcc hbl hall hne
    simp only [b26, WR_ok, OW_some, BW_bl, WS_seq, WS_asgN, WS_asgT, WS_ret, WS_exp, WS_next, WS_no, WS_par, WS_sFor, WS_sif, WS_set, WR_lc, WR_var, WR_c, WR_bin, WR_un, WA_nil, WA_cons, WR_fun, WR_call, WR_and, WR_or, WR_not, WR_if, WR_chain, WR_isn, WR_isi, WR_iteT, WR_seqI, WR_enI, WR_app, WR_pop, lk, stw, stws, wipew, stn, List.map_cons, List.map_nil, List.length_cons, List.length_nil, List.cons_append, List.nil_append, List.replicate, Nat.reduceAdd, Nat.reduceSub, Nat.reduceLeDiff, Nat.reduceEqDiff, BEq.rfl, beq_self_eq_true, if_true, true_and, and_true, forall_const, Bool.false_eq_true, Bool.true_eq_false, reduceCtorEq, false_implies, true_implies, W.ref.injEq, W.int.injEq, W.tup.injEq, W.bl.injEq, List.cons.injEq, Option.some.injEq, exists_eq_left', exists_eq_left, exists_and_left, exists_eq', exists_const, h7, Bool.not_true, hcc, fAll, lk_new, hbl, hall, fIx, at0, at1, fLt, hb1, decide_false, C1 n a b _ hb h, hc, Int.natCast_one, Int.ediv_one, hne]
    exact ⟨_, rfl⟩
  obtain ⟨w, g', e, rfl, e', rfl⟩ := h.out
  exact ⟨e', e⟩
/-! made low -/
def gcdL (xs : List Int) : Nat := xs.foldl (fun c x => Int.gcd c x) 0
def mlow (xs : List Int) : List Int := if 1 < gcdL xs then xs.map (· / (gcdL xs : Int)) else xs
theorem gcdL_aux (d : Nat) : ∀ (xs : List Int) (c : Nat), d ∣ xs.foldl (fun c x => Int.gcd c x) c ↔ d ∣ c ∧ ∀ x ∈ xs, (d : Int) ∣ x
  | [], c => by simp
  | x :: xs, c => by
    rw [List.foldl_cons, gcdL_aux d xs]
    simp only [List.mem_cons, forall_eq_or_imp]
    rw [← and_assoc]
    refine and_congr_left fun _ => ⟨fun h => ⟨?_, ?_⟩, fun ⟨h1, h2⟩ => ?_⟩
    · have h1 := Int.gcd_dvd_left (c : Int) x
      exact Int.natCast_dvd_natCast.mp (Int.dvd_trans (Int.natCast_dvd_natCast.mpr h) h1)
    · exact Int.dvd_trans (Int.natCast_dvd_natCast.mpr h) (Int.gcd_dvd_right (c : Int) x)
    · exact Int.dvd_gcd (Int.natCast_dvd_natCast.mpr h1) h2
theorem gcdL_dvd (d : Nat) (xs : List Int) : d ∣ gcdL xs ↔ DV d xs := by
  unfold gcdL
  rw [gcdL_aux]
  exact ⟨fun h => h.2, fun h => ⟨Nat.dvd_zero d, h⟩⟩
theorem N1_mem {x : Int} : ∀ {xs : List Int}, x ∈ xs → x.natAbs ≤ N1 xs
  | y :: xs, h => by
    rcases List.mem_cons.mp h with rfl | h
    · simp [N1]
    · have := N1_mem h
      simp only [N1]; omega
theorem gcdL_le (xs : List Int) : gcdL xs ≤ N1 xs := by
  by_cases h : ∃ x ∈ xs, x ≠ 0
  · obtain ⟨x, hx, h0⟩ := h
    have h1 : ((gcdL xs : Nat) : Int) ∣ x := (gcdL_dvd _ xs).mp (Nat.dvd_refl _) x hx
    have h2 : gcdL xs ∣ x.natAbs := Int.ofNat_dvd_left.mp h1
    have h3 := Nat.le_of_dvd (by omega) h2
    have := N1_mem hx
    omega
  · have : ∀ xs : List Int, (∀ x ∈ xs, x = 0) → ∀ c, xs.foldl (fun c x => Int.gcd c x) c = c := fun xs => by
      induction xs with
      | nil => intro _ c; rfl
      | cons x xs ih =>
        intro h c
        have hx : x = 0 := h x (by simp)
        rw [List.foldl_cons, ih (fun y hy => h y (by simp [hy])), hx]
        simp
    have h2 : gcdL xs = 0 := this xs (fun x hx => Classical.byContradiction fun h0 => h ⟨x, hx, h0⟩) 0
    omega
theorem mlow_eq (xs : List Int) : ∃ m : Nat, 0 < m ∧ xs = (mlow xs).map ((m : Int) * ·) ∧ N1 (mlow xs) ≤ N1 xs ∧ (mlow xs).length = xs.length := by
  unfold mlow
  split
  · rename_i h
    have hd := (gcdL_dvd _ xs).mp (Nat.dvd_refl _)
    have he : xs = (xs.map (· / (gcdL xs : Int))).map ((gcdL xs : Int) * ·) := by
      rw [List.map_map]
      conv => lhs; rw [← List.map_id xs]
      refine List.map_congr_left fun c hc => ?_
      show c = (gcdL xs : Int) * (c / (gcdL xs : Int))
      rw [Int.mul_ediv_cancel' (hd c hc)]
    refine ⟨gcdL xs, by omega, he, ?_, by simp⟩
    conv => rhs; rw [he]
    rw [N1_smul, Int.natAbs_natCast]
    exact Nat.le_mul_of_pos_left _ (by omega)
  · exact ⟨1, by omega, by simp, Nat.le_refl _, rfl⟩
theorem mlow_prim {xs : List Int} (h : ∃ x ∈ xs, x ≠ 0) : Prim (mlow xs) := by
  have h0 : gcdL xs ≠ 0 := fun h0 => by
    obtain ⟨x, hx, hx0⟩ := h
    have := (gcdL_dvd 0 xs).mp (by rw [h0]; exact Nat.dvd_refl 0) x hx
    exact hx0 (Int.zero_dvd.mp this)
  intro d hd
  unfold mlow at hd
  split at hd
  · rename_i h1
    have h2 : DV ((gcdL xs * d : Nat) : Int) xs := fun x hx => by
      have h3 : ((gcdL xs : Nat) : Int) ∣ x := (gcdL_dvd _ xs).mp (Nat.dvd_refl _) x hx
      have h4 := hd (x / (gcdL xs : Int)) (List.mem_map.mpr ⟨x, hx, rfl⟩)
      have h5 := Int.mul_dvd_mul_left (gcdL xs : Int) h4
      rw [Int.mul_ediv_cancel' h3] at h5
      rw [Int.natCast_mul]
      exact h5
    have h3 := Nat.le_of_dvd (by omega) ((gcdL_dvd _ xs).mpr h2)
    have h4 : gcdL xs * d ≤ gcdL xs * 1 := by omega
    have h5 := Nat.le_of_mul_le_mul_left h4 (by omega)
    have h6 : d ≠ 0 := fun h6 => by
      subst h6
      rw [Nat.mul_zero] at h2
      have h7 := (gcdL_dvd 0 xs).mpr h2
      exact h0 (Nat.eq_zero_of_zero_dvd h7)
    omega
  · rename_i h1
    have h2 := (gcdL_dvd d xs).mpr hd
    have h3 : gcdL xs = 1 := by omega
    rw [h3] at h2
    exact Nat.dvd_one.mp h2
theorem C2 (n : Nat) (k : Nat) (xs : List Int) (g : G) (hk : g[k]? = some (iw xs)) (hl : xs.length ≤ 1000) (e : Nat) (he : e ≤ 9000) (hs : N1 xs < 2 ^ e) : tbl (n + 2) 2 [.ref k] g = .ok (.ref g.length) (g ++ [iw (mlow xs)]) := by
  have h : WR (tbl (n + 2) 2 [.ref k] g) (fun w g' => w = .ref g.length ∧ g' = g ++ [iw (mlow xs)]) := by
    rw [tbl_2]
    refine WR_callS ?_
    simp only [b2, WR_ok, OW_some, BW_bl, WS_seq, WS_asgN, WS_asgT, WS_ret, WS_exp, WS_next, WS_no, WS_par, WS_sFor, WS_sif, WS_set, WR_lc, WR_var, WR_c, WR_bin, WR_un, WA_nil, WA_cons, WR_fun, WR_call, WR_and, WR_or, WR_not, WR_if, WR_chain, WR_isn, WR_isi, WR_iteT, WR_seqI, WR_enI, WR_app, WR_pop, lk, stw, stws, wipew, stn, List.map_cons, List.map_nil, List.length_cons, List.length_nil, List.cons_append, List.nil_append, List.replicate, Nat.reduceAdd, Nat.reduceSub, Nat.reduceLeDiff, Nat.reduceEqDiff, BEq.rfl, beq_self_eq_true, if_true, true_and, and_true, forall_const, Bool.false_eq_true, Bool.true_eq_false, reduceCtorEq, false_implies, true_implies, W.ref.injEq, W.int.injEq, W.tup.injEq, W.bl.injEq, List.cons.injEq, Option.some.injEq, exists_eq_left', exists_eq_left, exists_and_left, exists_eq', exists_const, cntI, hk]
    refine WS_for (iw xs).length (fun i s g' => g' = g ∧ ∃ y, s = [some (.ref k), some (.int ((xs.take i).foldl (fun c x => Int.gcd c x) 0 : Nat)), y]) (fun i s g' hi ⟨hg, y, hs'⟩ => ?_) (fun s g' ⟨hg, y, hs'⟩ => ?_) (iw xs).length 0 _ _ (by omega) ⟨rfl, _, rfl⟩
    · subst hg hs'
      rw [iw_len] at hi
      refine ⟨.int xs[i], _, by simp only [itemI, hk, at_get, List.getElem?_eq_getElem hi, Option.map_some], rfl, ?_⟩
      simp only [WR_ok, OW_some, BW_bl, WS_seq, WS_asgN, WS_asgT, WS_ret, WS_exp, WS_next, WS_no, WS_par, WS_sFor, WS_sif, WS_set, WR_lc, WR_var, WR_c, WR_bin, WR_un, WA_nil, WA_cons, WR_fun, WR_call, WR_and, WR_or, WR_not, WR_if, WR_chain, WR_isn, WR_isi, WR_iteT, WR_seqI, WR_enI, WR_app, WR_pop, lk, stw, stws, wipew, stn, List.map_cons, List.map_nil, List.length_cons, List.length_nil, List.cons_append, List.nil_append, List.replicate, Nat.reduceAdd, Nat.reduceSub, Nat.reduceLeDiff, Nat.reduceEqDiff, BEq.rfl, beq_self_eq_true, if_true, true_and, and_true, forall_const, Bool.false_eq_true, Bool.true_eq_false, reduceCtorEq, false_implies, true_implies, W.ref.injEq, W.int.injEq, W.tup.injEq, W.bl.injEq, List.cons.injEq, Option.some.injEq, exists_eq_left', exists_eq_left, exists_and_left, exists_eq', exists_const, C0]
      rw [List.take_add_one, List.getElem?_eq_getElem hi, List.foldl_append]
      rfl
    · subst hg hs'
      refine ⟨by simp only [stopI, hk]; exact ble_refl _, ?_⟩
      rw [iw_len, List.take_length]
      have hgc : xs.foldl (fun c x => Int.gcd c x) 0 = gcdL xs := rfl
      simp only [WR_ok, OW_some, BW_bl, WS_seq, WS_asgN, WS_asgT, WS_ret, WS_exp, WS_next, WS_no, WS_par, WS_sFor, WS_sif, WS_set, WR_lc, WR_var, WR_c, WR_bin, WR_un, WA_nil, WA_cons, WR_fun, WR_call, WR_and, WR_or, WR_not, WR_if, WR_chain, WR_isn, WR_isi, WR_iteT, WR_seqI, WR_enI, WR_app, WR_pop, lk, stw, stws, wipew, stn, List.map_cons, List.map_nil, List.length_cons, List.length_nil, List.cons_append, List.nil_append, List.replicate, Nat.reduceAdd, Nat.reduceSub, Nat.reduceLeDiff, Nat.reduceEqDiff, BEq.rfl, beq_self_eq_true, if_true, true_and, and_true, forall_const, Bool.false_eq_true, Bool.true_eq_false, reduceCtorEq, false_implies, true_implies, W.ref.injEq, W.int.injEq, W.tup.injEq, W.bl.injEq, List.cons.injEq, Option.some.injEq, exists_eq_left', exists_eq_left, exists_and_left, exists_eq', exists_const, fGt, hgc]
      refine ⟨fun h => ?_, fun h => ?_⟩
      · have h1 : 1 < gcdL xs := by have := of_decide_eq_true h; omega
        have hc := lc_lst (o := tbl (n + 1)) (s := [some (.ref k), some (.int (gcdL xs : Nat)), y]) (t := tName 2) (vs := [2]) (test := eC (.bl true)) (elt := eBin fDiv (eVar 2) (eVar 1)) hk (intF (· / (gcdL xs : Int))) (by rw [iw_len]; omega) (fun w hw h => by
          obtain ⟨x, hx, rfl⟩ := mem_iw hw
          refine ⟨_, rfl, .inr ⟨_, rfl, rfl, ?_⟩⟩
          have h2 := gcdL_le xs
          show fDiv (.int x) (.int (gcdL xs : Nat)) h = _
          simp only [fDiv, nopy (i := x) (j := ((gcdL xs : Nat) : Int)) (by omega) (e := e) (by rw [Int.natAbs_natCast]; omega) he, if_true, Int.fdiv_eq_ediv_of_nonneg _ (show (0 : Int) ≤ (gcdL xs : Nat) by omega)])
        simp only [cntI] at hc
        rw [hc, WR_ok, fm_map]
        exact ⟨rfl, by rw [mlow, if_pos h1]⟩
      · have h1 : ¬ 1 < gcdL xs := by have := of_decide_eq_false h; omega
        simp only [WR_ok, OW_some, BW_bl, WS_seq, WS_asgN, WS_asgT, WS_ret, WS_exp, WS_next, WS_no, WS_par, WS_sFor, WS_sif, WS_set, WR_lc, WR_var, WR_c, WR_bin, WR_un, WA_nil, WA_cons, WR_fun, WR_call, WR_and, WR_or, WR_not, WR_if, WR_chain, WR_isn, WR_isi, WR_iteT, WR_seqI, WR_enI, WR_app, WR_pop, lk, stw, stws, wipew, stn, List.map_cons, List.map_nil, List.length_cons, List.length_nil, List.cons_append, List.nil_append, List.replicate, Nat.reduceAdd, Nat.reduceSub, Nat.reduceLeDiff, Nat.reduceEqDiff, BEq.rfl, beq_self_eq_true, if_true, true_and, and_true, forall_const, Bool.false_eq_true, Bool.true_eq_false, reduceCtorEq, false_implies, true_implies, W.ref.injEq, W.int.injEq, W.tup.injEq, W.bl.injEq, List.cons.injEq, Option.some.injEq, exists_eq_left', exists_eq_left, exists_and_left, exists_eq', exists_const, fList, itemsOf, hk]
        rw [mlow, if_neg h1]
  obtain ⟨w, g', e, rfl, rfl⟩ := h.out
  exact e
end LK77

set_option Elab.async false
set_option linter.all false
set_option maxRecDepth 100000
set_option maxHeartbeats 4000000
namespace LK77
open PySem L2 Ev Sm
section
variable {o : Orc} {s : Sg} {g : G} {Q : W → G → Prop}
def IO (w : W) (P : Int → Prop) : Prop := match w with
  | .int i => P i
  | _ => False
theorem IO_int (i : Int) (P : Int → Prop) : IO (.int i) P = P i := propext Iff.rfl
theorem WO_none {Q : Option Int → G → Prop} : WR (evO none o s g) Q = Q none g := propext Iff.rfl
theorem WO_some {Q : Option Int → G → Prop} (c : CE) : WR (evO (some c) o s g) Q = WR (c o s g) fun x g1 => IO x fun i => Q (some i) g1 := by
  unfold evO
  rw [WR_bind]
  congr 1
  funext x g1
  cases x <;> exact propext Iff.rfl
theorem WR_sl (a : CE) (lo hi : Option CE) : WR (eSl a lo hi o s g) Q = WR (a o s g) fun x g1 => WR (evO lo o s g1) fun l g2 => WR (evO hi o s g2) fun h g3 => WR (fSl x l h g3) Q := by
  unfold eSl
  rw [WR_bind]
  congr 1
  funext x g1
  rw [WR_bind]
  congr 1
  funext l g2
  rw [WR_bind]
end
theorem set_new (g : G) (xs zs : List W) (e : G) : (g ++ xs :: e).set g.length zs = g ++ zs :: e := by
  rw [List.set_append_right _ _ (Nat.le_refl _)]
  simp
theorem cut_tail (xs : List W) : cutW xs (some 1) none = xs.drop 1 := by
  unfold cutW
  have h1 : HT.sIx xs.length 0 (some 1) = min 1 xs.length := rfl
  have h2 : HT.sIx xs.length xs.length none = xs.length := rfl
  rw [h1, h2]
  cases xs with
  | nil => rfl
  | cons x xs =>
    have : min 1 (x :: xs).length = 1 := by simp only [List.length_cons]; omega
    rw [this, List.take_of_length_le (by simp)]
theorem cut_last (xs : List W) : cutW xs none (some (-1)) = xs.dropLast := by
  unfold cutW
  have h1 : HT.sIx xs.length 0 none = 0 := rfl
  have h2 : HT.sIx xs.length xs.length (some (-1)) = (-1 + (xs.length : Int)).toNat := rfl
  rw [h1, h2, List.drop_zero, List.dropLast_eq_take]
  congr 1
  omega
theorem dl_get : ∀ (n : Nat) (xs : List Int) (i : Nat), (dlZ n xs)[i]? = (xs[i]?).map fun x => ((n + i : Nat) : Int) * x
  | n, [], i => by simp [dlZ]
  | n, x :: xs, 0 => by simp [dlZ]
  | n, x :: xs, i + 1 => by
    simp only [dlZ, List.getElem?_cons_succ, dl_get (n + 1) xs i]
    congr 1
    funext y
    congr 2
    omega
theorem dl_len' (n : Nat) (xs : List Int) : (dlZ n xs).length = xs.length := by
  induction xs generalizing n with
  | nil => rfl
  | cons x xs ih => simp [dlZ, ih]
theorem sl_drop (xs : List Int) : iw (slZ xs) = (iw (dlZ 0 xs)).drop 1 := by
  cases xs with
  | nil => rfl
  | cons x xs => simp [slZ, dlZ, iw]
theorem C15 (n : Nat) (w : W) (xs : List Int) (g : G) (hw : w = .tup (iw xs) ∨ ∃ k, w = .ref k ∧ g[k]? = some (iw xs)) (hl : xs.length ≤ 1000) : tbl (n + 1) 15 [w] g = .ok (.ref (g.length + 1)) (g ++ [iw (dlZ 0 xs), iw (slZ xs)]) := by
  have h : WR (tbl (n + 1) 15 [w] g) (fun w' g' => w' = .ref (g.length + 1) ∧ g' = g ++ [iw (dlZ 0 xs), iw (slZ xs)]) := by
    rw [tbl_15]
    refine WR_callS ?_
    have st : ∀ (i : Nat) (v z : W), (iw xs)[i]? = some v → (iw (dlZ 0 xs))[i]? = some z → ∀ h : G, ∃ s2, tTups [1, 2] (.tup [.int (i : Nat), v]) (wipew [some w, none, none] [1, 2]) = some s2 ∧ eBin fMul (eVar 1) (eVar 2) (tbl n) s2 h = .ok z h := fun i v z hv hz h => by
      refine ⟨_, rfl, ?_⟩
      rw [iw_get] at hv hz
      rw [dl_get] at hz
      cases e : xs[i]? with
      | none => rw [e] at hv; cases hv
      | some x =>
        rw [e] at hv hz
        cases hv
        cases hz
        have hi := (List.getElem?_eq_some_iff.mp e).1
        show fMul (.int (i : Nat)) (.int x) h = _
        have h1 : mulOk (i : Nat) x = true := mokL (by rw [Int.natAbs_natCast]; omega)
        simp only [fMul, h1, if_true, Nat.zero_add]
    have fin : ∀ (h : G), (h ++ [iw (dlZ 0 xs)])[h.length]? = some (iw (dlZ 0 xs)) := fun h => lk_new h _ []
    rcases hw with rfl | ⟨k, rfl, hk⟩
    · have hc := lc_enf (o := tbl n) (s := [some (.tup (iw xs)), none, none]) (g := g) (t := tTups [1, 2]) (vs := [1, 2]) (elt := eBin fMul (eVar 1) (eVar 2)) (iw xs) (iw (dlZ 0 xs)) (by rw [iw_len]; omega) (by rw [iw_len, iw_len, dl_len']) st
      simp only [b15, WR_ok, OW_some, BW_bl, WS_seq, WS_asgN, WS_asgT, WS_ret, WS_exp, WS_next, WS_no, WS_par, WS_sFor, WS_sif, WS_set, WR_lc, WR_var, WR_c, WR_bin, WR_un, WA_nil, WA_cons, WR_fun, WR_call, WR_and, WR_or, WR_not, WR_if, WR_chain, WR_isn, WR_isi, WR_iteT, WR_seqI, WR_enI, WR_app, WR_pop, lk, stw, stws, wipew, stn, List.map_cons, List.map_nil, List.length_cons, List.length_nil, List.cons_append, List.nil_append, List.replicate, Nat.reduceAdd, Nat.reduceSub, Nat.reduceLeDiff, Nat.reduceEqDiff, BEq.rfl, beq_self_eq_true, if_true, true_and, and_true, forall_const, Bool.false_eq_true, Bool.true_eq_false, reduceCtorEq, false_implies, true_implies, W.ref.injEq, W.int.injEq, W.tup.injEq, W.bl.injEq, List.cons.injEq, Option.some.injEq, exists_eq_left', exists_eq_left, exists_and_left, exists_eq', exists_const, WR_sl, hc, WO_some, WO_none, IO_int, fSl, fin, cut_tail, ← sl_drop, List.length_append, List.append_assoc]
    · have hc := lc_enl (o := tbl n) (s := [some (.ref k), none, none]) (g := g) (t := tTups [1, 2]) (vs := [1, 2]) (elt := eBin fMul (eVar 1) (eVar 2)) (zs := iw (dlZ 0 xs)) hk (by rw [iw_len]; omega) (by rw [iw_len, iw_len, dl_len']) st
      simp only [b15, WR_ok, OW_some, BW_bl, WS_seq, WS_asgN, WS_asgT, WS_ret, WS_exp, WS_next, WS_no, WS_par, WS_sFor, WS_sif, WS_set, WR_lc, WR_var, WR_c, WR_bin, WR_un, WA_nil, WA_cons, WR_fun, WR_call, WR_and, WR_or, WR_not, WR_if, WR_chain, WR_isn, WR_isi, WR_iteT, WR_seqI, WR_enI, WR_app, WR_pop, lk, stw, stws, wipew, stn, List.map_cons, List.map_nil, List.length_cons, List.length_nil, List.cons_append, List.nil_append, List.replicate, Nat.reduceAdd, Nat.reduceSub, Nat.reduceLeDiff, Nat.reduceEqDiff, BEq.rfl, beq_self_eq_true, if_true, true_and, and_true, forall_const, Bool.false_eq_true, Bool.true_eq_false, reduceCtorEq, false_implies, true_implies, W.ref.injEq, W.int.injEq, W.tup.injEq, W.bl.injEq, List.cons.injEq, Option.some.injEq, exists_eq_left', exists_eq_left, exists_and_left, exists_eq', exists_const, WR_sl, hc, WO_some, WO_none, IO_int, fSl, fin, cut_tail, ← sl_drop, List.length_append, List.append_assoc]
  obtain ⟨w, g', e, rfl, rfl⟩ := h.out
  exact e
theorem lastW_iw {xs : List Int} (h : xs ≠ []) : lastW (iw xs) = some (.int (xs.getLast h)) := by
  rw [lastW_eq]
  simp only [iw, ← List.getLast?_eq_getElem?, List.getLast?_map, List.getLast?_eq_some_getLast h, Option.map_some]
theorem iw_drop (xs : List Int) : (iw xs).dropLast = iw xs.dropLast := by
  simp [iw, List.dropLast_eq_take]
theorem rep_succ (ys : List Int) (h : ys ≠ []) (h0 : ys.getLast h = 0) (m : Nat) : ys ++ List.replicate m (0 : Int) = ys.dropLast ++ List.replicate (m + 1) 0 := by
  conv => lhs; rw [← List.dropLast_concat_getLast h, h0]
  rw [List.append_assoc]
  rfl
/-- the loop that cuts noughts -/
theorem cut_loop (o : Orc) (s0 : Sg) (sl : Nat) (hsl : sl = 1) (w0 : W) (xs : List Int) (hl : xs.length ≤ 1000) (g : G) (N : Sg → G → Prop) (T : W → G → Prop)
    (k : ∀ ys m e, xs = ys ++ List.replicate m 0 → Tr ys → N [some w0, some (.ref g.length)] (g ++ iw ys :: e)) :
    WS (sWhile (eAnd (eBin fNe (eVar 1) (eFun fLst aNil)) (eBin fEq (eBin fIx (eVar 1) (eUn fNeg (eC (.int 1)))) (eC (.int 0)))) (sExp (ePop (eVar 1))) o [some w0, some (.ref g.length)] (g ++ [iw xs])) N T := by
  refine WS_sWhile (fun k s g' => s = [some w0, some (.ref g.length)] ∧ ∃ ys m e, g' = g ++ iw ys :: e ∧ xs = ys ++ List.replicate m 0 ∧ k = ys.length) xs.length (by have := fuel_ge [some w0, some (W.ref g.length)]; omega) ⟨rfl, xs, 0, [], rfl, by simp, rfl⟩ (fun kk s g' ⟨hs, ys, m, e, hg, hx, hk⟩ => ?_)
  subst hs hg hk
  have h1 : (g ++ iw ys :: (e ++ [[]]))[g.length]? = some (iw ys) := lk_new g _ _
  have h2 : (g ++ iw ys :: (e ++ [[]]))[(g ++ iw ys :: e).length]? = some [] := by
    have := lk_new (g ++ iw ys :: e) [] []
    simpa using this
  have h3 := ne_lst_nil h1 h2
  simp only [WR_ok, OW_some, BW_bl, WS_seq, WS_asgN, WS_asgT, WS_ret, WS_exp, WS_next, WS_no, WS_par, WS_sFor, WS_sif, WS_set, WR_lc, WR_var, WR_c, WR_bin, WR_un, WA_nil, WA_cons, WR_fun, WR_call, WR_and, WR_or, WR_not, WR_if, WR_chain, WR_isn, WR_isi, WR_iteT, WR_seqI, WR_enI, WR_app, WR_pop, lk, stw, stws, wipew, stn, List.map_cons, List.map_nil, List.length_cons, List.length_nil, List.cons_append, List.nil_append, List.replicate, Nat.reduceAdd, Nat.reduceSub, Nat.reduceLeDiff, Nat.reduceEqDiff, BEq.rfl, beq_self_eq_true, if_true, true_and, and_true, forall_const, Bool.false_eq_true, Bool.true_eq_false, reduceCtorEq, false_implies, true_implies, W.ref.injEq, W.int.injEq, W.tup.injEq, W.bl.injEq, List.cons.injEq, Option.some.injEq, exists_eq_left', exists_eq_left, exists_and_left, exists_eq', exists_const, fLst_nil, List.append_assoc, h3]
  by_cases hn : ys = []
  · subst hn
    simp only [List.isEmpty_nil, Bool.not_true, WR_ok, OW_some, BW_bl, WS_seq, WS_asgN, WS_asgT, WS_ret, WS_exp, WS_next, WS_no, WS_par, WS_sFor, WS_sif, WS_set, WR_lc, WR_var, WR_c, WR_bin, WR_un, WA_nil, WA_cons, WR_fun, WR_call, WR_and, WR_or, WR_not, WR_if, WR_chain, WR_isn, WR_isi, WR_iteT, WR_seqI, WR_enI, WR_app, WR_pop, lk, stw, stws, wipew, stn, List.map_cons, List.map_nil, List.length_cons, List.length_nil, List.cons_append, List.nil_append, List.replicate, Nat.reduceAdd, Nat.reduceSub, Nat.reduceLeDiff, Nat.reduceEqDiff, BEq.rfl, beq_self_eq_true, if_true, true_and, and_true, forall_const, Bool.false_eq_true, Bool.true_eq_false, reduceCtorEq, false_implies, true_implies, W.ref.injEq, W.int.injEq, W.tup.injEq, W.bl.injEq, List.cons.injEq, Option.some.injEq, exists_eq_left', exists_eq_left, exists_and_left, exists_eq', exists_const]
    exact k [] m _ hx (fun a ha => by simp at ha)
  · have hE : ys.isEmpty = false := by simpa using hn
    simp only [hE, Bool.not_false, WR_ok, OW_some, BW_bl, WS_seq, WS_asgN, WS_asgT, WS_ret, WS_exp, WS_next, WS_no, WS_par, WS_sFor, WS_sif, WS_set, WR_lc, WR_var, WR_c, WR_bin, WR_un, WA_nil, WA_cons, WR_fun, WR_call, WR_and, WR_or, WR_not, WR_if, WR_chain, WR_isn, WR_isi, WR_iteT, WR_seqI, WR_enI, WR_app, WR_pop, lk, stw, stws, wipew, stn, List.map_cons, List.map_nil, List.length_cons, List.length_nil, List.cons_append, List.nil_append, List.replicate, Nat.reduceAdd, Nat.reduceSub, Nat.reduceLeDiff, Nat.reduceEqDiff, BEq.rfl, beq_self_eq_true, if_true, true_and, and_true, forall_const, Bool.false_eq_true, Bool.true_eq_false, reduceCtorEq, false_implies, true_implies, W.ref.injEq, W.int.injEq, W.tup.injEq, W.bl.injEq, List.cons.injEq, Option.some.injEq, exists_eq_left', exists_eq_left, exists_and_left, exists_eq', exists_const, fNeg, fIx, h1, at_last ys hn, fEq]
    refine ⟨fun h => ?_, fun h => ?_⟩
    · refine k ys m _ hx fun a ha => ?_
      rw [List.getLast?_eq_some_getLast hn] at ha
      cases ha
      simpa using h
    · have h0 : ys.getLast hn = 0 := by simpa using h
      have hp := List.length_pos_iff.mpr hn
      refine ⟨_, lastW_iw hn, ys.dropLast.length, by rw [List.length_dropLast]; omega, ys.dropLast, m + 1, e ++ [[]], ?_, by rw [← rep_succ ys hn h0]; exact hx, rfl⟩
      rw [set_new, iw_drop]
theorem C3 (n : Nat) (k : Nat) (xs : List Int) (g : G) (hk : g[k]? = some (iw xs)) (hl : xs.length ≤ 1000) : ∃ ys m e, xs = ys ++ List.replicate m 0 ∧ Tr ys ∧ tbl (n + 1) 3 [.ref k] g = .ok (.ref g.length) (g ++ iw ys :: e) := by
  have h : WR (tbl (n + 1) 3 [.ref k] g) (fun w g' => ∃ ys m e, xs = ys ++ List.replicate m 0 ∧ Tr ys ∧ w = .ref g.length ∧ g' = g ++ iw ys :: e) := by
    rw [tbl_3]
    refine WR_callS ?_
    simp only [b3, WR_ok, OW_some, BW_bl, WS_seq, WS_asgN, WS_asgT, WS_ret, WS_exp, WS_next, WS_no, WS_par, WS_sFor, WS_sif, WS_set, WR_lc, WR_var, WR_c, WR_bin, WR_un, WA_nil, WA_cons, WR_fun, WR_call, WR_and, WR_or, WR_not, WR_if, WR_chain, WR_isn, WR_isi, WR_iteT, WR_seqI, WR_enI, WR_app, WR_pop, lk, stw, stws, wipew, stn, List.map_cons, List.map_nil, List.length_cons, List.length_nil, List.cons_append, List.nil_append, List.replicate, Nat.reduceAdd, Nat.reduceSub, Nat.reduceLeDiff, Nat.reduceEqDiff, BEq.rfl, beq_self_eq_true, if_true, true_and, and_true, forall_const, Bool.false_eq_true, Bool.true_eq_false, reduceCtorEq, false_implies, true_implies, W.ref.injEq, W.int.injEq, W.tup.injEq, W.bl.injEq, List.cons.injEq, Option.some.injEq, exists_eq_left', exists_eq_left, exists_and_left, exists_eq', exists_const, fList, itemsOf, hk]
    refine cut_loop (tbl n) [] 1 rfl (.ref k) xs hl g _ _ fun ys m e hx ht => ?_
    simp only [WR_ok, OW_some, BW_bl, WS_seq, WS_asgN, WS_asgT, WS_ret, WS_exp, WS_next, WS_no, WS_par, WS_sFor, WS_sif, WS_set, WR_lc, WR_var, WR_c, WR_bin, WR_un, WA_nil, WA_cons, WR_fun, WR_call, WR_and, WR_or, WR_not, WR_if, WR_chain, WR_isn, WR_isi, WR_iteT, WR_seqI, WR_enI, WR_app, WR_pop, lk, stw, stws, wipew, stn, List.map_cons, List.map_nil, List.length_cons, List.length_nil, List.cons_append, List.nil_append, List.replicate, Nat.reduceAdd, Nat.reduceSub, Nat.reduceLeDiff, Nat.reduceEqDiff, BEq.rfl, beq_self_eq_true, if_true, true_and, and_true, forall_const, Bool.false_eq_true, Bool.true_eq_false, reduceCtorEq, false_implies, true_implies, W.ref.injEq, W.int.injEq, W.tup.injEq, W.bl.injEq, List.cons.injEq, Option.some.injEq, exists_eq_left', exists_eq_left, exists_and_left, exists_eq', exists_const]
    exact ⟨ys, m, hx, ht, e, rfl⟩
  obtain ⟨w, g', e, ys, m, e', h1, h2, rfl, rfl⟩ := h.out
  exact ⟨ys, m, e', h1, h2, e⟩
theorem C9 (n : Nat) (k : Nat) (xs : List Int) (g : G) (hk : g[k]? = some (iw xs)) (hl : xs.length ≤ 1000) : ∃ ys m e, xs = ys ++ List.replicate m 0 ∧ Tr ys ∧ tbl (n + 1) 9 [.ref k] g = .ok (.tup (iw ys)) (g ++ e) := by
  have h : WR (tbl (n + 1) 9 [.ref k] g) (fun w g' => ∃ ys m e, xs = ys ++ List.replicate m 0 ∧ Tr ys ∧ w = .tup (iw ys) ∧ g' = g ++ e) := by
    rw [tbl_9]
    refine WR_callS ?_
    simp only [b9, WR_ok, OW_some, BW_bl, WS_seq, WS_asgN, WS_asgT, WS_ret, WS_exp, WS_next, WS_no, WS_par, WS_sFor, WS_sif, WS_set, WR_lc, WR_var, WR_c, WR_bin, WR_un, WA_nil, WA_cons, WR_fun, WR_call, WR_and, WR_or, WR_not, WR_if, WR_chain, WR_isn, WR_isi, WR_iteT, WR_seqI, WR_enI, WR_app, WR_pop, lk, stw, stws, wipew, stn, List.map_cons, List.map_nil, List.length_cons, List.length_nil, List.cons_append, List.nil_append, List.replicate, Nat.reduceAdd, Nat.reduceSub, Nat.reduceLeDiff, Nat.reduceEqDiff, BEq.rfl, beq_self_eq_true, if_true, true_and, and_true, forall_const, Bool.false_eq_true, Bool.true_eq_false, reduceCtorEq, false_implies, true_implies, W.ref.injEq, W.int.injEq, W.tup.injEq, W.bl.injEq, List.cons.injEq, Option.some.injEq, exists_eq_left', exists_eq_left, exists_and_left, exists_eq', exists_const, fList, itemsOf, hk]
    refine cut_loop (tbl n) [] 1 rfl (.ref k) xs hl g _ _ fun ys m e hx ht => ?_
    simp only [WR_ok, OW_some, BW_bl, WS_seq, WS_asgN, WS_asgT, WS_ret, WS_exp, WS_next, WS_no, WS_par, WS_sFor, WS_sif, WS_set, WR_lc, WR_var, WR_c, WR_bin, WR_un, WA_nil, WA_cons, WR_fun, WR_call, WR_and, WR_or, WR_not, WR_if, WR_chain, WR_isn, WR_isi, WR_iteT, WR_seqI, WR_enI, WR_app, WR_pop, lk, stw, stws, wipew, stn, List.map_cons, List.map_nil, List.length_cons, List.length_nil, List.cons_append, List.nil_append, List.replicate, Nat.reduceAdd, Nat.reduceSub, Nat.reduceLeDiff, Nat.reduceEqDiff, BEq.rfl, beq_self_eq_true, if_true, true_and, and_true, forall_const, Bool.false_eq_true, Bool.true_eq_false, reduceCtorEq, false_implies, true_implies, W.ref.injEq, W.int.injEq, W.tup.injEq, W.bl.injEq, List.cons.injEq, Option.some.injEq, exists_eq_left', exists_eq_left, exists_and_left, exists_eq', exists_const, fTuple, lk_new]
    exact ⟨ys, m, hx, ht, rfl, _, rfl⟩
  obtain ⟨w, g', e, ys, m, e', h1, h2, rfl, rfl⟩ := h.out
  exact ⟨ys, m, e', h1, h2, e⟩
/-! small facts of rows -/
theorem eZ_app (xs ys : List Int) (x : Rat) : eZ (xs ++ ys) x = eZ xs x + x ^ xs.length * eZ ys x := by
  induction xs with
  | nil => rw [List.nil_append, List.length_nil, Rat.pow_zero, eZ_nil]; grind
  | cons a xs ih => rw [List.cons_append, eZ_cons, eZ_cons, ih, List.length_cons, Rat.pow_succ]; grind
theorem eZ_rep (m : Nat) (x : Rat) : eZ (List.replicate m 0) x = 0 := by
  induction m with
  | zero => rfl
  | succ m ih => rw [List.replicate_succ, eZ_cons, ih]; simp; grind
theorem eZ_cut {xs ys : List Int} {m : Nat} (h : xs = ys ++ List.replicate m 0) (x : Rat) : eZ ys x = eZ xs x := by
  rw [h, eZ_app, eZ_rep]; grind
theorem N1_app (xs ys : List Int) : N1 (xs ++ ys) = N1 xs + N1 ys := by
  induction xs with
  | nil => simp [N1]
  | cons a xs ih => simp [N1, ih]; omega
theorem eZ_set : ∀ (M : List Int) (k : Nat) (v d : Int) (x : Rat), M[k]? = some v → eZ (M.set k (v + d)) x = eZ M x + (d : Rat) * x ^ k
  | [], k, v, d, x, h => by simp at h
  | a :: M, 0, v, d, x, h => by
    have : a = v := by simpa using h
    subst this
    rw [List.set_cons_zero, eZ_cons, eZ_cons, Rat.intCast_add, Rat.pow_zero]; grind
  | a :: M, k + 1, v, d, x, h => by
    have ih := eZ_set M k v d x (by simpa using h)
    rw [List.set_cons_succ, eZ_cons, eZ_cons, ih, Rat.pow_succ]; grind
theorem N1_set : ∀ (M : List Int) (k : Nat) (v d : Int), M[k]? = some v → N1 (M.set k (v + d)) ≤ N1 M + d.natAbs
  | [], k, v, d, h => by simp at h
  | a :: M, 0, v, d, h => by
    have : a = v := by simpa using h
    subst this
    simp only [List.set_cons_zero, N1]
    have := Int.natAbs_add_le a d
    omega
  | a :: M, k + 1, v, d, h => by
    have ih := N1_set M k v d (by simpa using h)
    simp only [List.set_cons_succ, N1]
    omega
theorem take_eZ {ys : List Int} {i : Nat} {y : Int} (h : ys[i]? = some y) (x : Rat) : eZ (ys.take (i + 1)) x = eZ (ys.take i) x + (y : Rat) * x ^ i := by
  have hi := (List.getElem?_eq_some_iff.mp h).1
  rw [List.take_add_one, h, eZ_app, List.length_take, Nat.min_eq_left (by omega)]
  simp only [Option.toList_some, eZ_cons, eZ_nil]
  grind
theorem take_N1 {ys : List Int} {i : Nat} {y : Int} (h : ys[i]? = some y) : N1 (ys.take (i + 1)) = N1 (ys.take i) + y.natAbs := by
  rw [List.take_add_one, h, N1_app]
  simp [N1]
theorem ixN_nat {n i : Nat} (h : i < n) : ixN n (i : Int) = some i := by
  simp only [ixN]
  rw [if_pos (by omega), if_pos (by omega)]
  simp
theorem atI_nat (xs : List Int) {i : Nat} {v : Int} (h : xs[i]? = some v) : atI (iw xs) (i : Int) = some (.int v) := by
  have hi := (List.getElem?_eq_some_iff.mp h).1
  simp only [atI, iw_len, ixN_nat hi, Option.bind_some, iw_get, h, Option.map_some]
theorem iw_set (xs : List Int) (j : Nat) (v : Int) : (iw xs).set j (.int v) = iw (xs.set j v) := by
  simp [iw, List.map_set]
/-- taking a multiple of a row from another, from a place on -/
structure SubI (L ys : List Int) (top : Int) (sh i : Nat) (M : List Int) : Prop where
  len : M.length = L.length
  ev : ∀ x, eZ M x = eZ L x - (top : Rat) * x ^ sh * eZ (ys.take i) x
  n1 : N1 M ≤ N1 L + top.natAbs * N1 (ys.take i)
  hi : ∀ j, sh + i ≤ j → M[j]? = L[j]?
  lo : ∀ j y l, j < i → ys[j]? = some y → L[j + sh]? = some l → M[j + sh]? = some (l - top * y)
theorem SubI.zero (L ys : List Int) (top : Int) (sh : Nat) : SubI L ys top sh 0 L :=
  ⟨rfl, fun x => by rw [List.take_zero, eZ_nil]; grind, by simp [N1], fun _ _ => rfl, fun _ _ _ h => by omega⟩
theorem SubI.next {L ys : List Int} {top : Int} {sh i : Nat} {M : List Int} (h : SubI L ys top sh i M) {y v : Int} (hy : ys[i]? = some y) (hv : M[i + sh]? = some v) : SubI L ys top sh (i + 1) (M.set (i + sh) (v - top * y)) := by
  have e : v - top * y = v + -(top * y) := by omega
  refine ⟨by rw [List.length_set]; exact h.len, fun x => ?_, ?_, fun j hj => ?_, fun j y' l hj hy' hl => ?_⟩
  · rw [e, eZ_set M _ v _ x hv, h.ev, take_eZ hy, Rat.intCast_neg, Rat.intCast_mul]
    have : x ^ (i + sh) = x ^ sh * x ^ i := by
      rw [Nat.add_comm]
      clear hv hy e h
      induction i with
      | zero => rw [Rat.pow_zero]; grind
      | succ i ih => rw [← Nat.add_assoc, Rat.pow_succ, Rat.pow_succ, ih]; grind
    rw [this]; grind
  · rw [e]
    have h1 := N1_set M _ v (-(top * y)) hv
    have h2 := h.n1
    rw [take_N1 hy, Nat.mul_add]
    rw [Int.natAbs_neg, Int.natAbs_mul] at h1
    omega
  · rw [List.getElem?_set_ne (by omega)]
    exact h.hi j (by omega)
  · by_cases hji : j = i
    · subst hji
      rw [hy] at hy'
      cases hy'
      have := h.hi (j + sh) (by omega)
      rw [this] at hv
      rw [hv] at hl
      cases hl
      rw [List.getElem?_set_self (by rw [h.len]; exact (List.getElem?_eq_some_iff.mp hv).1)]
    · rw [List.getElem?_set_ne (by omega)]
      exact h.lo j y' l (by omega) hy' hl
end LK77

set_option Elab.async false
set_option linter.all false
set_option maxRecDepth 100000
set_option maxHeartbeats 4000000
namespace LK77
open PySem L2 Ev Sm
theorem tr_mlow {L : List Int} (h : Tr L) : Tr (mlow L) := by
  obtain ⟨m, hm, e, _, _⟩ := mlow_eq L
  intro a ha h0
  have : L.getLast? = some ((m : Int) * a) := by
    rw [e, List.getLast?_map, ha]; rfl
  exact h _ this (by rw [h0]; simp)
theorem eZ_mlow (L : List Int) : ∃ m : Rat, 0 < m ∧ ∀ x, eZ L x = m * eZ (mlow L) x := by
  obtain ⟨m, hm, e, _, _⟩ := mlow_eq L
  exact ⟨(m : Rat), Rat.natCast_pos.mpr hm, fun x => by
    conv => lhs; rw [e]
    rw [eZ_smul, Rat.intCast_natCast]⟩
theorem map_mulR (L : List Int) (c : Int) : L.map (· * c) = L.map (c * ·) := List.map_congr_left fun x _ => Int.mul_comm x c
theorem drop_zero {M : List Int} (hn : M ≠ []) (h0 : M.getLast hn = 0) (x : Rat) : eZ M.dropLast x = eZ M x := by
  conv => rhs; rw [← List.dropLast_concat_getLast hn, h0]
  rw [eZ_app, eZ_cons, eZ_nil]; simp; grind
theorem N1_drop (M : List Int) : N1 M.dropLast ≤ N1 M := by
  by_cases hn : M = []
  · subst hn; exact Nat.le_refl _
  · conv => rhs; rw [← List.dropLast_concat_getLast hn]
    rw [N1_app]; omega
def sgI (a : Int) : Int := if 0 < a then 1 else -1
theorem sgI_abs (a : Int) : (a.natAbs : Int) = sgI a * a := by unfold sgI; split <;> omega
theorem sgI_ab (a : Int) : (sgI a).natAbs = 1 := by unfold sgI; split <;> rfl
def RestE (L ys L2 : List Int) : Prop := ∃ α β, 0 < α ∧ Pol β ∧ ∀ x, α * eZ L x = β x * eZ ys x + eZ L2 x
theorem RestE.trans {A B C ys : List Int} (h1 : RestE A ys B) (h2 : RestE B ys C) : RestE A ys C := by
  obtain ⟨α, β, ha, hb, e⟩ := h1
  obtain ⟨α', β', ha', hb', e'⟩ := h2
  refine ⟨α' * α, fun x => α' * β x + β' x, Rat.mul_pos ha' ha, (hb.smul _).add hb', fun x => ?_⟩
  have h1 := e x
  have h2 := e' x
  grind
structure RestS (L ys : List Int) (L2 : List Int) : Prop where
  tr : Tr L2
  len : L2.length + 1 ≤ L.length
  n1 : N1 L2 ≤ 2 * (N1 L * N1 ys)
  ev : RestE L ys L2
theorem rest_math {L ys M L1 : List Int} {sh k : Nat} (hL : L ≠ []) (hy : ys ≠ []) (hy0 : ys.getLast hy ≠ 0) (hlen : L.length = sh + ys.length)
    (hM : SubI (L.map (· * ((ys.getLast hy).natAbs : Int))) ys (L.getLast hL * sgI (ys.getLast hy)) sh ys.length M) (hc : M.dropLast = L1 ++ List.replicate k 0) (ht : Tr L1) :
    RestS L ys (mlow L1) ∧ N1 L1 ≤ 2 * (N1 L * N1 ys) := by
  have hp := List.length_pos_iff.mpr hL
  have hpy := List.length_pos_iff.mpr hy
  have hMl : M.length = L.length := by rw [hM.len, List.length_map]
  have hMn : M ≠ [] := List.length_pos_iff.mp (by omega)
  have hlast : M.getLast hMn = 0 := by
    have h1 := hM.lo (ys.length - 1) (ys.getLast hy) (L.getLast hL * ((ys.getLast hy).natAbs : Int)) (by omega) (by rw [← List.getLast?_eq_getElem?, List.getLast?_eq_some_getLast hy]) (by
      have e : ys.length - 1 + sh = (L.map (· * ((ys.getLast hy).natAbs : Int))).length - 1 := by rw [List.length_map]; omega
      rw [e, ← List.getLast?_eq_getElem?, List.getLast?_map, List.getLast?_eq_some_getLast hL]; rfl)
    have e : ys.length - 1 + sh = M.length - 1 := by omega
    rw [e, ← List.getLast?_eq_getElem?, List.getLast?_eq_some_getLast hMn] at h1
    have h2 := Option.some.inj h1
    rw [h2, sgI_abs, Int.mul_assoc, ← Int.mul_sub]
    have : sgI (ys.getLast hy) * ys.getLast hy - sgI (ys.getLast hy) * ys.getLast hy = 0 := by omega
    rw [this, Int.mul_zero]
  have htop : (L.getLast hL * sgI (ys.getLast hy)).natAbs ≤ N1 L := by
    rw [Int.natAbs_mul, sgI_ab, Nat.mul_one]
    exact N1_mem (List.getLast_mem hL)
  have hfar : (ys.getLast hy).natAbs ≤ N1 ys := N1_mem (List.getLast_mem hy)
  have hn1 : N1 M ≤ 2 * (N1 L * N1 ys) := by
    have h1 := hM.n1
    rw [map_mulR, N1_smul, Int.natAbs_natCast, List.take_length] at h1
    have h2 : (ys.getLast hy).natAbs * N1 L ≤ N1 ys * N1 L := Nat.mul_le_mul_right _ hfar
    have h3 : (L.getLast hL * sgI (ys.getLast hy)).natAbs * N1 ys ≤ N1 L * N1 ys := Nat.mul_le_mul_right _ htop
    rw [Nat.mul_comm (N1 ys)] at h2
    omega
  have hL1 : N1 L1 ≤ N1 M := by
    have := N1_drop M
    rw [hc, N1_app] at this
    omega
  obtain ⟨m, hm, hme⟩ := eZ_mlow L1
  obtain ⟨_, _, _, hn2, hlen2⟩ := mlow_eq L1
  refine ⟨⟨tr_mlow ht, ?_, by omega, ?_⟩, by omega⟩
  · have : M.dropLast.length = L1.length + k := by rw [hc]; simp
    rw [List.length_dropLast] at this
    omega
  · have hf : (0 : Rat) < ((ys.getLast hy).natAbs : Rat) := Rat.natCast_pos.mpr (by omega)
    refine ⟨((ys.getLast hy).natAbs : Rat) / m, fun x => (((L.getLast hL * sgI (ys.getLast hy) : Int) : Rat) / m) * x ^ sh, div_pos hm hf, (Pol.pow Pol.id sh).smul _, fun x => ?_⟩
    have h1 := hM.ev x
    rw [map_mulR, eZ_smul, Rat.intCast_natCast, List.take_length] at h1
    have h2 := eZ_cut hc x
    rw [drop_zero hMn hlast] at h2
    have h3 := hme x
    have h4 : m * eZ (mlow L1) x = ((ys.getLast hy).natAbs : Rat) * eZ L x - ((L.getLast hL * sgI (ys.getLast hy) : Int) : Rat) * x ^ sh * eZ ys x := by grind
    have h5 : eZ (mlow L1) x = (m * eZ (mlow L1) x) / m := by grind
    rw [h5, h4]
    grind
theorem lk_pre {g : G} {b : Nat} {ys : List W} (h : g[b]? = some ys) (e : G) : (g ++ e)[b]? = some ys := pre_lk (List.prefix_append _ _) h
theorem fNeg_int (i : Int) (g : G) : fNeg (.int i) g = .ok (.int (-i)) g := rfl
theorem fIx_ref {g : G} {n : Nat} {xs : List W} {i : Int} {v : W} (h : g[n]? = some xs) (hv : atI xs i = some v) : fIx (.ref n) (.int i) g = .ok v g := by
  simp only [fIx, h, hv]
theorem fGt_int (i j : Int) (g : G) : fGt (.int i) (.int j) g = .ok (.bl (decide (j < i))) g := rfl
theorem fGe_int (i j : Int) (g : G) : fGe (.int i) (.int j) g = .ok (.bl (decide (j ≤ i))) g := rfl
theorem fSub_int (i j : Int) (g : G) : fSub (.int i) (.int j) g = .ok (.int (i - j)) g := rfl
theorem fAdd_int (i j : Int) (g : G) : fAdd (.int i) (.int j) g = .ok (.int (i + j)) g := rfl
theorem fMul_int {i j : Int} (h : mulOk i j = true) (g : G) : fMul (.int i) (.int j) g = .ok (.int (i * j)) g := by simp only [fMul, h, if_true]
theorem fLen_ref {g : G} {n : Nat} {xs : List W} (h : g[n]? = some xs) : fLen [.ref n] g = .ok (.int xs.length) g := by
  simp only [fLen, itemsOf, h]
theorem sg_if (a : Int) (P : Int → Prop) : ((decide (0 < a) = true → P 1) ∧ (decide (0 < a) = false → P (-1))) = P (sgI a) := by
  unfold sgI
  by_cases h : 0 < a <;> simp [h]
theorem sg_mul {a : Int} {x : W} {i : Int} (hx : x = .int i) {g : G} {Q : W → G → Prop} : ((decide (0 < a) = true → WR (fMul x (.int 1) g) Q) ∧ (decide (0 < a) = false → WR (fMul x (.int (-1)) g) Q)) = Q (.int (i * sgI a)) g := by
  subst hx
  rw [fMul_int (mokR (show (1 : Int).natAbs < 2 ^ 62 by decide)), fMul_int (mokR (show (-1 : Int).natAbs < 2 ^ 62 by decide)), WR_ok, WR_ok, sg_if a fun k => Q (.int (i * k)) g]
theorem szM {a b ea eb : Nat} (ha : a < 2 ^ ea) (hb : b < 2 ^ eb) : 2 * (a * b) < 2 ^ (ea + (eb + 1)) := by
  have h1 : a * b < 2 ^ ea * 2 ^ eb := Nat.mul_lt_mul'' ha hb
  have h2 : 2 ^ (ea + (eb + 1)) = 2 ^ ea * 2 ^ eb * 2 := by rw [← Nat.add_assoc, Nat.pow_succ, Nat.pow_add]
  rw [h2]
  generalize a * b = x at *
  generalize 2 ^ ea * 2 ^ eb = y at *
  omega
theorem C16 (n a b : Nat) (xs ys : List Int) (g : G) (ha : g[a]? = some (iw xs)) (hb : g[b]? = some (iw ys)) (htx : Tr xs) (hty : Tr ys) (hy : ys ≠ [])
    (hl : xs.length ≤ 500) (hl2 : ys.length ≤ xs.length) (ex ey : Nat) (hsx : N1 xs < 2 ^ ex) (hsy : N1 ys < 2 ^ ey) (hE : ex + (xs.length - ys.length + 1) * (ey + 1) ≤ 9000) :
    ∃ l g' L, tbl (n + 3) 16 [.ref a, .ref b] g = .ok (.ref l) g' ∧ g <+: g' ∧ g'[l]? = some (iw L) ∧ Tr L ∧ L.length < ys.length ∧ N1 L < 2 ^ (ex + (xs.length - ys.length + 1) * (ey + 1)) ∧
      RestE xs ys L := by
  have h : WR (tbl (n + 3) 16 [.ref a, .ref b] g) (fun w g' => ∃ l L, w = .ref l ∧ g <+: g' ∧ g'[l]? = some (iw L) ∧ Tr L ∧ L.length < ys.length ∧ N1 L < 2 ^ (ex + (xs.length - ys.length + 1) * (ey + 1)) ∧
      RestE xs ys L) := by
    rw [tbl_16]
    refine WR_callS ?_
    have hpy := List.length_pos_iff.mpr hy
    have hy0 := last_ne hty hy
    simp only [b16, WR_ok, OW_some, BW_bl, WS_seq, WS_asgN, WS_asgT, WS_ret, WS_exp, WS_next, WS_no, WS_par, WS_sFor, WS_sif, WS_set, WR_lc, WR_var, WR_c, WR_bin, WR_un, WA_nil, WA_cons, WR_fun, WR_call, WR_and, WR_or, WR_not, WR_if, WR_chain, WR_isn, WR_isi, WR_iteT, WR_seqI, WR_enI, WR_app, WR_pop, lk, stw, stws, wipew, stn, List.map_cons, List.map_nil, List.length_cons, List.length_nil, List.cons_append, List.nil_append, List.replicate, Nat.reduceAdd, Nat.reduceSub, Nat.reduceLeDiff, Nat.reduceEqDiff, BEq.rfl, beq_self_eq_true, if_true, true_and, and_true, forall_const, Bool.false_eq_true, Bool.true_eq_false, reduceCtorEq, false_implies, true_implies, W.ref.injEq, W.int.injEq, W.tup.injEq, W.bl.injEq, List.cons.injEq, Option.some.injEq, exists_eq_left', exists_eq_left, exists_and_left, exists_eq', exists_const, fList, itemsOf, ha, fNeg, fIx, lk_pre hb, at_last ys hy, fAbs, absI, fTup]
    refine WS_sWhile (fun k s g' => g <+: g' ∧ ∃ l L t x4 x5 x6 x7, s = [some (.ref a), some (.ref b), some (.ref l), some (.int ((ys.getLast hy).natAbs : Int)), x4, x5, x6, x7] ∧ g'[l]? = some (iw L) ∧ Tr L ∧ k = L.length ∧ t + L.length ≤ xs.length ∧ t ≤ xs.length - ys.length + 1 ∧
      N1 L < 2 ^ (ex + t * (ey + 1)) ∧ RestE xs ys L) xs.length (Nat.lt_of_lt_of_le (by omega) (fuel_ge _))
      ⟨List.prefix_append _ _, g.length, xs, 0, _, _, _, _, rfl, lk_new g _ [], htx, rfl, by omega, by omega, by simpa using hsx, 1, fun _ => 0, by grind, .const 0, fun x => by grind⟩
      (fun k s g' ⟨hg, l, L, t, x4, x5, x6, x7, hs, hl', htL, hk, ht, ht2, hsz, hev⟩ => ?_)
    subst hs hk
    have hb' := pre_lk hg hb
    simp only [WR_ok, OW_some, BW_bl, WS_seq, WS_asgN, WS_asgT, WS_ret, WS_exp, WS_next, WS_no, WS_par, WS_sFor, WS_sif, WS_set, WR_lc, WR_var, WR_c, WR_bin, WR_un, WA_nil, WA_cons, WR_fun, WR_call, WR_and, WR_or, WR_not, WR_if, WR_chain, WR_isn, WR_isi, WR_iteT, WR_seqI, WR_enI, WR_app, WR_pop, lk, stw, stws, wipew, stn, List.map_cons, List.map_nil, List.length_cons, List.length_nil, List.cons_append, List.nil_append, List.replicate, Nat.reduceAdd, Nat.reduceSub, Nat.reduceLeDiff, Nat.reduceEqDiff, BEq.rfl, beq_self_eq_true, if_true, true_and, and_true, forall_const, Bool.false_eq_true, Bool.true_eq_false, reduceCtorEq, false_implies, true_implies, W.ref.injEq, W.int.injEq, W.tup.injEq, W.bl.injEq, List.cons.injEq, Option.some.injEq, exists_eq_left', exists_eq_left, exists_and_left, exists_eq', exists_const, fLen_ref hl', fLen_ref hb', iw_len, fGe_int]
    refine ⟨fun h => ?_, fun h => ?_⟩
    · have h1 : L.length < ys.length := by have := of_decide_eq_false h; omega
      refine ⟨hg, L, hl', htL, h1, Nat.lt_of_lt_of_le hsz (Nat.pow_le_pow_right (by decide) ?_), hev⟩
      exact Nat.add_le_add_left (Nat.mul_le_mul_right _ ht2) _
    · have h1 : ys.length ≤ L.length := by have := of_decide_eq_true h; omega
      have hL : L ≠ [] := List.length_pos_iff.mp (by omega)
      have hpL := List.length_pos_iff.mpr hL
      have ht3 : t + 1 ≤ xs.length - ys.length + 1 := by omega
      have hEt : ex + (t + 1) * (ey + 1) ≤ 9000 := Nat.le_trans (Nat.add_le_add_left (Nat.mul_le_mul_right _ ht3) _) hE
      have hEt' : ex + t * (ey + 1) + (ey + 1) ≤ 9000 := by rw [Nat.add_mul, Nat.one_mul] at hEt; omega
      have hfar : (ys.getLast hy).natAbs ≤ N1 ys := N1_mem (List.getLast_mem hy)
      have hc := lc_lst (o := tbl (n + 2)) (s := [some (.ref a), some (.ref b), some (.ref l), some (.int ((ys.getLast hy).natAbs : Int)), some (.int (L.getLast hL * sgI (ys.getLast hy))), some (.int ((L.length : Int) - (ys.length : Int))), x6, x7]) (t := tName 7) (vs := [7]) (test := eC (.bl true)) (elt := eBin fMul (eVar 7) (eVar 3)) hl' (intF (· * ((ys.getLast hy).natAbs : Int))) (by rw [iw_len]; omega) (fun w hw h => by
        obtain ⟨x, hx, rfl⟩ := mem_iw hw
        refine ⟨_, rfl, .inr ⟨_, rfl, rfl, ?_⟩⟩
        show fMul (.int x) (.int ((ys.getLast hy).natAbs : Int)) h = _
        have := N1_mem hx
        simp only [fMul, mok (i := x) (j := ((ys.getLast hy).natAbs : Int)) (a := ex + t * (ey + 1)) (b := ey) (by omega) (by rw [Int.natAbs_natCast]; omega) (by omega), if_true])
      rw [fm_map] at hc
      simp only [WR_ok, OW_some, BW_bl, WS_seq, WS_asgN, WS_asgT, WS_ret, WS_exp, WS_next, WS_no, WS_par, WS_sFor, WS_sif, WS_set, WR_lc, WR_var, WR_c, WR_bin, WR_un, WA_nil, WA_cons, WR_fun, WR_call, WR_and, WR_or, WR_not, WR_if, WR_chain, WR_isn, WR_isi, WR_iteT, WR_seqI, WR_enI, WR_app, WR_pop, lk, stw, stws, wipew, stn, List.map_cons, List.map_nil, List.length_cons, List.length_nil, List.cons_append, List.nil_append, List.replicate, Nat.reduceAdd, Nat.reduceSub, Nat.reduceLeDiff, Nat.reduceEqDiff, BEq.rfl, beq_self_eq_true, if_true, true_and, and_true, forall_const, Bool.false_eq_true, Bool.true_eq_false, reduceCtorEq, false_implies, true_implies, W.ref.injEq, W.int.injEq, W.tup.injEq, W.bl.injEq, List.cons.injEq, Option.some.injEq, exists_eq_left', exists_eq_left, exists_and_left, exists_eq', exists_const, fNeg_int, fIx_ref hl' (at_last L hL), fIx_ref hb' (at_last ys hy), fGt_int, sg_mul (a := ys.getLast hy) (rfl : W.int (L.getLast hL) = .int (L.getLast hL)), fLen_ref hl', fLen_ref hb', iw_len, fSub_int, WR_lc]
      simp only [hc, WR_ok, OW_some, BW_bl, WS_seq, WS_asgN, WS_asgT, WS_ret, WS_exp, WS_next, WS_no, WS_par, WS_sFor, WS_sif, WS_set, WR_lc, WR_var, WR_c, WR_bin, WR_un, WA_nil, WA_cons, WR_fun, WR_call, WR_and, WR_or, WR_not, WR_if, WR_chain, WR_isn, WR_isi, WR_iteT, WR_seqI, WR_enI, WR_app, WR_pop, lk, stw, stws, wipew, stn, List.map_cons, List.map_nil, List.length_cons, List.length_nil, List.cons_append, List.nil_append, List.replicate, Nat.reduceAdd, Nat.reduceSub, Nat.reduceLeDiff, Nat.reduceEqDiff, BEq.rfl, beq_self_eq_true, if_true, true_and, and_true, forall_const, Bool.false_eq_true, Bool.true_eq_false, reduceCtorEq, false_implies, true_implies, W.ref.injEq, W.int.injEq, W.tup.injEq, W.bl.injEq, List.cons.injEq, Option.some.injEq, exists_eq_left', exists_eq_left, exists_and_left, exists_eq', exists_const]
      have hcnt : cntI (.enl b) (g' ++ [iw (L.map (· * ((ys.getLast hy).natAbs : Int)))]) = ys.length := by
        simp only [cntI, lk_pre hb', iw_len]
      rw [hcnt]
      have hsh : ((L.length : Int) - (ys.length : Int)) = ((L.length - ys.length : Nat) : Int) := by omega
      refine WS_for ys.length (fun i s g'' => ∃ M x y, SubI (L.map (· * ((ys.getLast hy).natAbs : Int))) ys (L.getLast hL * sgI (ys.getLast hy)) (L.length - ys.length) i M ∧ g'' = g' ++ [iw M] ∧
        s = [some (.ref a), some (.ref b), some (.ref g'.length), some (.int ((ys.getLast hy).natAbs : Int)), some (.int (L.getLast hL * sgI (ys.getLast hy))), some (.int ((L.length : Int) - (ys.length : Int))), x, y]) (fun i s g'' hi ⟨M, x, y, hM, hg'', hs⟩ => ?_) (fun s g'' ⟨M, x, y, hM, hg'', hs⟩ => ?_) ys.length 0 _ _ (by omega) ⟨_, _, _, .zero _ _ _ _, rfl, rfl⟩
      · subst hg'' hs
        have hMl : M.length = L.length := by rw [hM.len, List.length_map]
        have hyi : ys[i]? = some ys[i] := List.getElem?_eq_getElem hi
        have hMi : i + (L.length - ys.length) < M.length := by omega
        have hMv : M[i + (L.length - ys.length)]? = some M[i + (L.length - ys.length)] := List.getElem?_eq_getElem hMi
        have hnx := hM.next hyi hMv
        refine ⟨.tup [.int (i : Nat), .int ys[i]], _, by simp only [itemI, lk_pre hb', at_get, hyi, Option.map_some], rfl, ?_⟩
        have hcast : (i : Int) + ((L.length : Int) - (ys.length : Int)) = ((i + (L.length - ys.length) : Nat) : Int) := by omega
        have htopb : (L.getLast hL * sgI (ys.getLast hy)).natAbs < 2 ^ (ex + t * (ey + 1)) := by
          rw [Int.natAbs_mul, sgI_ab, Nat.mul_one]
          have := N1_mem (List.getLast_mem hL)
          omega
        have hyb : ys[i].natAbs < 2 ^ ey := by
          have := N1_mem (List.getElem_mem hi)
          omega
        have hnew := lk_new g' (iw M) []
        simp only [WR_ok, OW_some, BW_bl, WS_seq, WS_asgN, WS_asgT, WS_ret, WS_exp, WS_next, WS_no, WS_par, WS_sFor, WS_sif, WS_set, WR_lc, WR_var, WR_c, WR_bin, WR_un, WA_nil, WA_cons, WR_fun, WR_call, WR_and, WR_or, WR_not, WR_if, WR_chain, WR_isn, WR_isi, WR_iteT, WR_seqI, WR_enI, WR_app, WR_pop, lk, stw, stws, wipew, stn, List.map_cons, List.map_nil, List.length_cons, List.length_nil, List.cons_append, List.nil_append, List.replicate, Nat.reduceAdd, Nat.reduceSub, Nat.reduceLeDiff, Nat.reduceEqDiff, BEq.rfl, beq_self_eq_true, if_true, true_and, and_true, forall_const, Bool.false_eq_true, Bool.true_eq_false, reduceCtorEq, false_implies, true_implies, W.ref.injEq, W.int.injEq, W.tup.injEq, W.bl.injEq, List.cons.injEq, Option.some.injEq, exists_eq_left', exists_eq_left, exists_and_left, exists_eq', exists_const, fAdd_int, hcast, fIx_ref hnew (atI_nat M hMv), fMul_int (mok htopb hyb (by omega)), fSub_int, hnew, iw_len, ixN_nat hMi]
        exact ⟨_, hnx, by rw [set_new, iw_set]⟩
      · subst hg'' hs
        have hMl : M.length = L.length := by rw [hM.len, List.length_map]
        refine ⟨by simp only [stopI, lk_pre hb', iw_len]; exact ble_refl _, ?_⟩
        have hnew := lk_new g' (iw M) []
        have hlen : (g' ++ [iw M]).length = g'.length + 1 := by simp
        obtain ⟨L1, k, e, hcut, ht1, h3⟩ := C3 (n + 1) (g'.length + 1) M.dropLast (g' ++ [iw M] ++ [iw M.dropLast]) (by rw [← hlen]; exact lk_new _ _ []) (by rw [List.length_dropLast]; omega)
        obtain ⟨hR, hn1⟩ := rest_math hL hy hy0 (sh := L.length - ys.length) (by omega) hM hcut ht1
        have hb1 : N1 L1 < 2 ^ (ex + t * (ey + 1) + (ey + 1)) := Nat.lt_of_le_of_lt hn1 (szM hsz hsy)
        have hL1l : L1.length ≤ 1000 := by
          have : M.dropLast.length = L1.length + k := by rw [hcut]; simp
          rw [List.length_dropLast] at this
          omega
        have h2 := C2 n (g' ++ [iw M] ++ [iw M.dropLast]).length L1 (g' ++ [iw M] ++ [iw M.dropLast] ++ iw L1 :: e) (lk_new _ _ _) hL1l _ hEt' hb1
        simp only [WR_ok, OW_some, BW_bl, WS_seq, WS_asgN, WS_asgT, WS_ret, WS_exp, WS_next, WS_no, WS_par, WS_sFor, WS_sif, WS_set, WR_lc, WR_var, WR_c, WR_bin, WR_un, WA_nil, WA_cons, WR_fun, WR_call, WR_and, WR_or, WR_not, WR_if, WR_chain, WR_isn, WR_isi, WR_iteT, WR_seqI, WR_enI, WR_app, WR_pop, lk, stw, stws, wipew, stn, List.map_cons, List.map_nil, List.length_cons, List.length_nil, List.cons_append, List.nil_append, List.replicate, Nat.reduceAdd, Nat.reduceSub, Nat.reduceLeDiff, Nat.reduceEqDiff, BEq.rfl, beq_self_eq_true, if_true, true_and, and_true, forall_const, Bool.false_eq_true, Bool.true_eq_false, reduceCtorEq, false_implies, true_implies, W.ref.injEq, W.int.injEq, W.tup.injEq, W.bl.injEq, List.cons.injEq, Option.some.injEq, exists_eq_left', exists_eq_left, exists_and_left, exists_eq', exists_const, WR_sl, WO_none, WO_some, IO_int, fNeg_int, fSl, hnew, cut_last, iw_drop]
        rw [hlen, h3]
        simp only [WR_ok, OW_some, BW_bl, WS_seq, WS_asgN, WS_asgT, WS_ret, WS_exp, WS_next, WS_no, WS_par, WS_sFor, WS_sif, WS_set, WR_lc, WR_var, WR_c, WR_bin, WR_un, WA_nil, WA_cons, WR_fun, WR_call, WR_and, WR_or, WR_not, WR_if, WR_chain, WR_isn, WR_isi, WR_iteT, WR_seqI, WR_enI, WR_app, WR_pop, lk, stw, stws, wipew, stn, List.map_cons, List.map_nil, List.length_cons, List.length_nil, List.cons_append, List.nil_append, List.replicate, Nat.reduceAdd, Nat.reduceSub, Nat.reduceLeDiff, Nat.reduceEqDiff, BEq.rfl, beq_self_eq_true, if_true, true_and, and_true, forall_const, Bool.false_eq_true, Bool.true_eq_false, reduceCtorEq, false_implies, true_implies, W.ref.injEq, W.int.injEq, W.tup.injEq, W.bl.injEq, List.cons.injEq, Option.some.injEq, exists_eq_left', exists_eq_left, exists_and_left, exists_eq', exists_const]
        rw [h2]
        simp only [WR_ok, OW_some, BW_bl, WS_seq, WS_asgN, WS_asgT, WS_ret, WS_exp, WS_next, WS_no, WS_par, WS_sFor, WS_sif, WS_set, WR_lc, WR_var, WR_c, WR_bin, WR_un, WA_nil, WA_cons, WR_fun, WR_call, WR_and, WR_or, WR_not, WR_if, WR_chain, WR_isn, WR_isi, WR_iteT, WR_seqI, WR_enI, WR_app, WR_pop, lk, stw, stws, wipew, stn, List.map_cons, List.map_nil, List.length_cons, List.length_nil, List.cons_append, List.nil_append, List.replicate, Nat.reduceAdd, Nat.reduceSub, Nat.reduceLeDiff, Nat.reduceEqDiff, BEq.rfl, beq_self_eq_true, if_true, true_and, and_true, forall_const, Bool.false_eq_true, Bool.true_eq_false, reduceCtorEq, false_implies, true_implies, W.ref.injEq, W.int.injEq, W.tup.injEq, W.bl.injEq, List.cons.injEq, Option.some.injEq, exists_eq_left', exists_eq_left, exists_and_left, exists_eq', exists_const]
        have hex : 2 ^ (ex + t * (ey + 1) + (ey + 1)) = 2 ^ (ex + (t + 1) * (ey + 1)) := by rw [Nat.add_mul, Nat.one_mul, Nat.add_assoc]
        refine ⟨(mlow L1).length, by have := hR.len; omega, ?_, _, mlow L1, t + 1, _, _, _, _, ⟨rfl, rfl, rfl, rfl, rfl⟩, ?_, tr_mlow ht1, rfl, by have := hR.len; omega, ht3, ?_, hev.trans hR.ev⟩
        · simp only [List.append_assoc]
          exact pre_app hg _
        · exact lk_new _ _ []
        · rw [← hex]
          exact Nat.lt_of_le_of_lt hR.n1 (szM hsz hsy)
  obtain ⟨w, g', e, l, L, rfl, h⟩ := h.out
  exact ⟨l, g', L, e, h⟩
end LK77

set_option Elab.async false
set_option linter.all false
set_option maxRecDepth 100000
set_option maxHeartbeats 4000000
namespace LK77
open PySem L2 Ev Sm
/-! sizes along the rows -/
def be (e0 : Nat) : Nat → Nat
  | 0 => e0
  | 1 => e0 + 4
  | k + 2 => be e0 k + 2 * (be e0 (k + 1) + 1)
theorem be_le (e0 : Nat) : ∀ k, be e0 k ≤ be e0 (k + 1)
  | 0 => by simp [be]
  | k + 1 => by simp only [be]; omega
theorem be_mono (e0 : Nat) {a b : Nat} (h : a ≤ b) : be e0 a ≤ be e0 b := by
  obtain ⟨d, rfl⟩ := Nat.le.dest h
  induction d with
  | zero => exact Nat.le_refl _
  | succ d ih => exact Nat.le_trans (ih (by omega)) (be_le e0 (a + d))
theorem be_step (e0 : Nat) {kb kc : Nat} (h : kb + 1 ≤ kc) (d : Nat) : be e0 kb + (d + 1 + 1) * (be e0 kc + 1) ≤ be e0 (kc + d + 1) := by
  induction d with
  | zero =>
    obtain ⟨k, rfl⟩ : ∃ k, kc = k + 1 := ⟨kc - 1, by omega⟩
    have h1 : be e0 kb ≤ be e0 k := be_mono e0 (by omega)
    have h2 : be e0 (k + 1 + 0 + 1) = be e0 k + 2 * (be e0 (k + 1) + 1) := rfl
    rw [h2]
    omega
  | succ d ih =>
    have h1 : be e0 (kc + (d + 1) + 1) = be e0 (kc + d) + 2 * (be e0 (kc + d + 1) + 1) := rfl
    have h2 : be e0 kc ≤ be e0 (kc + d + 1) := be_mono e0 (by omega)
    have h3 : (d + 1 + 1 + 1) * (be e0 kc + 1) = (d + 1 + 1) * (be e0 kc + 1) + (be e0 kc + 1) := by rw [Nat.add_mul (d + 1 + 1), Nat.one_mul]
    omega
/-! rows in the heap -/
def RA (g : G) (f : Nat) : List Nat → List (List Int) → Prop
  | [], [] => True
  | i :: is, r :: rs => (i ≠ f ∧ g[i]? = some (iw r)) ∧ RA g f is rs
  | _, _ => False
theorem RA.mono {g g' : G} {f : Nat} (h : ∀ i xs, i ≠ f → g[i]? = some xs → g'[i]? = some xs) : ∀ {is rs}, RA g f is rs → RA g' f is rs
  | [], [], _ => trivial
  | _ :: _, _ :: _, ⟨⟨a, b⟩, c⟩ => ⟨⟨a, h _ _ a b⟩, c.mono h⟩
theorem RA.app {g : G} {f : Nat} {i : Nat} {r : List Int} : ∀ {is rs}, RA g f is rs → i ≠ f → g[i]? = some (iw r) → RA g f (is ++ [i]) (rs ++ [r])
  | [], [], _, h, h2 => ⟨⟨h, h2⟩, trivial⟩
  | _ :: _, _ :: _, ⟨a, c⟩, h, h2 => ⟨a, c.app h h2⟩
theorem RA.len {g : G} {f : Nat} : ∀ {is rs}, RA g f is rs → is.length = rs.length
  | [], [], _ => rfl
  | _ :: _, _ :: _, ⟨_, c⟩ => by simp [c.len]
theorem RA.get {g : G} {f : Nat} : ∀ {is rs} (k : Nat) {r : List Int}, RA g f is rs → rs[k]? = some r → ∃ i, is[k]? = some i ∧ i ≠ f ∧ g[i]? = some (iw r)
  | [], [], _, _, _, h => by simp at h
  | i :: _, _ :: _, 0, r, ⟨a, _⟩, h => by
    simp at h
    subst h
    exact ⟨i, rfl, a⟩
  | _ :: _, _ :: _, k + 1, r, ⟨_, c⟩, h => by
    obtain ⟨i, h1, h2⟩ := RA.get k c (by simpa using h)
    exact ⟨i, by simpa using h1, h2⟩
theorem RA.ref {g : G} {f f' : Nat} (hf : g.length ≤ f') : ∀ {is rs}, RA g f is rs → RA g f' is rs
  | [], [], _ => trivial
  | _ :: _, _ :: _, ⟨⟨_, b⟩, c⟩ => ⟨⟨by have := lk_len b; omega, b⟩, c.ref hf⟩
theorem RA.pre {g g' : G} {f : Nat} {is : List Nat} {rs : List (List Int)} (h : RA g f is rs) (hp : g <+: g') : RA g' f is rs := h.mono fun _ _ _ h => pre_lk hp h
theorem RA.dropLast {g : G} {f : Nat} : ∀ {is rs}, RA g f is rs → RA g f is.dropLast rs.dropLast
  | [], [], _ => trivial
  | [_], [_], _ => trivial
  | _ :: _ :: _, _ :: _ :: _, ⟨a, c⟩ => ⟨a, RA.dropLast c⟩
  | [_], _ :: _ :: _, ⟨_, c⟩ => c.elim
  | _ :: _ :: _, [_], ⟨_, c⟩ => c.elim
def rf (is : List Nat) : List W := is.map .ref
theorem rf_at (is : List Nat) (i : Int) : atI (rf is) i = (atI is i).map .ref := by
  simp only [atI, rf, List.length_map]
  cases ixN is.length i with
  | none => rfl
  | some j => simp
theorem at_m1 {α : Type} (xs : List α) (b c : α) : atI (xs ++ [b, c]) (-1) = some c := by
  have e : ixN (xs ++ [b, c]).length (-1) = some (xs.length + 1) := by
    simp only [ixN, List.length_append, List.length_cons, List.length_nil]
    rw [if_neg (by omega), if_pos (by omega)]
    congr 1
    omega
  simp only [atI, e, Option.bind_some]
  simp
theorem at_m2 {α : Type} (xs : List α) (b c : α) : atI (xs ++ [b, c]) (-2) = some b := by
  have e : ixN (xs ++ [b, c]).length (-2) = some xs.length := by
    simp only [ixN, List.length_append, List.length_cons, List.length_nil]
    rw [if_neg (by omega), if_pos (by omega)]
    congr 1
    omega
  simp only [atI, e, Option.bind_some]
  simp
theorem RA.split {g : G} {f : Nat} {b c : List Int} : ∀ {Fr : List (List Int)} {is : List Nat}, RA g f is (Fr ++ [b, c]) → ∃ js ib ic, is = js ++ [ib, ic] ∧ ib ≠ f ∧ ic ≠ f ∧ g[ib]? = some (iw b) ∧ g[ic]? = some (iw c)
  | [], [ib, ic], ⟨a, d, _⟩ => ⟨[], ib, ic, rfl, a.1, d.1, a.2, d.2⟩
  | [], [_], ⟨_, d⟩ => d.elim
  | [], _ :: _ :: _ :: _, ⟨_, _, d⟩ => d.elim
  | r :: Fr, i :: is, ⟨a, d⟩ => by
    obtain ⟨js, ib, ic, h, h2⟩ := RA.split (Fr := Fr) d
    exact ⟨i :: js, ib, ic, by rw [h]; rfl, h2⟩
theorem N1_sl (xs : List Int) : N1 (slZ xs) ≤ (xs.length - 1) * N1 xs := by
  have key : ∀ (n m : Nat) (l : List Int), n + l.length ≤ m + 1 → N1 (dlZ n l) ≤ m * N1 l := fun n m l => by
    induction l generalizing n with
    | nil => intro _; simp [dlZ, N1]
    | cons a l ih =>
      intro h
      simp only [List.length_cons] at h
      have h1 := ih (n + 1) (by omega)
      simp only [dlZ, N1, Int.natAbs_mul, Int.natAbs_natCast, Nat.mul_add]
      have : n * a.natAbs ≤ m * a.natAbs := Nat.mul_le_mul_right _ (by omega)
      omega
  cases xs with
  | nil => simp [slZ, dlZ, N1]
  | cons a l =>
    have := key 1 l.length l (by omega)
    simp only [slZ, List.tail_cons, List.length_cons, Nat.add_sub_cancel, N1]
    exact Nat.le_trans this (Nat.mul_le_mul_left _ (by omega))
theorem fNeg_map (L : List Int) : eZ (L.map (fun x => -x)) = fun x => -eZ L x := by
  funext x
  have : L.map (fun x => -x) = L.map (-1 * ·) := List.map_congr_left fun x _ => by omega
  rw [this, eZ_smul]
  simp
  grind
theorem N1_neg (L : List Int) : N1 (L.map (fun x => -x)) = N1 L := by
  have : L.map (fun x => -x) = L.map (-1 * ·) := List.map_congr_left fun x _ => by omega
  rw [this, N1_smul]
  simp
theorem tr_neg {L : List Int} (h : Tr L) : Tr (L.map fun x => -x) := by
  intro a ha
  rw [List.getLast?_map] at ha
  cases e : L.getLast? with
  | none => rw [e] at ha; cases ha
  | some b =>
    rw [e] at ha
    have := h b e
    simp at ha
    omega
/-- what the rows are -/
structure RowsS (xs : List Int) (e0 : Nat) (rs : List (List Int)) : Prop where
  rr : RR xs (slZ xs) rs
  sz : ∀ r ∈ rs, N1 r < 2 ^ be e0 (xs.length - r.length)
  len : ∀ r ∈ rs, r.length ≤ xs.length
  few : rs.length ≤ xs.length
theorem C17 (n : Nat) (w : W) (xs Wd : List Int) (g : G) (hw : w = .tup (iw xs) ∨ ∃ k, w = .ref k ∧ g[k]? = some (iw xs)) (hl : xs.length ≤ 17) (hn : xs ≠ []) (ht : Tr xs)
    (hWt : Tr Wd) (hWn : Wd ≠ []) (u v : Rat → Rat) (hu : Pol u) (hv : Pol v) (hdu : ∀ x, eZ xs x = eZ Wd x * u x) (hdv : ∀ x, eZ (slZ xs) x = eZ Wd x * v x)
    (e0 : Nat) (hs : N1 xs < 2 ^ e0) (hE : be e0 (xs.length + 1 - Wd.length) ≤ 9000) :
    ∃ r g' is rs, tbl (n + 4) 17 [w] g = .ok (.ref r) g' ∧ g <+: g' ∧ g'[r]? = some (rf is) ∧ RA g' r is rs ∧ RowsS xs e0 rs := by
  have h : WR (tbl (n + 4) 17 [w] g) (fun w' g' => ∃ r is rs, w' = .ref r ∧ g <+: g' ∧ g'[r]? = some (rf is) ∧ RA g' r is rs ∧ RowsS xs e0 rs) := by
    have hp := List.length_pos_iff.mpr hn
    rw [tbl_17]
    refine WR_callS ?_
    have hw' : ∀ e, w = .tup (iw xs) ∨ ∃ k, w = .ref k ∧ (g ++ e)[k]? = some (iw xs) := fun e => hw.imp id fun ⟨k, h1, h2⟩ => ⟨k, h1, lk_pre h2 e⟩
    have hli : fList [w] g = .ok (.ref g.length) (g ++ [iw xs]) := by
      rcases hw with rfl | ⟨k, rfl, hk⟩
      · rfl
      · simp only [fList, itemsOf, hk]
    have h15 := C15 (n + 2) w xs (g ++ [iw xs]) (hw' _) (by omega)
    simp only [b17, WR_ok, OW_some, BW_bl, WS_seq, WS_asgN, WS_asgT, WS_ret, WS_exp, WS_next, WS_no, WS_par, WS_sFor, WS_sif, WS_set, WR_lc, WR_var, WR_c, WR_bin, WR_un, WA_nil, WA_cons, WR_fun, WR_call, WR_and, WR_or, WR_not, WR_if, WR_chain, WR_isn, WR_isi, WR_iteT, WR_seqI, WR_enI, WR_app, WR_pop, lk, stw, stws, wipew, stn, List.map_cons, List.map_nil, List.length_cons, List.length_nil, List.cons_append, List.nil_append, List.replicate, Nat.reduceAdd, Nat.reduceSub, Nat.reduceLeDiff, Nat.reduceEqDiff, BEq.rfl, beq_self_eq_true, if_true, true_and, and_true, forall_const, Bool.false_eq_true, Bool.true_eq_false, reduceCtorEq, false_implies, true_implies, W.ref.injEq, W.int.injEq, W.tup.injEq, W.bl.injEq, List.cons.injEq, Option.some.injEq, exists_eq_left', exists_eq_left, exists_and_left, exists_eq', exists_const, hli]
    rw [h15]
    have hG : g ++ [iw xs] ++ [iw (dlZ 0 xs), iw (slZ xs)] = g ++ [iw xs, iw (dlZ 0 xs), iw (slZ xs)] := by simp
    have hlst : ∀ (a b : W) (h : G), fLst [a, b] h = .ok (.ref h.length) (h ++ [[a, b]]) := fun _ _ _ => rfl
    simp only [WR_ok, OW_some, BW_bl, WS_seq, WS_asgN, WS_asgT, WS_ret, WS_exp, WS_next, WS_no, WS_par, WS_sFor, WS_sif, WS_set, WR_lc, WR_var, WR_c, WR_bin, WR_un, WA_nil, WA_cons, WR_fun, WR_call, WR_and, WR_or, WR_not, WR_if, WR_chain, WR_isn, WR_isi, WR_iteT, WR_seqI, WR_enI, WR_app, WR_pop, lk, stw, stws, wipew, stn, List.map_cons, List.map_nil, List.length_cons, List.length_nil, List.cons_append, List.nil_append, List.replicate, Nat.reduceAdd, Nat.reduceSub, Nat.reduceLeDiff, Nat.reduceEqDiff, BEq.rfl, beq_self_eq_true, if_true, true_and, and_true, forall_const, Bool.false_eq_true, Bool.true_eq_false, reduceCtorEq, false_implies, true_implies, W.ref.injEq, W.int.injEq, W.tup.injEq, W.bl.injEq, List.cons.injEq, Option.some.injEq, exists_eq_left', exists_eq_left, exists_and_left, exists_eq', exists_const, hlst, hG]
    have hf : (g ++ [iw xs, iw (dlZ 0 xs), iw (slZ xs)]).length = g.length + 3 := by simp
    have hi : (g ++ [iw xs]).length + 1 = g.length + 2 := by simp
    simp only [hf, hi]
    refine WS_sWhile (fun k s g' => g <+: g' ∧ ∃ js ib ic Fr b c kb y, s = [some w, some (.ref (g.length + 3)), y] ∧ g'[g.length + 3]? = some (rf (js ++ [ib, ic])) ∧ RA g' (g.length + 3) (js ++ [ib, ic]) (Fr ++ [b, c]) ∧
      (∀ rs', RR b c rs' → RR xs (slZ xs) (Fr ++ rs')) ∧ k = c.length ∧ b ≠ [] ∧ Tr b ∧ Tr c ∧ c.length + 1 ≤ b.length ∧ b.length ≤ xs.length ∧ Fr.length + 2 + c.length ≤ xs.length + 1 ∧
      (∀ r ∈ Fr ++ [b], N1 r < 2 ^ be e0 (xs.length - r.length) ∧ r.length ≤ xs.length) ∧ N1 b < 2 ^ be e0 kb ∧ N1 c < 2 ^ be e0 (xs.length + 1 - b.length) ∧ kb + 1 ≤ xs.length + 1 - b.length ∧
      (∃ u v, Pol u ∧ Pol v ∧ (∀ x, eZ b x = eZ Wd x * u x) ∧ ∀ x, eZ c x = eZ Wd x * v x)) (slZ xs).length (Nat.lt_of_lt_of_le (by rw [sl_len]; omega) (fuel_ge _)) ?_ ?_
    · refine ⟨pre_app (List.prefix_refl _) _ |>.trans (List.prefix_append _ _), [], g.length, g.length + 2, [], xs, slZ xs, 0, _, rfl, ?_, ?_, fun rs' h => h, rfl, hn, ht, ht.sl, by rw [sl_len]; omega, Nat.le_refl _, by rw [sl_len]; simp; omega, ?_, hs, ?_, by omega, u, v, hu, hv, hdu, hdv⟩
      · rw [← hf]; exact lk_new _ _ []
      · refine ⟨⟨by omega, ?_⟩, ⟨by omega, ?_⟩, trivial⟩
        · simp
        · rw [List.append_assoc, List.getElem?_append_right (by omega)]
          simp
      · intro r hr
        simp at hr
        subst hr
        rw [Nat.sub_self]
        exact ⟨hs, Nat.le_refl _⟩
      · have h1 := N1_sl xs
        have h2 : (xs.length - 1) * N1 xs ≤ 16 * N1 xs := Nat.mul_le_mul_right _ (by omega)
        have h3 : xs.length + 1 - xs.length = 1 := by omega
        rw [h3]
        have h4 : (2 : Nat) ^ be e0 1 = 2 ^ e0 * 16 := by simp only [be]; rw [Nat.pow_add]
        rw [h4]
        omega
    · rintro k s g' ⟨hg, js, ib, ic, Fr, b, c, kb, y, hs', hf', hra, hrr, hk, hbn, hbt, hct, hcl, hbl, hfew, hsz, hsb, hsc, hkb, u', v', hu', hv', hdu', hdv'⟩
      subst hs' hk
      obtain ⟨js', ib', ic', hids, hibf, hicf, hib, hic⟩ := hra.split
      have hjj : js = js' ∧ ib = ib' ∧ ic = ic' := by
        have h1 := List.append_inj' hids rfl
        simp at h1
        exact ⟨h1.1, h1.2.1, h1.2.2⟩
      obtain ⟨rfl, rfl, rfl⟩ := hjj
      have hm1 : atI (rf (js ++ [ib, ic])) (-1) = some (.ref ic) := by rw [rf_at, at_m1]; rfl
      have hm2 : atI (rf (js ++ [ib, ic])) (-2) = some (.ref ib) := by rw [rf_at, at_m2]; rfl
      have hne := ne_lst_nil (lk_pre hic [[]]) (lk_new g' [] [])
      simp only [WR_ok, OW_some, BW_bl, WS_seq, WS_asgN, WS_asgT, WS_ret, WS_exp, WS_next, WS_no, WS_par, WS_sFor, WS_sif, WS_set, WR_lc, WR_var, WR_c, WR_bin, WR_un, WA_nil, WA_cons, WR_fun, WR_call, WR_and, WR_or, WR_not, WR_if, WR_chain, WR_isn, WR_isi, WR_iteT, WR_seqI, WR_enI, WR_app, WR_pop, lk, stw, stws, wipew, stn, List.map_cons, List.map_nil, List.length_cons, List.length_nil, List.cons_append, List.nil_append, List.replicate, Nat.reduceAdd, Nat.reduceSub, Nat.reduceLeDiff, Nat.reduceEqDiff, BEq.rfl, beq_self_eq_true, if_true, true_and, and_true, forall_const, Bool.false_eq_true, Bool.true_eq_false, reduceCtorEq, false_implies, true_implies, W.ref.injEq, W.int.injEq, W.tup.injEq, W.bl.injEq, List.cons.injEq, Option.some.injEq, exists_eq_left', exists_eq_left, exists_and_left, exists_eq', exists_const, fNeg_int, fIx_ref hf' hm1, fLst_nil, hne]
      by_cases hc : c = []
      · subst hc
        simp only [List.isEmpty_nil, Bool.not_true, WR_ok, OW_some, BW_bl, WS_seq, WS_asgN, WS_asgT, WS_ret, WS_exp, WS_next, WS_no, WS_par, WS_sFor, WS_sif, WS_set, WR_lc, WR_var, WR_c, WR_bin, WR_un, WA_nil, WA_cons, WR_fun, WR_call, WR_and, WR_or, WR_not, WR_if, WR_chain, WR_isn, WR_isi, WR_iteT, WR_seqI, WR_enI, WR_app, WR_pop, lk, stw, stws, wipew, stn, List.map_cons, List.map_nil, List.length_cons, List.length_nil, List.cons_append, List.nil_append, List.replicate, Nat.reduceAdd, Nat.reduceSub, Nat.reduceLeDiff, Nat.reduceEqDiff, BEq.rfl, beq_self_eq_true, if_true, true_and, and_true, forall_const, Bool.false_eq_true, Bool.true_eq_false, reduceCtorEq, false_implies, true_implies, W.ref.injEq, W.int.injEq, W.tup.injEq, W.bl.injEq, List.cons.injEq, Option.some.injEq, exists_eq_left', exists_eq_left, exists_and_left, exists_eq', exists_const]
        have hfe := lk_pre hf' [[]]
        simp only [WR_ok, OW_some, BW_bl, WS_seq, WS_asgN, WS_asgT, WS_ret, WS_exp, WS_next, WS_no, WS_par, WS_sFor, WS_sif, WS_set, WR_lc, WR_var, WR_c, WR_bin, WR_un, WA_nil, WA_cons, WR_fun, WR_call, WR_and, WR_or, WR_not, WR_if, WR_chain, WR_isn, WR_isi, WR_iteT, WR_seqI, WR_enI, WR_app, WR_pop, lk, stw, stws, wipew, stn, List.map_cons, List.map_nil, List.length_cons, List.length_nil, List.cons_append, List.nil_append, List.replicate, Nat.reduceAdd, Nat.reduceSub, Nat.reduceLeDiff, Nat.reduceEqDiff, BEq.rfl, beq_self_eq_true, if_true, true_and, and_true, forall_const, Bool.false_eq_true, Bool.true_eq_false, reduceCtorEq, false_implies, true_implies, W.ref.injEq, W.int.injEq, W.tup.injEq, W.bl.injEq, List.cons.injEq, Option.some.injEq, exists_eq_left', exists_eq_left, exists_and_left, exists_eq', exists_const, WR_sl, WO_none, WO_some, IO_int, fNeg_int, fSl, hfe, cut_last]
        refine ⟨(hg.trans (List.prefix_append _ _)).trans (List.prefix_append _ _), js ++ [ib], ?_, Fr ++ [b], ?_, ?_⟩
        · rw [lk_new]
          have : js ++ [ib, ic] = (js ++ [ib]) ++ [ic] := by simp
          rw [this, rf, List.map_append, List.map_cons, List.map_nil, List.dropLast_concat]
          rfl
        · have h1 := hra.dropLast
          have e1 : (js ++ [ib, ic]).dropLast = js ++ [ib] := by simp [List.dropLast_append]
          have e2 : (Fr ++ [b, []]).dropLast = Fr ++ [b] := by simp [List.dropLast_append]
          rw [e1, e2] at h1
          exact ((h1.pre (List.prefix_append _ _)).ref (Nat.le_refl _)).pre (List.prefix_append _ _)
        · refine ⟨hrr [b] (.stop b), fun r hr => (hsz r hr).1, fun r hr => (hsz r hr).2, ?_⟩
          simp at hfew ⊢
          omega
      · have hcE : c.isEmpty = false := by simpa using hc
        simp only [hcE, Bool.not_false, WR_ok, OW_some, BW_bl, WS_seq, WS_asgN, WS_asgT, WS_ret, WS_exp, WS_next, WS_no, WS_par, WS_sFor, WS_sif, WS_set, WR_lc, WR_var, WR_c, WR_bin, WR_un, WA_nil, WA_cons, WR_fun, WR_call, WR_and, WR_or, WR_not, WR_if, WR_chain, WR_isn, WR_isi, WR_iteT, WR_seqI, WR_enI, WR_app, WR_pop, lk, stw, stws, wipew, stn, List.map_cons, List.map_nil, List.length_cons, List.length_nil, List.cons_append, List.nil_append, List.replicate, Nat.reduceAdd, Nat.reduceSub, Nat.reduceLeDiff, Nat.reduceEqDiff, BEq.rfl, beq_self_eq_true, if_true, true_and, and_true, forall_const, Bool.false_eq_true, Bool.true_eq_false, reduceCtorEq, false_implies, true_implies, W.ref.injEq, W.int.injEq, W.tup.injEq, W.bl.injEq, List.cons.injEq, Option.some.injEq, exists_eq_left', exists_eq_left, exists_and_left, exists_eq', exists_const]
        have hpc := List.length_pos_iff.mpr hc
        have hclen : Wd.length ≤ c.length := len_le hct hc hWt hWn hv' hdv'
        have hstep := be_step e0 hkb (b.length - c.length - 1)
        have e1 : b.length - c.length - 1 + 1 + 1 = b.length - c.length + 1 := by omega
        have e2 : xs.length + 1 - b.length + (b.length - c.length - 1) + 1 = xs.length + 1 - c.length := by omega
        rw [e1, e2] at hstep
        have hE2 : be e0 (xs.length + 1 - c.length) ≤ 9000 := Nat.le_trans (be_mono e0 (by omega)) hE
        obtain ⟨l, g2, L, h16, hp2, hl2, hLt, hLl, hLs, hLe⟩ := C16 n ib ic b c (g' ++ [[]]) (lk_pre hib _) (lk_pre hic _) hbt hct hc (by omega) (by omega) (be e0 kb) (be e0 (xs.length + 1 - b.length)) hsb hsc (Nat.le_trans hstep hE2)
        have hf2 := pre_lk hp2 (lk_pre hf' [[]])
        have hib2 := pre_lk hp2 (lk_pre hib [[]])
        have hic2 := pre_lk hp2 (lk_pre hic [[]])
        have hnl := lc_lst (o := tbl (n + 3)) (s := [some w, some (.ref (g.length + 3)), y]) (t := tName 2) (vs := [2]) (test := eC (.bl true)) (elt := eUn fNeg (eVar 2)) hl2 (intF (fun x => -x)) (by rw [iw_len]; omega) (fun w hw h => by
          obtain ⟨x, hx, rfl⟩ := mem_iw hw
          exact ⟨_, rfl, .inr ⟨_, rfl, rfl, rfl⟩⟩)
        rw [fm_map] at hnl
        have hfe := lk_pre hf' [[]]
        simp only [WR_ok, OW_some, BW_bl, WS_seq, WS_asgN, WS_asgT, WS_ret, WS_exp, WS_next, WS_no, WS_par, WS_sFor, WS_sif, WS_set, WR_lc, WR_var, WR_c, WR_bin, WR_un, WA_nil, WA_cons, WR_fun, WR_call, WR_and, WR_or, WR_not, WR_if, WR_chain, WR_isn, WR_isi, WR_iteT, WR_seqI, WR_enI, WR_app, WR_pop, lk, stw, stws, wipew, stn, List.map_cons, List.map_nil, List.length_cons, List.length_nil, List.cons_append, List.nil_append, List.replicate, Nat.reduceAdd, Nat.reduceSub, Nat.reduceLeDiff, Nat.reduceEqDiff, BEq.rfl, beq_self_eq_true, if_true, true_and, and_true, forall_const, Bool.false_eq_true, Bool.true_eq_false, reduceCtorEq, false_implies, true_implies, W.ref.injEq, W.int.injEq, W.tup.injEq, W.bl.injEq, List.cons.injEq, Option.some.injEq, exists_eq_left', exists_eq_left, exists_and_left, exists_eq', exists_const, fIx_ref hfe hm1, fIx_ref hfe hm2, fNeg_int, h16, hnl, hf2, lk_pre hf2]
        have hg2 : g <+: g2 := (hg.trans (List.prefix_append _ _)).trans hp2
        have hne2 : g.length + 3 ≠ g2.length := by have := lk_len hf2; omega
        have hidl := hra.len
        simp only [List.length_append, List.length_cons, List.length_nil] at hidl
        obtain ⟨α, β, hα, hβ, hab⟩ := hLe
        have hsetl : (g2 ++ [iw (L.map fun x => -x)]).set (g.length + 3) (rf (js ++ [ib, ic]) ++ [.ref g2.length]) = g2.set (g.length + 3) (rf (js ++ [ib, ic]) ++ [.ref g2.length]) ++ [iw (L.map fun x => -x)] := by
          rw [List.set_append_left _ _ (lk_len hf2)]
        have hkeep : ∀ i xs', i ≠ g.length + 3 → g2[i]? = some xs' → ((g2 ++ [iw (L.map fun x => -x)]).set (g.length + 3) (rf (js ++ [ib, ic]) ++ [.ref g2.length]))[i]? = some xs' := fun i xs' hi h => by
          rw [List.getElem?_set_ne (Ne.symm hi)]
          exact lk_pre h _
        refine ⟨?_, (L.map fun x => -x).length, by simp; omega, pre_set (pre_app hg2 _) (by omega) _, js ++ [ib], ic, g2.length, ?_, Fr ++ [b], c, L.map fun x => -x, ?_, ?_, rfl, hc, hct, tr_neg hLt, by simp; omega, by omega, by simp; omega, ?_, xs.length + 1 - b.length, hsc, ?_, by omega, ?_⟩
        · unfold szOk
          refine Nat.ble_eq_true_of_le ?_
          simp [rf]
          omega
        · rw [List.getElem?_set_self (by rw [List.length_append]; have := lk_len hf2; omega)]
          simp [rf]
        · have h1 : RA ((g2 ++ [iw (L.map fun x => -x)]).set (g.length + 3) (rf (js ++ [ib, ic]) ++ [.ref g2.length])) (g.length + 3) (js ++ [ib, ic]) (Fr ++ [b, c]) := ((hra.pre (List.prefix_append _ _)).pre hp2).mono hkeep
          have h2 := h1.app (i := g2.length) (r := L.map fun x => -x) (Ne.symm hne2) (by
            rw [List.getElem?_set_ne hne2]
            exact lk_new _ _ [])
          simpa using h2
        · intro rs' hr
          have h1 := hrr (b :: rs') (.step hc hα hβ (fun x => by
            rw [fNeg_map]
            have := hab x
            grind) (tr_neg hLt) hr)
          simpa using h1
        · intro r hr
          rcases List.mem_append.mp hr with hr | hr
          · exact hsz r hr
          · simp at hr
            subst hr
            exact ⟨Nat.lt_of_lt_of_le hsc (Nat.pow_le_pow_right (by decide) (be_mono e0 (by omega))), by omega⟩
        · rw [N1_neg]
          exact Nat.lt_of_lt_of_le hLs (Nat.pow_le_pow_right (by decide) hstep)
        · refine ⟨v', hv', fun x => β x * v' x - α * u' x, (hβ.mul hv').sub (hu'.smul α), hdv', fun x => ?_⟩
          rw [fNeg_map]
          have h1 := hab x
          have h2 := hdu' x
          have h3 := hdv' x
          rw [h2, h3] at h1
          grind
  obtain ⟨w, g', e, r, is, rs, rfl, h⟩ := h.out
  exact ⟨r, g', is, rs, e, h⟩
end LK77

set_option Elab.async false
set_option linter.all false
set_option maxRecDepth 100000
set_option maxHeartbeats 4000000
namespace LK77
open PySem PySem.Spec PyProof.Rows L2 Ev Sm
theorem fLt_int (i j : Int) (g : G) : fLt (.int i) (.int j) g = .ok (.bl (decide (i < j))) g := rfl
theorem fEq_int (i j : Int) (g : G) : fEq (.int i) (.int j) g = .ok (.bl (i == j)) g := rfl
theorem fNe_int (i j : Int) (g : G) : fNe (.int i) (.int j) g = .ok (.bl (!(i == j))) g := rfl
theorem fSub_bl (i j : Bool) (g : G) : fSub (.bl i) (.bl j) g = .ok (.int (b2i i - b2i j)) g := rfl
theorem fRev_ref {g : G} {n : Nat} {xs : List W} (h : g[n]? = some xs) : fRev (.ref n) g = .ok (.ref g.length) (g ++ [xs.reverse]) := by
  simp only [fRev, h]
def suf (xs : List Int) (i : Nat) : List Int := (xs.reverse.take i).reverse
theorem suf_succ {xs : List Int} {i : Nat} {c : Int} (h : xs.reverse[i]? = some c) : suf xs (i + 1) = c :: suf xs i := by
  unfold suf
  rw [List.take_add_one, h, List.reverse_append]
  rfl
theorem suf_len (xs : List Int) {i : Nat} (h : i ≤ xs.length) : (suf xs i).length = i := by
  simp [suf]; omega
theorem suf_N1 (xs : List Int) (i : Nat) : N1 (suf xs i) ≤ N1 xs := by
  have h : xs = (xs.reverse.drop i).reverse ++ suf xs i := by
    unfold suf
    rw [← List.reverse_append, List.take_append_drop, List.reverse_reverse]
  have h2 := N1_app (xs.reverse.drop i).reverse (suf xs i)
  rw [← h] at h2
  omega
theorem suf_all (xs : List Int) : suf xs xs.length = xs := by
  unfold suf
  rw [List.take_of_length_le (by simp), List.reverse_reverse]
def qv (a b : Int) : Rat := (a : Rat) / (b : Rat)
theorem pow_bits {x e k : Nat} (h : x < 2 ^ e) : x ^ k ≤ 2 ^ (e * k) := by
  rw [Nat.pow_mul]
  exact Nat.pow_le_pow_left (Nat.le_of_lt h) k
theorem C18 (n k : Nat) (xs : List Int) (a b : Int) (g : G) (hk : g[k]? = some (iw xs)) (hl : xs.length ≤ 17) (hb : 0 < b) (er : Nat) (her : er ≤ 1000) (ha1 : a.natAbs < 2 ^ er) (hb1 : b.natAbs < 2 ^ er) (hs : N1 xs < 2 ^ 9000) :
    tbl (n + 1) 18 [.ref k, .tup [.int a, .int b]] g = .ok (.int (sg (eZ xs (qv a b)))) (g ++ [iw xs.reverse]) := by
  have h : WR (tbl (n + 1) 18 [.ref k, .tup [.int a, .int b]] g) (fun w g' => w = .int (sg (eZ xs (qv a b))) ∧ g' = g ++ [iw xs.reverse]) := by
    rw [tbl_18]
    refine WR_callS ?_
    have hft : ∀ (a b : W) (h : G), fTup [a, b] h = .ok (.tup [a, b]) h := fun _ _ _ => rfl
    have hnew := lk_new g (iw xs.reverse) []
    have hirev : (iw xs).reverse = iw xs.reverse := by simp [iw]
    have hcnt : cntI (.lst g.length) (g ++ [iw xs.reverse]) = xs.length := by
      simp only [cntI, hnew, iw_len, List.length_reverse]
    have hbq : (0 : Rat) < (b : Rat) := Rat.intCast_pos.mpr hb
    simp only [b18, WR_ok, OW_some, BW_bl, WS_seq, WS_asgN, WS_asgT, WS_ret, WS_exp, WS_next, WS_no, WS_par, WS_sFor, WS_sif, WS_set, WR_lc, WR_var, WR_c, WR_bin, WR_un, WA_nil, WA_cons, WR_fun, WR_call, WR_and, WR_or, WR_not, WR_if, WR_chain, WR_isn, WR_isi, WR_iteT, WR_seqI, WR_enI, WR_app, WR_pop, lk, stw, stws, wipew, stn, List.map_cons, List.map_nil, List.length_cons, List.length_nil, List.cons_append, List.nil_append, List.replicate, Nat.reduceAdd, Nat.reduceSub, Nat.reduceLeDiff, Nat.reduceEqDiff, BEq.rfl, beq_self_eq_true, if_true, true_and, and_true, forall_const, Bool.false_eq_true, Bool.true_eq_false, reduceCtorEq, false_implies, true_implies, W.ref.injEq, W.int.injEq, W.tup.injEq, W.bl.injEq, List.cons.injEq, Option.some.injEq, exists_eq_left', exists_eq_left, exists_and_left, exists_eq', exists_const, hft, fRev_ref hk, hirev, hcnt]
    have P : ∀ i, 1 ≤ 2 ^ (er * i) := fun i => Nat.pow_pos (by decide)
    refine WS_for xs.length (fun i s g' => g' = g ++ [iw xs.reverse] ∧ ∃ F S y, s = [some (.ref k), some (.tup [.int a, .int b]), some (.int a), some (.int b), some (.int F), some (.int S), y] ∧ 0 < S ∧ (S : Rat) * eZ (suf xs i) (qv a b) = (b : Rat) * (F : Rat) ∧
      S.natAbs ≤ 2 ^ (er * i) ∧ F.natAbs ≤ N1 (suf xs i) * 2 ^ (er * i)) (fun i s g' hi ⟨hg, F, S, y, hs', hS, hF, hSb, hFb⟩ => ?_) (fun s g' ⟨hg, F, S, y, hs', hS, hF, hSb, hFb⟩ => ?_) xs.length 0 _ _ (by omega) ⟨rfl, 0, 1, _, rfl, by decide, ?_, by simp, by simp⟩
    · subst hg hs'
      have hir : i < xs.reverse.length := by simpa using hi
      have hc : xs.reverse[i]? = some xs.reverse[i] := List.getElem?_eq_getElem hir
      have hcm : xs.reverse[i] ∈ xs := List.mem_reverse.mp (List.getElem_mem hir)
      have hcb := N1_mem hcm
      generalize xs.reverse[i] = c at hc hcm hcb
      have hsufN := suf_N1 xs i
      have hbi : er * i ≤ 17000 := Nat.le_trans (Nat.mul_le_mul her (by omega : i ≤ 17)) (by decide)
      have hFb2 : F.natAbs < 2 ^ (9000 + er * i) := by
        rw [Nat.pow_add]
        refine Nat.lt_of_le_of_lt hFb (Nat.mul_lt_mul_of_pos_right (by omega) (P i))
      have hSb2 : S.natAbs < 2 ^ (er * i + 1) := by
        rw [Nat.pow_succ]
        have := P i
        omega
      have hm1 := mok (i := F) (j := a) hFb2 ha1 (by omega)
      have hm2 := mok (i := c) (j := S) (a := 9000) (by omega) hSb2 (by omega)
      have hm3 := mok (i := S) (j := b) hSb2 hb1 (by omega)
      refine ⟨.int c, _, by simp only [itemI, hnew, at_get, hc, Option.map_some], rfl, ?_⟩
      simp only [WR_ok, OW_some, BW_bl, WS_seq, WS_asgN, WS_asgT, WS_ret, WS_exp, WS_next, WS_no, WS_par, WS_sFor, WS_sif, WS_set, WR_lc, WR_var, WR_c, WR_bin, WR_un, WA_nil, WA_cons, WR_fun, WR_call, WR_and, WR_or, WR_not, WR_if, WR_chain, WR_isn, WR_isi, WR_iteT, WR_seqI, WR_enI, WR_app, WR_pop, lk, stw, stws, wipew, stn, List.map_cons, List.map_nil, List.length_cons, List.length_nil, List.cons_append, List.nil_append, List.replicate, Nat.reduceAdd, Nat.reduceSub, Nat.reduceLeDiff, Nat.reduceEqDiff, BEq.rfl, beq_self_eq_true, if_true, true_and, and_true, forall_const, Bool.false_eq_true, Bool.true_eq_false, reduceCtorEq, false_implies, true_implies, W.ref.injEq, W.int.injEq, W.tup.injEq, W.bl.injEq, List.cons.injEq, Option.some.injEq, exists_eq_left', exists_eq_left, exists_and_left, exists_eq', exists_const, fMul_int hm1, fMul_int hm2, fMul_int hm3, fAdd_int]
      refine ⟨_, _, _, ⟨rfl, rfl, rfl⟩, Int.mul_pos hS hb, ?_, ?_, ?_⟩
      · rw [suf_succ hc, eZ_cons, Rat.intCast_mul, Rat.intCast_add, Rat.intCast_mul, Rat.intCast_mul]
        have h1 : qv a b * (b : Rat) = (a : Rat) := Rat.div_mul_cancel (by grind)
        generalize qv a b = q at *
        generalize eZ (suf xs i) q = z at *
        have h2 : (S : Rat) * (b : Rat) * ((c : Rat) + q * z) = (S : Rat) * (b : Rat) * (c : Rat) + (q * (b : Rat)) * ((S : Rat) * z) := by grind
        rw [h2, h1, hF]
        grind
      · rw [Int.natAbs_mul, Nat.mul_add, Nat.mul_one, Nat.pow_add]
        exact Nat.mul_le_mul hSb (by omega)
      · rw [suf_succ hc, N1, Nat.mul_add, Nat.mul_one, Nat.pow_add]
        have h1 := Int.natAbs_add_le (F * a) (c * S)
        rw [Int.natAbs_mul, Int.natAbs_mul] at h1
        have h2 : F.natAbs * a.natAbs ≤ N1 (suf xs i) * 2 ^ (er * i) * 2 ^ er := Nat.mul_le_mul hFb (by omega)
        have h3 : c.natAbs * S.natAbs ≤ c.natAbs * (2 ^ (er * i) * 2 ^ er) := Nat.mul_le_mul_left _ (Nat.le_trans hSb (Nat.le_mul_of_pos_right _ (Nat.pow_pos (by decide))))
        rw [Nat.add_mul]
        rw [Nat.mul_assoc] at h2
        omega
    · subst hg hs'
      refine ⟨by simp only [stopI, hnew, iw_len, List.length_reverse]; exact ble_refl _, ?_⟩
      simp only [WR_ok, OW_some, BW_bl, WS_seq, WS_asgN, WS_asgT, WS_ret, WS_exp, WS_next, WS_no, WS_par, WS_sFor, WS_sif, WS_set, WR_lc, WR_var, WR_c, WR_bin, WR_un, WA_nil, WA_cons, WR_fun, WR_call, WR_and, WR_or, WR_not, WR_if, WR_chain, WR_isn, WR_isi, WR_iteT, WR_seqI, WR_enI, WR_app, WR_pop, lk, stw, stws, wipew, stn, List.map_cons, List.map_nil, List.length_cons, List.length_nil, List.cons_append, List.nil_append, List.replicate, Nat.reduceAdd, Nat.reduceSub, Nat.reduceLeDiff, Nat.reduceEqDiff, BEq.rfl, beq_self_eq_true, if_true, true_and, and_true, forall_const, Bool.false_eq_true, Bool.true_eq_false, reduceCtorEq, false_implies, true_implies, W.ref.injEq, W.int.injEq, W.tup.injEq, W.bl.injEq, List.cons.injEq, Option.some.injEq, exists_eq_left', exists_eq_left, exists_and_left, exists_eq', exists_const, fGt_int, fLt_int, fSub_bl]
      rw [suf_all] at hF
      have hSq : (0 : Rat) < (S : Rat) := Rat.intCast_pos.mpr hS
      rcases Int.lt_trichotomy F 0 with h | h | h
      · have h1 : (F : Rat) < 0 := Rat.intCast_neg_iff.mpr h
        have h2 : (S : Rat) * eZ xs (qv a b) < 0 := by rw [hF]; exact (Rat.mul_neg_iff_of_pos_left hbq).mpr h1
        rw [sg_neg ((Rat.mul_neg_iff_of_pos_left hSq).mp h2)]
        simp [h, b2i, show ¬ (0 < F) by omega]
      · subst h
        have h2 : (S : Rat) * eZ xs (qv a b) = 0 := by rw [hF]; simp
        rcases Rat.mul_eq_zero.mp h2 with h3 | h3
        · grind
        · rw [sg_zero h3]
          simp [b2i]
      · have h1 : (0 : Rat) < (F : Rat) := Rat.intCast_pos.mpr h
        have h2 : 0 < (S : Rat) * eZ xs (qv a b) := by rw [hF]; exact (Rat.mul_pos_iff_of_pos_left hbq).mpr h1
        rw [sg_pos ((Rat.mul_pos_iff_of_pos_left hSq).mp h2)]
        simp [h, b2i, show ¬ (F < 0) by omega]
    · have : suf xs 0 = [] := by simp [suf]
      rw [this, eZ_nil]
      simp
  obtain ⟨w, g', e, rfl, rfl⟩ := h.out
  exact e
/-! changes -/
def cz (l : List Int) : Nat := ((l.zip l.tail).filter fun p => !(p.1 == p.2)).length
theorem chg_nz : ∀ (l : List Int) (t : Int), (∀ s ∈ l, s ≠ 0) → t ≠ 0 → chgF t l = cz (t :: l)
  | [], t, _, _ => rfl
  | s :: l, t, h, ht => by
    have hs : s ≠ 0 := h s (by simp)
    have ih := chg_nz l s (fun x hx => h x (by simp [hx])) hs
    have e : cz (t :: s :: l) = (if t = s then 0 else 1) + cz (s :: l) := by
      simp only [cz, List.tail_cons, List.zip_cons_cons, List.filter_cons]
      by_cases h : t = s <;> simp [h]
      omega
    rw [e, chgF, if_neg hs]
    by_cases h1 : t = s
    · rw [if_pos (.inr h1), if_pos h1, ih]; simp
    · rw [if_neg (by simp [ht, h1]), if_neg h1, ih]; simp
theorem chg_filter : ∀ (l : List Int) (t : Int), chgF t l = chgF t (l.filter (fun s => !(s == 0)))
  | [], t => rfl
  | s :: l, t => by
    by_cases h : s = 0
    · rw [chgF, if_pos h, List.filter_cons_of_neg (by simp [h]), chg_filter l t]
    · rw [chgF, if_neg h, List.filter_cons_of_pos (by simp [h]), chgF, if_neg h, ← chg_filter l s]
theorem chg_zero (l : List Int) (h : ∀ s ∈ l, s ≠ 0) : chgF 0 l = cz l := by
  cases l with
  | nil => rfl
  | cons s l =>
    have hs := h s (by simp)
    rw [chgF, if_neg hs, if_pos (.inl rfl), chg_nz l s (fun x hx => h x (by simp [hx])) hs]
theorem chg_cz (l : List Int) : chgF 0 l = cz (l.filter (fun s => !(s == 0))) := by
  rw [chg_filter, chg_zero]
  intro s hs
  simpa using (List.mem_filter.mp hs).2
def nzF : W → Option W := fun w => match w with
  | .int i => if (i == 0) = true then none else some (.int i)
  | _ => none
theorem fm_nz : ∀ S : List Int, (iw S).filterMap nzF = iw (S.filter (fun s => !(s == 0)))
  | [] => rfl
  | x :: S => by
    have ih := fm_nz S
    simp only [iw, List.map_cons, List.filterMap_cons, nzF] at ih ⊢
    by_cases h : x = 0
    · simp only [h, BEq.rfl, if_true, List.filter_cons, Bool.not_true]
      exact ih
    · have h1 : (x == 0) = false := by simpa using h
      simp only [h1, Bool.false_eq_true, if_false, List.filter_cons, Bool.not_false, if_true, List.map_cons, ih]
def pF : W × W → Option W := fun p => match p.1, p.2 with
  | .int i, .int j => if (i == j) = true then none else some (.int i)
  | _, _ => none
theorem fm_pF : ∀ S U : List Int, (((iw S).zip (iw U)).filterMap pF).length = ((S.zip U).filter fun p => !(p.1 == p.2)).length
  | [], _ => rfl
  | _ :: _, [] => rfl
  | x :: S, y :: U => by
    have ih := fm_pF S U
    simp only [iw, List.map_cons, List.zip_cons_cons, List.filterMap_cons, List.filter_cons, pF] at ih ⊢
    by_cases h : x = y
    · simp only [h, BEq.rfl, if_true, Bool.not_true]
      exact ih
    · have h1 : (x == y) = false := by simpa using h
      simp only [h1, Bool.false_eq_true, if_false, Bool.not_false, if_true, List.length_cons, ih]
theorem WR_zpI {o : Orc} {s : Sg} {g : G} {Q : Itr → G → Prop} (a : CA) : WR (iZp a o s g) Q = WR (a o s g) fun xs g1 => match xs with
    | [.ref n, .ref m] => Q (.zll n m) g1
    | [.tup ws, .tup us] => Q (.zff ws us) g1
    | _ => False := by
  unfold iZp
  rw [WR_bind]
  congr 1
  funext xs g1
  match xs with
  | [.ref n, .ref m] => exact propext Iff.rfl
  | [.tup n, .tup m] => exact propext Iff.rfl
  | [] => exact propext Iff.rfl
  | [a] => cases a <;> exact propext Iff.rfl
  | a :: b :: c :: d => cases a <;> cases b <;> exact propext Iff.rfl
  | [.ref n, b] => cases b <;> exact propext Iff.rfl
  | [.tup n, b] => cases b <;> exact propext Iff.rfl
  | [.non, b] => cases b <;> exact propext Iff.rfl
  | [.bl _, b] => cases b <;> exact propext Iff.rfl
  | [.int _, b] => cases b <;> exact propext Iff.rfl
  | [.rol _, b] => cases b <;> exact propext Iff.rfl
theorem lc_zll {o : Orc} {s : Sg} {g : G} {t : TGT} {vs : List Nat} {test elt : CE} {n m : Nat} {ws us : List W} (hg : g[n]? = some ws) (hm : g[m]? = some us) (f : W × W → Option W) (hl : ws.length ≤ 1000000)
    (step : ∀ p ∈ ws.zip us, ∀ h : G, ∃ s2, t (.tup [p.1, p.2]) (wipew s vs) = some s2 ∧ ((f p = none ∧ test o s2 h = .ok (.bl false) h) ∨ ∃ y, f p = some y ∧ test o s2 h = .ok (.bl true) h ∧ elt o s2 h = .ok y h)) :
    lcLoop (.zll n m) t vs test elt o s g.length (cntI (.zll n m) g) 0 (g ++ [[]]) = .ok (.ref g.length) (g ++ [(ws.zip us).filterMap f]) := by
  have hg' : ∀ acc, (g ++ [acc])[n]? = some ws := fun acc => pre_lk (List.prefix_append _ _) hg
  have hm' : ∀ acc, (g ++ [acc])[m]? = some us := fun acc => pre_lk (List.prefix_append _ _) hm
  have h := lc_pure (o := o) (s := s) (g := g) (it := .zll n m) (t := t) (vs := vs) (test := test) (elt := elt) ((ws.zip us).map f) (by simp; omega) (by simp [cntI, hg, hm]) (fun acc => by
      simp only [stopI, List.length_map, hg', hm', List.length_zip, Bool.or_eq_true]
      by_cases h : ws.length ≤ us.length
      · left; rw [Nat.min_eq_left h]; exact ble_refl _
      · right; rw [Nat.min_eq_right (by omega)]; exact ble_refl _) (fun i z acc hz => by
    rw [List.getElem?_map] at hz
    cases e : (ws.zip us)[i]? with
    | none => rw [e] at hz; cases hz
    | some p =>
      rw [e] at hz
      cases hz
      obtain ⟨s2, h1, h2⟩ := step p (List.mem_of_getElem? e) (g ++ [acc])
      obtain ⟨ha, hb⟩ := List.getElem?_zip_eq_some.mp e
      exact ⟨.tup [p.1, p.2], s2, by simp only [itemI, hg', hm', at?_eq, ha, hb], h1, h2⟩)
  rw [h, List.filterMap_map]
  rfl
theorem C19 (n r : Nat) (is : List Nat) (rs : List (List Int)) (f : Nat) (a b : Int) (g : G) (hr : g[r]? = some (rf is)) (hra : RA g f is rs) (hl : rs.length ≤ 17) (hrl : ∀ x ∈ rs, x.length ≤ 17) (hb : 0 < b) (er : Nat) (her : er ≤ 1000) (ha1 : a.natAbs < 2 ^ er) (hb1 : b.natAbs < 2 ^ er) (hs : ∀ x ∈ rs, N1 x < 2 ^ 9000) :
    ∃ e, tbl (n + 2) 19 [.ref r, .tup [.int a, .int b]] g = .ok (.int (Sm.V (rs.map eZ) (qv a b))) (g ++ e) := by
  have hlen := hra.len
  have h : WR (tbl (n + 2) 19 [.ref r, .tup [.int a, .int b]] g) (fun w g' => w = .int (Sm.V (rs.map eZ) (qv a b)) ∧ ∃ e, g' = g ++ e) := by
    rw [tbl_19]
    refine WR_callS ?_
    have hcnt : cntI (.lst r) g = rs.length := by simp only [cntI, hr, rf, List.length_map, hlen]
    simp only [b19, WR_ok, OW_some, BW_bl, WS_seq, WS_asgN, WS_asgT, WS_ret, WS_exp, WS_next, WS_no, WS_par, WS_sFor, WS_sif, WS_set, WR_lc, WR_var, WR_c, WR_bin, WR_un, WA_nil, WA_cons, WR_fun, WR_call, WR_and, WR_or, WR_not, WR_if, WR_chain, WR_isn, WR_isi, WR_iteT, WR_seqI, WR_enI, WR_app, WR_pop, lk, stw, stws, wipew, stn, List.map_cons, List.map_nil, List.length_cons, List.length_nil, List.cons_append, List.nil_append, List.replicate, Nat.reduceAdd, Nat.reduceSub, Nat.reduceLeDiff, Nat.reduceEqDiff, BEq.rfl, beq_self_eq_true, if_true, true_and, and_true, forall_const, Bool.false_eq_true, Bool.true_eq_false, reduceCtorEq, false_implies, true_implies, W.ref.injEq, W.int.injEq, W.tup.injEq, W.bl.injEq, List.cons.injEq, Option.some.injEq, exists_eq_left', exists_eq_left, exists_and_left, exists_eq', exists_const, hcnt]
    refine lc_rule rs.length (fun i acc g' => ∃ e, g' = g ++ acc :: e ∧ acc = iw ((rs.take i).map fun x => sg (eZ x (qv a b)))) (fun i acc g' hi hd ⟨e, hg', hacc⟩ => ?_) (fun acc g' hd ⟨e, hg', hacc⟩ => ?_) rs.length 0 [] _ (by omega) (lk_new g [] []) ⟨[], rfl, rfl⟩
    · subst hg'
      have hri : rs[i]? = some rs[i] := List.getElem?_eq_getElem hi
      obtain ⟨id, h1, _, h2⟩ := hra.get i hri
      have h18 := C18 n id rs[i] a b (g ++ acc :: e) (lk_pre h2 _) (hrl _ (List.getElem_mem hi)) hb er her ha1 hb1 (hs _ (List.getElem_mem hi))
      refine ⟨.ref id, _, by simp only [itemI, lk_pre hr, at?_eq, rf, List.getElem?_map, h1, Option.map_some], rfl, ?_⟩
      simp only [WR_ok, OW_some, BW_bl, WS_seq, WS_asgN, WS_asgT, WS_ret, WS_exp, WS_next, WS_no, WS_par, WS_sFor, WS_sif, WS_set, WR_lc, WR_var, WR_c, WR_bin, WR_un, WA_nil, WA_cons, WR_fun, WR_call, WR_and, WR_or, WR_not, WR_if, WR_chain, WR_isn, WR_isi, WR_iteT, WR_seqI, WR_enI, WR_app, WR_pop, lk, stw, stws, wipew, stn, List.map_cons, List.map_nil, List.length_cons, List.length_nil, List.cons_append, List.nil_append, List.replicate, Nat.reduceAdd, Nat.reduceSub, Nat.reduceLeDiff, Nat.reduceEqDiff, BEq.rfl, beq_self_eq_true, if_true, true_and, and_true, forall_const, Bool.false_eq_true, Bool.true_eq_false, reduceCtorEq, false_implies, true_implies, W.ref.injEq, W.int.injEq, W.tup.injEq, W.bl.injEq, List.cons.injEq, Option.some.injEq, exists_eq_left', exists_eq_left, exists_and_left, exists_eq', exists_const, h18]
      refine ⟨hd, lk_pre hd _, ?_, ?_⟩
      · unfold szOk
        refine Nat.ble_eq_true_of_le ?_
        rw [hacc, iw_len, List.length_map, List.length_take]
        omega
      · refine ⟨e ++ [iw rs[i].reverse], ?_, ?_⟩
        · rw [List.append_assoc, List.cons_append, set_new]
        · rw [List.take_add_one, hri, hacc]
          simp only [iw, Option.toList_some, List.map_append, List.map_cons, List.map_nil]
    · subst hg'
      rw [List.take_length] at hacc
      refine ⟨by simp only [stopI, lk_pre hr, rf, List.length_map, hlen]; exact ble_refl _, ?_⟩
      generalize hS : rs.map (fun x => sg (eZ x (qv a b))) = S at hacc
      have hSl : S.length ≤ 17 := by rw [← hS]; simpa using hl
      have hV : Sm.V (rs.map eZ) (qv a b) = cz (S.filter (fun s => !(s == 0))) := by
        unfold Sm.V sgs
        rw [List.map_map, ← hS]
        exact chg_cz _
      subst hacc
      have hl1 := lc_lst (o := tbl (n + 1)) (s := [some (.ref r), some (.tup [.int a, .int b]), none, none, none, none, none]) (t := tName 3) (vs := [3]) (test := eBin fNe (eVar 3) (eC (.int 0))) (elt := eVar 3) hd nzF (by rw [iw_len]; omega) (fun w hw h => by
        obtain ⟨x, hx, rfl⟩ := mem_iw hw
        refine ⟨_, rfl, ?_⟩
        by_cases hx0 : (x == 0) = true
        · exact .inl ⟨by simp only [nzF, hx0, if_true], by show fNe (.int x) (.int 0) h = _; rw [fNe_int, hx0]; rfl⟩
        · have hx1 : (x == 0) = false := by simpa using hx0
          exact .inr ⟨.int x, by simp only [nzF, hx1]; rfl, by show fNe (.int x) (.int 0) h = _; rw [fNe_int, hx1]; rfl, rfl⟩)
      rw [fm_nz] at hl1
      generalize hN : S.filter (fun s => !(s == 0)) = N at hl1 hV
      have hNl : N.length ≤ 17 := by rw [← hN]; have := List.length_filter_le (fun s => !(s == 0)) S; omega
      have h3 := lk_new (g ++ iw S :: e) (iw N) []
      have htl : (iw N).drop 1 = iw N.tail := by simp [iw]
      have h4 := lk_new (g ++ iw S :: e ++ [iw N]) (iw N.tail) []
      have hl2 := lc_zll (o := tbl (n + 1)) (s := [some (.ref r), some (.tup [.int a, .int b]), some (W.ref (List.length (g ++ iw S :: e))), none, none, none, none]) (t := tTups [4, 5]) (vs := [4, 5]) (test := eBin fNe (eVar 4) (eVar 5)) (elt := eVar 4) (lk_pre h3 [iw N.tail]) h4 pF (by rw [iw_len]; omega) (fun p hp h => by
        obtain ⟨hp1, hp2⟩ := List.of_mem_zip hp
        obtain ⟨x, hx, e1⟩ := mem_iw hp1
        obtain ⟨y, hy, e2⟩ := mem_iw hp2
        obtain ⟨p1, p2⟩ := p
        simp only at e1 e2
        subst e1 e2
        refine ⟨_, rfl, ?_⟩
        by_cases hx0 : (x == y) = true
        · exact .inl ⟨by simp only [pF, hx0, if_true], by show fNe (.int x) (.int y) h = _; rw [fNe_int, hx0]; rfl⟩
        · have hx1 : (x == y) = false := by simpa using hx0
          exact .inr ⟨.int x, by simp only [pF, hx1]; rfl, by show fNe (.int x) (.int y) h = _; rw [fNe_int, hx1]; rfl, rfl⟩)
      simp only [WR_ok, OW_some, BW_bl, WS_seq, WS_asgN, WS_asgT, WS_ret, WS_exp, WS_next, WS_no, WS_par, WS_sFor, WS_sif, WS_set, WR_lc, WR_var, WR_c, WR_bin, WR_un, WA_nil, WA_cons, WR_fun, WR_call, WR_and, WR_or, WR_not, WR_if, WR_chain, WR_isn, WR_isi, WR_iteT, WR_seqI, WR_enI, WR_app, WR_pop, lk, stw, stws, wipew, stn, List.map_cons, List.map_nil, List.length_cons, List.length_nil, List.cons_append, List.nil_append, List.replicate, Nat.reduceAdd, Nat.reduceSub, Nat.reduceLeDiff, Nat.reduceEqDiff, BEq.rfl, beq_self_eq_true, if_true, true_and, and_true, forall_const, Bool.false_eq_true, Bool.true_eq_false, reduceCtorEq, false_implies, true_implies, W.ref.injEq, W.int.injEq, W.tup.injEq, W.bl.injEq, List.cons.injEq, Option.some.injEq, exists_eq_left', exists_eq_left, exists_and_left, exists_eq', exists_const, hl1, WR_zpI, WR_sl, WO_none, WO_some, IO_int, fSl, h3, cut_tail, htl, hl2, fLen, itemsOf, lk_new, fm_pF]
      exact ⟨by rw [hV]; rfl, _, by simp only [List.append_assoc]; rfl⟩
  obtain ⟨w, g', e, rfl, e', rfl⟩ := h.out
  exact ⟨e', e⟩
end LK77

set_option Elab.async false
set_option linter.all false
set_option maxRecDepth 100000
set_option maxHeartbeats 4000000
namespace LK77
open PySem PySem.Spec PyProof.Rows L2 Ev Sm
theorem WR_rgd {o : Orc} {s : Sg} {g : G} {Q : Itr → G → Prop} (a : CA) : WR (iRgD a o s g) Q = WR (a o s g) fun xs g1 => ∃ i j, xs = [.int i, .int j, .int (-1)] ∧ (smallI i && smallI j) = true ∧ Q (.rngc i (-1) (i - j).toNat) g1 := by
  unfold iRgD
  rw [WR_bind]
  congr 1
  funext xs g1
  refine propext ⟨fun h => ?_, fun ⟨i, j, e, h1, h⟩ => ?_⟩
  · split at h
    · split at h
      · rename_i i j k h1
        rw [Bool.and_eq_true] at h1
        have : k = -1 := of_decide_eq_true h1.2
        subst this
        exact ⟨i, j, rfl, h1.1, h⟩
      · exact h.elim
    · exact h.elim
  · subst e
    simp only [h1, decide_true, Bool.and_self, if_true]
    exact h
structure QuoI (xs ys : List Int) (far : Int) (d i : Nat) (F L : List Int) : Prop where
  len : L.length = xs.length
  flen : F.length = i
  ev : ∀ x, (far : Rat) ^ i * eZ xs x = x ^ (d + 1 - i) * eZ F.reverse x * eZ ys x + eZ L x
  zr : ∀ j v, xs.length - i ≤ j → L[j]? = some v → v = 0
  hd : ∀ h, F.head? = some h → h ≠ 0
theorem quo_step {xs ys M F L : List Int} {far top : Int} {d i : Nat} (h : QuoI xs ys far d i F L) (hy : ys ≠ []) (hfar : far = ys.getLast hy) (hf0 : far ≠ 0) (hd : xs.length = d + ys.length) (hi : i ≤ d)
    (htop : L[ys.length - 1 + (d - i)]? = some top) (hx0 : i = 0 → top ≠ 0) (hM : SubI (L.map (· * far)) ys top (d - i) ys.length M) : QuoI xs ys far d (i + 1) (F.map (· * far) ++ [top]) M := by
  have hpy := List.length_pos_iff.mpr hy
  refine ⟨by rw [hM.len, List.length_map, h.len], by simp [h.flen], fun x => ?_, fun j v hj hv => ?_, fun a ha => ?_⟩
  · have h1 := h.ev x
    have h2 := hM.ev x
    rw [map_mulR, eZ_smul, List.take_length] at h2
    have e1 : d + 1 - i = (d - i) + 1 := by omega
    have e2 : d + 1 - (i + 1) = d - i := by omega
    rw [e1, Rat.pow_succ] at h1
    rw [e2, Rat.pow_succ, List.reverse_append, List.reverse_cons, List.reverse_nil, List.nil_append, List.cons_append, List.nil_append, eZ_cons, map_mulR, ← List.map_reverse, eZ_smul, h2]
    generalize x ^ (d - i) = z at *
    generalize (far : Rat) ^ i = fi at *
    have h3 : fi * (far : Rat) * eZ xs x = (far : Rat) * (fi * eZ xs x) := by grind
    rw [h3, h1]
    grind
  · by_cases hj2 : j = ys.length - 1 + (d - i)
    · subst hj2
      have h1 := hM.lo (ys.length - 1) (ys.getLast hy) (top * far) (by omega) (by rw [← List.getLast?_eq_getElem?, List.getLast?_eq_some_getLast hy]) (by rw [List.getElem?_map, htop]; rfl)
      rw [h1, hfar] at hv
      have := Option.some.inj hv
      omega
    · have h1 := hM.hi j (by omega)
      rw [h1, List.getElem?_map] at hv
      cases e : L[j]? with
      | none => rw [e] at hv; cases hv
      | some w =>
        rw [e] at hv
        have h2 := h.zr j w (by omega) e
        subst h2
        have := Option.some.inj hv
        simp at this
        omega
  · cases hF : F with
    | nil =>
      rw [hF] at ha
      simp at ha
      have : i = 0 := by rw [← h.flen, hF]; rfl
      rw [← ha]
      exact hx0 this
    | cons b r =>
      rw [hF] at ha
      simp at ha
      rw [← ha]
      exact Int.mul_ne_zero (h.hd b (by rw [hF]; rfl)) hf0
/-- at the end nothing is left, when the one divides the other -/
theorem quo_end {xs ys F L : List Int} {far : Int} {d : Nat} (h : QuoI xs ys far d (d + 1) F L) (hy : ys ≠ []) (hty : Tr ys) (hd : xs.length = d + ys.length) (u : Rat → Rat) (hu : Pol u) (e : ∀ x, eZ xs x = eZ ys x * u x) (x : Rat) :
    (far : Rat) ^ (d + 1) * eZ xs x = eZ F.reverse x * eZ ys x := by
  have h0 : ∀ x, x ^ (d + 1 - (d + 1)) = (1 : Rat) := fun x => by rw [Nat.sub_self, Rat.pow_zero]
  have hev : ∀ x, (far : Rat) ^ (d + 1) * eZ xs x = eZ F.reverse x * eZ ys x + eZ L x := fun x => by
    have := h.ev x
    rw [h0] at this
    grind
  have hL : ∀ x, eZ L x = eZ ys x * ((far : Rat) ^ (d + 1) * u x - eZ F.reverse x) := fun x => by
    have h1 := hev x
    have h2 := e x
    rw [h2] at h1
    grind
  have hpy := List.length_pos_iff.mpr hy
  -- the row of what is left, cut
  have cut : ∀ (l : List Int) (k : Nat), (∀ j v, k ≤ j → l[j]? = some v → v = 0) → ∃ l', l'.length ≤ k ∧ Tr l' ∧ ∀ x, eZ l' x = eZ l x := fun l => by
    induction l with
    | nil => intro k _; exact ⟨[], by simp, fun a ha => by simp at ha, fun _ => rfl⟩
    | cons a l ih =>
      intro k hk
      cases k with
      | zero =>
        refine ⟨[], by simp, fun a ha => by simp at ha, fun x => ?_⟩
        have hz : Z (qz (a :: l)) := fun c hc => by
          obtain ⟨b, hb, rfl⟩ := List.mem_map.mp hc
          obtain ⟨j, hj, e⟩ := List.getElem_of_mem hb
          have := hk j b (by omega) (by rw [List.getElem?_eq_getElem hj, e])
          rw [this]; rfl
        exact (hz.ev x).symm
      | succ k =>
        obtain ⟨l', h1, h2, h3⟩ := ih k (fun j v hj hv => hk (j + 1) v (by omega) (by simpa using hv))
        cases l' with
        | nil =>
          by_cases ha : a = 0
          · exact ⟨[], by simp, fun a ha => by simp at ha, fun x => by rw [eZ_cons, ← h3 x, eZ_nil, ha]; simp; grind⟩
          · exact ⟨[a], by simp, fun b hb => by simp at hb; rw [← hb]; exact ha, fun x => by rw [eZ_cons, eZ_cons, ← h3 x]⟩
        | cons b r =>
          exact ⟨a :: b :: r, by simp at h1 ⊢; omega, fun c hc => h2 c (by rw [← hc, List.getLast?_cons_cons]), fun x => by rw [eZ_cons, eZ_cons a l, h3 x]⟩
  obtain ⟨l', h1, h2, h3⟩ := cut L (ys.length - 1) (fun j v hj hv => h.zr j v (by omega) hv)
  have hl' : l' = [] := Classical.byContradiction fun hn => by
    have := len_le h2 hn hty hy (((hu.smul ((far : Rat) ^ (d + 1)))).sub (eZ.pol F.reverse)) (fun x => by rw [h3, hL])
    omega
  have h4 := hev x
  rw [← h3 x, hl', eZ_nil] at h4
  grind
theorem C20 (n b : Nat) (xs ys : List Int) (g : G) (hb : g[b]? = some (iw ys)) (htx : Tr xs) (hty : Tr ys) (hy : ys ≠ []) (hxn : xs ≠ [])
    (d : Nat) (hd : xs.length = d + ys.length) (hl : xs.length ≤ 500) (ex ey : Nat) (hsx : N1 xs < 2 ^ ex) (hsy : N1 ys < 2 ^ ey) (hE : ex + (d + 1) * (ey + 1) ≤ 9000)
    (u : Rat → Rat) (hu : Pol u) (hdiv : ∀ x, eZ xs x = eZ ys x * u x) :
    ∃ l g' q lam, tbl (n + 3) 20 [.tup (iw xs), .ref b] g = .ok (.ref l) g' ∧ g <+: g' ∧ g'[l]? = some (iw q) ∧ Tr q ∧ q.length = d + 1 ∧ Prim q ∧ lam ≠ 0 ∧ ∀ x, lam * eZ xs x = eZ q x * eZ ys x := by
  have h : WR (tbl (n + 3) 20 [.tup (iw xs), .ref b] g) (fun w g' => ∃ l q, w = .ref l ∧ g <+: g' ∧ g'[l]? = some (iw q) ∧ Tr q ∧ q.length = d + 1 ∧ Prim q ∧ ∃ lam, lam ≠ 0 ∧ ∀ x, lam * eZ xs x = eZ q x * eZ ys x) := by
    rw [tbl_20]
    refine WR_callS ?_
    have hpy := List.length_pos_iff.mpr hy
    have hy0 := last_ne hty hy
    have hft : ∀ (a b c : W) (h : G), fTup [a, b, c] h = .ok (.tup [a, b, c]) h := fun _ _ _ _ => rfl
    have hli : ∀ h, fList [.tup (iw xs)] h = .ok (.ref h.length) (h ++ [iw xs]) := fun _ => rfl
    have hlt : ∀ h, fLen [.tup (iw xs)] h = .ok (.int xs.length) h := fun h => by simp only [fLen, itemsOf, iw_len]
    have hb1 := lk_pre (lk_pre hb [iw xs]) [[]]
    simp only [b20, WR_ok, OW_some, BW_bl, WS_seq, WS_asgN, WS_asgT, WS_ret, WS_exp, WS_next, WS_no, WS_par, WS_sFor, WS_sif, WS_set, WR_lc, WR_var, WR_c, WR_bin, WR_un, WA_nil, WA_cons, WR_fun, WR_call, WR_and, WR_or, WR_not, WR_if, WR_chain, WR_isn, WR_isi, WR_iteT, WR_seqI, WR_enI, WR_app, WR_pop, lk, stw, stws, wipew, stn, List.map_cons, List.map_nil, List.length_cons, List.length_nil, List.cons_append, List.nil_append, List.replicate, Nat.reduceAdd, Nat.reduceSub, Nat.reduceLeDiff, Nat.reduceEqDiff, BEq.rfl, beq_self_eq_true, if_true, true_and, and_true, forall_const, Bool.false_eq_true, Bool.true_eq_false, reduceCtorEq, false_implies, true_implies, W.ref.injEq, W.int.injEq, W.tup.injEq, W.bl.injEq, List.cons.injEq, Option.some.injEq, exists_eq_left', exists_eq_left, exists_and_left, exists_eq', exists_const, hft, hli, fLst_nil, fNeg_int, fIx_ref hb1 (at_last ys hy), hlt, fLen_ref hb1, iw_len, fSub_int, WR_rgd, cntI]
    refine ⟨_, _, ⟨rfl, rfl⟩, by simp only [smallI, Bool.and_eq_true, decide_eq_true_eq]; omega, ?_⟩
    have hcnt : ((xs.length : Int) - (ys.length : Int) - -1).toNat = d + 1 := by omega
    have hd0 : (xs.length : Int) - (ys.length : Int) = (d : Int) := by omega
    rw [hcnt, hd0]
    have hfarb : (ys.getLast hy).natAbs < 2 ^ ey := by have := N1_mem (List.getLast_mem hy); omega
    refine WS_for (d + 1) (fun i s g' => g <+: g' ∧ ∃ l f F L y5 y6 y7 y8, s = [some (.tup (iw xs)), some (.ref b), some (.ref l), some (.ref f), some (.int (ys.getLast hy)), y5, y6, y7, y8] ∧ g'[l]? = some (iw L) ∧ g'[f]? = some (iw F) ∧ QuoI xs ys (ys.getLast hy) d i F L ∧
      N1 L < 2 ^ (ex + i * (ey + 1)) ∧ N1 F < 2 ^ (ex + i * (ey + 1)) ∧ (i = 0 → L = xs)) (fun i s g' hi ⟨hg, l, f, F, L, y5, y6, y7, y8, hs, hL, hF, hQ, hsL, hsF, hL0⟩ => ?_) (fun s g' ⟨hg, l, f, F, L, y5, y6, y7, y8, hs, hL, hF, hQ, hsL, hsF, hL0⟩ => ?_) (d + 1) 0 _ _ (by omega)
      ⟨(List.prefix_append _ _).trans (List.prefix_append _ _), _, _, [], xs, _, _, _, _, rfl, lk_pre (lk_new g _ []) _, lk_new _ [] [], ⟨rfl, rfl, fun x => ?_, fun j v hj hv => ?_, fun h hh => by simp at hh⟩, by simpa using hsx, by simp only [N1]; exact Nat.pow_pos (by decide), fun _ => rfl⟩
    · subst hs
      have hE1 : ex + i * (ey + 1) + (ey + 1) ≤ 9000 := by
        have : (i + 1) * (ey + 1) ≤ (d + 1) * (ey + 1) := Nat.mul_le_mul_right _ hi
        rw [Nat.add_mul, Nat.one_mul] at this
        omega
      have hLl := hQ.len
      have hbg := pre_lk hg hb
      have hti : ys.length - 1 + (d - i) < L.length := by omega
      have htop : L[ys.length - 1 + (d - i)]? = some L[ys.length - 1 + (d - i)] := List.getElem?_eq_getElem hti
      have htm := N1_mem (List.getElem_mem hti)
      have htx0 : i = 0 → L[ys.length - 1 + (d - i)] ≠ 0 := fun h0 => by
        have h1 := hL0 h0
        subst h0
        subst h1
        refine htx _ ?_
        rw [List.getLast?_eq_getElem?]
        have : L.length - 1 = ys.length - 1 + (d - 0) := by omega
        rw [this]
        exact htop
      generalize L[ys.length - 1 + (d - i)] = top at htop htm htx0
      refine ⟨.int ((d : Int) + (i : Nat) * (-1)), _, by simp only [itemI, Nat.blt_eq, hi, if_true], rfl, ?_⟩
      have hcF := lc_lst (o := tbl (n + 2)) (s := [some (.tup (iw xs)), some (.ref b), some (.ref l), some (.ref f), some (.int (ys.getLast hy)), some (.int ((d : Int) + (i : Nat) * (-1))), y6, y7, y8]) (t := tName 8) (vs := [8]) (test := eC (.bl true)) (elt := eBin fMul (eVar 8) (eVar 4)) hF (intF (· * ys.getLast hy)) (by rw [iw_len, hQ.flen]; omega) (fun w hw h => by
        obtain ⟨x, hx, rfl⟩ := mem_iw hw
        refine ⟨_, rfl, .inr ⟨_, rfl, rfl, ?_⟩⟩
        have := N1_mem hx
        show fMul (.int x) (.int (ys.getLast hy)) h = _
        rw [fMul_int (mok (a := ex + i * (ey + 1)) (b := ey) (by omega) hfarb (by omega))])
      have hcL := lc_lst (o := tbl (n + 2)) (s := [some (.tup (iw xs)), some (.ref b), some (.ref l), some (.ref g'.length), some (.int (ys.getLast hy)), some (.int ((d : Int) + (i : Nat) * (-1))), some (.int top), y7, y8]) (t := tName 8) (vs := [8]) (test := eC (.bl true)) (elt := eBin fMul (eVar 8) (eVar 4)) (lk_pre hL [iw (F.map (· * ys.getLast hy))]) (intF (· * ys.getLast hy)) (by rw [iw_len]; omega) (fun w hw h => by
        obtain ⟨x, hx, rfl⟩ := mem_iw hw
        refine ⟨_, rfl, .inr ⟨_, rfl, rfl, ?_⟩⟩
        have := N1_mem hx
        show fMul (.int x) (.int (ys.getLast hy)) h = _
        rw [fMul_int (mok (a := ex + i * (ey + 1)) (b := ey) (by omega) hfarb (by omega))])
      rw [fm_map] at hcF hcL
      have hbg1 := lk_pre hbg [iw (F.map (· * ys.getLast hy))]
      have hidx : (ys.length : Int) - 1 + ((d : Int) + (i : Nat) * (-1)) = ((ys.length - 1 + (d - i) : Nat) : Int) := by omega
      simp only [WR_ok, OW_some, BW_bl, WS_seq, WS_asgN, WS_asgT, WS_ret, WS_exp, WS_next, WS_no, WS_par, WS_sFor, WS_sif, WS_set, WR_lc, WR_var, WR_c, WR_bin, WR_un, WA_nil, WA_cons, WR_fun, WR_call, WR_and, WR_or, WR_not, WR_if, WR_chain, WR_isn, WR_isi, WR_iteT, WR_seqI, WR_enI, WR_app, WR_pop, lk, stw, stws, wipew, stn, List.map_cons, List.map_nil, List.length_cons, List.length_nil, List.cons_append, List.nil_append, List.replicate, Nat.reduceAdd, Nat.reduceSub, Nat.reduceLeDiff, Nat.reduceEqDiff, BEq.rfl, beq_self_eq_true, if_true, true_and, and_true, forall_const, Bool.false_eq_true, Bool.true_eq_false, reduceCtorEq, false_implies, true_implies, W.ref.injEq, W.int.injEq, W.tup.injEq, W.bl.injEq, List.cons.injEq, Option.some.injEq, exists_eq_left', exists_eq_left, exists_and_left, exists_eq', exists_const, hcF, fLen_ref hbg1, iw_len, fSub_int, fAdd_int, hidx, fIx_ref (lk_pre hL _) (atI_nat L htop), hcL]
      have hh0 : g <+: g' ++ [iw (F.map (· * ys.getLast hy))] := pre_app hg _
      generalize hh : g' ++ [iw (F.map (· * ys.getLast hy))] = h0 at hbg1 hcL hh0 ⊢
      have hcnt2 : cntI (.enl b) (h0 ++ [iw (L.map (· * ys.getLast hy))]) = ys.length := by simp only [cntI, lk_pre hbg1, iw_len]
      rw [hcnt2]
      have hcast : (d : Int) + (i : Nat) * (-1) = ((d - i : Nat) : Int) := by omega
      rw [hcast]
      refine WS_for ys.length (fun i2 s g'' => ∃ M x y, SubI (L.map (· * ys.getLast hy)) ys top (d - i) i2 M ∧ g'' = h0 ++ [iw M] ∧
        s = [some (.tup (iw xs)), some (.ref b), some (.ref h0.length), some (.ref g'.length), some (.int (ys.getLast hy)), some (.int ((d - i : Nat) : Int)), some (.int top), x, y]) (fun i2 s g'' hi2 ⟨M, x, y, hM, hg'', hs⟩ => ?_) (fun s g'' ⟨M, x, y, hM, hg'', hs⟩ => ?_) ys.length 0 _ _ (by omega) ⟨_, _, _, .zero _ _ _ _, rfl, rfl⟩
      · subst hg'' hs
        have hMl : M.length = L.length := by rw [hM.len, List.length_map]
        have hyi : ys[i2]? = some ys[i2] := List.getElem?_eq_getElem hi2
        have hMi : i2 + (d - i) < M.length := by omega
        have hMv : M[i2 + (d - i)]? = some M[i2 + (d - i)] := List.getElem?_eq_getElem hMi
        have hnx := hM.next hyi hMv
        refine ⟨.tup [.int (i2 : Nat), .int ys[i2]], _, by simp only [itemI, lk_pre hbg1, at_get, hyi, Option.map_some], rfl, ?_⟩
        have hc2 : (i2 : Int) + ((d - i : Nat) : Int) = ((i2 + (d - i) : Nat) : Int) := by omega
        have hyb : ys[i2].natAbs < 2 ^ ey := by
          have := N1_mem (List.getElem_mem hi2)
          omega
        have hnew := lk_new h0 (iw M) []
        simp only [WR_ok, OW_some, BW_bl, WS_seq, WS_asgN, WS_asgT, WS_ret, WS_exp, WS_next, WS_no, WS_par, WS_sFor, WS_sif, WS_set, WR_lc, WR_var, WR_c, WR_bin, WR_un, WA_nil, WA_cons, WR_fun, WR_call, WR_and, WR_or, WR_not, WR_if, WR_chain, WR_isn, WR_isi, WR_iteT, WR_seqI, WR_enI, WR_app, WR_pop, lk, stw, stws, wipew, stn, List.map_cons, List.map_nil, List.length_cons, List.length_nil, List.cons_append, List.nil_append, List.replicate, Nat.reduceAdd, Nat.reduceSub, Nat.reduceLeDiff, Nat.reduceEqDiff, BEq.rfl, beq_self_eq_true, if_true, true_and, and_true, forall_const, Bool.false_eq_true, Bool.true_eq_false, reduceCtorEq, false_implies, true_implies, W.ref.injEq, W.int.injEq, W.tup.injEq, W.bl.injEq, List.cons.injEq, Option.some.injEq, exists_eq_left', exists_eq_left, exists_and_left, exists_eq', exists_const, fAdd_int, hc2, fIx_ref hnew (atI_nat M hMv), fMul_int (mok (a := ex + i * (ey + 1)) (b := ey) (i := top) (by omega) hyb (by omega)), fSub_int, hnew, iw_len, ixN_nat hMi]
        exact ⟨_, hnx, by rw [set_new, iw_set]⟩
      · subst hg'' hs
        refine ⟨by simp only [stopI, lk_pre hbg1, iw_len]; exact ble_refl _, ?_⟩
        have hQ' := quo_step hQ hy rfl hy0 hd (by omega) htop htx0 hM
        have hset : (h0 ++ [iw M]).set g'.length (iw (F.map (· * ys.getLast hy)) ++ [.int top]) = g' ++ [iw (F.map (· * ys.getLast hy) ++ [top])] ++ [iw M] := by
          rw [← hh, List.append_assoc]
          show (g' ++ iw (F.map (· * ys.getLast hy)) :: [iw M]).set g'.length _ = _
          rw [set_new]
          simp [iw]
        have hfl : (h0 ++ [iw M])[g'.length]? = some (iw (F.map (· * ys.getLast hy))) := by
          rw [← hh, List.append_assoc]
          exact lk_new _ _ _
        have hfar2 : (ys.getLast hy).natAbs ≤ N1 ys := N1_mem (List.getLast_mem hy)
        have hex : 2 ^ (ex + i * (ey + 1) + (ey + 1)) = 2 ^ (ex + (i + 1) * (ey + 1)) := by rw [Nat.add_mul, Nat.one_mul, Nat.add_assoc]
        have hszM : N1 M < 2 ^ (ex + (i + 1) * (ey + 1)) := by
          have h1 := hM.n1
          rw [map_mulR, N1_smul, List.take_length] at h1
          have h2 : (ys.getLast hy).natAbs * N1 L ≤ N1 ys * N1 L := Nat.mul_le_mul_right _ hfar2
          have h3 : top.natAbs * N1 ys ≤ N1 L * N1 ys := Nat.mul_le_mul_right _ htm
          rw [Nat.mul_comm (N1 ys)] at h2
          have h4 := szM hsL hsy
          rw [hex] at h4
          omega
        have hszF : N1 (F.map (· * ys.getLast hy) ++ [top]) < 2 ^ (ex + (i + 1) * (ey + 1)) := by
          rw [N1_app, map_mulR, N1_smul]
          have h1 : (ys.getLast hy).natAbs * N1 F < 2 ^ ey * 2 ^ (ex + i * (ey + 1)) := Nat.mul_lt_mul'' hfarb hsF
          have h2 : 2 ^ (ex + (i + 1) * (ey + 1)) = 2 ^ ey * 2 ^ (ex + i * (ey + 1)) * 2 := by rw [← hex, ← Nat.add_assoc, Nat.pow_succ, Nat.pow_add, Nat.mul_comm (2 ^ ey)]
          have h3 : 1 * 2 ^ (ex + i * (ey + 1)) ≤ 2 ^ ey * 2 ^ (ex + i * (ey + 1)) := Nat.mul_le_mul_right _ (Nat.pow_pos (by decide))
          have h4 : N1 [top] = top.natAbs := by simp [N1]
          rw [h2, h4]
          generalize 2 ^ ey * 2 ^ (ex + i * (ey + 1)) = z at *
          omega
        simp only [WR_ok, OW_some, BW_bl, WS_seq, WS_asgN, WS_asgT, WS_ret, WS_exp, WS_next, WS_no, WS_par, WS_sFor, WS_sif, WS_set, WR_lc, WR_var, WR_c, WR_bin, WR_un, WA_nil, WA_cons, WR_fun, WR_call, WR_and, WR_or, WR_not, WR_if, WR_chain, WR_isn, WR_isi, WR_iteT, WR_seqI, WR_enI, WR_app, WR_pop, lk, stw, stws, wipew, stn, List.map_cons, List.map_nil, List.length_cons, List.length_nil, List.cons_append, List.nil_append, List.replicate, Nat.reduceAdd, Nat.reduceSub, Nat.reduceLeDiff, Nat.reduceEqDiff, BEq.rfl, beq_self_eq_true, if_true, true_and, and_true, forall_const, Bool.false_eq_true, Bool.true_eq_false, reduceCtorEq, false_implies, true_implies, W.ref.injEq, W.int.injEq, W.tup.injEq, W.bl.injEq, List.cons.injEq, Option.some.injEq, exists_eq_left', exists_eq_left, exists_and_left, exists_eq', exists_const]
        refine ⟨_, hfl, ?_, ?_, ?_⟩
        · unfold szOk
          refine Nat.ble_eq_true_of_le ?_
          rw [iw_len, List.length_map, hQ.flen]
          omega
        · rw [hset, List.append_assoc]
          exact pre_app hg _
        · rw [hset]
          refine ⟨h0.length, g'.length, F.map (· * ys.getLast hy) ++ [top], M, _, _, _, _, ⟨rfl, rfl, rfl, rfl, rfl, rfl⟩, ?_, ?_, hQ', hszM, hszF⟩
          · have : h0.length = (g' ++ [iw (F.map (· * ys.getLast hy) ++ [top])]).length := by rw [← hh]; simp
            rw [this]
            exact lk_new _ _ []
          · rw [List.append_assoc]
            exact lk_new _ _ _
    · subst hs
      refine ⟨by simp only [stopI]; exact ble_refl _, ?_⟩
      have hrev : (iw F).reverse = iw F.reverse := by simp [iw]
      have hN1r : ∀ A : List Int, N1 A.reverse = N1 A := fun A => by
        induction A with
        | nil => rfl
        | cons a A ih => rw [List.reverse_cons, N1_app, ih]; simp [N1]; omega
      have hC2 := C2 n g'.length F.reverse (g' ++ [iw F.reverse]) (lk_new g' _ []) (by rw [List.length_reverse, hQ.flen]; omega) _ hE (by rw [hN1r]; exact hsF)
      simp only [WR_ok, OW_some, BW_bl, WS_seq, WS_asgN, WS_asgT, WS_ret, WS_exp, WS_next, WS_no, WS_par, WS_sFor, WS_sif, WS_set, WR_lc, WR_var, WR_c, WR_bin, WR_un, WA_nil, WA_cons, WR_fun, WR_call, WR_and, WR_or, WR_not, WR_if, WR_chain, WR_isn, WR_isi, WR_iteT, WR_seqI, WR_enI, WR_app, WR_pop, lk, stw, stws, wipew, stn, List.map_cons, List.map_nil, List.length_cons, List.length_nil, List.cons_append, List.nil_append, List.replicate, Nat.reduceAdd, Nat.reduceSub, Nat.reduceLeDiff, Nat.reduceEqDiff, BEq.rfl, beq_self_eq_true, if_true, true_and, and_true, forall_const, Bool.false_eq_true, Bool.true_eq_false, reduceCtorEq, false_implies, true_implies, W.ref.injEq, W.int.injEq, W.tup.injEq, W.bl.injEq, List.cons.injEq, Option.some.injEq, exists_eq_left', exists_eq_left, exists_and_left, exists_eq', exists_const, fRev_ref hF, hrev, hC2]
      have hFt : Tr F.reverse := fun a ha => by
        rw [List.getLast?_reverse] at ha
        exact hQ.hd a ha
      have hFn : F.reverse ≠ [] := fun h => by
        have := congrArg List.length h
        rw [List.length_reverse, hQ.flen] at this
        simp at this
      obtain ⟨m, hm, hme⟩ := eZ_mlow F.reverse
      obtain ⟨_, _, _, _, hml⟩ := mlow_eq F.reverse
      have hq := quo_end hQ hy hty hd u hu hdiv
      refine ⟨(hg.trans (List.prefix_append _ _)).trans (List.prefix_append _ _), mlow F.reverse, lk_new _ _ [], tr_mlow hFt, by rw [hml, List.length_reverse, hQ.flen], mlow_prim ⟨F.reverse.getLast hFn, List.getLast_mem hFn, last_ne hFt hFn⟩, ((ys.getLast hy : Int) : Rat) ^ (d + 1) / m, ?_, fun x => ?_⟩
      · intro h0
        have h1 : ((ys.getLast hy : Int) : Rat) ^ (d + 1) = 0 := by
          have := Rat.div_mul_cancel (a := ((ys.getLast hy : Int) : Rat) ^ (d + 1)) (b := m) (by grind)
          rw [h0] at this
          grind
        exact pow_ne (fun h => hy0 (Rat.intCast_eq_zero_iff.mp h)) _ h1
      · have h1 := hq x
        rw [hme x] at h1
        have h2 : ((ys.getLast hy : Int) : Rat) ^ (d + 1) / m * eZ xs x = (((ys.getLast hy : Int) : Rat) ^ (d + 1) * eZ xs x) / m := by grind
        rw [h2, h1]
        grind
    · rw [Rat.pow_zero, List.reverse_nil, eZ_nil]
      grind
    · have := (List.getElem?_eq_some_iff.mp hv).1
      omega
  obtain ⟨w, g', e, l, q, rfl, h1, h2, h3, h4, h5, lam, h⟩ := h.out
  exact ⟨l, g', q, lam, e, h1, h2, h3, h4, h5, h⟩
end LK77

set_option Elab.async false
set_option linter.all false
set_option maxRecDepth 100000
set_option maxHeartbeats 4000000
namespace LK77
open PySem PySem.Spec PyProof.Rows L2 Ev Sm
theorem rows_zero {P Q g : List Int} {rs1 : List (List Int)} {lam : Rat} (hP : Tr P) (hP0 : P ≠ []) (h1 : RR P (slZ P) rs1) (hg : rs1.getLast? = some g)
    (hl : lam ≠ 0) (e : ∀ x, lam * eZ P x = eZ Q x * eZ g x) (x : Rat) (hx : eZ P x = 0) : eZ Q x = 0 := by
  obtain ⟨g', hg', hg0, hgt, ⟨u, v, hu, hv, e1, e2⟩, A, B, hA, hB, e3⟩ := h1.gcd hP0 hP hP.sl
  rw [hg] at hg'
  cases hg'
  obtain ⟨as, a, ha, eg⟩ := hgt.split hg0
  obtain ⟨⟨c, k, s, hc, hs, e4⟩, _⟩ := sq_free (g := eZ g) ha (fun x => by unfold eZ; rw [eg]) (Der.eZ P) hv hA hB e2 e3 (Der.eZ Q) hl e
  refine Classical.byContradiction fun hn => ?_
  have h2 := e x
  rw [hx] at h2
  rcases Rat.mul_eq_zero.mp (show eZ Q x * eZ g x = 0 by grind) with h3 | h3
  · exact hn h3
  · have h4 := e4 x
    rw [h3] at h4
    rcases Rat.mul_eq_zero.mp (show c * eZ Q x ^ k = 0 by grind) with h5 | h5
    · exact hc h5
    · exact pow_ne hn k h5
theorem RA.last {g : G} {f : Nat} {is : List Nat} {rs : List (List Int)} {d : List Int} (h : RA g f is rs) (hd : rs.getLast? = some d) : ∃ i, atI (rf is) (-1) = some (.ref i) ∧ i ≠ f ∧ g[i]? = some (iw d) := by
  have hl := h.len
  rw [List.getLast?_eq_getElem?] at hd
  have hp := (List.getElem?_eq_some_iff.mp hd).1
  obtain ⟨i, h1, h2⟩ := h.get _ hd
  refine ⟨i, ?_, h2⟩
  have e : ixN (List.map W.ref is).length (-1) = some (rs.length - 1) := by
    simp only [ixN, List.length_map]
    rw [if_neg (by omega), if_pos (by omega)]
    congr 1
    omega
  simp only [atI, e, Option.bind_some, rf, List.getElem?_map, h1, Option.map_some]
/-- what without_doubles gives -/
structure NoDbl (xs Wd : List Int) (q : List Int) : Prop where
  tr : Tr q
  ne : q ≠ []
  len : q.length ≤ xs.length
  how : q = xs ∧ Wd.length ≤ 1 ∨ Prim q ∧ q.length + 1 ≤ xs.length ∧ q.length + Wd.length ≤ xs.length + 1
  rows : ∃ rs1 gd lam, RR xs (slZ xs) rs1 ∧ rs1.getLast? = some gd ∧ lam ≠ 0 ∧ ∀ x, lam * eZ xs x = eZ q x * eZ gd x
theorem C21 (n : Nat) (xs Wd : List Int) (g : G) (hl : xs.length ≤ 17) (hn : xs ≠ []) (ht : Tr xs)
    (hWt : Tr Wd) (hWn : Wd ≠ []) (u v : Rat → Rat) (hu : Pol u) (hv : Pol v) (hdu : ∀ x, eZ xs x = eZ Wd x * u x) (hdv : ∀ x, eZ (slZ xs) x = eZ Wd x * v x)
    (e0 : Nat) (hs : N1 xs < 2 ^ e0) (hE : be e0 (xs.length + 1 - Wd.length) ≤ 9000) (K : Nat) (hK1 : xs.length - 2 ≤ K ∨ xs.length - Wd.length ≤ K) (hK : e0 + (K + 1) * (be e0 K + 1) ≤ 9000) :
    ∃ l g' q, tbl (n + 5) 21 [.tup (iw xs)] g = .ok (.ref l) g' ∧ g <+: g' ∧ g'[l]? = some (iw q) ∧ NoDbl xs Wd q := by
  have h : WR (tbl (n + 5) 21 [.tup (iw xs)] g) (fun w g' => ∃ l q, w = .ref l ∧ g <+: g' ∧ g'[l]? = some (iw q) ∧ NoDbl xs Wd q) := by
    rw [tbl_21]
    refine WR_callS ?_
    obtain ⟨r, g1, is, rs, h17, hp1, hr1, hra, hrs⟩ := C17 n (.tup (iw xs)) xs Wd g (.inl rfl) hl hn ht hWt hWn u v hu hv hdu hdv e0 hs hE
    obtain ⟨gd, hgd, hg0, hgt, ⟨u1, v1, hu1, hv1, e1, e2⟩, A, B, hA, hB, e3⟩ := hrs.rr.gcd hn ht ht.sl
    obtain ⟨ig, hig, _, hgg⟩ := hra.last hgd
    have hWg : Wd.length ≤ gd.length := len_le hgt hg0 hWt hWn ((hA.mul hu).add (hB.mul hv)) (fun x => by
      rw [e3, hdu, hdv]; grind)
    have hgm : gd ∈ rs := List.mem_of_getLast? hgd
    have hgsz := hrs.sz gd hgm
    have hgl := hrs.len gd hgm
    have hpg := List.length_pos_iff.mpr hg0
    simp only [b21, WR_ok, OW_some, BW_bl, WS_seq, WS_asgN, WS_asgT, WS_ret, WS_exp, WS_next, WS_no, WS_par, WS_sFor, WS_sif, WS_set, WR_lc, WR_var, WR_c, WR_bin, WR_un, WA_nil, WA_cons, WR_fun, WR_call, WR_and, WR_or, WR_not, WR_if, WR_chain, WR_isn, WR_isi, WR_iteT, WR_seqI, WR_enI, WR_app, WR_pop, lk, stw, stws, wipew, stn, List.map_cons, List.map_nil, List.length_cons, List.length_nil, List.cons_append, List.nil_append, List.replicate, Nat.reduceAdd, Nat.reduceSub, Nat.reduceLeDiff, Nat.reduceEqDiff, BEq.rfl, beq_self_eq_true, if_true, true_and, and_true, forall_const, Bool.false_eq_true, Bool.true_eq_false, reduceCtorEq, false_implies, true_implies, W.ref.injEq, W.int.injEq, W.tup.injEq, W.bl.injEq, List.cons.injEq, Option.some.injEq, exists_eq_left', exists_eq_left, exists_and_left, exists_eq', exists_const, h17, fNeg_int, fIx_ref hr1 hig, fLen_ref hgg, iw_len, fLt_int]
    refine ⟨fun h => ?_, fun h => ?_⟩
    · have h1 : gd.length < 2 := by have := of_decide_eq_true h; omega
      have hli : fList [.tup (iw xs)] g1 = .ok (.ref g1.length) (g1 ++ [iw xs]) := rfl
      simp only [WR_ok, OW_some, BW_bl, WS_seq, WS_asgN, WS_asgT, WS_ret, WS_exp, WS_next, WS_no, WS_par, WS_sFor, WS_sif, WS_set, WR_lc, WR_var, WR_c, WR_bin, WR_un, WA_nil, WA_cons, WR_fun, WR_call, WR_and, WR_or, WR_not, WR_if, WR_chain, WR_isn, WR_isi, WR_iteT, WR_seqI, WR_enI, WR_app, WR_pop, lk, stw, stws, wipew, stn, List.map_cons, List.map_nil, List.length_cons, List.length_nil, List.cons_append, List.nil_append, List.replicate, Nat.reduceAdd, Nat.reduceSub, Nat.reduceLeDiff, Nat.reduceEqDiff, BEq.rfl, beq_self_eq_true, if_true, true_and, and_true, forall_const, Bool.false_eq_true, Bool.true_eq_false, reduceCtorEq, false_implies, true_implies, W.ref.injEq, W.int.injEq, W.tup.injEq, W.bl.injEq, List.cons.injEq, Option.some.injEq, exists_eq_left', exists_eq_left, exists_and_left, exists_eq', exists_const, hli]
      refine ⟨pre_app hp1 _, xs, lk_new _ _ [], ht, hn, Nat.le_refl _, .inl ⟨rfl, by omega⟩, rs, gd, ?_⟩
      match gd, hg0, h1, hgt with
      | [c], _, _, hgt =>
        have hc : c ≠ 0 := hgt c rfl
        refine ⟨(c : Rat), hrs.rr, hgd, fun h => hc (Rat.intCast_eq_zero_iff.mp h), fun x => ?_⟩
        rw [eZ_cons c, eZ_nil]; grind
    · have h1 : 2 ≤ gd.length := by have := of_decide_eq_false h; omega
      have hkk : xs.length - gd.length ≤ K := by omega
      have hmono := be_mono e0 hkk
      have hq1 : (xs.length - gd.length + 1) * (be e0 (xs.length - gd.length) + 1) ≤ (K + 1) * (be e0 K + 1) := Nat.mul_le_mul (by omega) (by omega)
      obtain ⟨l, g2, q, lam, h20, hp2, hl2, hqt, hql, hqp, hlam, hev⟩ := C20 (n + 1) ig xs gd g1 hgg ht hgt hg0 hn (xs.length - gd.length) (by omega) (by omega) e0 _ hs hgsz (by omega) u1 hu1 e1
      simp only [WR_ok, OW_some, BW_bl, WS_seq, WS_asgN, WS_asgT, WS_ret, WS_exp, WS_next, WS_no, WS_par, WS_sFor, WS_sif, WS_set, WR_lc, WR_var, WR_c, WR_bin, WR_un, WA_nil, WA_cons, WR_fun, WR_call, WR_and, WR_or, WR_not, WR_if, WR_chain, WR_isn, WR_isi, WR_iteT, WR_seqI, WR_enI, WR_app, WR_pop, lk, stw, stws, wipew, stn, List.map_cons, List.map_nil, List.length_cons, List.length_nil, List.cons_append, List.nil_append, List.replicate, Nat.reduceAdd, Nat.reduceSub, Nat.reduceLeDiff, Nat.reduceEqDiff, BEq.rfl, beq_self_eq_true, if_true, true_and, and_true, forall_const, Bool.false_eq_true, Bool.true_eq_false, reduceCtorEq, false_implies, true_implies, W.ref.injEq, W.int.injEq, W.tup.injEq, W.bl.injEq, List.cons.injEq, Option.some.injEq, exists_eq_left', exists_eq_left, exists_and_left, exists_eq', exists_const, h20]
      refine ⟨hp1.trans hp2, q, hl2, hqt, List.length_pos_iff.mp (by omega), by omega, .inr ⟨hqp, by omega, by omega⟩, rs, gd, lam, hrs.rr, hgd, hlam, hev⟩
  obtain ⟨w, g', e, l, q, rfl, h⟩ := h.out
  exact ⟨l, g', q, e, h⟩
/-- polynomials for which the rows can be told -/
structure Okp (xs : List Int) : Prop where
  tr : Tr xs
  ne : xs ≠ []
  len : xs.length ≤ 17
  par : ∃ (Wd : List Int) (u v : Rat → Rat) (e0 K eq : Nat), Tr Wd ∧ Wd ≠ [] ∧ Pol u ∧ Pol v ∧ (∀ x, eZ xs x = eZ Wd x * u x) ∧ (∀ x, eZ (slZ xs) x = eZ Wd x * v x) ∧ N1 xs < 2 ^ e0 ∧ be e0 (xs.length + 1 - Wd.length) ≤ 9000 ∧
    (xs.length - 2 ≤ K ∨ xs.length - Wd.length ≤ K) ∧ e0 + (K + 1) * (be e0 K + 1) ≤ 9000 ∧ eq ≤ 900 ∧
    (∀ q h : List Int, Prim q → Tr q → q ≠ [] → (∀ x, eZ xs x = eZ q x * eZ h x) → q.length + 1 ≤ xs.length → q.length + Wd.length ≤ xs.length + 1 → N1 q < 2 ^ eq ∧ be eq q.length ≤ 9000) ∧ (Wd.length ≤ 1 → e0 ≤ 900)
/-- rows in the heap that tell the roots of xs -/
structure Rows (xs : List Int) (g : G) (r : Nat) (rs : List (List Int)) : Prop where
  is : ∃ is, g[r]? = some (rf is) ∧ RA g r is rs
  stu : Stu (eZ xs) (Sm.V (rs.map eZ))
  sz : ∀ x ∈ rs, N1 x < 2 ^ 9000
  len : ∀ x ∈ rs, x.length ≤ 17
  few : rs.length ≤ 17
  head : ∃ q t, rs = q :: t ∧ Tr q ∧ q ≠ [] ∧ N1 q < 2 ^ 900 ∧ ∀ x, eZ xs x = 0 → eZ q x = 0
theorem Rows.pre {xs : List Int} {g g' : G} {r : Nat} {rs : List (List Int)} (h : Rows xs g r rs) (hp : g <+: g') : Rows xs g' r rs := by
  obtain ⟨is, h1, h2⟩ := h.is
  exact ⟨⟨is, pre_lk hp h1, h2.pre hp⟩, h.stu, h.sz, h.len, h.few, h.head⟩
theorem sl_div (q : List Int) : ∃ v, Pol v ∧ ∀ x, eZ (slZ q) x = eZ [1] x * v x := ⟨eZ (slZ q), eZ.pol _, fun x => by rw [eZ_cons, eZ_nil]; simp; grind⟩
theorem tr_one : Tr [1] := fun a ha => by simp at ha; omega
theorem C23 (n : Nat) (xs : List Int) (g : G) (ok : Okp xs) : ∃ r g' rs, tbl (n + 6) 23 [.tup (iw xs)] g = .ok (.ref r) g' ∧ g <+: g' ∧ Rows xs g' r rs := by
  have h : WR (tbl (n + 6) 23 [.tup (iw xs)] g) (fun w g' => ∃ r rs, w = .ref r ∧ g <+: g' ∧ Rows xs g' r rs) := by
    rw [tbl_23]
    refine WR_callS ?_
    obtain ⟨Wd, u, v, e0, K, eq, hWt, hWn, hu, hv, hdu, hdv, hs, hE, hK1, hK, heq, hG, h900⟩ := ok.par
    obtain ⟨l, g1, q, h21, hp1, hl1, hq⟩ := C21 n xs Wd g ok.len ok.ne ok.tr hWt hWn u v hu hv hdu hdv e0 hs hE K hK1 hK
    obtain ⟨rs1, gd, lam, hrr, hgd, hlam, hev⟩ := hq.rows
    have hql := hq.len
    have hxl := ok.len
    have hsz : ∃ e1, N1 q < 2 ^ e1 ∧ be e1 q.length ≤ 9000 ∧ e1 ≤ 900 := by
      rcases hq.how with ⟨h1, h2⟩ | ⟨h1, h2, h3⟩
      · have hWp := List.length_pos_iff.mpr hWn
        refine ⟨e0, by rw [h1]; exact hs, ?_, h900 h2⟩
        have : xs.length + 1 - Wd.length = q.length := by rw [h1]; omega
        rw [this] at hE
        exact hE
      · obtain ⟨h', he⟩ := whole_div' h1 hlam hev
        have := hG q h' h1 hq.tr hq.ne he h2 h3
        exact ⟨eq, this.1, this.2, heq⟩
    obtain ⟨e1, hs1, hE1, he1⟩ := hsz
    obtain ⟨v1, hv1, hdv1⟩ := sl_div q
    obtain ⟨r, g2, is, rs, h17, hp2, hr2, hra, hrs⟩ := C17 (n + 1) (.ref l) q [1] g1 (.inr ⟨l, rfl, hl1⟩) (by omega) hq.ne hq.tr tr_one (by simp) (eZ q) v1 (eZ.pol q) hv1 (fun x => by rw [eZ_cons 1, eZ_nil]; simp; grind) hdv1 e1 hs1 (by simpa using hE1)
    simp only [b23, WR_ok, OW_some, BW_bl, WS_seq, WS_asgN, WS_asgT, WS_ret, WS_exp, WS_next, WS_no, WS_par, WS_sFor, WS_sif, WS_set, WR_lc, WR_var, WR_c, WR_bin, WR_un, WA_nil, WA_cons, WR_fun, WR_call, WR_and, WR_or, WR_not, WR_if, WR_chain, WR_isn, WR_isi, WR_iteT, WR_seqI, WR_enI, WR_app, WR_pop, lk, stw, stws, wipew, stn, List.map_cons, List.map_nil, List.length_cons, List.length_nil, List.cons_append, List.nil_append, List.replicate, Nat.reduceAdd, Nat.reduceSub, Nat.reduceLeDiff, Nat.reduceEqDiff, BEq.rfl, beq_self_eq_true, if_true, true_and, and_true, forall_const, Bool.false_eq_true, Bool.true_eq_false, reduceCtorEq, false_implies, true_implies, W.ref.injEq, W.int.injEq, W.tup.injEq, W.bl.injEq, List.cons.injEq, Option.some.injEq, exists_eq_left', exists_eq_left, exists_and_left, exists_eq', exists_const, h21, h17]
    obtain ⟨t, ht, _⟩ := hrs.rr.head
    refine ⟨hp1.trans hp2, rs, ⟨is, hr2, hra⟩, rows_stu ok.tr ok.ne hrr hgd hlam hq.tr hq.ne hev hrs.rr, fun x hx => ?_, fun x hx => ?_, ?_, q, t, ht, hq.tr, hq.ne, ?_, fun x hx => rows_zero ok.tr ok.ne hrr hgd hlam hev x hx⟩
    · exact Nat.lt_of_lt_of_le (hrs.sz x hx) (Nat.pow_le_pow_right (by decide) (Nat.le_trans (be_mono e1 (by omega)) hE1))
    · have := hrs.len x hx; omega
    · have := hrs.few; omega
    · exact Nat.lt_of_lt_of_le hs1 (Nat.pow_le_pow_right (by decide) he1)
  obtain ⟨w, g', e, r, rs, rfl, h⟩ := h.out
  exact ⟨r, g', rs, e, h⟩
end LK77

set_option Elab.async false
set_option linter.all false
set_option maxRecDepth 100000
set_option maxHeartbeats 4000000
namespace LK77
open PySem PySem.Spec PyProof.Rows L2 Ev Sm
/-- fractions that may be asked -/
structure Fra (a b : Int) : Prop where
  pos : 0 < b
  a : a.natAbs < 2 ^ 1000
  b : b.natAbs < 2 ^ 62
theorem C22 (n r : Nat) (xs : List Int) (rs : List (List Int)) (a b c d : Int) (g : G) (h : Rows xs g r rs) (h1 : Fra a b) (h2 : Fra c d) :
    ∃ e, tbl (n + 3) 22 [.ref r, .tup [.int a, .int b], .tup [.int c, .int d]] g = .ok (.int (Sm.V (rs.map eZ) (qv a b) - Sm.V (rs.map eZ) (qv c d))) (g ++ e) := by
  have hh : WR (tbl (n + 3) 22 [.ref r, .tup [.int a, .int b], .tup [.int c, .int d]] g) (fun w g' => w = .int (Sm.V (rs.map eZ) (qv a b) - Sm.V (rs.map eZ) (qv c d)) ∧ ∃ e, g' = g ++ e) := by
    rw [tbl_22]
    refine WR_callS ?_
    obtain ⟨is, hr, hra⟩ := h.is
    have up : ∀ {b : Int}, b.natAbs < 2 ^ 62 → b.natAbs < 2 ^ 1000 := fun hb => Nat.lt_of_lt_of_le hb (Nat.pow_le_pow_right (by decide) (by decide))
    obtain ⟨e1, q1⟩ := C19 n r is rs r a b g hr hra h.few h.len h1.pos 1000 (Nat.le_refl _) h1.a (up h1.b) h.sz
    obtain ⟨e2, q2⟩ := C19 n r is rs r c d (g ++ e1) (lk_pre hr _) (hra.pre (List.prefix_append _ _)) h.few h.len h2.pos 1000 (Nat.le_refl _) h2.a (up h2.b) h.sz
    simp only [b22, WR_ok, OW_some, BW_bl, WS_seq, WS_asgN, WS_asgT, WS_ret, WS_exp, WS_next, WS_no, WS_par, WS_sFor, WS_sif, WS_set, WR_lc, WR_var, WR_c, WR_bin, WR_un, WA_nil, WA_cons, WR_fun, WR_call, WR_and, WR_or, WR_not, WR_if, WR_chain, WR_isn, WR_isi, WR_iteT, WR_seqI, WR_enI, WR_app, WR_pop, lk, stw, stws, wipew, stn, List.map_cons, List.map_nil, List.length_cons, List.length_nil, List.cons_append, List.nil_append, List.replicate, Nat.reduceAdd, Nat.reduceSub, Nat.reduceLeDiff, Nat.reduceEqDiff, BEq.rfl, beq_self_eq_true, if_true, true_and, and_true, forall_const, Bool.false_eq_true, Bool.true_eq_false, reduceCtorEq, false_implies, true_implies, W.ref.injEq, W.int.injEq, W.tup.injEq, W.bl.injEq, List.cons.injEq, Option.some.injEq, exists_eq_left', exists_eq_left, exists_and_left, exists_eq', exists_const, q1, q2, fSub_int]
    exact ⟨_, by simp only [List.append_assoc]; rfl⟩
  obtain ⟨w, g', e, rfl, e', rfl⟩ := hh.out
  exact ⟨e', e⟩
theorem C27 (n : Nat) (xs : List Int) (a b c d : Int) (g : G) (ok : Okp xs) (h1 : Fra a b) (h2 : Fra c d) (g1 : Int.gcd a b = 1) (g2 : Int.gcd c d = 1) (hle : a * d ≤ c * b) :
    ∃ (rs : List (List Int)) (g' : G), tbl (n + 7) 27 [.tup (iw xs), .tup [.int a, .int b], .tup [.int c, .int d]] g = .ok (.int (Sm.V (rs.map eZ) (qv a b) - Sm.V (rs.map eZ) (qv c d))) g' ∧ g <+: g' ∧ Stu (eZ xs) (Sm.V (rs.map eZ)) := by
  have hh : WR (tbl (n + 7) 27 [.tup (iw xs), .tup [.int a, .int b], .tup [.int c, .int d]] g) (fun w g' => ∃ rs : List (List Int), w = .int (Sm.V (rs.map eZ) (qv a b) - Sm.V (rs.map eZ) (qv c d)) ∧ g <+: g' ∧ Stu (eZ xs) (Sm.V (rs.map eZ))) := by
    rw [tbl_27]
    refine WR_callS ?_
    have up : ∀ {b : Int}, b.natAbs < 2 ^ 62 → b.natAbs < 2 ^ 9000 := fun hb => Nat.lt_of_lt_of_le hb (Nat.pow_le_pow_right (by decide) (by decide))
    have hxl := ok.len
    obtain ⟨e1, q1⟩ := C25 (n + 3) xs g ok.tr ok.ne (by omega)
    obtain ⟨e2, q2⟩ := C26 (n + 3) a b (g ++ e1) h1.pos (up h1.b) g1
    obtain ⟨e3, q3⟩ := C26 (n + 3) c d (g ++ e1 ++ e2) h2.pos (up h2.b) g2
    have q4 := C13 (n + 5) a b c d (g ++ e1 ++ e2 ++ e3) h1.b h2.b
    rw [decide_eq_true hle] at q4
    obtain ⟨r, g5, rs, q5, hp, hR⟩ := C23 n xs (g ++ e1 ++ e2 ++ e3) ok
    obtain ⟨e6, q6⟩ := C22 (n + 3) r xs rs a b c d g5 hR h1 h2
    simp only [b27, WR_ok, OW_some, BW_bl, WS_seq, WS_asgN, WS_asgT, WS_ret, WS_exp, WS_next, WS_no, WS_par, WS_sFor, WS_sif, WS_set, WR_lc, WR_var, WR_c, WR_bin, WR_un, WA_nil, WA_cons, WR_fun, WR_call, WR_and, WR_or, WR_not, WR_if, WR_chain, WR_isn, WR_isi, WR_iteT, WR_seqI, WR_enI, WR_app, WR_pop, lk, stw, stws, wipew, stn, List.map_cons, List.map_nil, List.length_cons, List.length_nil, List.cons_append, List.nil_append, List.replicate, Nat.reduceAdd, Nat.reduceSub, Nat.reduceLeDiff, Nat.reduceEqDiff, BEq.rfl, beq_self_eq_true, if_true, true_and, and_true, forall_const, Bool.false_eq_true, Bool.true_eq_false, reduceCtorEq, false_implies, true_implies, W.ref.injEq, W.int.injEq, W.tup.injEq, W.bl.injEq, List.cons.injEq, Option.some.injEq, exists_eq_left', exists_eq_left, exists_and_left, exists_eq', exists_const, q1, q2, q3, q4, q5, q6, Bool.not_true]
    exact ⟨rs, rfl, (((pre_app (pre_app (pre_app (List.prefix_refl g) e1) e2) e3).trans hp)).trans (List.prefix_append _ _), hR.stu⟩
  obtain ⟨w, g', e, rs, rfl, h⟩ := hh.out
  exact ⟨rs, g', e, h⟩
end LK77

set_option Elab.async false
set_option linter.all false
set_option maxRecDepth 100000
set_option maxHeartbeats 4000000
namespace LK77
open PySem PySem.Spec PyProof.Rows L2 Ev Sm
theorem ints_iw (xs : List Int) : intsW (iw xs) = some xs := by
  induction xs with
  | nil => rfl
  | cons x xs ih =>
    show (intsW (iw xs)).map (fun l => x :: l) = _
    rw [ih]; rfl
theorem maxL_ge : ∀ (l : List Int) (m : Int), m ≤ maxL l m ∧ ∀ x ∈ l, x ≤ maxL l m
  | [], m => ⟨Int.le_refl _, fun _ h => by cases h⟩
  | y :: l, m => by
    obtain ⟨h1, h2⟩ := maxL_ge l (if m < y then y else m)
    have h3 : m ≤ (if m < y then y else m) := by split <;> omega
    have h4 : y ≤ (if m < y then y else m) := by split <;> omega
    exact ⟨Int.le_trans h3 h1, fun x hx => by
      rcases List.mem_cons.mp hx with rfl | hx
      · exact Int.le_trans h4 h1
      · exact h2 x hx⟩
theorem maxL_le (B : Int) : ∀ (l : List Int) (m : Int), m ≤ B → (∀ x ∈ l, x ≤ B) → maxL l m ≤ B
  | [], m, h, _ => h
  | y :: l, m, h, h2 => maxL_le B l _ (by have := h2 y (by simp); split <;> omega) (fun x hx => h2 x (by simp [hx]))
/-- Cauchy's bound -/
theorem far_off : ∀ (q : List Int) (hq : q ≠ []) (m : Int), 0 ≤ m → Tr q → (∀ a ∈ q, -m ≤ a ∧ a ≤ m) → ∀ x : Rat, (2 + m : Int) ≤ x → Far (eZ q x) 1
  | [a], _, m, hm, ht, hb, x, hx => by
    have ha : a ≠ 0 := ht a rfl
    rw [eZ_cons, eZ_nil]
    by_cases h : 0 < a
    · left
      have : (1 : Rat) ≤ (a : Rat) := Rat.intCast_le_intCast.mpr (show (1 : Int) ≤ a by omega)
      grind
    · right
      have : (a : Rat) ≤ ((-1 : Int) : Rat) := Rat.intCast_le_intCast.mpr (show a ≤ -1 by omega)
      simp at this
      grind
  | a :: b :: r, _, m, hm, ht, hb, x, hx => by
    have ih := far_off (b :: r) (by simp) m hm (fun c hc => ht c (by rw [List.getLast?_cons_cons]; exact hc)) (fun c hc => hb c (by simp [hc])) x hx
    obtain ⟨h1, h2⟩ := hb a (by simp)
    have h1' : ((-m : Int) : Rat) ≤ (a : Rat) := Rat.intCast_le_intCast.mpr h1
    have h2' : (a : Rat) ≤ (m : Rat) := Rat.intCast_le_intCast.mpr h2
    rw [Rat.intCast_neg] at h1'
    rw [Rat.intCast_add] at hx
    have hm' : (0 : Rat) ≤ (m : Rat) := Rat.intCast_le_intCast.mpr hm
    have h22 : ((2 : Int) : Rat) = 2 := rfl
    rw [h22] at hx
    have hx0 : (0 : Rat) ≤ x := by grind
    rw [eZ_cons]
    rcases ih with ih | ih
    · left
      have := Rat.mul_le_mul_of_nonneg_left ih hx0
      grind
    · right
      have := Rat.mul_le_mul_of_nonneg_left ih hx0
      grind
/-- what cell_in answers -/
structure CellR (xs : List Int) (W : Rat → Int) (grain : Int) (w : Ev.W) : Prop where
  stu : Stu (eZ xs) W
  far : ∃ far : Int, 0 < far ∧ (∀ x : Rat, (far : Rat) ≤ x → eZ xs x ≠ 0) ∧ ((w = .non ∧ W (qv 0 1) - W (qv far 1) = 0) ∨
    ∃ low : Int, w = .int low ∧ 0 ≤ low ∧ W (qv 0 1) - W (qv far 1) ≠ 0 ∧ W (qv 0 1) - W (qv low grain) = 0 ∧ W (qv 0 1) - W (qv (low + 1) grain) ≠ 0)
theorem qv_far (far grain : Int) (hg : 0 < grain) : qv (far * grain) grain = qv far 1 := by
  unfold qv
  have h : ((grain : Int) : Rat) ≠ 0 := fun h => by have := Rat.intCast_eq_zero_iff.mp h; omega
  rw [Rat.intCast_mul]
  have h1 : ((1 : Int) : Rat) = 1 := rfl
  rw [h1]
  grind
theorem C24 (n : Nat) (xs : List Int) (grain : Int) (g : G) (ok : Okp xs) (hg1 : 1 ≤ grain) (hg2 : grain ≤ 64) :
    ∃ (w : Ev.W) (W : Rat → Int) (g' : G), tbl (n + 7) 24 [.tup (iw xs), .int grain] g = .ok w g' ∧ g <+: g' ∧ CellR xs W grain w := by
  have hh : WR (tbl (n + 7) 24 [.tup (iw xs), .int grain] g) (fun w g' => g <+: g' ∧ ∃ W, CellR xs W grain w) := by
    rw [tbl_24]
    refine WR_callS ?_
    obtain ⟨r, g1, rs, h23, hp1, hR⟩ := C23 n xs g ok
    obtain ⟨is, hr, hra⟩ := hR.is
    obtain ⟨q, t, hrs, hqt, hqn, hqs, hqz⟩ := hR.head
    obtain ⟨i0, hi0, _, hq0⟩ := hra.get 0 (by rw [hrs]; rfl)
    have hat : atI (rf is) 0 = some (.ref i0) := by
      have hp := (List.getElem?_eq_some_iff.mp hi0).1
      have : ixN is.length 0 = some 0 := ixN_nat (i := 0) hp
      rw [rf_at]
      simp only [atI, this, Option.bind_some, hi0, Option.map_some]
    have hql : q.length ≤ 17 := hR.len q (by rw [hrs]; simp)
    have hc := lc_lst (o := tbl (n + 6)) (s := [some (.tup (iw xs)), some (.int grain), some (.ref r), none, none, none, none, none]) (t := tName 7) (vs := [7]) (test := eC (.bl true)) (elt := eFun fAbs (aCons (eVar 7) aNil)) hq0 (intF fun x => (x.natAbs : Int)) (by rw [iw_len]; omega) (fun w hw h => by
      obtain ⟨x, hx, rfl⟩ := mem_iw hw
      refine ⟨_, rfl, .inr ⟨_, rfl, rfl, ?_⟩⟩
      show fAbs [.int x] h = _
      simp only [fAbs, absI])
    rw [fm_map] at hc
    have hab := lk_new g1 (iw (q.map fun x => (x.natAbs : Int))) []
    obtain ⟨a0, l0, hmax⟩ : ∃ a0 l0, q.map (fun x => (x.natAbs : Int)) = a0 :: l0 := by
      cases q with
      | nil => exact absurd rfl hqn
      | cons a l => exact ⟨_, _, rfl⟩
    have hfmax : fMax [.ref g1.length] (g1 ++ [iw (q.map fun x => (x.natAbs : Int))]) = .ok (.int (maxL l0 a0)) (g1 ++ [iw (q.map fun x => (x.natAbs : Int))]) := by
      simp only [fMax, hab, ints_iw]
      rw [hmax]
    obtain ⟨hm0, hm1⟩ := maxL_ge l0 a0
    have hmem : ∀ x ∈ q, (x.natAbs : Int) ≤ maxL l0 a0 := fun x hx => by
      have : (x.natAbs : Int) ∈ a0 :: l0 := by rw [← hmax]; exact List.mem_map.mpr ⟨x, hx, rfl⟩
      rcases List.mem_cons.mp this with h | h
      · omega
      · exact hm1 _ h
    have ha00 : 0 ≤ a0 := by
      have : a0 ∈ q.map (fun x => (x.natAbs : Int)) := by rw [hmax]; simp
      obtain ⟨x, _, rfl⟩ := List.mem_map.mp this
      omega
    have hub : maxL l0 a0 ≤ (N1 q : Int) := by
      have hz : ∀ y ∈ a0 :: l0, y ≤ (N1 q : Int) := fun y hy => by
        rw [← hmax] at hy
        obtain ⟨x, hx, rfl⟩ := List.mem_map.mp hy
        have := N1_mem hx
        omega
      exact maxL_le _ _ _ (hz a0 (by simp)) (fun x hx => hz x (by simp [hx]))
    generalize hfm : maxL l0 a0 = m at hfmax hm0 hm1 hmem hub
    have hfarb : (2 + m).natAbs < 2 ^ 902 := by
      have e : (2 : Nat) ^ 902 = 2 ^ 900 * 4 := by rw [← Nat.pow_add 2 900 2]
      rw [e]
      have : 1 ≤ (2 : Nat) ^ 900 := Nat.pow_pos (by decide)
      generalize (2 : Nat) ^ 900 = z at *
      omega
    have hgb : grain.natAbs < 2 ^ 62 := Nat.lt_of_le_of_lt (show grain.natAbs ≤ 64 by omega) (by decide)
    have hF01 : Fra 0 1 := ⟨by decide, Nat.pow_pos (by decide), by decide⟩
    have hFf : Fra (2 + m) 1 := ⟨by decide, Nat.lt_of_lt_of_le hfarb (Nat.pow_le_pow_right (by decide) (by decide)), by decide⟩
    have hR1 := hR.pre (List.prefix_append g1 [iw (q.map fun x => (x.natAbs : Int))])
    obtain ⟨e1, q1⟩ := C22 (n + 3) r xs rs 0 1 (2 + m) 1 _ hR1 hF01 hFf
    have hft : ∀ (a b : Ev.W) (h : G), fTup [a, b] h = .ok (.tup [a, b]) h := fun _ _ _ => rfl
    have hroot : ∀ x : Rat, ((2 + m : Int) : Rat) ≤ x → eZ xs x ≠ 0 := fun x hx h0 => by
      have h1 := far_off q hqn m (by omega) hqt (fun a ha => by have := hmem a ha; omega) x hx
      rw [hqz x h0] at h1
      rcases h1 with h1 | h1 <;> grind
    simp only [b24, WR_ok, OW_some, BW_bl, WS_seq, WS_asgN, WS_asgT, WS_ret, WS_exp, WS_next, WS_no, WS_par, WS_sFor, WS_sif, WS_set, WR_lc, WR_var, WR_c, WR_bin, WR_un, WA_nil, WA_cons, WR_fun, WR_call, WR_and, WR_or, WR_not, WR_if, WR_chain, WR_isn, WR_isi, WR_iteT, WR_seqI, WR_enI, WR_app, WR_pop, lk, stw, stws, wipew, stn, List.map_cons, List.map_nil, List.length_cons, List.length_nil, List.cons_append, List.nil_append, List.replicate, Nat.reduceAdd, Nat.reduceSub, Nat.reduceLeDiff, Nat.reduceEqDiff, BEq.rfl, beq_self_eq_true, if_true, true_and, and_true, forall_const, Bool.false_eq_true, Bool.true_eq_false, reduceCtorEq, false_implies, true_implies, W.ref.injEq, W.int.injEq, W.tup.injEq, W.bl.injEq, List.cons.injEq, Option.some.injEq, exists_eq_left', exists_eq_left, exists_and_left, exists_eq', exists_const, h23, fIx_ref hr hat, hc, hfmax, fAdd_int, hft, q1, fEq_int]
    have hgrp : 0 < grain := by omega
    refine ⟨fun h => ⟨(hp1.trans (List.prefix_append _ _)).trans (List.prefix_append _ _), _, hR.stu, 2 + m, by omega, hroot, .inl ⟨rfl, by simpa using h⟩⟩, fun h => ?_⟩
    have hne : Sm.V (rs.map eZ) (qv 0 1) - Sm.V (rs.map eZ) (qv (2 + m) 1) ≠ 0 := by simpa using h
    rw [fMul_int (mokR hgb)]
    simp only [WR_ok, OW_some, BW_bl, WS_seq, WS_asgN, WS_asgT, WS_ret, WS_exp, WS_next, WS_no, WS_par, WS_sFor, WS_sif, WS_set, WR_lc, WR_var, WR_c, WR_bin, WR_un, WA_nil, WA_cons, WR_fun, WR_call, WR_and, WR_or, WR_not, WR_if, WR_chain, WR_isn, WR_isi, WR_iteT, WR_seqI, WR_enI, WR_app, WR_pop, lk, stw, stws, wipew, stn, List.map_cons, List.map_nil, List.length_cons, List.length_nil, List.cons_append, List.nil_append, List.replicate, Nat.reduceAdd, Nat.reduceSub, Nat.reduceLeDiff, Nat.reduceEqDiff, BEq.rfl, beq_self_eq_true, if_true, true_and, and_true, forall_const, Bool.false_eq_true, Bool.true_eq_false, reduceCtorEq, false_implies, true_implies, W.ref.injEq, W.int.injEq, W.tup.injEq, W.bl.injEq, List.cons.injEq, Option.some.injEq, exists_eq_left', exists_eq_left, exists_and_left, exists_eq', exists_const]
    have hbig : (2 + m) * grain < 2 ^ 910 := by
      have h1 : 2 + m < 2 ^ 902 := by
        have : ((2 + m).natAbs : Int) < ((2 ^ 902 : Nat) : Int) := Int.ofNat_lt.mpr hfarb
        rw [Int.natCast_pow] at this
        have e : ((2 : Nat) : Int) = 2 := rfl
        rw [e] at this
        generalize (2 : Int) ^ 902 = z at *
        omega
      have h2 : (2 + m) * grain ≤ (2 + m) * 64 := Int.mul_le_mul_of_nonneg_left hg2 (by omega)
      have e : (2 : Int) ^ 910 = 2 ^ 902 * 256 := by decide +kernel
      rw [e]
      generalize (2 : Int) ^ 902 = z at *
      omega
    refine WS_sWhile (fun k s g' => g1 <+: g' ∧ ∃ (lo hi : Int) (y : Option Ev.W), s = [some (.tup (iw xs)), some (.int grain), some (.ref r), some (.int (2 + m)), some (.int lo), some (.int hi), y, none] ∧ 0 ≤ lo ∧ lo < hi ∧ hi < 2 ^ 910 ∧ k = (hi - lo).toNat ∧
      Sm.V (rs.map eZ) (qv 0 1) - Sm.V (rs.map eZ) (qv lo grain) = 0 ∧ Sm.V (rs.map eZ) (qv 0 1) - Sm.V (rs.map eZ) (qv hi grain) ≠ 0) ((2 + m) * grain).toNat ?_ ?_ ?_
    · have h1 := fuel_mem [some (.tup (iw xs)), some (.int grain), some (.ref r), some (.int (2 + m)), some (.int 0), some (.int ((2 + m) * grain)), none, none] ((2 + m) * grain) (by simp)
      generalize fuelS _ = z at *
      omega
    · refine ⟨(List.prefix_append _ _).trans (List.prefix_append _ _), 0, (2 + m) * grain, _, rfl, Int.le_refl _, Int.mul_pos (by omega) hgrp, hbig, by simp, ?_, ?_⟩
      · have : qv 0 grain = qv 0 1 := by unfold qv; simp; grind
        rw [this]; omega
      · rw [qv_far _ _ hgrp]; exact hne
    · rintro k s g' ⟨hp, lo, hi, y, hs, h0, hlt, hhi, hk, hlo, hhi2⟩
      subst hs hk
      simp only [WR_ok, OW_some, BW_bl, WS_seq, WS_asgN, WS_asgT, WS_ret, WS_exp, WS_next, WS_no, WS_par, WS_sFor, WS_sif, WS_set, WR_lc, WR_var, WR_c, WR_bin, WR_un, WA_nil, WA_cons, WR_fun, WR_call, WR_and, WR_or, WR_not, WR_if, WR_chain, WR_isn, WR_isi, WR_iteT, WR_seqI, WR_enI, WR_app, WR_pop, lk, stw, stws, wipew, stn, List.map_cons, List.map_nil, List.length_cons, List.length_nil, List.cons_append, List.nil_append, List.replicate, Nat.reduceAdd, Nat.reduceSub, Nat.reduceLeDiff, Nat.reduceEqDiff, BEq.rfl, beq_self_eq_true, if_true, true_and, and_true, forall_const, Bool.false_eq_true, Bool.true_eq_false, reduceCtorEq, false_implies, true_implies, W.ref.injEq, W.int.injEq, W.tup.injEq, W.bl.injEq, List.cons.injEq, Option.some.injEq, exists_eq_left', exists_eq_left, exists_and_left, exists_eq', exists_const, fSub_int, fGt_int]
      refine ⟨fun h => ?_, fun h => ?_⟩
      · have h1 : hi = lo + 1 := by have := of_decide_eq_false h; omega
        subst h1
        exact ⟨hp1.trans hp, _, hR.stu, 2 + m, by omega, hroot, .inr ⟨lo, rfl, h0, hne, hlo, hhi2⟩⟩
      · have h1 : 1 < hi - lo := of_decide_eq_true h
        have hdv : ∀ h, fDiv (.int (lo + hi)) (.int 2) h = .ok (.int ((lo + hi) / 2)) h := fun h => by
          simp only [fDiv, nopy (i := lo + hi) (j := 2) (by decide) (e := 2) (by decide) (by decide), if_true, Int.fdiv_eq_ediv_of_nonneg _ (show (0 : Int) ≤ 2 by decide)]
        have hmid : Fra ((lo + hi) / 2) grain := ⟨hgrp, by
          have : ((lo + hi) / 2).natAbs < 2 ^ 910 := by
            have h2 : (((lo + hi) / 2).natAbs : Int) < ((2 ^ 910 : Nat) : Int) := by
              rw [Int.natCast_pow]
              have e : ((2 : Nat) : Int) = 2 := rfl
              rw [e]
              generalize (2 : Int) ^ 910 = z at *
              omega
            exact Int.ofNat_lt.mp h2
          exact Nat.lt_of_lt_of_le this (Nat.pow_le_pow_right (by decide) (by decide)), hgb⟩
        obtain ⟨e2, q2⟩ := C22 (n + 3) r xs rs 0 1 ((lo + hi) / 2) grain g' (hR.pre hp) hF01 hmid
        simp only [WR_ok, OW_some, BW_bl, WS_seq, WS_asgN, WS_asgT, WS_ret, WS_exp, WS_next, WS_no, WS_par, WS_sFor, WS_sif, WS_set, WR_lc, WR_var, WR_c, WR_bin, WR_un, WA_nil, WA_cons, WR_fun, WR_call, WR_and, WR_or, WR_not, WR_if, WR_chain, WR_isn, WR_isi, WR_iteT, WR_seqI, WR_enI, WR_app, WR_pop, lk, stw, stws, wipew, stn, List.map_cons, List.map_nil, List.length_cons, List.length_nil, List.cons_append, List.nil_append, List.replicate, Nat.reduceAdd, Nat.reduceSub, Nat.reduceLeDiff, Nat.reduceEqDiff, BEq.rfl, beq_self_eq_true, if_true, true_and, and_true, forall_const, Bool.false_eq_true, Bool.true_eq_false, reduceCtorEq, false_implies, true_implies, W.ref.injEq, W.int.injEq, W.tup.injEq, W.bl.injEq, List.cons.injEq, Option.some.injEq, exists_eq_left', exists_eq_left, exists_and_left, exists_eq', exists_const, fAdd_int, hdv, hft, q2, fEq_int]
        refine ⟨fun h => ?_, fun h => ?_⟩
        · have h2 : Sm.V (rs.map eZ) (qv 0 1) - Sm.V (rs.map eZ) (qv ((lo + hi) / 2) grain) = 0 := by simpa using h
          exact ⟨(hi - (lo + hi) / 2).toNat, by omega, pre_app hp _, (lo + hi) / 2, hi, _, ⟨rfl, rfl, rfl⟩, by omega, by omega, hhi, rfl, h2, hhi2⟩
        · have h2 : Sm.V (rs.map eZ) (qv 0 1) - Sm.V (rs.map eZ) (qv ((lo + hi) / 2) grain) ≠ 0 := by simpa using h
          exact ⟨((lo + hi) / 2 - lo).toNat, by omega, pre_app hp _, lo, (lo + hi) / 2, _, ⟨rfl, rfl, rfl⟩, h0, by omega, by omega, rfl, hlo, h2⟩
  obtain ⟨w, g', e, h1, W, h⟩ := hh.out
  exact ⟨w, W, g', e, h1, h⟩
end LK77

set_option Elab.async false
set_option linter.all false
set_option maxRecDepth 100000
set_option maxHeartbeats 4000000
namespace LK77
open PySem PySem.Spec PyProof.Rows L2 Ev Sm
theorem C28 (n : Nat) (xs : List Int) (grain : Int) (g : G) (ok : Okp xs) (hg1 : 1 ≤ grain) (hg2 : grain ≤ 64) :
    ∃ (w : Ev.W) (W : Rat → Int) (g' : G), tbl (n + 8) 28 [.tup (iw xs), .int grain] g = .ok w g' ∧ g <+: g' ∧ CellR xs W grain w := by
  have hh : WR (tbl (n + 8) 28 [.tup (iw xs), .int grain] g) (fun w g' => g <+: g' ∧ ∃ W, CellR xs W grain w) := by
    rw [tbl_28]
    refine WR_callS ?_
    have hxl := ok.len
    obtain ⟨e1, q1⟩ := C25 (n + 4) xs g ok.tr ok.ne (by omega)
    have q2 := C6 (n + 4) grain 1 64 (g ++ e1) hg1 hg2
    obtain ⟨w, Wf, g', q3, hp, hc⟩ := C24 n xs grain (g ++ e1) ok hg1 hg2
    simp only [b28, WR_ok, OW_some, BW_bl, WS_seq, WS_asgN, WS_asgT, WS_ret, WS_exp, WS_next, WS_no, WS_par, WS_sFor, WS_sif, WS_set, WR_lc, WR_var, WR_c, WR_bin, WR_un, WA_nil, WA_cons, WR_fun, WR_call, WR_and, WR_or, WR_not, WR_if, WR_chain, WR_isn, WR_isi, WR_iteT, WR_seqI, WR_enI, WR_app, WR_pop, lk, stw, stws, wipew, stn, List.map_cons, List.map_nil, List.length_cons, List.length_nil, List.cons_append, List.nil_append, List.replicate, Nat.reduceAdd, Nat.reduceSub, Nat.reduceLeDiff, Nat.reduceEqDiff, BEq.rfl, beq_self_eq_true, if_true, true_and, and_true, forall_const, Bool.false_eq_true, Bool.true_eq_false, reduceCtorEq, false_implies, true_implies, W.ref.injEq, W.int.injEq, W.tup.injEq, W.bl.injEq, List.cons.injEq, Option.some.injEq, exists_eq_left', exists_eq_left, exists_and_left, exists_eq', exists_const, q1, q2, q3]
    exact ⟨(List.prefix_append _ _).trans hp, Wf, hc⟩
  obtain ⟨w, g', e, h1, W, h⟩ := hh.out
  exact ⟨w, W, g', e, h1, h⟩
end LK77

set_option Elab.async false
set_option linter.all false
set_option maxRecDepth 100000
set_option maxHeartbeats 4000000
namespace LK77
open PySem PySem.Spec PyProof.Rows L2 Ev Sm
theorem powA (x : Rat) (i : Nat) : ∀ j : Nat, x ^ (i + j) = x ^ i * x ^ j
  | 0 => by rw [Rat.pow_zero]; grind
  | j + 1 => by rw [← Nat.add_assoc, Rat.pow_succ, Rat.pow_succ, powA x i j]; grind
theorem C10 (n : Nat) (xs ys : List Int) (g : G) (hx : xs ≠ []) (hy : ys ≠ []) (hxl : xs.length ≤ 100) (hyl : ys.length ≤ 100) (hsx : N1 xs < 2 ^ 60) (hsy : N1 ys < 2 ^ 60) :
    ∃ zs e, tbl (n + 2) 10 [.tup (iw xs), .tup (iw ys)] g = .ok (.tup (iw zs)) (g ++ e) ∧ Tr zs ∧ (∀ x, eZ zs x = eZ xs x * eZ ys x) ∧ N1 zs ≤ N1 xs * N1 ys ∧ zs.length + 1 ≤ xs.length + ys.length := by
  have hh : WR (tbl (n + 2) 10 [.tup (iw xs), .tup (iw ys)] g) (fun w g' => ∃ zs, w = .tup (iw zs) ∧ (∃ e, g' = g ++ e) ∧ Tr zs ∧ (∀ x, eZ zs x = eZ xs x * eZ ys x) ∧ N1 zs ≤ N1 xs * N1 ys ∧ zs.length + 1 ≤ xs.length + ys.length) := by
    rw [tbl_10]
    refine WR_callS ?_
    have hpx := List.length_pos_iff.mpr hx
    have hpy := List.length_pos_iff.mpr hy
    have hlt : ∀ (xs : List Int) h, fLen [.tup (iw xs)] h = .ok (.int xs.length) h := fun xs h => by simp only [fLen, itemsOf, iw_len]
    have hl0 : ∀ h, fLst [.int 0] h = .ok (.ref h.length) (h ++ [[.int 0]]) := fun _ => rfl
    have hmx : ∀ h, fMax [.int 0, .int ((xs.length : Int) + (ys.length : Int) - 1)] h = .ok (.int ((xs.length + ys.length - 1 : Nat) : Int)) h := fun h => by
      simp only [fMax]
      congr 2
      split <;> omega
    have hrep : fMul (.ref g.length) (.int ((xs.length + ys.length - 1 : Nat) : Int)) (g ++ [[W.int 0]]) = .ok (.ref (g ++ [[W.int 0]]).length) (g ++ [[W.int 0]] ++ [iw (List.replicate (xs.length + ys.length - 1) 0)]) := by
      have h1 := lk_new g [.int 0] []
      have h2 : (decide (-1000000 ≤ ((xs.length + ys.length - 1 : Nat) : Int)) && decide (((xs.length + ys.length - 1 : Nat) : Int) ≤ 1000000)) = true := by
        simp only [Bool.and_eq_true, decide_eq_true_eq]; omega
      simp only [fMul, h1, h2, if_true]
      simp [iw]
    simp only [b10, WR_ok, OW_some, BW_bl, WS_seq, WS_asgN, WS_asgT, WS_ret, WS_exp, WS_next, WS_no, WS_par, WS_sFor, WS_sif, WS_set, WR_lc, WR_var, WR_c, WR_bin, WR_un, WA_nil, WA_cons, WR_fun, WR_call, WR_and, WR_or, WR_not, WR_if, WR_chain, WR_isn, WR_isi, WR_iteT, WR_seqI, WR_enI, WR_app, WR_pop, lk, stw, stws, wipew, stn, List.map_cons, List.map_nil, List.length_cons, List.length_nil, List.cons_append, List.nil_append, List.replicate, Nat.reduceAdd, Nat.reduceSub, Nat.reduceLeDiff, Nat.reduceEqDiff, BEq.rfl, beq_self_eq_true, if_true, true_and, and_true, forall_const, Bool.false_eq_true, Bool.true_eq_false, reduceCtorEq, false_implies, true_implies, W.ref.injEq, W.int.injEq, W.tup.injEq, W.bl.injEq, List.cons.injEq, Option.some.injEq, exists_eq_left', exists_eq_left, exists_and_left, exists_eq', exists_const, hlt, hl0, fAdd_int, fSub_int, hmx, hrep, cntI, iw_len]
    have h0 : ∀ i : Nat, (g ++ [[W.int 0]]).length = (g ++ [[W.int 0]]).length := fun _ => rfl
    generalize hG : g ++ [[W.int 0]] = G0
    refine WS_for xs.length (fun i s g' => ∃ F y3 y4 y5 y6, g' = G0 ++ [iw F] ∧ s = [some (.tup (iw xs)), some (.tup (iw ys)), some (.ref G0.length), y3, y4, y5, y6] ∧ F.length = xs.length + ys.length - 1 ∧ (∀ x, eZ F x = eZ (xs.take i) x * eZ ys x) ∧ N1 F ≤ N1 (xs.take i) * N1 ys)
      (fun i s g' hi ⟨F, y3, y4, y5, y6, hg', hs, hFl, hFe, hFn⟩ => ?_) (fun s g' ⟨F, y3, y4, y5, y6, hg', hs, hFl, hFe, hFn⟩ => ?_) xs.length 0 _ _ (by omega) ⟨_, _, _, _, _, rfl, rfl, by simp, fun x => by rw [eZ_rep, List.take_zero, eZ_nil]; grind, by
        have : ∀ m, N1 (List.replicate m 0) = 0 := fun m => by
          induction m with
          | zero => rfl
          | succ m ih => rw [List.replicate_succ, N1, ih]; rfl
        rw [this]; exact Nat.zero_le _⟩
    · subst hg' hs
      have hxi : xs[i]? = some xs[i] := List.getElem?_eq_getElem hi
      have hxm := N1_mem (List.getElem_mem hi)
      have htk := take_N1 hxi
      have hte := take_eZ hxi
      generalize xs[i] = a at hxi hxm htk hte
      refine ⟨.tup [.int (i : Nat), .int a], _, by simp only [itemI, at_get, hxi, Option.map_some], rfl, ?_⟩
      simp only [WR_ok, OW_some, BW_bl, WS_seq, WS_asgN, WS_asgT, WS_ret, WS_exp, WS_next, WS_no, WS_par, WS_sFor, WS_sif, WS_set, WR_lc, WR_var, WR_c, WR_bin, WR_un, WA_nil, WA_cons, WR_fun, WR_call, WR_and, WR_or, WR_not, WR_if, WR_chain, WR_isn, WR_isi, WR_iteT, WR_seqI, WR_enI, WR_app, WR_pop, lk, stw, stws, wipew, stn, List.map_cons, List.map_nil, List.length_cons, List.length_nil, List.cons_append, List.nil_append, List.replicate, Nat.reduceAdd, Nat.reduceSub, Nat.reduceLeDiff, Nat.reduceEqDiff, BEq.rfl, beq_self_eq_true, if_true, true_and, and_true, forall_const, Bool.false_eq_true, Bool.true_eq_false, reduceCtorEq, false_implies, true_implies, W.ref.injEq, W.int.injEq, W.tup.injEq, W.bl.injEq, List.cons.injEq, Option.some.injEq, exists_eq_left', exists_eq_left, exists_and_left, exists_eq', exists_const, cntI, iw_len]
      refine WS_for ys.length (fun j s g' => ∃ F y5 y6, g' = G0 ++ [iw F] ∧ s = [some (.tup (iw xs)), some (.tup (iw ys)), some (.ref G0.length), some (.int (i : Nat)), some (.int a), y5, y6] ∧ F.length = xs.length + ys.length - 1 ∧ (∀ x, eZ F x = eZ (xs.take i) x * eZ ys x + (a : Rat) * x ^ i * eZ (ys.take j) x) ∧ N1 F ≤ N1 (xs.take i) * N1 ys + a.natAbs * N1 (ys.take j))
        (fun j s g' hj ⟨F, y5, y6, hg', hs, hFl, hFe, hFn⟩ => ?_) (fun s g' ⟨F, y5, y6, hg', hs, hFl, hFe, hFn⟩ => ?_) ys.length 0 _ _ (by omega) ⟨F, _, _, rfl, rfl, hFl, fun x => by rw [hFe, List.take_zero, eZ_nil]; grind, by simp only [List.take_zero, N1]; omega⟩
      · subst hg' hs
        have hyj : ys[j]? = some ys[j] := List.getElem?_eq_getElem hj
        have hym := N1_mem (List.getElem_mem hj)
        have htk2 := take_N1 hyj
        have hte2 := take_eZ hyj
        generalize ys[j] = b at hyj hym htk2 hte2
        have hij : i + j < F.length := by omega
        have hFv : F[i + j]? = some F[i + j] := List.getElem?_eq_getElem hij
        generalize F[i + j] = v at hFv
        have hnew := lk_new G0 (iw F) []
        have hc : (i : Int) + (j : Int) = ((i + j : Nat) : Int) := by omega
        refine ⟨.tup [.int (j : Nat), .int b], _, by simp only [itemI, at_get, hyj, Option.map_some], rfl, ?_⟩
        simp only [WR_ok, OW_some, BW_bl, WS_seq, WS_asgN, WS_asgT, WS_ret, WS_exp, WS_next, WS_no, WS_par, WS_sFor, WS_sif, WS_set, WR_lc, WR_var, WR_c, WR_bin, WR_un, WA_nil, WA_cons, WR_fun, WR_call, WR_and, WR_or, WR_not, WR_if, WR_chain, WR_isn, WR_isi, WR_iteT, WR_seqI, WR_enI, WR_app, WR_pop, lk, stw, stws, wipew, stn, List.map_cons, List.map_nil, List.length_cons, List.length_nil, List.cons_append, List.nil_append, List.replicate, Nat.reduceAdd, Nat.reduceSub, Nat.reduceLeDiff, Nat.reduceEqDiff, BEq.rfl, beq_self_eq_true, if_true, true_and, and_true, forall_const, Bool.false_eq_true, Bool.true_eq_false, reduceCtorEq, false_implies, true_implies, W.ref.injEq, W.int.injEq, W.tup.injEq, W.bl.injEq, List.cons.injEq, Option.some.injEq, exists_eq_left', exists_eq_left, exists_and_left, exists_eq', exists_const, fAdd_int, hc, fIx_ref hnew (atI_nat F hFv), fMul_int (mok (a := 60) (b := 60) (i := a) (j := b) (by omega) (by omega) (by decide)), hnew, iw_len, ixN_nat hij]
        refine ⟨F.set (i + j) (v + a * b), by rw [set_new, iw_set], _, _, ⟨rfl, rfl⟩, by rw [List.length_set]; exact hFl, fun x => ?_, ?_⟩
        · rw [eZ_set F _ v _ x hFv, hFe, hte2, Rat.intCast_mul]
          rw [powA]; grind
        · have h1 := N1_set F _ v (a * b) hFv
          rw [Int.natAbs_mul] at h1
          rw [htk2, Nat.mul_add]
          omega
      · subst hg' hs
        refine ⟨by simp only [stopI, iw_len]; exact ble_refl _, F, rfl, _, _, _, _, rfl, hFl, fun x => ?_, ?_⟩
        · rw [hFe, List.take_length, hte]; grind
        · rw [List.take_length] at hFn
          rw [htk, Nat.add_mul]
          exact hFn
    · subst hg' hs
      refine ⟨by simp only [stopI, iw_len]; exact ble_refl _, ?_⟩
      obtain ⟨zs, m, e, hz, hzt, q9⟩ := C9 n G0.length F (G0 ++ [iw F]) (lk_new _ _ []) (by omega)
      simp only [WR_ok, OW_some, BW_bl, WS_seq, WS_asgN, WS_asgT, WS_ret, WS_exp, WS_next, WS_no, WS_par, WS_sFor, WS_sif, WS_set, WR_lc, WR_var, WR_c, WR_bin, WR_un, WA_nil, WA_cons, WR_fun, WR_call, WR_and, WR_or, WR_not, WR_if, WR_chain, WR_isn, WR_isi, WR_iteT, WR_seqI, WR_enI, WR_app, WR_pop, lk, stw, stws, wipew, stn, List.map_cons, List.map_nil, List.length_cons, List.length_nil, List.cons_append, List.nil_append, List.replicate, Nat.reduceAdd, Nat.reduceSub, Nat.reduceLeDiff, Nat.reduceEqDiff, BEq.rfl, beq_self_eq_true, if_true, true_and, and_true, forall_const, Bool.false_eq_true, Bool.true_eq_false, reduceCtorEq, false_implies, true_implies, W.ref.injEq, W.int.injEq, W.tup.injEq, W.bl.injEq, List.cons.injEq, Option.some.injEq, exists_eq_left', exists_eq_left, exists_and_left, exists_eq', exists_const, q9]
      rw [List.take_length] at hFe hFn
      refine ⟨zs, rfl, ⟨_, by rw [← hG]; simp only [List.append_assoc]; rfl⟩, hzt, fun x => by rw [eZ_cut hz, hFe], ?_, ?_⟩
      · rw [hz, N1_app] at hFn
        omega
      · have := congrArg List.length hz
        simp at this
        omega
  obtain ⟨w, g', e, zs, rfl, ⟨e', rfl⟩, h⟩ := hh.out
  exact ⟨zs, e', e, h⟩
theorem prod_len {xs ys zs : List Int} (hx : Tr xs) (hx0 : xs ≠ []) (hy : Tr ys) (hy0 : ys ≠ []) (hz : Tr zs) (h : ∀ x, eZ zs x = eZ xs x * eZ ys x) : zs ≠ [] ∧ zs.length + 1 = xs.length + ys.length := by
  obtain ⟨as, a, ha, e1⟩ := hx.split hx0
  obtain ⟨bs, b, hb, e2⟩ := hy.split hy0
  obtain ⟨d, h4, h5⟩ := mul_last bs b as a
  have hab : a * b ≠ 0 := fun h => by
    rcases Rat.mul_eq_zero.mp h with h | h
    · exact ha h
    · exact hb h
  have hev : ∀ x, eZ zs x = ev (d ++ [a * b]) x := fun x => by
    rw [h, ← h5, Sm.ev_mul, ← e1, ← e2]; rfl
  have hz0 : zs ≠ [] := fun hz0 => by
    subst hz0
    have : Z (d ++ [a * b]) := Z_of _ 0 fun x _ => by rw [← hev]; rfl
    exact hab (this (a * b) (by simp))
  obtain ⟨cs, c, hc, e3⟩ := hz.split hz0
  have hl := same_len (a := cs) (b := d) hc hab fun x => by rw [← e3]; exact hev x
  have l1 : (qz xs).length = xs.length := by simp [qz]
  have l2 : (qz ys).length = ys.length := by simp [qz]
  have l3 : (qz zs).length = zs.length := by simp [qz]
  rw [e1] at l1
  rw [e2] at l2
  rw [e3] at l3
  simp at l1 l2 l3
  exact ⟨hz0, by omega⟩
theorem C12 (n : Nat) (xs ys : List Int) (g : G) (htx : Tr xs) (hty : Tr ys) (hx : xs ≠ []) (hy : ys ≠ []) (hxl : xs.length ≤ 100) (hyl : ys.length ≤ 100) (hsx : N1 xs < 2 ^ 60) (hsy : N1 ys < 2 ^ 60) :
    ∃ zs e, tbl (n + 4) 12 [.tup (iw xs), .tup (iw ys)] g = .ok (.tup (iw zs)) (g ++ e) ∧ Tr zs ∧ zs ≠ [] ∧ (∀ x, eZ zs x = eZ xs x * eZ ys x) ∧ N1 zs ≤ N1 xs * N1 ys ∧ zs.length + 1 = xs.length + ys.length := by
  have hh : WR (tbl (n + 4) 12 [.tup (iw xs), .tup (iw ys)] g) (fun w g' => ∃ zs, w = .tup (iw zs) ∧ (∃ e, g' = g ++ e) ∧ Tr zs ∧ zs ≠ [] ∧ (∀ x, eZ zs x = eZ xs x * eZ ys x) ∧ N1 zs ≤ N1 xs * N1 ys ∧ zs.length + 1 = xs.length + ys.length) := by
    have hlt : ∀ (xs : List Int) h, fLen [.tup (iw xs)] h = .ok (.int xs.length) h := fun xs h => by simp only [fLen, itemsOf, iw_len]
    obtain ⟨e1, q1⟩ := C8 n xs g htx (by omega)
    obtain ⟨e2, q2⟩ := C8 n ys (g ++ e1) hty (by omega)
    have h11 : ∃ e, tbl (n + 3) 11 [.tup (iw xs), .tup (iw ys)] g = .ok .non (g ++ e) := by
      have hh : WR (tbl (n + 3) 11 [.tup (iw xs), .tup (iw ys)] g) (fun w g' => w = .non ∧ ∃ e, g' = g ++ e) := by
        rw [tbl_11]
        refine WR_callS ?_
        simp only [b11, WR_ok, OW_some, BW_bl, WS_seq, WS_asgN, WS_asgT, WS_ret, WS_exp, WS_next, WS_no, WS_par, WS_sFor, WS_sif, WS_set, WR_lc, WR_var, WR_c, WR_bin, WR_un, WA_nil, WA_cons, WR_fun, WR_call, WR_and, WR_or, WR_not, WR_if, WR_chain, WR_isn, WR_isi, WR_iteT, WR_seqI, WR_enI, WR_app, WR_pop, lk, stw, stws, wipew, stn, List.map_cons, List.map_nil, List.length_cons, List.length_nil, List.cons_append, List.nil_append, List.replicate, Nat.reduceAdd, Nat.reduceSub, Nat.reduceLeDiff, Nat.reduceEqDiff, BEq.rfl, beq_self_eq_true, if_true, true_and, and_true, forall_const, Bool.false_eq_true, Bool.true_eq_false, reduceCtorEq, false_implies, true_implies, W.ref.injEq, W.int.injEq, W.tup.injEq, W.bl.injEq, List.cons.injEq, Option.some.injEq, exists_eq_left', exists_eq_left, exists_and_left, exists_eq', exists_const, q1, q2, Bool.not_true]
        exact ⟨_, by simp only [List.append_assoc]; rfl⟩
      obtain ⟨w, g', e, rfl, e', rfl⟩ := hh.out
      exact ⟨e', e⟩
    obtain ⟨e, h11⟩ := h11
    obtain ⟨zs, e3, q3, hz, hze, hzn, _⟩ := C10 (n + 1) xs ys (g ++ e) hx hy hxl hyl hsx hsy
    obtain ⟨hz0, hzl⟩ := prod_len htx hx hty hy hz hze
    have hgt : ¬ (401 : Int) < (xs.length : Int) + (ys.length : Int) - 1 := by omega
    rw [tbl_12]
    refine WR_callS ?_
    simp only [b12, WR_ok, OW_some, BW_bl, WS_seq, WS_asgN, WS_asgT, WS_ret, WS_exp, WS_next, WS_no, WS_par, WS_sFor, WS_sif, WS_set, WR_lc, WR_var, WR_c, WR_bin, WR_un, WA_nil, WA_cons, WR_fun, WR_call, WR_and, WR_or, WR_not, WR_if, WR_chain, WR_isn, WR_isi, WR_iteT, WR_seqI, WR_enI, WR_app, WR_pop, lk, stw, stws, wipew, stn, List.map_cons, List.map_nil, List.length_cons, List.length_nil, List.cons_append, List.nil_append, List.replicate, Nat.reduceAdd, Nat.reduceSub, Nat.reduceLeDiff, Nat.reduceEqDiff, BEq.rfl, beq_self_eq_true, if_true, true_and, and_true, forall_const, Bool.false_eq_true, Bool.true_eq_false, reduceCtorEq, false_implies, true_implies, W.ref.injEq, W.int.injEq, W.tup.injEq, W.bl.injEq, List.cons.injEq, Option.some.injEq, exists_eq_left', exists_eq_left, exists_and_left, exists_eq', exists_const, h11, hlt, fAdd_int, fSub_int, fGt_int, decide_eq_false hgt, q3]
    exact ⟨zs, rfl, ⟨_, by simp only [List.append_assoc]; rfl⟩, hz, hz0, hze, hzn, hzl⟩
  obtain ⟨w, g', e, zs, rfl, ⟨e', rfl⟩, h⟩ := hh.out
  exact ⟨zs, e', e, h⟩
end LK77

set_option Elab.async false
set_option linter.all false
set_option maxRecDepth 100000
set_option maxHeartbeats 4000000
namespace LK77
open PySem PySem.Spec PyProof.Rows L2 Ev Sm
theorem val_le {xs q h : List Int} (he : ∀ x, eZ xs x = eZ q x * eZ h x) {p : Int} (hp : eI xs p ≠ 0) : (eI q p).natAbs ≤ (eI xs p).natAbs := by
  have h1 := he (p : Rat)
  rw [eI_eZ, eI_eZ, eI_eZ, ← Rat.intCast_mul, Rat.intCast_inj] at h1
  rw [h1, Int.natAbs_mul]
  have : eI h p ≠ 0 := fun h0 => hp (by rw [h1, h0, Int.mul_zero])
  exact Nat.le_mul_of_pos_right _ (by omega)
theorem q_small {xs q h : List Int} (he : ∀ x, eZ xs x = eZ q x * eZ h x) (pts : List Int) (hpl : 6 ≤ pts.length) (hnd : pts.Nodup) (hp : ∀ p ∈ pts, p.natAbs ≤ 12 ∧ eI xs p ≠ 0) (hq : q.length ≤ 6) (k e : Nat) (hl : xs.length ≤ k + 1) (hN : N1 xs < 2 ^ e) : N1 q < 2 ^ (24 + (e + 4 * k)) := by
  have h1 := by_values 12 6 q (2 ^ (e + 4 * k)) pts hq hpl hnd fun p hpp => by
    obtain ⟨a, b⟩ := hp p hpp
    refine ⟨a, Nat.le_trans (val_le he b) (Nat.le_trans (eI_bd (R := 12) (by decide) a xs) ?_)⟩
    have h2 : 12 ^ (xs.length - 1) ≤ 12 ^ k := Nat.pow_le_pow_right (by decide) (by omega)
    have h3 : 12 ^ k ≤ 16 ^ k := Nat.pow_le_pow_left (by decide) k
    have h4 : (16 : Nat) ^ k = 2 ^ (4 * k) := by rw [Nat.pow_mul]
    rw [Nat.pow_add, ← h4]
    exact Nat.mul_le_mul (Nat.le_of_lt hN) (Nat.le_trans h2 h3)
  have h2 : KB 12 6 < 2 ^ 24 := by decide
  rw [Nat.pow_add 2 24]
  exact Nat.lt_of_le_of_lt h1 (Nat.mul_lt_mul_of_pos_right h2 (Nat.pow_pos (by decide)))
theorem okp_of {xs : List Int} (ht : Tr xs) (hn : xs ≠ []) (hl : xs.length ≤ 7) (hN : N1 xs < 2 ^ 18) (pts : List Int) (hpl : 6 ≤ pts.length) (hnd : pts.Nodup) (hp : ∀ p ∈ pts, p.natAbs ≤ 12 ∧ eI xs p ≠ 0) : Okp xs := by
  obtain ⟨v, hv, hdv⟩ := sl_div xs
  refine ⟨ht, hn, by omega, [1], eZ xs, v, 18, 5, 66, tr_one, by simp, eZ.pol xs, hv, fun x => by rw [eZ_cons 1, eZ_nil]; simp; grind, hdv, hN, ?_, .inl (by omega), by decide, by decide, fun q h hq hqt hqn he hql _ => ⟨?_, ?_⟩, fun _ => by decide⟩
  · exact Nat.le_trans (be_mono 18 (show xs.length + 1 - [1].length ≤ 7 by simp; omega)) (by decide)
  · exact q_small he pts hpl hnd hp (by omega) 6 18 hl hN
  · exact Nat.le_trans (be_mono 66 (show q.length ≤ 6 by omega)) (by decide)
theorem okp_sq {xs zs : List Int} (ht : Tr xs) (hn : xs ≠ []) (hl : xs.length ≤ 6) (hN : N1 xs < 2 ^ 5) (htz : Tr zs) (hzn : zs ≠ []) (hz : ∀ x, eZ zs x = eZ xs x * eZ xs x) (hNz : N1 zs ≤ N1 xs * N1 xs) (hzl : zs.length + 1 = xs.length + xs.length)
    (pts : List Int) (hpl : 6 ≤ pts.length) (hnd : pts.Nodup) (hp : ∀ p ∈ pts, p.natAbs ≤ 12 ∧ eI xs p ≠ 0) : Okp zs := by
  have hNz2 : N1 zs < 2 ^ 10 := Nat.lt_of_le_of_lt hNz (by
    have := Nat.mul_lt_mul'' hN hN
    exact this)
  have hd : ∀ x, eZ (slZ zs) x = eZ xs x * (2 * eZ (slZ xs) x) := fun x => by
    have := (Der.eZ zs).uniq hz ((Der.eZ xs).mul (Der.eZ xs)) x
    rw [this]; grind
  have hpos := List.length_pos_iff.mpr hn
  refine ⟨htz, hzn, by omega, xs, eZ xs, fun x => 2 * eZ (slZ xs) x, 10, 5, 74, ht, hn, eZ.pol xs, (eZ.pol _).smul 2, hz, hd, hNz2, ?_, .inr (by omega), by decide, by decide, fun q h hq hqt hqn he _ hql => ⟨?_, ?_⟩, fun _ => by decide⟩
  · exact Nat.le_trans (be_mono 10 (show zs.length + 1 - xs.length ≤ 6 by omega)) (by decide)
  · refine q_small he pts hpl hnd (fun p hpp => ⟨(hp p hpp).1, ?_⟩) (by omega) 10 10 (by omega) hNz2
    have h1 := hz (p : Rat)
    rw [eI_eZ, eI_eZ, ← Rat.intCast_mul, Rat.intCast_inj] at h1
    rw [h1]
    exact Int.mul_ne_zero (hp p hpp).2 (hp p hpp).2
  · exact Nat.le_trans (be_mono 74 (show q.length ≤ 6 by omega)) (by decide)
end LK77

set_option Elab.async false
set_option linter.all false
set_option maxRecDepth 100000
set_option maxHeartbeats 4000000
namespace LK77
open PySem PySem.Spec PyProof.Rows L2 Ev Sm
theorem fMod_int {i j : Int} (h : 0 < j) (g : G) : fMod (.int i) (.int j) g = .ok (.int (i % j)) g := by
  have h1 : (j != 0) = true := by simp; omega
  simp only [fMod, h1, if_true, Int.fmod_eq_emod_of_nonneg _ (show 0 ≤ j by omega)]
theorem fDiv_small {i j : Int} (h : 0 < j) (h2 : j < 2 ^ 62) (g : G) : fDiv (.int i) (.int j) g = .ok (.int (i / j)) g := by
  have h3 : j.natAbs < 2 ^ 62 := by omega
  simp only [fDiv, nopy (i := i) (by omega) h3 (by decide), if_true, Int.fdiv_eq_ediv_of_nonneg _ (show 0 ≤ j by omega)]
theorem C30 (n c : Nat) (a b many : Int) (g : G) (hc : g[c]? = some [.int a, .int b]) (hm : 0 < many) (hm2 : many < 1000) : ∃ r a' b', 0 ≤ r ∧ r < many ∧ tbl (n + 1) 30 [.ref c, .int many] g = .ok (.int r) (g.set c [.int a', .int b']) := by
  have h : WR (tbl (n + 1) 30 [.ref c, .int many] g) (fun w g' => ∃ r a' b', 0 ≤ r ∧ r < many ∧ w = .int r ∧ g' = g.set c [.int a', .int b']) := by
    rw [tbl_30]
    refine WR_callS ?_
    have ha0 : atI [W.int a, W.int b] 0 = some (.int a) := rfl
    have ha1 : atI [W.int a, W.int b] 1 = some (.int b) := rfl
    have hcl := lk_len hc
    have hfi : ∀ (i : Int) (h : G), fInt [.int i] h = .ok (.int i) h := fun _ _ => rfl
    have ix0 : ixN [W.int a, W.int b].length 0 = some 0 := rfl
    have ix1 : ixN [W.int a, W.int b].length 1 = some 1 := rfl
    simp only [b30, WR_ok, OW_some, BW_bl, WS_seq, WS_asgN, WS_asgT, WS_ret, WS_exp, WS_next, WS_no, WS_par, WS_sFor, WS_sif, WS_set, WR_lc, WR_var, WR_c, WR_bin, WR_un, WA_nil, WA_cons, WR_fun, WR_call, WR_and, WR_or, WR_not, WR_if, WR_chain, WR_isn, WR_isi, WR_iteT, WR_seqI, WR_enI, WR_app, WR_pop, lk, stw, stws, wipew, stn, List.map_cons, List.map_nil, List.length_cons, List.length_nil, List.cons_append, List.nil_append, List.replicate, Nat.reduceAdd, Nat.reduceSub, Nat.reduceLeDiff, Nat.reduceEqDiff, BEq.rfl, beq_self_eq_true, if_true, true_and, and_true, forall_const, Bool.false_eq_true, Bool.true_eq_false, reduceCtorEq, false_implies, true_implies, W.ref.injEq, W.int.injEq, W.tup.injEq, W.bl.injEq, List.cons.injEq, Option.some.injEq, exists_eq_left', exists_eq_left, exists_and_left, exists_eq', exists_const, fIx_ref hc ha0, fGt_int, hfi, fMod_int hm, fDiv_small hm (show many < 2 ^ 62 by omega), hc, ix0]
    refine ⟨fun h => ?_, fun h => ?_⟩
    · exact ⟨0, rfl, a % many, Int.emod_nonneg _ (by omega), Int.emod_lt_of_pos _ hm, rfl, a / many, b, rfl⟩
    · have hm1 : (0 : Int) < 2147483543 := by decide
      have hm2' : (0 : Int) < 2147483587 := by decide
      have hm3 : mulOk b 31051 = true := mokR (by decide)
      simp only [fIx_ref hc ha1, fMul_int hm3, fAdd_int, hfi, fMod_int hm1, WR_ok, OW_some, BW_bl, WS_seq, WS_asgN, WS_asgT, WS_ret, WS_exp, WS_next, WS_no, WS_par, WS_sFor, WS_sif, WS_set, WR_lc, WR_var, WR_c, WR_bin, WR_un, WA_nil, WA_cons, WR_fun, WR_call, WR_and, WR_or, WR_not, WR_if, WR_chain, WR_isn, WR_isi, WR_iteT, WR_seqI, WR_enI, WR_app, WR_pop, lk, stw, stws, wipew, stn, List.map_cons, List.map_nil, List.length_cons, List.length_nil, List.cons_append, List.nil_append, List.replicate, Nat.reduceAdd, Nat.reduceSub, Nat.reduceLeDiff, Nat.reduceEqDiff, BEq.rfl, beq_self_eq_true, if_true, true_and, and_true, forall_const, Bool.false_eq_true, Bool.true_eq_false, reduceCtorEq, false_implies, true_implies, W.ref.injEq, W.int.injEq, W.tup.injEq, W.bl.injEq, List.cons.injEq, Option.some.injEq, exists_eq_left', exists_eq_left, exists_and_left, exists_eq', exists_const, hc]
      refine ⟨1, rfl, ?_⟩
      generalize hy : (b * 31051 + 7993) % 2147483543 = y
      have hy0 : 0 ≤ y ∧ y < 2147483543 := by rw [← hy]; exact ⟨Int.emod_nonneg _ (by decide), Int.emod_lt_of_pos _ (by decide)⟩
      have hs : [W.int a, W.int b].set 1 (.int y) = [.int a, .int y] := rfl
      rw [hs]
      have hc2 : (g.set c [.int a, .int y])[c]? = some [W.int a, W.int y] := by rw [List.getElem?_set_self hcl]
      have ha1' : atI [W.int a, W.int y] 1 = some (.int y) := rfl
      have hm4 : mulOk y (y + 229) = true := mokL (by have : y.natAbs < 2147483543 := by omega
                                                      exact Nat.lt_trans this (by decide))
      simp only [fIx_ref hc2 ha1', WR_ok, OW_some, BW_bl, WS_seq, WS_asgN, WS_asgT, WS_ret, WS_exp, WS_next, WS_no, WS_par, WS_sFor, WS_sif, WS_set, WR_lc, WR_var, WR_c, WR_bin, WR_un, WA_nil, WA_cons, WR_fun, WR_call, WR_and, WR_or, WR_not, WR_if, WR_chain, WR_isn, WR_isi, WR_iteT, WR_seqI, WR_enI, WR_app, WR_pop, lk, stw, stws, wipew, stn, List.map_cons, List.map_nil, List.length_cons, List.length_nil, List.cons_append, List.nil_append, List.replicate, Nat.reduceAdd, Nat.reduceSub, Nat.reduceLeDiff, Nat.reduceEqDiff, BEq.rfl, beq_self_eq_true, if_true, true_and, and_true, forall_const, Bool.false_eq_true, Bool.true_eq_false, reduceCtorEq, false_implies, true_implies, W.ref.injEq, W.int.injEq, W.tup.injEq, W.bl.injEq, List.cons.injEq, Option.some.injEq, exists_eq_left', exists_eq_left, exists_and_left, exists_eq', exists_const, fAdd_int, fMul_int hm4, hfi, fMod_int hm2', fMod_int hm, fDiv_small (show (0 : Int) < 821 by decide) (show (821 : Int) < 2 ^ 62 by decide)]
      exact ⟨_, Int.emod_nonneg _ (by omega), Int.emod_lt_of_pos _ hm, rfl, a, y, rfl⟩
  obtain ⟨w, g', e, r, a', b', h1, h2, rfl, rfl⟩ := h.out
  exact ⟨r, a', b', h1, h2, e⟩
end LK77

set_option Elab.async false
set_option linter.all false
set_option maxRecDepth 100000
set_option maxHeartbeats 4000000
namespace LK77
open PySem PySem.Spec PyProof.Rows L2 Ev Sm
theorem C31i (n : Nat) (a : Int) (g : G) : tbl (n + 1) 31 [.int a] g = .ok (.int 2) g := by
  have hh : WR (tbl (n + 1) 31 [.int a] g) (fun w g' => w = .int 2 ∧ g' = g) := by
    rw [tbl_31]
    refine WR_callS ?_
    simp only [b31, WR_ok, OW_some, BW_bl, WS_seq, WS_asgN, WS_asgT, WS_ret, WS_exp, WS_next, WS_no, WS_par, WS_sFor, WS_sif, WS_set, WR_lc, WR_var, WR_c, WR_bin, WR_un, WA_nil, WA_cons, WR_fun, WR_call, WR_and, WR_or, WR_not, WR_if, WR_chain, WR_isn, WR_isi, WR_iteT, WR_seqI, WR_enI, WR_app, WR_pop, lk, stw, stws, wipew, stn, List.map_cons, List.map_nil, List.length_cons, List.length_nil, List.cons_append, List.nil_append, List.replicate, Nat.reduceAdd, Nat.reduceSub, Nat.reduceLeDiff, Nat.reduceEqDiff, BEq.rfl, beq_self_eq_true, if_true, true_and, and_true, forall_const, Bool.false_eq_true, Bool.true_eq_false, reduceCtorEq, false_implies, true_implies, W.ref.injEq, W.int.injEq, W.tup.injEq, W.bl.injEq, List.cons.injEq, Option.some.injEq, exists_eq_left', exists_eq_left, exists_and_left, exists_eq', exists_const, isi, Ev.isNon]
  obtain ⟨w, g', e, rfl, rfl⟩ := hh.out
  exact e
theorem C31n (n : Nat) (g : G) : tbl (n + 1) 31 [.non] g = .ok (.int 0) g := by
  have hh : WR (tbl (n + 1) 31 [.non] g) (fun w g' => w = .int 0 ∧ g' = g) := by
    rw [tbl_31]
    refine WR_callS ?_
    simp only [b31, WR_ok, OW_some, BW_bl, WS_seq, WS_asgN, WS_asgT, WS_ret, WS_exp, WS_next, WS_no, WS_par, WS_sFor, WS_sif, WS_set, WR_lc, WR_var, WR_c, WR_bin, WR_un, WA_nil, WA_cons, WR_fun, WR_call, WR_and, WR_or, WR_not, WR_if, WR_chain, WR_isn, WR_isi, WR_iteT, WR_seqI, WR_enI, WR_app, WR_pop, lk, stw, stws, wipew, stn, List.map_cons, List.map_nil, List.length_cons, List.length_nil, List.cons_append, List.nil_append, List.replicate, Nat.reduceAdd, Nat.reduceSub, Nat.reduceLeDiff, Nat.reduceEqDiff, BEq.rfl, beq_self_eq_true, if_true, true_and, and_true, forall_const, Bool.false_eq_true, Bool.true_eq_false, reduceCtorEq, false_implies, true_implies, W.ref.injEq, W.int.injEq, W.tup.injEq, W.bl.injEq, List.cons.injEq, Option.some.injEq, exists_eq_left', exists_eq_left, exists_and_left, exists_eq', exists_const, isi, Ev.isNon]
  obtain ⟨w, g', e, rfl, rfl⟩ := hh.out
  exact e
theorem C31r (n : Nat) (r : Nat) (g : G) : tbl (n + 1) 31 [.ref r] g = .ok (.int 5) g := by
  have hh : WR (tbl (n + 1) 31 [.ref r] g) (fun w g' => w = .int 5 ∧ g' = g) := by
    rw [tbl_31]
    refine WR_callS ?_
    simp only [b31, WR_ok, OW_some, BW_bl, WS_seq, WS_asgN, WS_asgT, WS_ret, WS_exp, WS_next, WS_no, WS_par, WS_sFor, WS_sif, WS_set, WR_lc, WR_var, WR_c, WR_bin, WR_un, WA_nil, WA_cons, WR_fun, WR_call, WR_and, WR_or, WR_not, WR_if, WR_chain, WR_isn, WR_isi, WR_iteT, WR_seqI, WR_enI, WR_app, WR_pop, lk, stw, stws, wipew, stn, List.map_cons, List.map_nil, List.length_cons, List.length_nil, List.cons_append, List.nil_append, List.replicate, Nat.reduceAdd, Nat.reduceSub, Nat.reduceLeDiff, Nat.reduceEqDiff, BEq.rfl, beq_self_eq_true, if_true, true_and, and_true, forall_const, Bool.false_eq_true, Bool.true_eq_false, reduceCtorEq, false_implies, true_implies, W.ref.injEq, W.int.injEq, W.tup.injEq, W.bl.injEq, List.cons.injEq, Option.some.injEq, exists_eq_left', exists_eq_left, exists_and_left, exists_eq', exists_const, isi, Ev.isNon]
  obtain ⟨w, g', e, rfl, rfl⟩ := hh.out
  exact e
theorem C32i (n : Nat) (a b : Int) (g : G) : tbl (n + 2) 32 [.int a, .int b] g = .ok (.bl (a == b)) g := by
  have hh : WR (tbl (n + 2) 32 [.int a, .int b] g) (fun w g' => w = .bl (a == b) ∧ g' = g) := by
    rw [tbl_32]
    refine WR_callS ?_
    have hin : ∀ g, fIn (.int 2) (.tup [.int 4, .int 5]) g = .ok (.bl false) g := fun g => by
      have h1 := mapO_int g 16 [4, 5]
      simp only [iw, List.map_cons, List.map_nil] at h1
      have h2 : toD g 16 (.int 2) = some (.int 2) := rfl
      simp only [fIn, inW, itemsOf, h1, h2]
      have h3 : (shp (.int 2) && [PyData.int 4, PyData.int 5].all shp) = true := by decide
      simp only [h3, if_true]
      rfl
    have hft : ∀ (a b : Ev.W) (h : G), fTup [a, b] h = .ok (.tup [a, b]) h := fun _ _ _ => rfl
    simp only [b32, WR_ok, OW_some, BW_bl, WS_seq, WS_asgN, WS_asgT, WS_ret, WS_exp, WS_next, WS_no, WS_par, WS_sFor, WS_sif, WS_set, WR_lc, WR_var, WR_c, WR_bin, WR_un, WA_nil, WA_cons, WR_fun, WR_call, WR_and, WR_or, WR_not, WR_if, WR_chain, WR_isn, WR_isi, WR_iteT, WR_seqI, WR_enI, WR_app, WR_pop, lk, stw, stws, wipew, stn, List.map_cons, List.map_nil, List.length_cons, List.length_nil, List.cons_append, List.nil_append, List.replicate, Nat.reduceAdd, Nat.reduceSub, Nat.reduceLeDiff, Nat.reduceEqDiff, BEq.rfl, beq_self_eq_true, if_true, true_and, and_true, forall_const, Bool.false_eq_true, Bool.true_eq_false, reduceCtorEq, false_implies, true_implies, W.ref.injEq, W.int.injEq, W.tup.injEq, W.bl.injEq, List.cons.injEq, Option.some.injEq, exists_eq_left', exists_eq_left, exists_and_left, exists_eq', exists_const, C31i, fNe_int, fEq_int, hft, hin]
    simp
  obtain ⟨w, g', e, rfl, rfl⟩ := hh.out
  exact e
theorem C32n (n : Nat) (g : G) : tbl (n + 2) 32 [.non, .non] g = .ok (.bl true) g := by
  have hh : WR (tbl (n + 2) 32 [.non, .non] g) (fun w g' => w = .bl true ∧ g' = g) := by
    rw [tbl_32]
    refine WR_callS ?_
    have hin : ∀ g, fIn (.int 0) (.tup [.int 4, .int 5]) g = .ok (.bl false) g := fun g => by
      have h1 := mapO_int g 16 [4, 5]
      simp only [iw, List.map_cons, List.map_nil] at h1
      have h2 : toD g 16 (.int 0) = some (.int 0) := rfl
      simp only [fIn, inW, itemsOf, h1, h2]
      have h3 : (shp (.int 0) && [PyData.int 4, PyData.int 5].all shp) = true := by decide
      simp only [h3, if_true]
      rfl
    have hft : ∀ (a b : Ev.W) (h : G), fTup [a, b] h = .ok (.tup [a, b]) h := fun _ _ _ => rfl
    have hnn : fEq .non .non g = .ok (.bl true) g := rfl
    simp only [b32, WR_ok, OW_some, BW_bl, WS_seq, WS_asgN, WS_asgT, WS_ret, WS_exp, WS_next, WS_no, WS_par, WS_sFor, WS_sif, WS_set, WR_lc, WR_var, WR_c, WR_bin, WR_un, WA_nil, WA_cons, WR_fun, WR_call, WR_and, WR_or, WR_not, WR_if, WR_chain, WR_isn, WR_isi, WR_iteT, WR_seqI, WR_enI, WR_app, WR_pop, lk, stw, stws, wipew, stn, List.map_cons, List.map_nil, List.length_cons, List.length_nil, List.cons_append, List.nil_append, List.replicate, Nat.reduceAdd, Nat.reduceSub, Nat.reduceLeDiff, Nat.reduceEqDiff, BEq.rfl, beq_self_eq_true, if_true, true_and, and_true, forall_const, Bool.false_eq_true, Bool.true_eq_false, reduceCtorEq, false_implies, true_implies, W.ref.injEq, W.int.injEq, W.tup.injEq, W.bl.injEq, List.cons.injEq, Option.some.injEq, exists_eq_left', exists_eq_left, exists_and_left, exists_eq', exists_const, C31n, fNe_int, fEq_int, hft, hin, hnn]
    simp
  obtain ⟨w, g', e, rfl, rfl⟩ := hh.out
  exact e
end LK77

set_option Elab.async false
set_option linter.all false
set_option maxRecDepth 100000
set_option maxHeartbeats 4000000
namespace LK77
open PySem PySem.Spec PyProof.Rows L2 Ev Sm
theorem WR_rg1 {o : Orc} {s : Sg} {g : G} {Q : Itr → G → Prop} (a : CA) : WR (iRg1 a o s g) Q = WR (a o s g) fun xs g1 => ∃ i, xs = [.int i] ∧ smallI i = true ∧ Q (.rng 0 i.toNat) g1 := by
  unfold iRg1
  rw [WR_bind]
  congr 1
  funext xs g1
  refine propext ⟨fun h => ?_, fun ⟨i, e, h1, h⟩ => ?_⟩
  · split at h
    · split at h
      · exact ⟨_, rfl, by assumption, h⟩
      · exact h.elim
    · exact h.elim
  · subst e
    simp only [h1, if_true]
    exact h
theorem eI_app (x : Int) : ∀ (l : List Int) (a : Int), eI (l ++ [a]) x = eI l x + a * x ^ l.length
  | [], a => by simp [eI]
  | b :: l, a => by
    simp only [List.cons_append, eI, eI_app x l a, List.length_cons, Int.pow_succ]
    rw [Int.mul_add, Int.add_assoc, ← Int.mul_assoc, Int.mul_comm x a, Int.mul_assoc, Int.mul_comm x (x ^ l.length)]
theorem sgZ (a : Int) : sg (a : Rat) = if 0 < a then 1 else if a < 0 then -1 else 0 := by
  unfold sg
  have h1 : (0 : Rat) < (a : Rat) ↔ 0 < a := Rat.intCast_pos
  have h2 : (a : Rat) < 0 ↔ a < 0 := Rat.intCast_neg_iff
  simp only [h1, h2]
theorem qv_one (a : Int) : qv a 1 = (a : Rat) := by
  unfold qv
  have : ((1 : Int) : Rat) = 1 := rfl
  rw [this]
  grind
theorem C36 (n : Nat) (xs : List Int) (a : Int) (g : G) (hl : xs.length ≤ 17) (hn : xs ≠ []) (ha : a.natAbs < 2 ^ 10) (hs : N1 xs < 2 ^ 60) : tbl (n + 1) 36 [.tup (iw xs), .tup [.int a, .int 1]] g = .ok (.int (sg (eZ xs (qv a 1)))) g := by
  have hh : WR (tbl (n + 1) 36 [.tup (iw xs), .tup [.int a, .int 1]] g) (fun w g' => w = .int (sg (eZ xs (qv a 1))) ∧ g' = g) := by
    rw [tbl_36]
    refine WR_callS ?_
    have hp := List.length_pos_iff.mpr hn
    have hft : ∀ (a b c : Ev.W) (h : G), fTup [a, b, c] h = .ok (.tup [a, b, c]) h := fun _ _ _ _ => rfl
    have hlt : ∀ (xs : List Int) h, fLen [.tup (iw xs)] h = .ok (.int xs.length) h := fun xs h => by simp only [fLen, itemsOf, iw_len]
    have hcr : ∀ (n : Nat) (h : G), cntI (.rng 0 n) h = n := fun _ _ => rfl
    simp only [b36, WR_ok, OW_some, BW_bl, WS_seq, WS_asgN, WS_asgT, WS_ret, WS_exp, WS_next, WS_no, WS_par, WS_sFor, WS_sif, WS_set, WR_lc, WR_var, WR_c, WR_bin, WR_un, WA_nil, WA_cons, WR_fun, WR_call, WR_and, WR_or, WR_not, WR_if, WR_chain, WR_isn, WR_isi, WR_iteT, WR_seqI, WR_enI, WR_app, WR_pop, lk, stw, stws, wipew, stn, List.map_cons, List.map_nil, List.length_cons, List.length_nil, List.cons_append, List.nil_append, List.replicate, Nat.reduceAdd, Nat.reduceSub, Nat.reduceLeDiff, Nat.reduceEqDiff, BEq.rfl, beq_self_eq_true, if_true, true_and, and_true, forall_const, Bool.false_eq_true, Bool.true_eq_false, reduceCtorEq, false_implies, true_implies, W.ref.injEq, W.int.injEq, W.tup.injEq, W.bl.injEq, List.cons.injEq, Option.some.injEq, exists_eq_left', exists_eq_left, exists_and_left, exists_eq', exists_const, hft, hlt, fSub_int, WR_rg1, hcr]
    refine ⟨by simp only [smallI, Bool.and_eq_true, decide_eq_true_eq]; omega, ?_⟩
    refine WS_for ((xs.length : Int) - 1).toNat (fun i s g' => g' = g ∧ ∃ y, s = [some (.tup (iw xs)), some (.tup [.int a, .int 1]), some (.int a), some (.int 1), some (.int 0), some (.int 1), some (.int 1), y, none]) (fun i s g' hi ⟨hg, y, hs'⟩ => ?_) (fun s g' ⟨hg, y, hs'⟩ => ?_) _ 0 _ _ (by omega) ⟨rfl, _, rfl⟩
    · subst hg hs'
      refine ⟨.int (0 + (i : Nat)), _, by simp only [itemI, Nat.blt_eq, hi, if_true], rfl, ?_⟩
      simp only [WR_ok, OW_some, BW_bl, WS_seq, WS_asgN, WS_asgT, WS_ret, WS_exp, WS_next, WS_no, WS_par, WS_sFor, WS_sif, WS_set, WR_lc, WR_var, WR_c, WR_bin, WR_un, WA_nil, WA_cons, WR_fun, WR_call, WR_and, WR_or, WR_not, WR_if, WR_chain, WR_isn, WR_isi, WR_iteT, WR_seqI, WR_enI, WR_app, WR_pop, lk, stw, stws, wipew, stn, List.map_cons, List.map_nil, List.length_cons, List.length_nil, List.cons_append, List.nil_append, List.replicate, Nat.reduceAdd, Nat.reduceSub, Nat.reduceLeDiff, Nat.reduceEqDiff, BEq.rfl, beq_self_eq_true, if_true, true_and, and_true, forall_const, Bool.false_eq_true, Bool.true_eq_false, reduceCtorEq, false_implies, true_implies, W.ref.injEq, W.int.injEq, W.tup.injEq, W.bl.injEq, List.cons.injEq, Option.some.injEq, exists_eq_left', exists_eq_left, exists_and_left, exists_eq', exists_const, fMul_int (mokL (i := 1) (j := 1) (by decide)), Int.mul_one]
    · subst hg hs'
      refine ⟨by simp only [stopI]; exact ble_refl _, ?_⟩
      simp only [WR_ok, OW_some, BW_bl, WS_seq, WS_asgN, WS_asgT, WS_ret, WS_exp, WS_next, WS_no, WS_par, WS_sFor, WS_sif, WS_set, WR_lc, WR_var, WR_c, WR_bin, WR_un, WA_nil, WA_cons, WR_fun, WR_call, WR_and, WR_or, WR_not, WR_if, WR_chain, WR_isn, WR_isi, WR_iteT, WR_seqI, WR_enI, WR_app, WR_pop, lk, stw, stws, wipew, stn, List.map_cons, List.map_nil, List.length_cons, List.length_nil, List.cons_append, List.nil_append, List.replicate, Nat.reduceAdd, Nat.reduceSub, Nat.reduceLeDiff, Nat.reduceEqDiff, BEq.rfl, beq_self_eq_true, if_true, true_and, and_true, forall_const, Bool.false_eq_true, Bool.true_eq_false, reduceCtorEq, false_implies, true_implies, W.ref.injEq, W.int.injEq, W.tup.injEq, W.bl.injEq, List.cons.injEq, Option.some.injEq, exists_eq_left', exists_eq_left, exists_and_left, exists_eq', exists_const, cntI, iw_len]
      refine WS_for xs.length (fun i s h => h = g' ∧ ∃ y z, s = [some (.tup (iw xs)), some (.tup [.int a, .int 1]), some (.int a), some (.int 1), some (.int (eI (xs.take i) a)), some (.int (a ^ i)), some (.int 1), y, z]) (fun i s h hi ⟨hg, y, z, hs'⟩ => ?_) (fun s h ⟨hg, y, z, hs'⟩ => ?_) _ 0 _ _ (by omega) ⟨rfl, y, none, by simp [eI]⟩
      · subst hg hs'
        have hxi : xs[i]? = some xs[i] := List.getElem?_eq_getElem hi
        have hxm := N1_mem (List.getElem_mem hi)
        have htk : eI (xs.take (i + 1)) a = eI (xs.take i) a + xs[i] * a ^ i := by
          rw [List.take_add_one, hxi, Option.toList_some, eI_app, List.length_take, Nat.min_eq_left (by omega)]
        generalize xs[i] = c at hxi hxm htk
        have hpw : (a ^ i).natAbs < 2 ^ 171 := by
          rw [Int.natAbs_pow]
          exact Nat.lt_of_le_of_lt (pow_bits ha) (Nat.pow_lt_pow_right (by decide) (by omega))
        have hm1 : mulOk c (a ^ i) = true := mok (a := 60) (b := 171) (by omega) hpw (by decide)
        have hm2 : mulOk (c * a ^ i) 1 = true := mokR (by decide)
        have hm3 : mulOk (a ^ i) a = true := mok (a := 171) (b := 10) hpw ha (by decide)
        refine ⟨.int c, _, by simp only [itemI, at_get, hxi, Option.map_some], rfl, ?_⟩
        simp only [WR_ok, OW_some, BW_bl, WS_seq, WS_asgN, WS_asgT, WS_ret, WS_exp, WS_next, WS_no, WS_par, WS_sFor, WS_sif, WS_set, WR_lc, WR_var, WR_c, WR_bin, WR_un, WA_nil, WA_cons, WR_fun, WR_call, WR_and, WR_or, WR_not, WR_if, WR_chain, WR_isn, WR_isi, WR_iteT, WR_seqI, WR_enI, WR_app, WR_pop, lk, stw, stws, wipew, stn, List.map_cons, List.map_nil, List.length_cons, List.length_nil, List.cons_append, List.nil_append, List.replicate, Nat.reduceAdd, Nat.reduceSub, Nat.reduceLeDiff, Nat.reduceEqDiff, BEq.rfl, beq_self_eq_true, if_true, true_and, and_true, forall_const, Bool.false_eq_true, Bool.true_eq_false, reduceCtorEq, false_implies, true_implies, W.ref.injEq, W.int.injEq, W.tup.injEq, W.bl.injEq, List.cons.injEq, Option.some.injEq, exists_eq_left', exists_eq_left, exists_and_left, exists_eq', exists_const, fMul_int hm1, fMul_int hm2, fMul_int hm3, fAdd_int, fDiv_small (i := 1) (show (0 : Int) < 1 by decide) (by decide)]
        exact ⟨by rw [htk]; simp, (Int.pow_succ _ _).symm, by decide⟩
      · subst hg hs'
        refine ⟨by simp only [stopI, iw_len]; exact ble_refl _, ?_⟩
        rw [List.take_length, qv_one, eI_eZ, sgZ]
        simp only [WR_ok, OW_some, BW_bl, WS_seq, WS_asgN, WS_asgT, WS_ret, WS_exp, WS_next, WS_no, WS_par, WS_sFor, WS_sif, WS_set, WR_lc, WR_var, WR_c, WR_bin, WR_un, WA_nil, WA_cons, WR_fun, WR_call, WR_and, WR_or, WR_not, WR_if, WR_chain, WR_isn, WR_isi, WR_iteT, WR_seqI, WR_enI, WR_app, WR_pop, lk, stw, stws, wipew, stn, List.map_cons, List.map_nil, List.length_cons, List.length_nil, List.cons_append, List.nil_append, List.replicate, Nat.reduceAdd, Nat.reduceSub, Nat.reduceLeDiff, Nat.reduceEqDiff, BEq.rfl, beq_self_eq_true, if_true, true_and, and_true, forall_const, Bool.false_eq_true, Bool.true_eq_false, reduceCtorEq, false_implies, true_implies, W.ref.injEq, W.int.injEq, W.tup.injEq, W.bl.injEq, List.cons.injEq, Option.some.injEq, exists_eq_left', exists_eq_left, exists_and_left, exists_eq', exists_const, fGt_int, fLt_int, fNeg_int]
        by_cases h1 : 0 < eI xs a
        · simp [h1]
        · by_cases h2 : eI xs a < 0 <;> simp [h1, h2]
  obtain ⟨w, g', e, rfl, rfl⟩ := hh.out
  exact e
end LK77

set_option Elab.async false
set_option linter.all false
set_option maxRecDepth 100000
set_option maxHeartbeats 4000000
namespace LK77
open PySem PySem.Spec PyProof.Rows L2 Ev Sm
/-! the cup, and fractions as numbers -/
def Cu (c : Nat) (g : G) : Prop := ∃ a b, g[c]? = some [.int a, .int b]
structure Kc (c : Nat) (g g' : G) : Prop where
  len : g.length ≤ g'.length
  keep : ∀ i, i ≠ c → ∀ xs, g[i]? = some xs → g'[i]? = some xs
  cup : Cu c g'
theorem Kc.refl {c : Nat} {g : G} (h : Cu c g) : Kc c g g := ⟨Nat.le_refl _, fun _ _ _ h => h, h⟩
theorem Kc.trans {c : Nat} {g g1 g2 : G} (a : Kc c g g1) (b : Kc c g1 g2) : Kc c g g2 := ⟨Nat.le_trans a.len b.len, fun i h xs e => b.keep i h xs (a.keep i h xs e), b.cup⟩
theorem Kc.pre {c : Nat} {g g' : G} (h : Cu c g) (p : g <+: g') : Kc c g g' := ⟨p.length_le, fun _ _ _ e => pre_lk p e, by
  obtain ⟨a, b, e⟩ := h
  exact ⟨a, b, pre_lk p e⟩⟩
theorem Kc.ext {c : Nat} {g g1 g2 : G} (a : Kc c g g1) (p : g1 <+: g2) : Kc c g g2 := a.trans (.pre a.cup p)
theorem Kc.app {c : Nat} {g g1 : G} (a : Kc c g g1) (e : G) : Kc c g (g1 ++ e) := a.ext (List.prefix_append _ _)
theorem Kc.setN {c : Nat} {g g1 : G} (a : Kc c g g1) {k : Nat} (hk : k ≠ c) (hk2 : g.length ≤ k) (xs : List Ev.W) : Kc c g (g1.set k xs) := by
  refine ⟨by rw [List.length_set]; exact a.len, fun i hi ys e => ?_, ?_⟩
  · have h1 := lk_len e
    rw [List.getElem?_set_ne (by omega)]
    exact a.keep i hi ys e
  · obtain ⟨x, y, e⟩ := a.cup
    exact ⟨x, y, by rw [List.getElem?_set_ne hk]; exact e⟩
theorem roll (n c : Nat) (many : Int) (g : G) (hc : Cu c g) (hm : 0 < many) (hm2 : many < 1000) : ∃ r g', 0 ≤ r ∧ r < many ∧ tbl (n + 1) 30 [.ref c, .int many] g = .ok (.int r) g' ∧ Kc c g g' := by
  obtain ⟨a, b, hc⟩ := hc
  obtain ⟨r, a', b', h1, h2, e⟩ := C30 n c a b many g hc hm hm2
  refine ⟨r, _, h1, h2, e, by simp, fun i hi xs e => by rw [List.getElem?_set_ne (Ne.symm hi)]; exact e, a', b', ?_⟩
  rw [List.getElem?_set_self (lk_len hc)]
theorem C29 (n : Nat) (ns : List Int) (g : G) (hl : ns.length ≤ 63) : ∃ c e, tbl (n + 1) 29 [.rol (iw ns)] g = .ok (.ref c) (g ++ e) ∧ Cu c (g ++ e) := by
  have hh : WR (tbl (n + 1) 29 [.rol (iw ns)] g) (fun w g' => ∃ c e, w = .ref c ∧ g' = g ++ e ∧ Cu c (g ++ e)) := by
    rw [tbl_29]
    refine WR_callS ?_
    have h1 : fList [.rol (iw ns)] g = .ok (.ref g.length) (g ++ [iw ns]) := rfl
    have h2 : ∀ h : G, fLst [.int 0] h = .ok (.ref h.length) (h ++ [iw [0]]) := fun _ => rfl
    have e1 : (g ++ [iw ns] ++ [iw [0]])[g.length]? = some (iw ns) := by rw [List.append_assoc]; exact lk_new _ _ _
    have e2 : (g ++ [iw ns] ++ [iw [0]])[(g ++ [iw ns]).length]? = some (iw [0]) := lk_new _ _ _
    have h3 : fAdd (.ref g.length) (.ref (g ++ [iw ns]).length) (g ++ [iw ns] ++ [iw [0]]) = .ok (.ref (g ++ [iw ns] ++ [iw [0]]).length) (g ++ [iw ns] ++ [iw [0]] ++ [iw (ns ++ [0])]) := by
      have hz : szOk ((iw ns).length + (iw [0]).length) = true := by
        rw [iw_len, iw_len]; exact Nat.ble_eq_true_of_le (by simp; omega)
      simp only [fAdd, e1, e2, hz, if_true]
      simp only [iw, List.map_append]
    obtain ⟨x, l, hx⟩ : ∃ x l, ns ++ [0] = x :: l := by
      cases ns with
      | nil => exact ⟨_, _, rfl⟩
      | cons a l => exact ⟨_, _, rfl⟩
    have e3 : (g ++ [iw ns] ++ [iw [0]] ++ [iw (ns ++ [0])])[(g ++ [iw ns] ++ [iw [0]]).length]? = some (iw (ns ++ [0])) := lk_new _ _ _
    have h4 : atI (iw (ns ++ [0])) 0 = some (.int x) := by
      rw [hx]
      have e : ixN (iw (x :: l)).length 0 = some 0 := ixN_nat (i := 0) (by rw [iw_len]; simp)
      simp only [atI, e, Option.bind_some]
      rfl
    have h5 : ∀ (h : G), fPow (.int 10) (.int 18) h = .ok (.int (10 ^ 18)) h := fun _ => rfl
    have hfi : ∀ (i : Int) (h : G), fInt [.int i] h = .ok (.int i) h := fun _ _ => rfl
    have hl2 : ∀ (a b : Ev.W) (h : G), fLst [a, b] h = .ok (.ref h.length) (h ++ [[a, b]]) := fun _ _ _ => rfl
    have hm : mulOk (x.natAbs : Int) 283 = true := mokR (by decide)
    simp only [b29, WR_ok, OW_some, BW_bl, WS_seq, WS_asgN, WS_asgT, WS_ret, WS_exp, WS_next, WS_no, WS_par, WS_sFor, WS_sif, WS_set, WR_lc, WR_var, WR_c, WR_bin, WR_un, WA_nil, WA_cons, WR_fun, WR_call, WR_and, WR_or, WR_not, WR_if, WR_chain, WR_isn, WR_isi, WR_iteT, WR_seqI, WR_enI, WR_app, WR_pop, lk, stw, stws, wipew, stn, List.map_cons, List.map_nil, List.length_cons, List.length_nil, List.cons_append, List.nil_append, List.replicate, Nat.reduceAdd, Nat.reduceSub, Nat.reduceLeDiff, Nat.reduceEqDiff, BEq.rfl, beq_self_eq_true, if_true, true_and, and_true, forall_const, Bool.false_eq_true, Bool.true_eq_false, reduceCtorEq, false_implies, true_implies, W.ref.injEq, W.int.injEq, W.tup.injEq, W.bl.injEq, List.cons.injEq, Option.some.injEq, exists_eq_left', exists_eq_left, exists_and_left, exists_eq', exists_const, h1, h2, h3, fIx_ref e3 h4, fAbs, absI, h5, fGe_int, fMul_int hm, fAdd_int, hfi, fMod_int (show (0 : Int) < 2077503167 by decide), fDiv_small (show (0 : Int) < 73 by decide) (show (73 : Int) < 2 ^ 62 by decide), hl2]
    have hcu : ∀ a b : Int, Cu (g ++ [iw ns] ++ [iw [0]] ++ [iw (ns ++ [0])]).length (g ++ ([iw ns] ++ ([iw [0]] ++ ([iw (ns ++ [0])] ++ [[.int a, .int b]])))) := fun a b => ⟨a, b, by
      have h := lk_new (g ++ [iw ns] ++ [iw [0]] ++ [iw (ns ++ [0])]) [.int a, .int b] []
      simp only [List.append_assoc] at h ⊢
      exact h⟩
    exact ⟨fun _ => ⟨_, by simp only [List.append_assoc]; rfl, hcu _ _⟩, fun _ => ⟨_, by simp only [List.append_assoc]; rfl, hcu _ _⟩⟩
  obtain ⟨w, g', e, c, e', rfl, rfl, h⟩ := hh.out
  exact ⟨c, e', e, h⟩
def fw (r : Rat) : Ev.W := .tup [.int r.num, .int (r.den : Int)]
theorem fw_qv {a b : Int} (hb : 0 < b) : fw (qv a b) = .tup [.int (a / (Int.gcd a b : Int)), .int (b / (Int.gcd a b : Int))] := by
  have e : qv a b = Rat.divInt a b := (Rat.divInt_eq_div a b).symm
  unfold fw
  rw [e, Rat.num_divInt, Rat.den_divInt, if_neg (by omega), Int.sign_eq_one_of_pos hb, Int.one_mul, Int.gcd_comm b a, Int.natCast_ediv]
  have h1 : ((b.natAbs : Nat) : Int) = b := by omega
  rw [h1]
theorem qv_num (r : Rat) : qv r.num r.den = r := by
  unfold qv
  rw [← Rat.divInt_eq_div]
  exact Rat.num_divInt_den r
theorem fw_int (a : Int) : fw (a : Rat) = .tup [.int a, .int 1] := rfl
structure Frs (r : Rat) : Prop where
  num : r.num.natAbs ≤ 40
  den : r.den ≤ 40
theorem qv_bd {a b : Int} (hb : 0 < b) : (qv a b).num.natAbs ≤ a.natAbs ∧ ((qv a b).den : Int) ≤ b := by
  have e := fw_qv (a := a) hb
  unfold fw at e
  simp only [W.tup.injEq, List.cons.injEq, W.int.injEq, and_true] at e
  refine ⟨?_, ?_⟩
  · rw [e.1]
    exact Int.natAbs_ediv_le_natAbs a (Int.gcd a b : Int)
  · rw [e.2]
    exact Int.ediv_le_self _ (by omega)
theorem Frs.qv {a b : Int} (hb : 0 < b) (ha : a.natAbs ≤ 40) (hb2 : b ≤ 40) : Frs (qv a b) := by
  have h := qv_bd (a := a) hb
  exact ⟨by omega, by omega⟩
theorem Frs.den62 {r : Rat} (h : Frs r) : ((r.den : Int)).natAbs < 2 ^ 62 := by
  rw [Int.natAbs_natCast]
  exact Nat.lt_of_le_of_lt h.den (by decide)
theorem Frs.fra {r : Rat} (h : Frs r) : Fra r.num r.den := ⟨by have := r.den_pos; omega, Nat.lt_of_le_of_lt h.num (Nat.lt_of_lt_of_le (show 40 < 2 ^ 6 by decide) (Nat.pow_le_pow_right (by decide) (by decide))), h.den62⟩
theorem low_fw (n : Nat) (a b : Int) (g : G) (hb : 0 < b) (hb2 : b ≤ 40) : tbl (n + 2) 34 [.int a, .int b] g = .ok (fw (qv a b)) g := by
  rw [fw_qv hb]
  exact C34 n a b g hb (Nat.lt_of_lt_of_le (show b.natAbs < 2 ^ 6 by omega) (Nat.pow_le_pow_right (by decide) (by decide)))
theorem most_fw (n : Nat) (r s : Rat) (g : G) (hr : Frs r) (hs : Frs s) : tbl (n + 1) 35 [fw r, fw s] g = .ok (.bl (decide (r ≤ s))) g := by
  have h := C35 n r.num r.den s.num s.den g hr.den62 hs.den62
  unfold fw
  rw [h]
  congr 2
  exact decide_eq_decide.mpr (Rat.le_iff r s).symm
theorem fw_inj {r s : Rat} (h : fw r = fw s) : r = s := by
  unfold fw at h
  simp only [W.tup.injEq, List.cons.injEq, W.int.injEq, and_true] at h
  exact Rat.ext h.1 (by omega)
/-! in ascending order -/
def insR (l : List Rat) (r : Rat) : List Rat := if r ∈ l then l else (l.filter fun s => decide (s ≤ r)) ++ [r] ++ (l.filter fun s => !decide (s ≤ r))
def sortR (rs : List Rat) : List Rat := rs.foldl insR []
theorem mem_insR {l : List Rat} {r x : Rat} : x ∈ insR l r ↔ x = r ∨ x ∈ l := by
  unfold insR
  split
  · rename_i h
    exact ⟨.inr, fun h1 => h1.elim (fun e => e ▸ h) id⟩
  · simp only [List.mem_append, List.mem_filter, List.mem_singleton, decide_eq_true_eq, Bool.not_eq_true', decide_eq_false_iff_not]
    by_cases h : x ≤ r <;> simp [h]
    · exact Or.comm
theorem mem_fold : ∀ (rs l : List Rat) (x : Rat), x ∈ rs.foldl insR l ↔ x ∈ l ∨ x ∈ rs
  | [], l, x => by simp
  | r :: rs, l, x => by
    rw [List.foldl_cons, mem_fold rs, mem_insR, List.mem_cons]
    constructor
    · rintro ((h | h) | h)
      · exact .inr (.inl h)
      · exact .inl h
      · exact .inr (.inr h)
    · rintro (h | h | h)
      · exact .inl (.inr h)
      · exact .inl (.inl h)
      · exact .inr h
theorem mem_sortR (rs : List Rat) (x : Rat) : x ∈ sortR rs ↔ x ∈ rs := by
  unfold sortR
  rw [mem_fold]; simp
theorem insR_asc {l : List Rat} (r : Rat) (h : l.Pairwise (· < ·)) : (insR l r).Pairwise (· < ·) := by
  unfold insR
  split
  · exact h
  · rename_i hn
    rw [List.append_assoc, List.pairwise_append]
    refine ⟨h.filter _, ?_, ?_⟩
    · rw [List.singleton_append, List.pairwise_cons]
      refine ⟨fun x hx => ?_, h.filter _⟩
      simp only [List.mem_filter, Bool.not_eq_true', decide_eq_false_iff_not] at hx
      exact Rat.not_le.mp hx.2
    · intro a ha b hb
      simp only [List.mem_filter, decide_eq_true_eq] at ha
      have hlt : a < r := Rat.lt_of_le_of_ne ha.2 fun e => hn (e ▸ ha.1)
      simp only [List.singleton_append, List.mem_cons, List.mem_filter, Bool.not_eq_true', decide_eq_false_iff_not] at hb
      rcases hb with rfl | hb
      · exact hlt
      · have := Rat.not_le.mp hb.2
        grind
theorem fold_asc : ∀ (rs l : List Rat), l.Pairwise (· < ·) → (rs.foldl insR l).Pairwise (· < ·)
  | [], _, h => h
  | r :: rs, l, h => fold_asc rs _ (insR_asc r h)
theorem sortR_asc (rs : List Rat) : (sortR rs).Pairwise (· < ·) := fold_asc rs [] .nil
theorem filt_two (P : Rat → Bool) : ∀ l : List Rat, (l.filter P).length + (l.filter fun s => !P s).length = l.length
  | [] => rfl
  | x :: l => by
    have := filt_two P l
    simp only [List.filter_cons]
    cases P x <;> simp <;> omega
theorem insR_len (l : List Rat) (r : Rat) : (insR l r).length ≤ l.length + 1 := by
  unfold insR
  split
  · omega
  · have := filt_two (fun s => decide (s ≤ r)) l
    simp only [List.length_append, List.length_singleton]
    omega
theorem fold_len : ∀ (rs l : List Rat), (rs.foldl insR l).length ≤ l.length + rs.length
  | [], _ => Nat.le_refl _
  | r :: rs, l => by
    have h1 := fold_len rs (insR l r)
    have h2 := insR_len l r
    rw [List.foldl_cons, List.length_cons]
    omega
theorem fw_D (r : Rat) (g : G) : toD g 16 (fw r) = some (.tuple [.int r.num, .int (r.den : Int)]) := toD_tup g [r.num, (r.den : Int)]
theorem fw_Ds (g : G) : ∀ l : List Rat, mapO (toD g 16) (l.map fw) = some (l.map fun r => PyData.tuple [.int r.num, .int (r.den : Int)])
  | [] => rfl
  | r :: l => by simp only [List.map_cons, mapO, fw_D, fw_Ds g l]
theorem notin_fw {g : G} {k : Nat} {l : List Rat} (h : g[k]? = some (l.map fw)) (r : Rat) : fNotIn (fw r) (.ref k) g = .ok (.bl (!decide (r ∈ l))) g := by
  have h1 : ∀ r : Rat, shp (.tuple [.int r.num, .int (r.den : Int)]) = true := fun r => shp_tup [r.num, (r.den : Int)]
  have h2 : (l.map fun r => PyData.tuple [.int r.num, .int (r.den : Int)]).all shp = true := by
    rw [List.all_map]
    exact List.all_eq_true.mpr fun x _ => h1 x
  simp only [fNotIn, inW, itemsOf, h, fw_D, fw_Ds, h1, h2, Bool.and_self, if_true]
  congr 2
  rw [List.any_map]
  have h3 : ∀ x : Rat, ((fun e => PyData.eqv e (.tuple [.int r.num, .int (r.den : Int)])) ∘ fun r => PyData.tuple [.int r.num, .int (r.den : Int)]) x = (x == r) := fun x => by
    simp only [Function.comp, PyData.eqv, PyData.eqvAll, Bool.and_true]
    by_cases e : x = r
    · subst e; simp
    · have h4 : (x == r) = false := by simpa using e
      rw [h4]
      by_cases e1 : x.num = r.num
      · by_cases e2 : (x.den : Int) = (r.den : Int)
        · exact absurd (Rat.ext e1 (by omega)) e
        · simp [e1, e2]
      · simp [e1]
  rw [show ((fun e => PyData.eqv e (.tuple [.int r.num, .int (r.den : Int)])) ∘ fun r => PyData.tuple [.int r.num, .int (r.den : Int)]) = (fun x => x == r) from funext h3]
  congr 1
  by_cases e : r ∈ l
  · simp [e]
  · simp only [e, decide_false]
    exact List.any_eq_false.mpr fun x hx he => e (by have : x = r := by simpa using he
                                                     exact this ▸ hx)
theorem fm_filter (P : Rat → Bool) (f : Ev.W → Option Ev.W) (h : ∀ r, f (fw r) = if P r = true then some (fw r) else none) : ∀ l : List Rat, (l.map fw).filterMap f = (l.filter P).map fw
  | [] => rfl
  | r :: l => by
    rw [List.map_cons, List.filterMap_cons, h, List.filter_cons, fm_filter P f h l]
    cases P r <;> rfl
def frac : Ev.W → Rat
  | .tup [.int a, .int b] => qv a b
  | _ => 0
theorem frac_fw (r : Rat) : frac (fw r) = r := qv_num r
def ifW (P : Rat → Bool) : Ev.W → Option Ev.W := fun w => if P (frac w) = true then some w else none
theorem ifW_fw (P : Rat → Bool) (r : Rat) : ifW P (fw r) = if P r = true then some (fw r) else none := by
  unfold ifW; rw [frac_fw]
theorem C38 (n k : Nat) (rs : List Rat) (g : G) (hk : g[k]? = some (rs.map fw)) (hr : ∀ r ∈ rs, Frs r) (hl : rs.length ≤ 100) : ∃ l g', tbl (n + 2) 38 [.ref k] g = .ok (.ref l) g' ∧ g <+: g' ∧ g'[l]? = some ((sortR rs).map fw) ∧ g.length ≤ l := by
  have hh : WR (tbl (n + 2) 38 [.ref k] g) (fun w g' => ∃ l, w = .ref l ∧ g <+: g' ∧ g'[l]? = some ((sortR rs).map fw) ∧ g.length ≤ l) := by
    rw [tbl_38]
    refine WR_callS ?_
    have hk1 : (g ++ [[]])[k]? = some (rs.map fw) := pre_lk (List.prefix_append _ _) hk
    have hcnt : cntI (.lst k) (g ++ [[]]) = rs.length := by simp only [cntI, hk1, List.length_map]
    simp only [b38, WR_ok, OW_some, BW_bl, WS_seq, WS_asgN, WS_asgT, WS_ret, WS_exp, WS_next, WS_no, WS_par, WS_sFor, WS_sif, WS_set, WR_lc, WR_var, WR_c, WR_bin, WR_un, WA_nil, WA_cons, WR_fun, WR_call, WR_and, WR_or, WR_not, WR_if, WR_chain, WR_isn, WR_isi, WR_iteT, WR_seqI, WR_enI, WR_app, WR_pop, lk, stw, stws, wipew, stn, List.map_cons, List.map_nil, List.length_cons, List.length_nil, List.cons_append, List.nil_append, List.replicate, Nat.reduceAdd, Nat.reduceSub, Nat.reduceLeDiff, Nat.reduceEqDiff, BEq.rfl, beq_self_eq_true, if_true, true_and, and_true, forall_const, Bool.false_eq_true, Bool.true_eq_false, reduceCtorEq, false_implies, true_implies, W.ref.injEq, W.int.injEq, W.tup.injEq, W.bl.injEq, List.cons.injEq, Option.some.injEq, exists_eq_left', exists_eq_left, exists_and_left, exists_eq', exists_const, fLst_nil, hcnt]
    refine WS_for rs.length (fun i s g' => g <+: g' ∧ ∃ l y, g.length ≤ l ∧ s = [some (.ref k), some (.ref l), y, none] ∧ g'[l]? = some (((rs.take i).foldl insR []).map fw)) (fun i s g' hi ⟨hp, l, y, hl1, hs, hg⟩ => ?_) (fun s g' ⟨hp, l, y, hl1, hs, hg⟩ => ?_) _ 0 _ _ (by omega) ⟨List.prefix_append _ _, g.length, _, Nat.le_refl _, rfl, by simp⟩
    · subst hs
      have hk2 := pre_lk hp hk
      have hri : rs[i]? = some rs[i] := List.getElem?_eq_getElem hi
      have hrF := hr _ (List.getElem_mem hi)
      have htk : (rs.take (i + 1)).foldl insR [] = insR ((rs.take i).foldl insR []) rs[i] := by
        rw [List.take_add_one, hri, Option.toList_some, List.foldl_append]
        rfl
      have hmem : ∀ x ∈ (rs.take i).foldl insR [], Frs x := fun x hx => by
        rw [mem_fold] at hx
        rcases hx with h | h
        · cases h
        · exact hr x (List.mem_of_mem_take h)
      rw [htk]
      generalize rs[i] = r at hri hrF
      generalize hfo : (rs.take i).foldl insR [] = fo at hg hmem
      have hfl : fo.length ≤ 1000 := by
        have h1 := fold_len (rs.take i) []
        rw [hfo, List.length_take] at h1
        simp at h1
        omega
      refine ⟨fw r, _, by simp only [itemI, hk2, at?_eq, List.getElem?_map, hri, Option.map_some], rfl, ?_⟩
      simp only [WR_ok, OW_some, BW_bl, WS_seq, WS_asgN, WS_asgT, WS_ret, WS_exp, WS_next, WS_no, WS_par, WS_sFor, WS_sif, WS_set, WR_lc, WR_var, WR_c, WR_bin, WR_un, WA_nil, WA_cons, WR_fun, WR_call, WR_and, WR_or, WR_not, WR_if, WR_chain, WR_isn, WR_isi, WR_iteT, WR_seqI, WR_enI, WR_app, WR_pop, lk, stw, stws, wipew, stn, List.map_cons, List.map_nil, List.length_cons, List.length_nil, List.cons_append, List.nil_append, List.replicate, Nat.reduceAdd, Nat.reduceSub, Nat.reduceLeDiff, Nat.reduceEqDiff, BEq.rfl, beq_self_eq_true, if_true, true_and, and_true, forall_const, Bool.false_eq_true, Bool.true_eq_false, reduceCtorEq, false_implies, true_implies, W.ref.injEq, W.int.injEq, W.tup.injEq, W.bl.injEq, List.cons.injEq, Option.some.injEq, exists_eq_left', exists_eq_left, exists_and_left, exists_eq', exists_const, notin_fw hg]
      refine ⟨fun h => ?_, fun h => ?_⟩
      · have hn : r ∉ fo := by simpa using h
        have hc1 := lc_lst (o := tbl (n + 1)) (s := [some (.ref k), some (.ref l), some (fw r), none]) (t := tName 3) (vs := [3]) (test := eCall 35 2 (aCons (eVar 3) (aCons (eVar 2) aNil))) (elt := eVar 3) hg (ifW fun s => decide (s ≤ r)) (by rw [List.length_map]; omega) (fun w hw h => by
          obtain ⟨x, hx, rfl⟩ := List.mem_map.mp hw
          refine ⟨_, rfl, ?_⟩
          have e : eCall 35 2 (aCons (eVar 3) (aCons (eVar 2) aNil)) (tbl (n + 1)) (stw (wipew [some (.ref k), some (.ref l), some (fw r), none] [3]) 3 (fw x)) h = tbl (n + 1) 35 [fw x, fw r] h := rfl
          rw [e, most_fw n x r h (hmem x hx) hrF, ifW_fw]
          by_cases hxr : x ≤ r
          · exact .inr ⟨fw x, by simp [hxr], by simp [hxr], rfl⟩
          · exact .inl ⟨by simp [hxr], by simp [hxr]⟩)
        rw [fm_filter _ _ (ifW_fw _)] at hc1
        generalize hA : fo.filter (fun s => decide (s ≤ r)) = A at hc1
        have hAl : A.length ≤ 1000 := by rw [← hA]; exact Nat.le_trans (List.length_filter_le _ _) hfl
        have h2 : ∀ h : G, fLst [fw r] h = .ok (.ref h.length) (h ++ [[fw r]]) := fun _ => rfl
        have hg2 : (g' ++ [A.map fw] ++ [[fw r]])[g'.length]? = some (A.map fw) := by rw [List.append_assoc]; exact lk_new _ _ _
        have hg3 : (g' ++ [A.map fw] ++ [[fw r]])[(g' ++ [A.map fw]).length]? = some [fw r] := lk_new _ _ _
        have h3 : fAdd (.ref g'.length) (.ref (g' ++ [A.map fw]).length) (g' ++ [A.map fw] ++ [[fw r]]) = .ok (.ref (g' ++ [A.map fw] ++ [[fw r]]).length) (g' ++ [A.map fw] ++ [[fw r]] ++ [(A ++ [r]).map fw]) := by
          have hz : szOk ((A.map fw).length + [fw r].length) = true := by
            rw [List.length_map]; exact Nat.ble_eq_true_of_le (by simp; omega)
          simp only [fAdd, hg2, hg3, hz, if_true, List.map_append, List.map_cons, List.map_nil]
        generalize hG : g' ++ [A.map fw] ++ [[fw r]] ++ [(A ++ [r]).map fw] = G4 at h3
        have hpG : g' <+: G4 := by rw [← hG]; exact pre_app (pre_app (pre_app (List.prefix_refl _) _) _) _
        have hg4 : G4[(g' ++ [A.map fw] ++ [[fw r]]).length]? = some ((A ++ [r]).map fw) := by rw [← hG]; exact lk_new _ _ _
        have hgl := pre_lk hpG hg
        have hc2 := lc_lst (o := tbl (n + 1)) (s := [some (.ref k), some (.ref l), some (fw r), none]) (t := tName 3) (vs := [3]) (test := eNot (eCall 35 2 (aCons (eVar 3) (aCons (eVar 2) aNil)))) (elt := eVar 3) hgl (ifW fun s => !decide (s ≤ r)) (by rw [List.length_map]; omega) (fun w hw h => by
          obtain ⟨x, hx, rfl⟩ := List.mem_map.mp hw
          refine ⟨_, rfl, ?_⟩
          have e : eNot (eCall 35 2 (aCons (eVar 3) (aCons (eVar 2) aNil))) (tbl (n + 1)) (stw (wipew [some (.ref k), some (.ref l), some (fw r), none] [3]) 3 (fw x)) h = (tbl (n + 1) 35 [fw x, fw r] h).bind fun x g1 => match x with
            | .bl b => .ok (.bl (!b)) g1
            | _ => .no := rfl
          rw [e, most_fw n x r h (hmem x hx) hrF, ifW_fw]
          by_cases hxr : x ≤ r
          · exact .inl ⟨by simp [hxr], by simp [hxr, R.bind]⟩
          · exact .inr ⟨fw x, by simp [hxr], by simp [hxr, R.bind], rfl⟩)
        rw [fm_filter _ _ (ifW_fw _)] at hc2
        generalize hB : fo.filter (fun s => !decide (s ≤ r)) = B at hc2
        have hBl : B.length ≤ 1000 := by rw [← hB]; exact Nat.le_trans (List.length_filter_le _ _) hfl
        have hg5 : (G4 ++ [B.map fw])[(g' ++ [A.map fw] ++ [[fw r]]).length]? = some ((A ++ [r]).map fw) := lk_pre hg4 _
        have hg6 : (G4 ++ [B.map fw])[G4.length]? = some (B.map fw) := lk_new _ _ _
        have h4 : fAdd (.ref (g' ++ [A.map fw] ++ [[fw r]]).length) (.ref G4.length) (G4 ++ [B.map fw]) = .ok (.ref (G4 ++ [B.map fw]).length) (G4 ++ [B.map fw] ++ [(A ++ [r] ++ B).map fw]) := by
          have hz : szOk (((A ++ [r]).map fw).length + (B.map fw).length) = true := by
            rw [List.length_map, List.length_map]; exact Nat.ble_eq_true_of_le (by simp; omega)
          simp only [fAdd, hg5, hg6, hz, if_true]; simp only [List.map_append]
        simp only [WR_ok, OW_some, BW_bl, WS_seq, WS_asgN, WS_asgT, WS_ret, WS_exp, WS_next, WS_no, WS_par, WS_sFor, WS_sif, WS_set, WR_lc, WR_var, WR_c, WR_bin, WR_un, WA_nil, WA_cons, WR_fun, WR_call, WR_and, WR_or, WR_not, WR_if, WR_chain, WR_isn, WR_isi, WR_iteT, WR_seqI, WR_enI, WR_app, WR_pop, lk, stw, stws, wipew, stn, List.map_cons, List.map_nil, List.length_cons, List.length_nil, List.cons_append, List.nil_append, List.replicate, Nat.reduceAdd, Nat.reduceSub, Nat.reduceLeDiff, Nat.reduceEqDiff, BEq.rfl, beq_self_eq_true, if_true, true_and, and_true, forall_const, Bool.false_eq_true, Bool.true_eq_false, reduceCtorEq, false_implies, true_implies, W.ref.injEq, W.int.injEq, W.tup.injEq, W.bl.injEq, List.cons.injEq, Option.some.injEq, exists_eq_left', exists_eq_left, exists_and_left, exists_eq', exists_const, hc1, h2, h3, hc2, h4]
        refine ⟨pre_app (pre_app (hp.trans hpG) _) _, (G4 ++ [B.map fw]).length, ?_, _, ⟨rfl, rfl⟩, ?_⟩
        · have := hp.length_le
          have := hpG.length_le
          rw [List.length_append]; omega
        · rw [lk_new, insR, if_neg hn, hA, hB]
      · have hn : r ∈ fo := by simpa using h
        refine ⟨hp, l, hl1, _, ⟨rfl, rfl⟩, ?_⟩
        unfold insR
        rw [if_pos hn, hg]
    · subst hs
      have hk2 := pre_lk hp hk
      rw [List.take_length] at hg
      refine ⟨by simp only [stopI, hk2, List.length_map]; exact ble_refl _, ?_⟩
      simp only [WR_ok, OW_some, BW_bl, WS_seq, WS_asgN, WS_asgT, WS_ret, WS_exp, WS_next, WS_no, WS_par, WS_sFor, WS_sif, WS_set, WR_lc, WR_var, WR_c, WR_bin, WR_un, WA_nil, WA_cons, WR_fun, WR_call, WR_and, WR_or, WR_not, WR_if, WR_chain, WR_isn, WR_isi, WR_iteT, WR_seqI, WR_enI, WR_app, WR_pop, lk, stw, stws, wipew, stn, List.map_cons, List.map_nil, List.length_cons, List.length_nil, List.cons_append, List.nil_append, List.replicate, Nat.reduceAdd, Nat.reduceSub, Nat.reduceLeDiff, Nat.reduceEqDiff, BEq.rfl, beq_self_eq_true, if_true, true_and, and_true, forall_const, Bool.false_eq_true, Bool.true_eq_false, reduceCtorEq, false_implies, true_implies, W.ref.injEq, W.int.injEq, W.tup.injEq, W.bl.injEq, List.cons.injEq, Option.some.injEq, exists_eq_left', exists_eq_left, exists_and_left, exists_eq', exists_const]
      exact ⟨hp, hg, hl1⟩
  obtain ⟨w, g', e, l, rfl, h⟩ := hh.out
  exact ⟨l, g', e, h⟩
end LK77

set_option Elab.async false
set_option linter.all false
set_option maxRecDepth 100000
set_option maxHeartbeats 4000000
namespace LK77
open PySem PySem.Spec PyProof.Rows L2 Ev Sm
/-! products of lines -/
structure PolI (zs : List Int) (rs : List Rat) (i : Nat) : Prop where
  tr : Tr zs
  ne : zs ≠ []
  len : zs.length = i + 1
  n1 : N1 zs ≤ 3 * 10 ^ i
  kn : Kn (eZ zs) rs
  rl : rs.length = i
  fr : ∀ r ∈ rs, Frs r ∧ r ≤ 6
structure PolF (zs : List Int) (rs : List Rat) : Prop where
  ok : Okp zs
  kn : Kn (eZ zs) rs
  asc : rs.Pairwise (· < ·)
  fr : ∀ r ∈ rs, Frs r
  rl : rs.length ≤ 4
theorem kn_ne {zs : List Int} {rs : List Rat} (k : Kn (eZ zs) rs) (h : ∀ r ∈ rs, r ≤ 6) {p : Int} (hp : 7 ≤ p) : eI zs p ≠ 0 := fun e => by
  have h1 := k.nz (p : Rat) (p : Rat) Rat.le_refl fun r hr ⟨a, _⟩ => by
    have h2 := h r hr
    have h3 : ((7 : Int) : Rat) ≤ (p : Rat) := Rat.intCast_le_intCast.mpr hp
    have h4 : ((7 : Int) : Rat) = 7 := rfl
    rw [h4] at h3
    grind
  refine h1.ne Rat.le_refl Rat.le_refl ?_
  rw [eI_eZ, e]; rfl
theorem polF_of {zs : List Int} {rs rs0 : List Rat} (ht : Tr zs) (hn : zs ≠ []) (hl : zs.length ≤ 7) (hN : N1 zs < 2 ^ 18) (k : Kn (eZ zs) rs) (h : ∀ r ∈ rs, Frs r ∧ r ≤ 6) (hr : rs.length ≤ 4) (e : rs0 = sortR rs) : PolF zs rs0 := by
  subst e
  refine ⟨okp_of ht hn hl hN [7, 8, 9, 10, 11, 12] (by decide) (by decide) fun p hp => ⟨?_, kn_ne k (fun r hr => (h r hr).2) ?_⟩, k.mem (mem_sortR rs), sortR_asc rs, fun r hr => (h r ((mem_sortR rs r).mp hr)).1, ?_⟩
  · have : ∀ p ∈ [(7 : Int), 8, 9, 10, 11, 12], p.natAbs ≤ 12 := by decide
    exact this p hp
  · have : ∀ p ∈ [(7 : Int), 8, 9, 10, 11, 12], 7 ≤ p := by decide
    exact this p hp
  · have := fold_len rs []
    simp at this
    unfold sortR
    omega
theorem le6 {r : Rat} (h : r.num.natAbs ≤ 6) : r ≤ 6 := by
  rw [Rat.le_iff]
  have h1 : (6 : Rat).num = 6 := rfl
  have h2 : (6 : Rat).den = 1 := rfl
  rw [h1, h2]
  have := r.den_pos
  omega
theorem N1_two (a b : Int) : N1 [a, b] = a.natAbs + b.natAbs := by simp [N1]
theorem N1_three (a b c : Int) : N1 [a, b, c] = a.natAbs + (b.natAbs + c.natAbs) := by simp [N1]
theorem C37 (n c m : Nat) (g : G) (hc : Cu c g) (hm : m ≤ 4) : ∃ zs l rs g', tbl (n + 5) 37 [.ref c, .int (m : Int)] g = .ok (.tup [.tup (iw zs), .ref l]) g' ∧ Kc c g g' ∧ g'[l]? = some (rs.map fw) ∧ l ≠ c ∧ PolF zs rs := by
  have hh : WR (tbl (n + 5) 37 [.ref c, .int (m : Int)] g) (fun w g' => ∃ zs l rs, w = .tup [.tup (iw zs), .ref l] ∧ Kc c g g' ∧ g'[l]? = some (rs.map fw) ∧ l ≠ c ∧ PolF zs rs) := by
    rw [tbl_37]
    refine WR_callS ?_
    have hft1 : ∀ (a : Ev.W) (h : G), fTup [a] h = .ok (.tup [a]) h := fun _ _ => rfl
    have hft2 : ∀ (a b : Ev.W) (h : G), fTup [a, b] h = .ok (.tup [a, b]) h := fun _ _ _ => rfl
    have hft3 : ∀ (a b c : Ev.W) (h : G), fTup [a, b, c] h = .ok (.tup [a, b, c]) h := fun _ _ _ _ => rfl
    have hcr : ∀ (n : Nat) (h : G), cntI (.rng 0 n) h = n := fun _ _ => rfl
    have hlc : c < g.length := by obtain ⟨_, _, h⟩ := hc; exact lk_len h
    obtain ⟨k, g1, hk0, hk3, e1, K1⟩ := roll (n + 3) c 3 g hc (by decide) (by decide)
    have hl1 := K1.len
    simp only [b37, WR_ok, OW_some, BW_bl, WS_seq, WS_asgN, WS_asgT, WS_ret, WS_exp, WS_next, WS_no, WS_par, WS_sFor, WS_sif, WS_set, WR_lc, WR_var, WR_c, WR_bin, WR_un, WA_nil, WA_cons, WR_fun, WR_call, WR_and, WR_or, WR_not, WR_if, WR_chain, WR_isn, WR_isi, WR_iteT, WR_seqI, WR_enI, WR_app, WR_pop, lk, stw, stws, wipew, stn, List.map_cons, List.map_nil, List.length_cons, List.length_nil, List.cons_append, List.nil_append, List.replicate, Nat.reduceAdd, Nat.reduceSub, Nat.reduceLeDiff, Nat.reduceEqDiff, BEq.rfl, beq_self_eq_true, if_true, true_and, and_true, forall_const, Bool.false_eq_true, Bool.true_eq_false, reduceCtorEq, false_implies, true_implies, W.ref.injEq, W.int.injEq, W.tup.injEq, W.bl.injEq, List.cons.injEq, Option.some.injEq, exists_eq_left', exists_eq_left, exists_and_left, exists_eq', exists_const, e1, fAdd_int, hft1, fLst_nil, WR_rg1, hcr]
    refine ⟨by simp only [smallI, Bool.and_eq_true, decide_eq_true_eq]; omega, ?_⟩
    refine WS_for m (fun i s g' => Kc c g g' ∧ ∃ zs l rs y4 y5, g.length ≤ l ∧ s = [some (.ref c), some (.int (m : Int)), some (.tup (iw zs)), some (.ref l), y4, y5] ∧ g'[l]? = some (rs.map fw) ∧ PolI zs rs i) (fun i s g' hi ⟨hK, zs, l, rs, y4, y5, hl, hs, hg, hP⟩ => ?_) (fun s g' ⟨hK, zs, l, rs, y4, y5, hl, hs, hg, hP⟩ => ?_) _ 0 _ _ (by omega) ⟨K1.app _, [1 + k], g1.length, [], none, none, hl1, rfl, lk_new _ _ _, ?_⟩
    · subst hs
      obtain ⟨a, g2, ha0, ha1, e2, K2⟩ := roll (n + 3) c 13 g' hK.cup (by decide) (by decide)
      obtain ⟨b, g3, hb0, hb1, e3, K3⟩ := roll (n + 3) c 4 g2 K2.cup (by decide) (by decide)
      have hlw := fun h => low_fw (n + 2) (a - 6) (1 + b) h (by omega) (by omega)
      have hqb := qv_bd (a := a - 6) (b := 1 + b) (by omega)
      have hqF : Frs (qv (a - 6) (1 + b)) := .qv (by omega) (by omega) (by omega)
      generalize hr : qv (a - 6) (1 + b) = r at hlw hqb hqF
      have hrd := r.den_pos
      have hg3 := K3.keep l (by omega) _ (K2.keep l (by omega) _ hg)
      have K4 := ((hK.trans K2).trans K3).setN (k := l) (by omega) hl (rs.map fw ++ [fw r])
      have hg4 : (g3.set l (rs.map fw ++ [fw r]))[l]? = some ((rs ++ [r]).map fw) := by rw [List.getElem?_set_self (lk_len hg3)]; simp
      generalize hG : g3.set l (rs.map fw ++ [fw r]) = g4 at K4 hg4
      have hpow : 10 ^ i ≤ 10 ^ 4 := Nat.pow_le_pow_right (by decide) (by omega)
      have hN := hP.n1
      have hN2 : N1 [-r.num, (r.den : Int)] ≤ 10 := by rw [N1_two]; omega
      obtain ⟨zs2, ee, e5, ht2, hn2, hv2, hNN, hll⟩ := C12 n zs [-r.num, (r.den : Int)] g4 hP.tr (fun c hc => by simp at hc; omega) hP.ne (by simp) (by rw [hP.len]; omega) (by simp) (by omega) (by omega)
      have e5' : tbl (n + 4) 12 [.tup (iw zs), .tup [.int (-r.num), .int (r.den : Int)]] g4 = .ok (.tup (iw zs2)) (g4 ++ ee) := e5
      have hi0 : ∀ h : G, fIx (fw r) (.int 0) h = .ok (.int r.num) h := fun _ => rfl
      have hi1 : ∀ h : G, fIx (fw r) (.int 1) h = .ok (.int (r.den : Int)) h := fun _ => rfl
      have hz : szOk ((rs.map fw).length + 1) = true := by
        rw [List.length_map, hP.rl]; exact Nat.ble_eq_true_of_le (by omega)
      refine ⟨.int (0 + (i : Nat)), _, by simp only [itemI, Int.toNat_natCast, Nat.blt_eq, hi, if_true], rfl, ?_⟩
      simp only [WR_ok, OW_some, BW_bl, WS_seq, WS_asgN, WS_asgT, WS_ret, WS_exp, WS_next, WS_no, WS_par, WS_sFor, WS_sif, WS_set, WR_lc, WR_var, WR_c, WR_bin, WR_un, WA_nil, WA_cons, WR_fun, WR_call, WR_and, WR_or, WR_not, WR_if, WR_chain, WR_isn, WR_isi, WR_iteT, WR_seqI, WR_enI, WR_app, WR_pop, lk, stw, stws, wipew, stn, List.map_cons, List.map_nil, List.length_cons, List.length_nil, List.cons_append, List.nil_append, List.replicate, Nat.reduceAdd, Nat.reduceSub, Nat.reduceLeDiff, Nat.reduceEqDiff, BEq.rfl, beq_self_eq_true, if_true, true_and, and_true, forall_const, Bool.false_eq_true, Bool.true_eq_false, reduceCtorEq, false_implies, true_implies, W.ref.injEq, W.int.injEq, W.tup.injEq, W.bl.injEq, List.cons.injEq, Option.some.injEq, exists_eq_left', exists_eq_left, exists_and_left, exists_eq', exists_const, e2, e3, fAdd_int, fSub_int, hlw]
      refine ⟨_, hg3, hz, ?_⟩
      rw [hG]
      simp only [WR_ok, OW_some, BW_bl, WS_seq, WS_asgN, WS_asgT, WS_ret, WS_exp, WS_next, WS_no, WS_par, WS_sFor, WS_sif, WS_set, WR_lc, WR_var, WR_c, WR_bin, WR_un, WA_nil, WA_cons, WR_fun, WR_call, WR_and, WR_or, WR_not, WR_if, WR_chain, WR_isn, WR_isi, WR_iteT, WR_seqI, WR_enI, WR_app, WR_pop, lk, stw, stws, wipew, stn, List.map_cons, List.map_nil, List.length_cons, List.length_nil, List.cons_append, List.nil_append, List.replicate, Nat.reduceAdd, Nat.reduceSub, Nat.reduceLeDiff, Nat.reduceEqDiff, BEq.rfl, beq_self_eq_true, if_true, true_and, and_true, forall_const, Bool.false_eq_true, Bool.true_eq_false, reduceCtorEq, false_implies, true_implies, W.ref.injEq, W.int.injEq, W.tup.injEq, W.bl.injEq, List.cons.injEq, Option.some.injEq, exists_eq_left', exists_eq_left, exists_and_left, exists_eq', exists_const, hi0, hi1, fNeg_int, hft2, e5']
      refine ⟨K4.app _, zs2, l, hl, rs ++ [r], _, _, ⟨rfl, rfl, rfl, rfl⟩, lk_pre hg4 _, ht2, hn2, ?_, ?_, (hP.kn.line (r := r) (den_pos' r)).congr fun x => ?_, by simp [hP.rl], fun s hs => ?_⟩
      · have := hP.len; simp at hll; omega
      · have h1 : N1 zs * N1 [-r.num, (r.den : Int)] ≤ (3 * 10 ^ i) * 10 := Nat.mul_le_mul hN hN2
        rw [Nat.pow_succ]; omega
      · rw [hv2, eZ_line]
      · rcases List.mem_append.mp hs with hs | hs
        · exact hP.fr s hs
        · have : s = r := by simpa using hs
          subst this
          exact ⟨hqF, le6 (by omega)⟩
    · subst hs
      refine ⟨by simp only [stopI, Int.toNat_natCast]; exact ble_refl _, ?_⟩
      obtain ⟨a, g2, ha0, ha1, e2, K2⟩ := roll (n + 3) c 2 g' hK.cup (by decide) (by decide)
      have hg2 := K2.keep l (by omega) _ hg
      have hpow : 10 ^ m ≤ 10 ^ 4 := Nat.pow_le_pow_right (by decide) hm
      have hN := hP.n1
      have hfr : ∀ r ∈ rs, Frs r := fun r hr => (hP.fr r hr).1
      simp only [WR_ok, OW_some, BW_bl, WS_seq, WS_asgN, WS_asgT, WS_ret, WS_exp, WS_next, WS_no, WS_par, WS_sFor, WS_sif, WS_set, WR_lc, WR_var, WR_c, WR_bin, WR_un, WA_nil, WA_cons, WR_fun, WR_call, WR_and, WR_or, WR_not, WR_if, WR_chain, WR_isn, WR_isi, WR_iteT, WR_seqI, WR_enI, WR_app, WR_pop, lk, stw, stws, wipew, stn, List.map_cons, List.map_nil, List.length_cons, List.length_nil, List.cons_append, List.nil_append, List.replicate, Nat.reduceAdd, Nat.reduceSub, Nat.reduceLeDiff, Nat.reduceEqDiff, BEq.rfl, beq_self_eq_true, if_true, true_and, and_true, forall_const, Bool.false_eq_true, Bool.true_eq_false, reduceCtorEq, false_implies, true_implies, W.ref.injEq, W.int.injEq, W.tup.injEq, W.bl.injEq, List.cons.injEq, Option.some.injEq, exists_eq_left', exists_eq_left, exists_and_left, exists_eq', exists_const, e2, fEq_int]
      refine ⟨fun h => ?_, fun h => ?_⟩
      · obtain ⟨b, g3, hb0, hb1, e3, K3⟩ := roll (n + 3) c 4 g2 K2.cup (by decide) (by decide)
        obtain ⟨d, g4, hd0, hd1, e4, K4⟩ := roll (n + 3) c 3 g3 K3.cup (by decide) (by decide)
        have hN2 : N1 [1 + b, d - 1, 2] ≤ 7 := by rw [N1_three]; omega
        obtain ⟨zs2, ee, e5, ht2, hn2, hv2, hNN, hll⟩ := C12 n zs [1 + b, d - 1, 2] g4 hP.tr (fun c hc => by simp at hc; omega) hP.ne (by simp) (by rw [hP.len]; omega) (by simp) (by omega) (by omega)
        have e5' : tbl (n + 4) 12 [.tup (iw zs), .tup [.int (1 + b), .int (d - 1), .int 2]] g4 = .ok (.tup (iw zs2)) (g4 ++ ee) := e5
        have hg4 := lk_pre (K4.keep l (by omega) _ (K3.keep l (by omega) _ hg2)) ee
        obtain ⟨l2, g5, e6, hp5, hg5, hl2⟩ := C38 (n + 2) l rs (g4 ++ ee) hg4 hfr (by rw [hP.rl]; omega)
        simp only [WR_ok, OW_some, BW_bl, WS_seq, WS_asgN, WS_asgT, WS_ret, WS_exp, WS_next, WS_no, WS_par, WS_sFor, WS_sif, WS_set, WR_lc, WR_var, WR_c, WR_bin, WR_un, WA_nil, WA_cons, WR_fun, WR_call, WR_and, WR_or, WR_not, WR_if, WR_chain, WR_isn, WR_isi, WR_iteT, WR_seqI, WR_enI, WR_app, WR_pop, lk, stw, stws, wipew, stn, List.map_cons, List.map_nil, List.length_cons, List.length_nil, List.cons_append, List.nil_append, List.replicate, Nat.reduceAdd, Nat.reduceSub, Nat.reduceLeDiff, Nat.reduceEqDiff, BEq.rfl, beq_self_eq_true, if_true, true_and, and_true, forall_const, Bool.false_eq_true, Bool.true_eq_false, reduceCtorEq, false_implies, true_implies, W.ref.injEq, W.int.injEq, W.tup.injEq, W.bl.injEq, List.cons.injEq, Option.some.injEq, exists_eq_left', exists_eq_left, exists_and_left, exists_eq', exists_const, e3, e4, fAdd_int, fSub_int, hft3, e5', e6, hft2]
        have hgl := K4.len
        have hgl2 := K3.len
        have hgl3 := K2.len
        have hgl4 := hK.len
        refine ⟨zs2, l2, ⟨rfl, rfl⟩, ((((hK.trans K2).trans K3).trans K4).app _).ext hp5, _, hg5, by rw [List.length_append] at hl2; omega, polF_of ht2 hn2 ?_ ?_ ((hP.kn.free (fun x y _ => quad_nz (e := 1 + b) (d := d - 1) (by omega) (by omega) (by omega) x y)).congr hv2) hP.fr (by rw [hP.rl]; omega) rfl⟩
        · have := hP.len; simp at hll; omega
        · have h1 : N1 zs * N1 [1 + b, d - 1, 2] ≤ (3 * 10 ^ m) * 7 := Nat.mul_le_mul hN hN2
          have : (2 : Nat) ^ 18 = 262144 := by decide
          omega
      · obtain ⟨l2, g5, e6, hp5, hg5, hl2⟩ := C38 (n + 2) l rs g2 hg2 hfr (by rw [hP.rl]; omega)
        simp only [WR_ok, OW_some, BW_bl, WS_seq, WS_asgN, WS_asgT, WS_ret, WS_exp, WS_next, WS_no, WS_par, WS_sFor, WS_sif, WS_set, WR_lc, WR_var, WR_c, WR_bin, WR_un, WA_nil, WA_cons, WR_fun, WR_call, WR_and, WR_or, WR_not, WR_if, WR_chain, WR_isn, WR_isi, WR_iteT, WR_seqI, WR_enI, WR_app, WR_pop, lk, stw, stws, wipew, stn, List.map_cons, List.map_nil, List.length_cons, List.length_nil, List.cons_append, List.nil_append, List.replicate, Nat.reduceAdd, Nat.reduceSub, Nat.reduceLeDiff, Nat.reduceEqDiff, BEq.rfl, beq_self_eq_true, if_true, true_and, and_true, forall_const, Bool.false_eq_true, Bool.true_eq_false, reduceCtorEq, false_implies, true_implies, W.ref.injEq, W.int.injEq, W.tup.injEq, W.bl.injEq, List.cons.injEq, Option.some.injEq, exists_eq_left', exists_eq_left, exists_and_left, exists_eq', exists_const, e6, hft2]
        have hgl3 := K2.len
        have hgl4 := hK.len
        refine ⟨zs, l2, ⟨rfl, rfl⟩, (hK.trans K2).ext hp5, _, hg5, by omega, polF_of hP.tr hP.ne (by rw [hP.len]; omega) ?_ hP.kn hP.fr (by rw [hP.rl]; omega) rfl⟩
        have : (2 : Nat) ^ 18 = 262144 := by decide
        omega
    · refine ⟨fun c hc => by simp at hc; omega, by simp, rfl, ?_, (Kn.const (c := ((1 + k : Int) : Rat)) fun h => by have := Rat.intCast_eq_zero_iff.mp h; omega).congr fun x => ?_, rfl, fun r hr => (List.not_mem_nil hr).elim⟩
      · simp [N1]; omega
      · rw [eZ_cons, eZ_nil]; grind
  obtain ⟨w, g', e, zs, l, rs, rfl, h⟩ := hh.out
  exact ⟨zs, l, rs, g', e, h⟩
end LK77

set_option Elab.async false
set_option linter.all false
set_option maxRecDepth 100000
set_option maxHeartbeats 4000000
namespace LK77
open PySem PySem.Spec PyProof.Rows L2 Ev Sm
theorem fw_gcd (r : Rat) : Int.gcd r.num (r.den : Int) = 1 := by
  have := r.reduced
  unfold Nat.Coprime at this
  rw [Int.gcd, Int.natAbs_natCast, this]
theorem betw (n : Nat) (xs : List Int) (r s : Rat) (g : G) (ok : Okp xs) (hr : Frs r) (hs : Frs s) (hle : r ≤ s) :
    ∃ (W : Rat → Int) (g' : G), tbl (n + 7) 27 [.tup (iw xs), fw r, fw s] g = .ok (.int (W r - W s)) g' ∧ g <+: g' ∧ Stu (eZ xs) W := by
  obtain ⟨rs, g', e, hp, hS⟩ := C27 n xs r.num r.den s.num s.den g ok hr.fra hs.fra (fw_gcd r) (fw_gcd s) ((Rat.le_iff r s).mp hle)
  rw [qv_num, qv_num] at e
  exact ⟨_, g', e, hp, hS⟩
def oW : Option Int → Ev.W
  | none => .non
  | some i => .int i
theorem cell (n : Nat) (xs : List Int) (grain : Int) (g : G) (ok : Okp xs) (hg1 : 1 ≤ grain) (hg2 : grain ≤ 64) :
    ∃ (o : Option Int) (W : Rat → Int) (g' : G), tbl (n + 8) 28 [.tup (iw xs), .int grain] g = .ok (oW o) g' ∧ g <+: g' ∧ CellM (eZ xs) W (grain : Rat) o := by
  obtain ⟨w, W, g', e, hp, hC⟩ := C28 n xs grain g ok hg1 hg2
  have h1 : ∀ a : Int, qv a 1 = (a : Rat) := fun a => by
    unfold qv
    have : ((1 : Int) : Rat) = 1 := rfl
    rw [this]; grind
  have h0 : qv 0 1 = 0 := by rw [h1]; rfl
  obtain ⟨far, hf, hr, hh⟩ := hC.far
  have hf' : (1 : Rat) ≤ (far : Rat) := by
    have h := Rat.intCast_le_intCast.mpr (show (1 : Int) ≤ far by omega)
    exact h
  rcases hh with ⟨rfl, h2⟩ | ⟨low, rfl, hl, h2, h3, h4⟩
  · rw [h0, h1] at h2
    exact ⟨none, W, g', e, hp, hC.stu, far, hf', hr, .inl ⟨rfl, h2⟩⟩
  · rw [h0] at h2 h3 h4
    rw [h1] at h2
    refine ⟨some low, W, g', e, hp, hC.stu, far, hf', hr, .inr ⟨low, rfl, hl, h2, h3, ?_⟩⟩
    unfold qv at h4
    rw [Rat.intCast_add] at h4
    exact h4
theorem like_o (n : Nat) (o : Option Int) (g : G) : tbl (n + 2) 32 [oW o, oW o] g = .ok (.bl true) g := by
  cases o with
  | none => exact C32n n g
  | some i =>
    show tbl (n + 2) 32 [.int i, .int i] g = _
    rw [C32i]; simp
theorem lay_fw : ∀ l : List Rat, PyData.canLayAll0 (l.map fun r => PyData.tuple [.int r.num, .int (r.den : Int)]) = true
  | [] => by simp [PyData.canLayAll0]
  | x :: l => by simp [PyData.canLayAll0, PyData.canLay0, lay_fw l]
theorem dep_fw : ∀ l : List Rat, PyData.depthAll (l.map fun r => PyData.tuple [.int r.num, .int (r.den : Int)]) ≤ 3
  | [] => by simp [PyData.depthAll]
  | x :: l => by
    have := dep_fw l
    simp [PyData.depthAll, PyData.depth]
    omega
theorem ne_nil_fw {g : G} {k m : Nat} {l : List Rat} (h : g[k]? = some (l.map fw)) (h2 : g[m]? = some []) : fNe (.ref k) (.ref m) g = .ok (.bl (!l.isEmpty)) g := by
  have h3 : toD g 16 (.ref k) = some (.list (l.map fun r => PyData.tuple [.int r.num, .int (r.den : Int)])) := by
    have h4 : mapO (toD g 15) (l.map fw) = some (l.map fun r => PyData.tuple [.int r.num, .int (r.den : Int)]) := by
      clear h
      induction l with
      | nil => rfl
      | cons r l ih =>
        have e : toD g 15 (fw r) = some (.tuple [.int r.num, .int (r.den : Int)]) := by
          have h1 := mapO_int g 14 [r.num, (r.den : Int)]
          show (mapO (toD g 14) (iw [r.num, (r.den : Int)])).map PyData.tuple = _
          rw [h1]; rfl
        simp only [List.map_cons, mapO, e, ih]
    simp only [toD, h, h4, Option.map_some]
  have h5 : toD g 16 (.ref m) = some (.list []) := by simp only [toD, h2, mapO, Option.map_some]
  have h6 : shp (.list (l.map fun r => PyData.tuple [.int r.num, .int (r.den : Int)])) = true := by
    have := dep_fw l
    simp only [shp, PyData.canLay0, lay_fw, PyData.depth, Bool.true_and]
    exact Nat.ble_eq_true_of_le (by omega)
  have h7 : shp (.list []) = true := by decide
  simp only [fNe, h3, h5, h6, h7, Bool.and_self, if_true]
  cases l <;> simp [PyData.eqv, PyData.eqvAll]
/-- some fractions -/
theorem some_fr (n c : Nat) (g : G) (hc : Cu c g) (s0 s1 s2 s3 s4 s5 s6 s7 s8 s9 s10 : Option Ev.W) (hs : s0 = some (.ref c)) : ∃ (fs : List Rat) (g' : G), lcLoop (.rng 0 3) (tName 10) [10] (eC (.bl true)) (eCall 34 2 (aCons (eBin fSub (eCall 30 2 (aCons (eVar 0) (aCons (eC (.int 41)) aNil))) (eC (.int 20))) (aCons (eBin fAdd (eC (.int 1)) (eCall 30 2 (aCons (eVar 0) (aCons (eC (.int 5)) aNil)))) aNil))) (tbl (n + 2)) [s0, s1, s2, s3, s4, s5, s6, s7, s8, s9, s10] g.length 3 0 (g ++ [[]]) = .ok (.ref g.length) g' ∧ Kc c g g' ∧ g'[g.length]? = some (fs.map fw) ∧ (∀ r ∈ fs, Frs r) ∧ fs.length = 3 := by
  have hlc : c < g.length := by obtain ⟨_, _, h⟩ := hc; exact lk_len h
  subst hs
  have h := lc_rule (o := tbl (n + 2)) (s := [some (.ref c), s1, s2, s3, s4, s5, s6, s7, s8, s9, s10]) (it := .rng 0 3) (t := tName 10) (vs := [10]) (test := eC (.bl true)) (elt := eCall 34 2 (aCons (eBin fSub (eCall 30 2 (aCons (eVar 0) (aCons (eC (.int 41)) aNil))) (eC (.int 20))) (aCons (eBin fAdd (eC (.int 1)) (eCall 30 2 (aCons (eVar 0) (aCons (eC (.int 5)) aNil)))) aNil))) (Dn := g.length) (Q := fun w g' => w = .ref g.length ∧ ∃ fs : List Rat, Kc c g g' ∧ g'[g.length]? = some (fs.map fw) ∧ (∀ r ∈ fs, Frs r) ∧ fs.length = 3)
    3 (fun i acc g' => Kc c g g' ∧ ∃ fs : List Rat, acc = fs.map fw ∧ (∀ r ∈ fs, Frs r) ∧ fs.length = i)
    (fun i acc g' hi hd ⟨hK, fs, ha, hF, hl⟩ => by
      refine ⟨.int (0 + (i : Nat)), _, by simp only [itemI, Nat.blt_eq, hi, if_true], rfl, ?_⟩
      refine (WR_c (s := stw (wipew _ [10]) 10 _) _).mpr ⟨true, rfl, hd, (fun h => Bool.noConfusion h), fun _ => ?_⟩
      obtain ⟨a, g2, ha0, ha1, e2, K2⟩ := roll (n + 1) c 41 g' hK.cup (by decide) (by decide)
      obtain ⟨b, g3, hb0, hb1, e3, K3⟩ := roll (n + 1) c 5 g2 K2.cup (by decide) (by decide)
      have hlw := fun h => low_fw n (a - 20) (1 + b) h (by omega) (by omega)
      have hqF : Frs (qv (a - 20) (1 + b)) := .qv (by omega) (by omega) (by omega)
      have hd3 := K3.keep g.length (by omega) _ (K2.keep g.length (by omega) _ hd)
      simp only [WR_ok, OW_some, BW_bl, WS_seq, WS_asgN, WS_asgT, WS_ret, WS_exp, WS_next, WS_no, WS_par, WS_sFor, WS_sif, WS_set, WR_lc, WR_var, WR_c, WR_bin, WR_un, WA_nil, WA_cons, WR_fun, WR_call, WR_and, WR_or, WR_not, WR_if, WR_chain, WR_isn, WR_isi, WR_iteT, WR_seqI, WR_enI, WR_app, WR_pop, lk, stw, stws, wipew, stn, List.map_cons, List.map_nil, List.length_cons, List.length_nil, List.cons_append, List.nil_append, List.replicate, Nat.reduceAdd, Nat.reduceSub, Nat.reduceLeDiff, Nat.reduceEqDiff, BEq.rfl, beq_self_eq_true, if_true, true_and, and_true, forall_const, Bool.false_eq_true, Bool.true_eq_false, reduceCtorEq, false_implies, true_implies, W.ref.injEq, W.int.injEq, W.tup.injEq, W.bl.injEq, List.cons.injEq, Option.some.injEq, exists_eq_left', exists_eq_left, exists_and_left, exists_eq', exists_const, e2, e3, fAdd_int, fSub_int, hlw]
      refine ⟨hd3, ?_, ((hK.trans K2).trans K3).setN (by omega) (Nat.le_refl _) _, fs ++ [qv (a - 20) (1 + b)], by rw [ha]; simp, fun r hr => ?_, by simp [hl]⟩
      · rw [ha, List.length_map]; exact Nat.ble_eq_true_of_le (by omega)
      · rcases List.mem_append.mp hr with hr | hr
        · exact hF r hr
        · have : r = qv (a - 20) (1 + b) := by simpa using hr
          rw [this]; exact hqF)
    (fun acc g' hd ⟨hK, fs, ha, hF, hl⟩ => ⟨rfl, rfl, fs, hK, by rw [hd, ha], hF, hl⟩) 3 0 [] (g ++ [[]]) rfl (lk_new _ _ []) ⟨(Kc.refl hc).app _, [], rfl, fun r hr => (List.not_mem_nil hr).elim, rfl⟩
  obtain ⟨w, g', e, rfl, fs, h⟩ := h.out
  exact ⟨fs, g', e, h⟩
end LK77

set_option Elab.async false
set_option linter.all false
set_option maxRecDepth 100000
set_option maxHeartbeats 4000000
namespace LK77
open PySem PySem.Spec PyProof.Rows L2 Ev Sm
theorem asc_nodup {rs : List Rat} (h : rs.Pairwise (· < ·)) : rs.Nodup := h.imp fun h e => by subst e; exact Rat.lt_irrefl h
theorem C39 (n c k : Nat) (zs : List Int) (rs : List Rat) (g : G) (hc : Cu c g) (hk : g[k]? = some (rs.map fw)) (hkc : k ≠ c) (P : PolF zs rs) : ∃ g', tbl (n + 9) 39 [.ref c, .tup (iw zs), .ref k] g = .ok (.bl true) g' ∧ Kc c g g' := by
  have hh : WR (tbl (n + 9) 39 [.ref c, .tup (iw zs), .ref k] g) (fun w g' => w = .bl true ∧ Kc c g g') := by
    rw [tbl_39]
    refine WR_callS ?_
    have hlc : c < g.length := by obtain ⟨_, _, h⟩ := hc; exact lk_len h
    have hrl := P.rl
    have hnd := asc_nodup P.asc
    have hcr : ∀ (n : Nat) (h : G), cntI (.rng 0 n) h = n := fun _ _ => rfl
    have h3n : Int.toNat 3 = 3 := rfl
    obtain ⟨fs, g1, e1, K1, hg1, hfs, hfl⟩ := some_fr (n + 6) c g hc (some (.ref c)) (some (.tup (iw zs))) (some (.ref k)) none none none none none none none none rfl
    have hk1 := K1.keep k hkc _ hk
    have hadd : fAdd (.ref g.length) (.ref k) g1 = .ok (.ref g1.length) (g1 ++ [(fs ++ rs).map fw]) := by
      have hz : szOk ((fs.map fw).length + (rs.map fw).length) = true := by
        rw [List.length_map, List.length_map]; exact Nat.ble_eq_true_of_le (by omega)
      simp only [fAdd, hg1, hk1, hz, if_true]
      rw [List.map_append]
    have hall : ∀ r ∈ fs ++ rs, Frs r := fun r hr => (List.mem_append.mp hr).elim (hfs r) (P.fr r)
    generalize hso : fs ++ rs = so at hadd hall
    have hsl : so.length ≤ 7 := by rw [← hso, List.length_append]; omega
    have hg2 := lk_new g1 (so.map fw) []
    have K2 := K1.app [so.map fw]
    have hk2 := lk_pre hk1 [so.map fw]
    have hsm : smallI 3 = true := by decide
    generalize hG2 : g1 ++ [so.map fw] = G2 at hadd hg2 K2 hk2
    generalize hso2 : g1.length = sp at hadd hg2
    have hcnt : ∀ h : G, G2 <+: h → cntI (.lst sp) h = so.length := fun h hp => by simp only [cntI, pre_lk hp hg2, List.length_map]
    simp only [b39, WR_ok, OW_some, BW_bl, WS_seq, WS_asgN, WS_asgT, WS_ret, WS_exp, WS_next, WS_no, WS_par, WS_sFor, WS_sif, WS_set, WR_lc, WR_var, WR_c, WR_bin, WR_un, WA_nil, WA_cons, WR_fun, WR_call, WR_and, WR_or, WR_not, WR_if, WR_chain, WR_isn, WR_isi, WR_iteT, WR_seqI, WR_enI, WR_app, WR_pop, lk, stw, stws, wipew, stn, List.map_cons, List.map_nil, List.length_cons, List.length_nil, List.cons_append, List.nil_append, List.replicate, Nat.reduceAdd, Nat.reduceSub, Nat.reduceLeDiff, Nat.reduceEqDiff, BEq.rfl, beq_self_eq_true, if_true, true_and, and_true, forall_const, Bool.false_eq_true, Bool.true_eq_false, reduceCtorEq, false_implies, true_implies, W.ref.injEq, W.int.injEq, W.tup.injEq, W.bl.injEq, List.cons.injEq, Option.some.injEq, exists_eq_left', exists_eq_left, exists_and_left, exists_eq', exists_const, WR_rg1, hcr, h3n, hsm, e1, hadd, hcnt G2 (List.prefix_refl _)]
    refine WS_for so.length (fun i s g' => G2 <+: g' ∧ ∃ y4 y5 y6, s = [some (.ref c), some (.tup (iw zs)), some (.ref k), some (.ref sp), y4, y5, y6, none, none, none, none]) (fun i s g' hi ⟨hp, y4, y5, y6, hs⟩ => ?_) (fun s g' ⟨hp, y4, y5, y6, hs⟩ => ?_) _ 0 _ _ (by omega) ⟨List.prefix_refl _, none, none, none, rfl⟩
    · subst hs
      have hri : so[i]? = some so[i] := List.getElem?_eq_getElem hi
      have hlF := hall _ (List.getElem_mem hi)
      generalize so[i] = low at hri hlF
      refine ⟨fw low, _, by simp only [itemI, pre_lk hp hg2, at?_eq, List.getElem?_map, hri, Option.map_some], rfl, ?_⟩
      simp only [WR_ok, OW_some, BW_bl, WS_seq, WS_asgN, WS_asgT, WS_ret, WS_exp, WS_next, WS_no, WS_par, WS_sFor, WS_sif, WS_set, WR_lc, WR_var, WR_c, WR_bin, WR_un, WA_nil, WA_cons, WR_fun, WR_call, WR_and, WR_or, WR_not, WR_if, WR_chain, WR_isn, WR_isi, WR_iteT, WR_seqI, WR_enI, WR_app, WR_pop, lk, stw, stws, wipew, stn, List.map_cons, List.map_nil, List.length_cons, List.length_nil, List.cons_append, List.nil_append, List.replicate, Nat.reduceAdd, Nat.reduceSub, Nat.reduceLeDiff, Nat.reduceEqDiff, BEq.rfl, beq_self_eq_true, if_true, true_and, and_true, forall_const, Bool.false_eq_true, Bool.true_eq_false, reduceCtorEq, false_implies, true_implies, W.ref.injEq, W.int.injEq, W.tup.injEq, W.bl.injEq, List.cons.injEq, Option.some.injEq, exists_eq_left', exists_eq_left, exists_and_left, exists_eq', exists_const, hcnt g' hp]
      refine WS_for so.length (fun i s g' => G2 <+: g' ∧ ∃ y5 y6, s = [some (.ref c), some (.tup (iw zs)), some (.ref k), some (.ref sp), some (fw low), y5, y6, none, none, none, none]) (fun i s g' hi ⟨hp, y5, y6, hs⟩ => ?_) (fun s g' ⟨hp, y5, y6, hs⟩ => ?_) _ 0 _ _ (by omega) ⟨hp, y5, y6, rfl⟩
      · subst hs
        have hri2 : so[i]? = some so[i] := List.getElem?_eq_getElem hi
        have hhF := hall _ (List.getElem_mem hi)
        generalize so[i] = high at hri2 hhF
        refine ⟨fw high, _, by simp only [itemI, pre_lk hp hg2, at?_eq, List.getElem?_map, hri2, Option.map_some], rfl, ?_⟩
        simp only [WR_ok, OW_some, BW_bl, WS_seq, WS_asgN, WS_asgT, WS_ret, WS_exp, WS_next, WS_no, WS_par, WS_sFor, WS_sif, WS_set, WR_lc, WR_var, WR_c, WR_bin, WR_un, WA_nil, WA_cons, WR_fun, WR_call, WR_and, WR_or, WR_not, WR_if, WR_chain, WR_isn, WR_isi, WR_iteT, WR_seqI, WR_enI, WR_app, WR_pop, lk, stw, stws, wipew, stn, List.map_cons, List.map_nil, List.length_cons, List.length_nil, List.cons_append, List.nil_append, List.replicate, Nat.reduceAdd, Nat.reduceSub, Nat.reduceLeDiff, Nat.reduceEqDiff, BEq.rfl, beq_self_eq_true, if_true, true_and, and_true, forall_const, Bool.false_eq_true, Bool.true_eq_false, reduceCtorEq, false_implies, true_implies, W.ref.injEq, W.int.injEq, W.tup.injEq, W.bl.injEq, List.cons.injEq, Option.some.injEq, exists_eq_left', exists_eq_left, exists_and_left, exists_eq', exists_const, most_fw (n + 7) low high _ hlF hhF]
        refine ⟨fun h => ?_, fun h => hp⟩
        have hle : low ≤ high := of_decide_eq_true h
        have hkg := pre_lk hp hk2
        have hcomp := lc_lst (o := tbl (n + 8)) (s := [some (.ref c), some (.tup (iw zs)), some (.ref k), some (.ref sp), some (fw low), some (fw high), y6, none, none, none, none]) (t := tName 9) (vs := [9]) (test := eAnd (eNot (eCall 35 2 (aCons (eVar 9) (aCons (eVar 4) aNil)))) (eCall 35 2 (aCons (eVar 9) (aCons (eVar 5) aNil)))) (elt := eVar 9) hkg (ifW (Sm.inR low high)) (by rw [List.length_map]; omega) (fun w hw h => by
          obtain ⟨x, hx, rfl⟩ := List.mem_map.mp hw
          refine ⟨_, rfl, ?_⟩
          have hxF := P.fr x hx
          have e : eAnd (eNot (eCall 35 2 (aCons (eVar 9) (aCons (eVar 4) aNil)))) (eCall 35 2 (aCons (eVar 9) (aCons (eVar 5) aNil))) (tbl (n + 8)) (stw (wipew [some (.ref c), some (.tup (iw zs)), some (.ref k), some (.ref sp), some (fw low), some (fw high), y6, none, none, none, none] [9]) 9 (fw x)) h = .ok (.bl (Sm.inR low high x)) h := by
            have hw : WR (eAnd (eNot (eCall 35 2 (aCons (eVar 9) (aCons (eVar 4) aNil)))) (eCall 35 2 (aCons (eVar 9) (aCons (eVar 5) aNil))) (tbl (n + 8)) (stw (wipew [some (.ref c), some (.tup (iw zs)), some (.ref k), some (.ref sp), some (fw low), some (fw high), y6, none, none, none, none] [9]) 9 (fw x)) h) (fun w g' => w = .bl (Sm.inR low high x) ∧ g' = h) := by
              simp only [WR_ok, OW_some, BW_bl, WS_seq, WS_asgN, WS_asgT, WS_ret, WS_exp, WS_next, WS_no, WS_par, WS_sFor, WS_sif, WS_set, WR_lc, WR_var, WR_c, WR_bin, WR_un, WA_nil, WA_cons, WR_fun, WR_call, WR_and, WR_or, WR_not, WR_if, WR_chain, WR_isn, WR_isi, WR_iteT, WR_seqI, WR_enI, WR_app, WR_pop, lk, stw, stws, wipew, stn, List.map_cons, List.map_nil, List.length_cons, List.length_nil, List.cons_append, List.nil_append, List.replicate, Nat.reduceAdd, Nat.reduceSub, Nat.reduceLeDiff, Nat.reduceEqDiff, BEq.rfl, beq_self_eq_true, if_true, true_and, and_true, forall_const, Bool.false_eq_true, Bool.true_eq_false, reduceCtorEq, false_implies, true_implies, W.ref.injEq, W.int.injEq, W.tup.injEq, W.bl.injEq, List.cons.injEq, Option.some.injEq, exists_eq_left', exists_eq_left, exists_and_left, exists_eq', exists_const, most_fw (n + 7) x low _ hxF hlF, most_fw (n + 7) x high _ hxF hhF, Sm.inR]
              have hxl : x ≤ low ↔ ¬ low < x := by rw [Rat.not_lt]
              by_cases h1 : low < x <;> simp [hxl, h1]
            obtain ⟨w, g', e, rfl, rfl⟩ := hw.out
            exact e
          rw [e, ifW_fw]
          cases Sm.inR low high x with
          | true => exact .inr ⟨fw x, rfl, rfl, rfl⟩
          | false => exact .inl ⟨rfl, rfl⟩)
        rw [fm_filter _ _ (ifW_fw _)] at hcomp
        obtain ⟨Wf, g3, e3, hp3, hS⟩ := betw (n + 1) zs low high (g' ++ [(rs.filter (Sm.inR low high)).map fw]) P.ok hlF hhF hle
        rw [hS.kn P.kn hnd hle] at e3
        have hln : fLen [.ref g'.length] (g' ++ [(rs.filter (Sm.inR low high)).map fw]) = .ok (.int ((rs.filter (Sm.inR low high)).length : Int)) (g' ++ [(rs.filter (Sm.inR low high)).map fw]) := by
          rw [fLen_ref (lk_new _ _ []), List.length_map]
        simp only [WR_ok, OW_some, BW_bl, WS_seq, WS_asgN, WS_asgT, WS_ret, WS_exp, WS_next, WS_no, WS_par, WS_sFor, WS_sif, WS_set, WR_lc, WR_var, WR_c, WR_bin, WR_un, WA_nil, WA_cons, WR_fun, WR_call, WR_and, WR_or, WR_not, WR_if, WR_chain, WR_isn, WR_isi, WR_iteT, WR_seqI, WR_enI, WR_app, WR_pop, lk, stw, stws, wipew, stn, List.map_cons, List.map_nil, List.length_cons, List.length_nil, List.cons_append, List.nil_append, List.replicate, Nat.reduceAdd, Nat.reduceSub, Nat.reduceLeDiff, Nat.reduceEqDiff, BEq.rfl, beq_self_eq_true, if_true, true_and, and_true, forall_const, Bool.false_eq_true, Bool.true_eq_false, reduceCtorEq, false_implies, true_implies, W.ref.injEq, W.int.injEq, W.tup.injEq, W.bl.injEq, List.cons.injEq, Option.some.injEq, exists_eq_left', exists_eq_left, exists_and_left, exists_eq', exists_const, hcomp, hln, e3, C32i, Bool.not_true]
        exact (pre_app hp _).trans hp3
      · subst hs
        exact ⟨by simp only [stopI, pre_lk hp hg2, List.length_map]; exact ble_refl _, hp, _, _, _, rfl⟩
    · subst hs
      refine ⟨by simp only [stopI, pre_lk hp hg2, List.length_map]; exact ble_refl _, ?_⟩
      have K3 := K2.ext hp
      have hk3 := pre_lk hp hk2
      obtain ⟨gr, g4, hr0, hr1, e4, K4⟩ := roll (n + 7) c 64 g' K3.cup (by decide) (by decide)
      have hk4 := K4.keep k hkc _ hk3
      have hi0 : ∀ (r : Rat) (h : G), fIx (fw r) (.int 0) h = .ok (.int r.num) h := fun _ _ => rfl
      have hi1 : ∀ (r : Rat) (h : G), fIx (fw r) (.int 1) h = .ok (.int (r.den : Int)) h := fun _ _ => rfl
      have hcomp := lc_lst (o := tbl (n + 8)) (s := [some (.ref c), some (.tup (iw zs)), some (.ref k), some (.ref sp), y4, y5, y6, some (.int (1 + gr)), none, none, none]) (t := tName 9) (vs := [9]) (test := eBin fGt (eBin fIx (eVar 9) (eC (.int 0))) (eC (.int 0))) (elt := eVar 9) hk4 (ifW fun r => decide (0 < r.num)) (by rw [List.length_map]; omega) (fun w hw h => by
        obtain ⟨x, hx, rfl⟩ := List.mem_map.mp hw
        refine ⟨_, rfl, ?_⟩
        have e : eBin fGt (eBin fIx (eVar 9) (eC (.int 0))) (eC (.int 0)) (tbl (n + 8)) (stw (wipew [some (.ref c), some (.tup (iw zs)), some (.ref k), some (.ref sp), y4, y5, y6, some (.int (1 + gr)), none, none, none] [9]) 9 (fw x)) h = .ok (.bl (decide (0 < x.num))) h := rfl
        rw [e, ifW_fw]
        cases decide (0 < x.num) with
        | true => exact .inr ⟨fw x, rfl, rfl, rfl⟩
        | false => exact .inl ⟨rfl, rfl⟩)
      rw [fm_filter _ _ (ifW_fw _)] at hcomp
      have hasc := P.asc.filter (fun r => decide (0 < r.num))
      have hmem : ∀ r, r ∈ rs.filter (fun r => decide (0 < r.num)) ↔ r ∈ rs ∧ 0 < r := fun r => by
        rw [List.mem_filter]
        have h1 : 0 < r.num ↔ 0 < r := by
          rw [Rat.lt_iff]
          have e1 : (0 : Rat).num = 0 := rfl
          have e2 : (0 : Rat).den = 1 := rfl
          rw [e1, e2]; simp
        simp [h1]
      generalize hA : rs.filter (fun r => decide (0 < r.num)) = A at hcomp hasc hmem
      have h5 : (g4 ++ [A.map fw] ++ [[]])[g4.length]? = some (A.map fw) := by rw [List.append_assoc]; exact lk_new _ _ _
      have h6 : (g4 ++ [A.map fw] ++ [[]])[(g4 ++ [A.map fw]).length]? = some [] := lk_new _ _ _
      have hne := ne_nil_fw h5 h6
      obtain ⟨o, Wf, g5, e5, hp5, hC⟩ := cell n zs (1 + gr) (g4 ++ [A.map fw] ++ [[]]) P.ok (by omega) (by omega)
      have hK5 : Kc c g g5 := (((K3.trans K4).app _).app _).ext hp5
      simp only [WR_ok, OW_some, BW_bl, WS_seq, WS_asgN, WS_asgT, WS_ret, WS_exp, WS_next, WS_no, WS_par, WS_sFor, WS_sif, WS_set, WR_lc, WR_var, WR_c, WR_bin, WR_un, WA_nil, WA_cons, WR_fun, WR_call, WR_and, WR_or, WR_not, WR_if, WR_chain, WR_isn, WR_isi, WR_iteT, WR_seqI, WR_enI, WR_app, WR_pop, lk, stw, stws, wipew, stn, List.map_cons, List.map_nil, List.length_cons, List.length_nil, List.cons_append, List.nil_append, List.replicate, Nat.reduceAdd, Nat.reduceSub, Nat.reduceLeDiff, Nat.reduceEqDiff, BEq.rfl, beq_self_eq_true, if_true, true_and, and_true, forall_const, Bool.false_eq_true, Bool.true_eq_false, reduceCtorEq, false_implies, true_implies, W.ref.injEq, W.int.injEq, W.tup.injEq, W.bl.injEq, List.cons.injEq, Option.some.injEq, exists_eq_left', exists_eq_left, exists_and_left, exists_eq', exists_const, e4, fAdd_int, hcomp, fLst_nil, hne]
      refine ⟨fun h => ?_, fun h => ?_⟩
      · obtain ⟨r0, A', hAA⟩ : ∃ r0 A', A = r0 :: A' := by
          cases A with
          | nil => simp at h
          | cons a l => exact ⟨a, l, rfl⟩
        have ha0 : atI (A.map fw) 0 = some (fw r0) := by
          rw [hAA]
          have e : ixN ((r0 :: A').map fw).length 0 = some 0 := ixN_nat (i := 0) (by simp)
          simp only [atI, e, Option.bind_some]
          rfl
        obtain ⟨hr0m, hr0p⟩ := (hmem r0).mp (by rw [hAA]; simp)
        have hgp : (0 : Rat) < ((1 + gr : Int) : Rat) := Rat.intCast_pos.mpr (by omega)
        obtain ⟨low, ho, hl1, hl2⟩ := hC.least P.kn hnd hgp hr0m hr0p fun r hr hp => by
          have h1 := (hmem r).mpr ⟨hr, hp⟩
          rw [hAA] at h1 hasc
          rcases List.mem_cons.mp h1 with rfl | h1
          · exact Rat.le_refl
          · exact Rat.le_of_lt (List.rel_of_pairwise_cons hasc h1)
        have hdue := cell_num hl1 hl2
        have hF0 := P.fr r0 hr0m
        have hd0 : (0 : Int) < (r0.den : Int) := by have := r0.den_pos; omega
        have hd1 : (r0.den : Int) < 2 ^ 62 := by have := hF0.den; omega
        have hm : mulOk (-r0.num) (1 + gr) = true := mokR (by omega)
        subst ho
        have hlk := like_o (n + 6) (some low) g5
        simp only [oW] at hlk e5
        simp only [WR_ok, OW_some, BW_bl, WS_seq, WS_asgN, WS_asgT, WS_ret, WS_exp, WS_next, WS_no, WS_par, WS_sFor, WS_sif, WS_set, WR_lc, WR_var, WR_c, WR_bin, WR_un, WA_nil, WA_cons, WR_fun, WR_call, WR_and, WR_or, WR_not, WR_if, WR_chain, WR_isn, WR_isi, WR_iteT, WR_seqI, WR_enI, WR_app, WR_pop, lk, stw, stws, wipew, stn, List.map_cons, List.map_nil, List.length_cons, List.length_nil, List.cons_append, List.nil_append, List.replicate, Nat.reduceAdd, Nat.reduceSub, Nat.reduceLeDiff, Nat.reduceEqDiff, BEq.rfl, beq_self_eq_true, if_true, true_and, and_true, forall_const, Bool.false_eq_true, Bool.true_eq_false, reduceCtorEq, false_implies, true_implies, W.ref.injEq, W.int.injEq, W.tup.injEq, W.bl.injEq, List.cons.injEq, Option.some.injEq, exists_eq_left', exists_eq_left, exists_and_left, exists_eq', exists_const, fIx_ref h5 ha0, hi0, hi1, fNeg_int, fMul_int hm, fDiv_small hd0 hd1, fSub_int, hdue, e5, hlk]
        exact hK5
      · have hnil : A = [] := by
          cases A with
          | nil => rfl
          | cons a l => simp at h
        have ho := hC.none_pos P.kn hnd fun r hr => by
          refine Rat.not_lt.mp fun hp => ?_
          have := (hmem r).mpr ⟨hr, hp⟩
          rw [hnil] at this
          simp at this
        subst ho
        have hlk := like_o (n + 6) none g5
        simp only [oW] at hlk e5
        simp only [WR_ok, OW_some, BW_bl, WS_seq, WS_asgN, WS_asgT, WS_ret, WS_exp, WS_next, WS_no, WS_par, WS_sFor, WS_sif, WS_set, WR_lc, WR_var, WR_c, WR_bin, WR_un, WA_nil, WA_cons, WR_fun, WR_call, WR_and, WR_or, WR_not, WR_if, WR_chain, WR_isn, WR_isi, WR_iteT, WR_seqI, WR_enI, WR_app, WR_pop, lk, stw, stws, wipew, stn, List.map_cons, List.map_nil, List.length_cons, List.length_nil, List.cons_append, List.nil_append, List.replicate, Nat.reduceAdd, Nat.reduceSub, Nat.reduceLeDiff, Nat.reduceEqDiff, BEq.rfl, beq_self_eq_true, if_true, true_and, and_true, forall_const, Bool.false_eq_true, Bool.true_eq_false, reduceCtorEq, false_implies, true_implies, W.ref.injEq, W.int.injEq, W.tup.injEq, W.bl.injEq, List.cons.injEq, Option.some.injEq, exists_eq_left', exists_eq_left, exists_and_left, exists_eq', exists_const, e5, hlk]
        exact hK5
  obtain ⟨w, g', e, rfl, h⟩ := hh.out
  exact ⟨g', e, h⟩
end LK77

set_option Elab.async false
set_option linter.all false
set_option maxRecDepth 100000
set_option maxHeartbeats 4000000
namespace LK77
open PySem PySem.Spec PyProof.Rows L2 Ev Sm
theorem WR_zp {o : Orc} {s : Sg} {g : G} {Q : Itr → G → Prop} (a : CA) : WR (iZp a o s g) Q = WR (a o s g) fun xs g1 => (∃ n m, xs = [.ref n, .ref m] ∧ Q (.zll n m) g1) ∨ (∃ ws us, xs = [.tup ws, .tup us] ∧ Q (.zff ws us) g1) := by
  unfold iZp
  rw [WR_bind]
  congr 1
  funext xs g1
  refine propext ⟨fun h => ?_, fun h => ?_⟩
  · split at h
    · exact .inl ⟨_, _, rfl, h⟩
    · exact .inr ⟨_, _, rfl, h⟩
    · exact h.elim
  · rcases h with ⟨n, m, e, h⟩ | ⟨ws, us, e, h⟩
    · subst e; exact h
    · subst e; exact h
theorem WR_rg2 {o : Orc} {s : Sg} {g : G} {Q : Itr → G → Prop} (a : CA) : WR (iRg2 a o s g) Q = WR (a o s g) fun xs g1 => ∃ i j, xs = [.int i, .int j] ∧ (smallI i && smallI j) = true ∧ Q (.rng i (j - i).toNat) g1 := by
  unfold iRg2
  rw [WR_bind]
  congr 1
  funext xs g1
  refine propext ⟨fun h => ?_, fun ⟨i, j, e, h1, h⟩ => ?_⟩
  · split at h
    · split at h
      · exact ⟨_, _, rfl, by assumption, h⟩
      · exact h.elim
    · exact h.elim
  · subst e
    simp only [h1, if_true]
    exact h
/-- alike lists -/
theorem C32l (n i j : Nat) (os : List (Option Int)) (g : G) (hi : g[i]? = some (os.map oW)) (hj : g[j]? = some (os.map oW)) (hl : os.length ≤ 1000) : ∃ e, tbl (n + 3) 32 [.ref i, .ref j] g = .ok (.bl true) (g ++ e) := by
  have hh : WR (tbl (n + 3) 32 [.ref i, .ref j] g) (fun w g' => w = .bl true ∧ ∃ e, g' = g ++ e) := by
    rw [tbl_32]
    refine WR_callS ?_
    have hin : ∀ g, fIn (.int 5) (.tup [.int 4, .int 5]) g = .ok (.bl true) g := fun g => by
      have h1 := mapO_int g 16 [4, 5]
      simp only [iw, List.map_cons, List.map_nil] at h1
      have h2 : toD g 16 (.int 5) = some (.int 5) := rfl
      simp only [fIn, inW, itemsOf, h1, h2]
      have h3 : (shp (.int 5) && [PyData.int 4, PyData.int 5].all shp) = true := by decide
      simp only [h3, if_true]
      rfl
    have hft : ∀ (a b : Ev.W) (h : G), fTup [a, b] h = .ok (.tup [a, b]) h := fun _ _ _ => rfl
    have hc := lc_pure (o := tbl (n + 2)) (s := [some (.ref i), some (.ref j), some (.int 5), none, none]) (g := g) (it := .zll i j) (t := tTups [3, 4]) (vs := [3, 4]) (test := eNot (eCall 32 2 (aCons (eVar 3) (aCons (eVar 4) aNil)))) (elt := eC (.int 1)) (os.map fun _ => none) (by simp; omega) (by simp [cntI, hi, hj]) (fun acc => by
      have h1 := lk_pre hi [acc]
      have h2 := lk_pre hj [acc]
      simp only [stopI, h1, h2, List.length_map]
      rw [ble_refl]; rfl) (fun k z acc hz => by
      rw [List.getElem?_map] at hz
      cases e : os[k]? with
      | none => rw [e] at hz; cases hz
      | some x =>
        rw [e] at hz
        cases hz
        have h1 := lk_pre hi [acc]
        have h2 := lk_pre hj [acc]
        refine ⟨.tup [oW x, oW x], _, by simp only [itemI, h1, h2, at?_eq, List.getElem?_map, e, Option.map_some], rfl, .inl ⟨rfl, ?_⟩⟩
        have e2 : eNot (eCall 32 2 (aCons (eVar 3) (aCons (eVar 4) aNil))) (tbl (n + 2)) (stws (wipew [some (.ref i), some (.ref j), some (.int 5), none, none] [3, 4]) [3, 4] [oW x, oW x]) (g ++ [acc]) = (tbl (n + 2) 32 [oW x, oW x] (g ++ [acc])).bind fun x g1 => match x with
            | .bl b => .ok (.bl (!b)) g1
            | _ => .no := rfl
        rw [e2, like_o]; rfl)
    have hfm : (os.map fun _ => (none : Option Ev.W)).filterMap id = [] := by
      rw [List.filterMap_map]
      exact List.filterMap_eq_nil_iff.mpr fun _ _ => rfl
    rw [hfm] at hc
    have h5 : (g ++ [[]] ++ [[]])[g.length]? = some [] := by rw [List.append_assoc]; exact lk_new _ _ _
    have h6 : (g ++ [[]] ++ [[]])[(g ++ [[]]).length]? = some [] := lk_new _ _ _
    have heq : fEq (.ref g.length) (.ref (g ++ [[]]).length) (g ++ [[]] ++ [[]]) = .ok (.bl true) (g ++ [[]] ++ [[]]) := by
      have h7 : toD (g ++ [[]] ++ [[]]) 16 (.ref g.length) = some (.list []) := by simp only [toD, h5, mapO, Option.map_some]
      have h8 : toD (g ++ [[]] ++ [[]]) 16 (.ref (g ++ [[]]).length) = some (.list []) := by simp only [toD, h6, mapO, Option.map_some]
      have h9 : shp (.list []) = true := by decide
      simp only [fEq, h7, h8, h9, Bool.and_self, if_true]
      rfl
    simp only [b32, WR_ok, OW_some, BW_bl, WS_seq, WS_asgN, WS_asgT, WS_ret, WS_exp, WS_next, WS_no, WS_par, WS_sFor, WS_sif, WS_set, WR_lc, WR_var, WR_c, WR_bin, WR_un, WA_nil, WA_cons, WR_fun, WR_call, WR_and, WR_or, WR_not, WR_if, WR_chain, WR_isn, WR_isi, WR_iteT, WR_seqI, WR_enI, WR_app, WR_pop, lk, stw, stws, wipew, stn, List.map_cons, List.map_nil, List.length_cons, List.length_nil, List.cons_append, List.nil_append, List.replicate, Nat.reduceAdd, Nat.reduceSub, Nat.reduceLeDiff, Nat.reduceEqDiff, BEq.rfl, beq_self_eq_true, if_true, true_and, and_true, forall_const, Bool.false_eq_true, Bool.true_eq_false, reduceCtorEq, false_implies, true_implies, W.ref.injEq, W.int.injEq, W.tup.injEq, W.bl.injEq, List.cons.injEq, Option.some.injEq, exists_eq_left', exists_eq_left, exists_and_left, exists_eq', exists_const, C31r, fNe_int, fEq_int, hft, hin, fLen_ref hi, fLen_ref hj, WR_zp, false_and, exists_false, or_false, hc, fLst_nil, heq, Bool.not_true]
    refine ⟨by decide, fun _ => ⟨i, j, ⟨rfl, rfl⟩, ?_⟩⟩
    rw [hc]
    simp only [WR_ok, OW_some, BW_bl, WS_seq, WS_asgN, WS_asgT, WS_ret, WS_exp, WS_next, WS_no, WS_par, WS_sFor, WS_sif, WS_set, WR_lc, WR_var, WR_c, WR_bin, WR_un, WA_nil, WA_cons, WR_fun, WR_call, WR_and, WR_or, WR_not, WR_if, WR_chain, WR_isn, WR_isi, WR_iteT, WR_seqI, WR_enI, WR_app, WR_pop, lk, stw, stws, wipew, stn, List.map_cons, List.map_nil, List.length_cons, List.length_nil, List.cons_append, List.nil_append, List.replicate, Nat.reduceAdd, Nat.reduceSub, Nat.reduceLeDiff, Nat.reduceEqDiff, BEq.rfl, beq_self_eq_true, if_true, true_and, and_true, forall_const, Bool.false_eq_true, Bool.true_eq_false, reduceCtorEq, false_implies, true_implies, W.ref.injEq, W.int.injEq, W.tup.injEq, W.bl.injEq, List.cons.injEq, Option.some.injEq, exists_eq_left', exists_eq_left, exists_and_left, exists_eq', exists_const, heq]
    exact ⟨_, by simp only [List.append_assoc]; rfl⟩
  obtain ⟨w, g', e, rfl, e', rfl⟩ := hh.out
  exact ⟨e', e⟩
theorem ne_tup (a b : Int) (g : G) : fNe (.tup [.int a, .int 1]) (.tup [.int b, .int 1]) g = .ok (.bl (!(a == b))) g := by
  have h1 : ∀ a, toD g 16 (.tup [.int a, .int 1]) = some (.tuple [.int a, .int 1]) := fun a => toD_tup g [a, 1]
  have h2 : ∀ a, shp (.tuple [.int a, .int 1]) = true := fun a => shp_tup [a, 1]
  simp only [fNe, h1, h2, Bool.and_self, if_true]
  simp [PyData.eqv, PyData.eqvAll]
/-! turned about -/
def altF : Nat → List Int → List Int
  | _, [] => []
  | k, a :: as => (if k % 2 = 0 then a else -a) :: altF (k + 1) as
theorem altF_len : ∀ (k : Nat) (as : List Int), (altF k as).length = as.length
  | _, [] => rfl
  | k, _ :: as => by simp only [altF, List.length_cons, altF_len (k + 1) as]
theorem altF_get : ∀ (k : Nat) (as : List Int) (i : Nat), (altF k as)[i]? = (as[i]?).map fun a => if (k + i) % 2 = 0 then a else -a
  | _, [], i => by simp [altF]
  | k, a :: as, 0 => by simp [altF]
  | k, a :: as, i + 1 => by
    simp only [altF, List.getElem?_cons_succ, altF_get (k + 1) as i]
    have : k + 1 + i = k + (i + 1) := by omega
    rw [this]
theorem altF_ev (x : Rat) : ∀ (k : Nat) (as : List Int), eZ (altF k as) x = (if k % 2 = 0 then (1 : Rat) else -1) * eZ as (-x)
  | _, [] => by simp only [altF, eZ_nil]; grind
  | k, a :: as => by
    have ih := altF_ev x (k + 1) as
    simp only [altF, eZ_cons, ih]
    by_cases h : k % 2 = 0
    · have h2 : ¬ (k + 1) % 2 = 0 := by omega
      rw [if_pos h, if_pos h, if_neg h2]; grind
    · have h2 : (k + 1) % 2 = 0 := by omega
      rw [if_neg h, if_neg h, if_pos h2, Rat.intCast_neg]; grind
theorem altF_N1 : ∀ (k : Nat) (as : List Int), N1 (altF k as) = N1 as
  | _, [] => rfl
  | k, a :: as => by
    simp only [altF, N1, altF_N1 (k + 1) as]
    split <;> omega
theorem altF_mem {k : Nat} {as : List Int} {y : Int} (h : y ∈ altF k as) : ∃ a ∈ as, y = a ∨ y = -a := by
  obtain ⟨i, hi⟩ := List.mem_iff_getElem?.mp h
  rw [altF_get] at hi
  cases e : as[i]? with
  | none => rw [e] at hi; cases hi
  | some a =>
    rw [e] at hi
    simp at hi
    refine ⟨a, List.mem_of_getElem? e, ?_⟩
    split at hi
    · exact .inl hi.symm
    · exact .inr hi.symm
theorem altF_tr {as : List Int} (h : Tr as) : Tr (altF 0 as) := fun y hy => by
  rw [List.getLast?_eq_getElem?, altF_get, altF_len, ← List.getLast?_eq_getElem?] at hy
  cases e : as.getLast? with
  | none => rw [e] at hy; cases hy
  | some a =>
    rw [e] at hy
    have h1 := h a e
    simp at hy
    split at hy <;> omega
/-- polynomials of the second sort -/
structure PolS (xs : List Int) : Prop where
  tr : Tr xs
  ne : xs ≠ []
  len : xs.length ≤ 6
  n1 : N1 xs < 2 ^ 5
  bd : ∀ a ∈ xs, -4 ≤ a ∧ a ≤ 4
theorem PolS.far {xs : List Int} (P : PolS xs) {p : Int} (hp : 6 ≤ p) : eZ xs (p : Rat) ≠ 0 := fun h => by
  have h1 := far_off xs P.ne 4 (by decide) P.tr (fun a ha => P.bd a ha) (p : Rat) (Rat.intCast_le_intCast.mpr hp)
  rw [h] at h1
  rcases h1 with h1 | h1 <;> grind
theorem PolS.pts {xs : List Int} (P : PolS xs) : ∀ p ∈ [(6 : Int), 7, 8, 9, 10, 11], p.natAbs ≤ 12 ∧ eI xs p ≠ 0 := fun p hp => by
  have h1 : ∀ p ∈ [(6 : Int), 7, 8, 9, 10, 11], p.natAbs ≤ 12 ∧ 6 ≤ p := by decide
  refine ⟨(h1 p hp).1, fun h => P.far (h1 p hp).2 ?_⟩
  rw [eI_eZ, h]; rfl
theorem PolS.ok {xs : List Int} (P : PolS xs) : Okp xs :=
  okp_of P.tr P.ne (by have := P.len; omega) (Nat.lt_trans P.n1 (by decide)) _ (by decide) (by decide) P.pts
theorem PolS.turned {xs : List Int} (P : PolS xs) : PolS (altF 0 xs) := by
  refine ⟨altF_tr P.tr, fun h => P.ne ?_, by rw [altF_len]; exact P.len, by rw [altF_N1]; exact P.n1, fun y hy => ?_⟩
  · have := altF_len 0 xs
    rw [h] at this
    exact List.length_eq_zero_iff.mp this.symm
  · obtain ⟨a, ha, h⟩ := altF_mem hy
    have := P.bd a ha
    omega
theorem N1_le {B : Nat} : ∀ (a : List Int), (∀ x ∈ a, x.natAbs ≤ B) → N1 a ≤ B * a.length
  | [], _ => by simp [N1]
  | x :: a, h => by
    have h1 := N1_le a fun y hy => h y (by simp [hy])
    have h2 := h x (by simp)
    simp only [N1, List.length_cons, Nat.mul_succ]; omega
theorem polS_of {as : List Int} {t : Int} (hl : as.length ≤ 5) (hb : ∀ a ∈ as, -4 ≤ a ∧ a ≤ 4) (h1 : 1 ≤ t) (h3 : t ≤ 3) : PolS (as ++ [t]) := by
  refine ⟨fun a ha => ?_, by simp, by simp; omega, ?_, fun a ha => ?_⟩
  · simp at ha; omega
  · have h4 := N1_le (B := 4) as fun x hx => by have := hb x hx; omega
    rw [N1_app]
    simp only [N1]
    have : (2 : Nat) ^ 5 = 32 := by decide
    omega
  · rcases List.mem_append.mp ha with ha | ha
    · exact hb a ha
    · have : a = t := by simpa using ha
      omega
theorem some_co (n c m : Nat) (g : G) (hc : Cu c g) (hm : m ≤ 5) (s : Sg) (hs : lk s 0 = some (.ref c)) (hs2 : ∀ w, lk (stw (stn s 12) 12 w) 0 = lk s 0) : ∃ (as : List Int) (g' : G), lcLoop (.rng 0 m) (tName 12) [12] (eC (.bl true)) (eBin fSub (eCall 30 2 (aCons (eVar 0) (aCons (eC (.int 9)) aNil))) (eC (.int 4))) (tbl (n + 1)) s g.length m 0 (g ++ [[]]) = .ok (.ref g.length) g' ∧ Kc c g g' ∧ g'[g.length]? = some (iw as) ∧ (∀ a ∈ as, -4 ≤ a ∧ a ≤ 4) ∧ as.length = m := by
  have hlc : c < g.length := by obtain ⟨_, _, h⟩ := hc; exact lk_len h
  have h := lc_rule (o := tbl (n + 1)) (s := s) (it := .rng 0 m) (t := tName 12) (vs := [12]) (test := eC (.bl true)) (elt := eBin fSub (eCall 30 2 (aCons (eVar 0) (aCons (eC (.int 9)) aNil))) (eC (.int 4))) (Dn := g.length) (Q := fun w g' => w = .ref g.length ∧ ∃ as : List Int, Kc c g g' ∧ g'[g.length]? = some (iw as) ∧ (∀ a ∈ as, -4 ≤ a ∧ a ≤ 4) ∧ as.length = m)
    m (fun i acc g' => Kc c g g' ∧ ∃ as : List Int, acc = iw as ∧ (∀ a ∈ as, -4 ≤ a ∧ a ≤ 4) ∧ as.length = i)
    (fun i acc g' hi hd ⟨hK, as, ha, hF, hl⟩ => by
      refine ⟨.int (0 + (i : Nat)), _, by simp only [itemI, Nat.blt_eq, hi, if_true], rfl, ?_⟩
      refine (WR_c (s := stw (wipew _ [12]) 12 _) _).mpr ⟨true, rfl, hd, (fun h => Bool.noConfusion h), fun _ => ?_⟩
      obtain ⟨a, g2, ha0, ha1, e2, K2⟩ := roll n c 9 g' hK.cup (by decide) (by decide)
      have hd2 := K2.keep g.length (by omega) _ hd
      have hv : lk (stw (stn s 12) 12 (.int (0 + (i : Nat)))) 0 = some (.ref c) := by rw [hs2, hs]
      simp only [WR_bin, WR_call, WA_cons, WA_nil, WR_c, WR_var, wipew, hv, OW_some, List.length_cons, List.length_nil, e2, WR_ok, fSub_int]
      refine ⟨rfl, hd2, ?_, (hK.trans K2).setN (by omega) (Nat.le_refl _) _, as ++ [a - 4], by rw [ha]; simp [iw], fun x hx => ?_, by simp [hl]⟩
      · rw [ha, iw_len]; exact Nat.ble_eq_true_of_le (by omega)
      · rcases List.mem_append.mp hx with hx | hx
        · exact hF x hx
        · have : x = a - 4 := by simpa using hx
          omega)
    (fun acc g' hd ⟨hK, as, ha, hF, hl⟩ => ⟨by simp only [stopI]; exact ble_refl _, rfl, as, hK, by rw [hd, ha], hF, hl⟩) m 0 [] (g ++ [[]]) (by omega) (lk_new _ _ []) ⟨(Kc.refl hc).app _, [], rfl, fun r hr => (List.not_mem_nil hr).elim, rfl⟩
  obtain ⟨w, g', e, rfl, as, h⟩ := h.out
  exact ⟨as, g', e, h⟩
end LK77

set_option Elab.async false
set_option linter.all false
set_option maxRecDepth 100000
set_option maxHeartbeats 4000000
namespace LK77
open PySem PySem.Spec PyProof.Rows L2 Ev Sm
theorem frs_int {a : Int} (h : a.natAbs ≤ 40) : Frs (a : Rat) := ⟨h, by show 1 ≤ 40; decide⟩
theorem step_ok {p : Rat → Rat} {W : Rat → Int} (S : Stu p W) {x y : Rat} (hxy : x < y) : (decide (sg (p x) * sg (p y) < 0) && (W x - W y == 0)) = false ∧ ((sg (p y) == 0) && (W x - W y == 0)) = false := by
  constructor
  · by_cases h : sg (p x) * sg (p y) < 0
    · have h1 : p x ≠ 0 := fun e => by rw [sg_zero e] at h; omega
      have h2 : sg (p x) ≠ sg (p y) := fun e => by
        rw [e] at h
        rcases sg_cases (p y) with ⟨_, q⟩ | ⟨_, q⟩ | ⟨_, q⟩ <;> rw [q] at h <;> omega
      have h3 := S.turn (Rat.le_of_lt hxy) h1 h2
      have h4 : (W x - W y == 0) = false := by simp; omega
      rw [h4]; simp
    · simp [h]
  · by_cases h : sg (p y) = 0
    · have h1 : p y = 0 := by
        rcases sg_cases (p y) with ⟨_, q⟩ | ⟨_, q⟩ | ⟨q, _⟩
        · omega
        · omega
        · exact q
      have h3 := S.root hxy h1
      have h4 : (W x - W y == 0) = false := by simp; omega
      rw [h4]; simp
    · simp [h]
def hiZ (i : Nat) : Int := if i = 0 then -30 else -31 + i
theorem C40 (n c : Nat) (g : G) (hc : Cu c g) : ∃ g', tbl (n + 8) 40 [.ref c] g = .ok (.bl true) g' ∧ Kc c g g' := by
  have hh : WR (tbl (n + 8) 40 [.ref c] g) (fun w g' => w = .bl true ∧ Kc c g g') := by
    rw [tbl_40]
    refine WR_callS ?_
    have hlc : c < g.length := by obtain ⟨_, _, h⟩ := hc; exact lk_len h
    have hft1 : ∀ (a : Ev.W) (h : G), fTup [a] h = .ok (.tup [a]) h := fun _ _ => rfl
    have hft2 : ∀ (a b : Ev.W) (h : G), fTup [a, b] h = .ok (.tup [a, b]) h := fun _ _ _ => rfl
    have hcr : ∀ (l : Int) (n : Nat) (h : G), cntI (.rng l n) h = n := fun _ _ _ => rfl
    obtain ⟨k, g1, hk0, hk1, e1, K1⟩ := roll (n + 6) c 5 g hc (by decide) (by decide)
    have hsm : smallI (1 + k) = true := by simp only [smallI, Bool.and_eq_true, decide_eq_true_eq]; omega
    obtain ⟨as, g2, e2, K2, hg2, hab, hal⟩ := some_co (n + 6) c (1 + k).toNat g1 K1.cup (by omega) [some (.ref c), none, none, none, none, none, none, none, none, none, none, none, none] rfl (fun _ => rfl)
    have htu : fTuple [.ref g1.length] g2 = .ok (.tup (iw as)) g2 := by simp only [fTuple, hg2]
    obtain ⟨t, g3, ht0, ht1, e3, K3⟩ := roll (n + 6) c 3 g2 K2.cup (by decide) (by decide)
    have hPS := polS_of (as := as) (t := 1 + t) (by omega) hab (by omega) (by omega)
    have hadd : fAdd (.tup (iw as)) (.tup [.int (1 + t)]) g3 = .ok (.tup (iw (as ++ [1 + t]))) g3 := by
      cases as with
      | nil => simp at hal; omega
      | cons a l =>
        have hz : szOk ((iw (a :: l)).length + [W.int (1 + t)].length) = true := by
          rw [iw_len]; exact Nat.ble_eq_true_of_le (by simp at hal ⊢; omega)
        have e : fAdd (.tup (iw (a :: l))) (.tup [.int (1 + t)]) g3 = if szOk ((iw (a :: l)).length + [W.int (1 + t)].length) = true then .ok (.tup (iw (a :: l) ++ [.int (1 + t)])) g3 else .no := rfl
        rw [e, if_pos hz]
        simp [iw]
    generalize as ++ [1 + t] = xs at hadd hPS
    have hK3 := (K1.trans K2).trans K3
    have h30 : ∀ h, tbl (n + 7) 34 [.int (-30), .int 1] h = .ok (fw ((-30 : Int) : Rat)) h := fun h => by
      rw [low_fw (n + 5) (-30) 1 h (by decide) (by decide), qv_one]
    have hsm2 : (smallI (-30) && smallI 31) = true := by decide
    simp only [b40, WR_ok, OW_some, BW_bl, WS_seq, WS_asgN, WS_asgT, WS_ret, WS_exp, WS_next, WS_no, WS_par, WS_sFor, WS_sif, WS_set, WR_lc, WR_var, WR_c, WR_bin, WR_un, WA_nil, WA_cons, WR_fun, WR_call, WR_and, WR_or, WR_not, WR_if, WR_chain, WR_isn, WR_isi, WR_iteT, WR_seqI, WR_enI, WR_app, WR_pop, lk, stw, stws, wipew, stn, List.map_cons, List.map_nil, List.length_cons, List.length_nil, List.cons_append, List.nil_append, List.replicate, Nat.reduceAdd, Nat.reduceSub, Nat.reduceLeDiff, Nat.reduceEqDiff, BEq.rfl, beq_self_eq_true, if_true, true_and, and_true, forall_const, Bool.false_eq_true, Bool.true_eq_false, reduceCtorEq, false_implies, true_implies, W.ref.injEq, W.int.injEq, W.tup.injEq, W.bl.injEq, List.cons.injEq, Option.some.injEq, exists_eq_left', exists_eq_left, exists_and_left, exists_eq', exists_const, e1, fAdd_int, WR_rg1, hsm, hcr, e2, htu, e3, hft1, hadd, fNeg_int, h30, WR_rg2, hsm2]
    have hof := hPS.ok
    refine ⟨-30, 31, ⟨rfl, rfl⟩, hsm2, ?_⟩
    refine WS_for 61 (fun i s g' => g3 <+: g' ∧ ∃ y2 y4 y5 y6 y7, s = [some (.ref c), some (.tup (iw xs)), y2, some (fw ((hiZ i : Int) : Rat)), y4, y5, y6, y7, none, none, none, none, none]) (fun i s g' hi ⟨hp, y2, y4, y5, y6, y7, hs⟩ => ?_) (fun s g' ⟨hp, y2, y4, y5, y6, y7, hs⟩ => ?_) _ 0 _ _ (by rfl) ⟨List.prefix_refl _, _, none, none, none, none, rfl⟩
    · subst hs
      refine ⟨.int (-30 + (i : Nat)), _, by simp only [itemI]; rw [if_pos]; rw [Nat.blt_eq]; exact hi, rfl, ?_⟩
      have hii : -30 + (i : Int) = hiZ (i + 1) := by unfold hiZ; rw [if_neg (by omega)]; omega
      have hb1 : (hiZ i).natAbs ≤ 30 := by unfold hiZ; split <;> omega
      have hb2 : (hiZ (i + 1)).natAbs ≤ 30 := by unfold hiZ; split <;> omega
      have hle : hiZ i ≤ hiZ (i + 1) := by unfold hiZ; split <;> split <;> omega
      rw [hii]
      generalize hiZ i = lo at hb1 hle
      generalize hiZ (i + 1) = hi2 at hb2 hle
      have hft2' : ∀ (h : G), fTup [.int hi2, .int 1] h = .ok (fw (hi2 : Rat)) h := fun _ => rfl
      have hne : ∀ h, fNe (fw (lo : Rat)) (fw (hi2 : Rat)) h = .ok (.bl (!(lo == hi2))) h := fun h => ne_tup lo hi2 h
      simp only [WR_ok, OW_some, BW_bl, WS_seq, WS_asgN, WS_asgT, WS_ret, WS_exp, WS_next, WS_no, WS_par, WS_sFor, WS_sif, WS_set, WR_lc, WR_var, WR_c, WR_bin, WR_un, WA_nil, WA_cons, WR_fun, WR_call, WR_and, WR_or, WR_not, WR_if, WR_chain, WR_isn, WR_isi, WR_iteT, WR_seqI, WR_enI, WR_app, WR_pop, lk, stw, stws, wipew, stn, List.map_cons, List.map_nil, List.length_cons, List.length_nil, List.cons_append, List.nil_append, List.replicate, Nat.reduceAdd, Nat.reduceSub, Nat.reduceLeDiff, Nat.reduceEqDiff, BEq.rfl, beq_self_eq_true, if_true, true_and, and_true, forall_const, Bool.false_eq_true, Bool.true_eq_false, reduceCtorEq, false_implies, true_implies, W.ref.injEq, W.int.injEq, W.tup.injEq, W.bl.injEq, List.cons.injEq, Option.some.injEq, exists_eq_left', exists_eq_left, exists_and_left, exists_eq', exists_const, hft2', hne]
      refine ⟨fun h => ?_, fun h => hp⟩
      have hlt : lo < hi2 := by
        have : lo ≠ hi2 := by simpa using h
        omega
      have hltR : (lo : Rat) < (hi2 : Rat) := Rat.intCast_lt_intCast.mpr hlt
      obtain ⟨Wf, g4, e4, hp4, hS⟩ := betw n xs (lo : Rat) (hi2 : Rat) g' hof (frs_int (by omega)) (frs_int (by omega)) (Rat.le_of_lt hltR)
      have hN := hPS.n1
      have hv : ∀ a : Int, a.natAbs ≤ 30 → ∀ h, tbl (n + 7) 36 [.tup (iw xs), fw (a : Rat)] h = .ok (.int (sg (eZ xs (a : Rat)))) h := fun a ha h => by
        have := C36 (n + 6) xs a h (by have := hPS.len; omega) hPS.ne (Nat.lt_of_le_of_lt ha (by decide)) (Nat.lt_trans hN (by decide))
        rw [qv_one] at this
        exact this
      obtain ⟨s1, s2⟩ := step_ok hS hltR
      have hmm : mulOk (sg (eZ xs (lo : Rat))) (sg (eZ xs (hi2 : Rat))) = true := mokL (by
        rcases sg_cases (eZ xs (lo : Rat)) with ⟨_, q⟩ | ⟨_, q⟩ | ⟨_, q⟩ <;> rw [q] <;> decide)
      simp only [WR_ok, OW_some, BW_bl, WS_seq, WS_asgN, WS_asgT, WS_ret, WS_exp, WS_next, WS_no, WS_par, WS_sFor, WS_sif, WS_set, WR_lc, WR_var, WR_c, WR_bin, WR_un, WA_nil, WA_cons, WR_fun, WR_call, WR_and, WR_or, WR_not, WR_if, WR_chain, WR_isn, WR_isi, WR_iteT, WR_seqI, WR_enI, WR_app, WR_pop, lk, stw, stws, wipew, stn, List.map_cons, List.map_nil, List.length_cons, List.length_nil, List.cons_append, List.nil_append, List.replicate, Nat.reduceAdd, Nat.reduceSub, Nat.reduceLeDiff, Nat.reduceEqDiff, BEq.rfl, beq_self_eq_true, if_true, true_and, and_true, forall_const, Bool.false_eq_true, Bool.true_eq_false, reduceCtorEq, false_implies, true_implies, W.ref.injEq, W.int.injEq, W.tup.injEq, W.bl.injEq, List.cons.injEq, Option.some.injEq, exists_eq_left', exists_eq_left, exists_and_left, exists_eq', exists_const, e4, hv lo hb1, hv hi2 hb2, fMul_int hmm, fLt_int, fEq_int]
      generalize Wf (lo : Rat) - Wf (hi2 : Rat) = m at s1 s2
      generalize sg (eZ xs (lo : Rat)) = u at s1 s2
      generalize sg (eZ xs (hi2 : Rat)) = v at s1 s2
      have hp5 := hp.trans hp4
      cases h0 : (m == 0) with
      | true =>
        rw [h0, Bool.and_true] at s1 s2
        rw [s1, s2]
        exact ⟨fun _ => ⟨fun _ => hp5, fun h => Bool.noConfusion h⟩, fun h => Bool.noConfusion h⟩
      | false => exact ⟨fun _ => ⟨fun _ => hp5, fun _ => ⟨fun h => Bool.noConfusion h, fun _ => hp5⟩⟩, fun _ => ⟨fun h => Bool.noConfusion h, fun _ => ⟨fun _ => hp5, fun _ => ⟨fun h => Bool.noConfusion h, fun _ => hp5⟩⟩⟩⟩
    · subst hs
      refine ⟨by simp only [stopI]; exact ble_refl _, ?_⟩
      have hxn := hPS.ne
      have hxl := hPS.len
      have hN := hPS.n1
      have hm2 : ∀ (a b : Ev.W) (h : G), fIx (.tup [a, b]) (.int 0) h = .ok a h := fun _ _ _ => rfl
      have hm3 : ∀ (a b : Ev.W) (h : G), fIx (.tup [a, b]) (.int 1) h = .ok b h := fun _ _ _ => rfl
      have hw1 : ∀ h, fTup [.int (-31), .int 1] h = .ok (fw ((-31 : Int) : Rat)) h := fun _ => rfl
      have hw2 : ∀ h, fTup [.int 31, .int 1] h = .ok (fw ((31 : Int) : Rat)) h := fun _ => rfl
      have hcomp := lc_enf (o := tbl (n + 7)) (s := [some (.ref c), some (.tup (iw xs)), y2, some (fw ((hiZ 61 : Int) : Rat)), y4, y5, y6, y7, some (.tup [fw ((-31 : Int) : Rat), fw ((31 : Int) : Rat)]), none, none, none, none]) (g := g') (t := tTups [4, 11]) (vs := [4, 11]) (elt := eIf (eBin fEq (eBin fMod (eFun fInt (aCons (eVar 4) aNil)) (eC (.int 2))) (eC (.int 0))) (eVar 11) (eUn fNeg (eVar 11))) (iw xs) (iw (altF 0 xs)) (by rw [iw_len]; omega) (by rw [iw_len, iw_len, altF_len]) (fun i w z hw hz h => by
        rw [iw_get] at hw hz
        rw [altF_get] at hz
        cases e : xs[i]? with
        | none => rw [e] at hw; cases hw
        | some a =>
          rw [e] at hw hz
          cases hw
          simp at hz
          refine ⟨_, rfl, ?_⟩
          have hfi : ∀ (i : Int) (h : G), fInt [.int i] h = .ok (.int i) h := fun _ _ => rfl
          have hw : WR (eIf (eBin fEq (eBin fMod (eFun fInt (aCons (eVar 4) aNil)) (eC (.int 2))) (eC (.int 0))) (eVar 11) (eUn fNeg (eVar 11)) (tbl (n + 7)) (stws (wipew [some (.ref c), some (.tup (iw xs)), y2, some (fw ((hiZ 61 : Int) : Rat)), y4, y5, y6, y7, some (.tup [fw ((-31 : Int) : Rat), fw ((31 : Int) : Rat)]), none, none, none, none] [4, 11]) [4, 11] [.int (i : Nat), .int a]) h) (fun w g' => w = z ∧ g' = h) := by
            simp only [WR_ok, OW_some, BW_bl, WS_seq, WS_asgN, WS_asgT, WS_ret, WS_exp, WS_next, WS_no, WS_par, WS_sFor, WS_sif, WS_set, WR_lc, WR_var, WR_c, WR_bin, WR_un, WA_nil, WA_cons, WR_fun, WR_call, WR_and, WR_or, WR_not, WR_if, WR_chain, WR_isn, WR_isi, WR_iteT, WR_seqI, WR_enI, WR_app, WR_pop, lk, stw, stws, wipew, stn, List.map_cons, List.map_nil, List.length_cons, List.length_nil, List.cons_append, List.nil_append, List.replicate, Nat.reduceAdd, Nat.reduceSub, Nat.reduceLeDiff, Nat.reduceEqDiff, BEq.rfl, beq_self_eq_true, if_true, true_and, and_true, forall_const, Bool.false_eq_true, Bool.true_eq_false, reduceCtorEq, false_implies, true_implies, W.ref.injEq, W.int.injEq, W.tup.injEq, W.bl.injEq, List.cons.injEq, Option.some.injEq, exists_eq_left', exists_eq_left, exists_and_left, exists_eq', exists_const, hfi, fMod_int (show (0 : Int) < 2 by decide), fEq_int, fNeg_int]
            subst hz
            by_cases h1 : i % 2 = 0
            · have h2 : ((i : Int) % 2 == 0) = true := by simp; omega
              rw [if_pos h1, h2]
              exact ⟨fun _ => rfl, fun h => Bool.noConfusion h⟩
            · have h2 : ((i : Int) % 2 == 0) = false := by simp; omega
              rw [if_neg h1, h2]
              exact ⟨fun h => Bool.noConfusion h, fun _ => rfl⟩
          obtain ⟨w, g', e, rfl, rfl⟩ := hw.out
          exact e)
      have htup : fTuple [.ref g'.length] (g' ++ [iw (altF 0 xs)]) = .ok (.tup (iw (altF 0 xs))) (g' ++ [iw (altF 0 xs)]) := by simp only [fTuple, lk_new]
      obtain ⟨zs, ee, e5, ht2, hn2, hv2, hNN, hll⟩ := C12 (n + 3) xs xs (g' ++ [iw (altF 0 xs)]) hPS.tr hPS.tr hxn hxn (by omega) (by omega) (Nat.lt_trans hN (by decide)) (Nat.lt_trans hN (by decide))
      have hzok : Okp zs := okp_sq hPS.tr hxn hxl hN ht2 hn2 hv2 hNN hll _ (by decide) (by decide) hPS.pts
      have hT := hPS.turned
      have hF1 : Frs ((-31 : Int) : Rat) := frs_int (by decide)
      have hF2 : Frs ((31 : Int) : Rat) := frs_int (by decide)
      have hle : ((-31 : Int) : Rat) ≤ ((31 : Int) : Rat) := Rat.intCast_le_intCast.mpr (by decide)
      obtain ⟨W1, g6, e6, hp6, hS1⟩ := betw n xs _ _ (g' ++ [iw (altF 0 xs)] ++ ee) hof hF1 hF2 hle
      obtain ⟨W2, g7, e7, hp7, hS2⟩ := betw n zs _ _ g6 hzok hF1 hF2 hle
      obtain ⟨W3, g8, e8, hp8, hS3⟩ := betw n (altF 0 xs) _ _ g7 hT.ok hF1 hF2 hle
      have hev : ∀ x, eZ (altF 0 xs) x = eZ xs (-x) := fun x => by rw [altF_ev]; simp
      have hn31 : -((31 : Int) : Rat) = ((-31 : Int) : Rat) := rfl
      have hn31' : -((-31 : Int) : Rat) = ((31 : Int) : Rat) := rfl
      have q1 := hS1.square hS2 hv2 hle
      have q2 := hS1.turned hS3 hev hle (fun e => hT.far (p := 31) (by decide) (by rw [hev, hn31]; exact e)) (hPS.far (by decide))
      rw [hn31, hn31'] at q2
      rw [← q1] at e7
      rw [← q2] at e8
      generalize W1 ((-31 : Int) : Rat) - W1 ((31 : Int) : Rat) = m at e6 e7 e8
      have hl2 : ∀ (a b : Int) (h : G), fLst [.int a, .int b] h = .ok (.ref h.length) (h ++ [[some a, some b].map oW]) := fun _ _ _ => rfl
      have hi1 : (g8 ++ [[some m, some m].map oW] ++ [[some m, some m].map oW])[g8.length]? = some ([some m, some m].map oW) := by rw [List.append_assoc]; exact lk_new _ _ _
      have hi2 : (g8 ++ [[some m, some m].map oW] ++ [[some m, some m].map oW])[(g8 ++ [[some m, some m].map oW]).length]? = some ([some m, some m].map oW) := lk_new _ _ _
      obtain ⟨e', e9⟩ := C32l (n + 4) _ _ [some m, some m] _ hi1 hi2 (by simp)
      generalize hLL : [some m, some m].map oW = LL at hl2 hi1 hi2 e9
      have hl3 : ∀ h : G, fLst [.int m, .int m] h = .ok (.ref h.length) (h ++ [LL]) := fun h => by rw [hl2, hLL]
      have hK9 : Kc c g (g8 ++ [LL] ++ [LL] ++ e') := ((((((((((hK3.ext hp).app _).app _).ext hp6).ext hp7).ext hp8).app _).app _).app _))
      simp only [WR_ok, OW_some, BW_bl, WS_seq, WS_asgN, WS_asgT, WS_ret, WS_exp, WS_next, WS_no, WS_par, WS_sFor, WS_sif, WS_set, WR_lc, WR_var, WR_c, WR_bin, WR_un, WA_nil, WA_cons, WR_fun, WR_call, WR_and, WR_or, WR_not, WR_if, WR_chain, WR_isn, WR_isi, WR_iteT, WR_seqI, WR_enI, WR_app, WR_pop, lk, stw, stws, wipew, stn, List.map_cons, List.map_nil, List.length_cons, List.length_nil, List.cons_append, List.nil_append, List.replicate, Nat.reduceAdd, Nat.reduceSub, Nat.reduceLeDiff, Nat.reduceEqDiff, BEq.rfl, beq_self_eq_true, if_true, true_and, and_true, forall_const, Bool.false_eq_true, Bool.true_eq_false, reduceCtorEq, false_implies, true_implies, W.ref.injEq, W.int.injEq, W.tup.injEq, W.bl.injEq, List.cons.injEq, Option.some.injEq, exists_eq_left', exists_eq_left, exists_and_left, exists_eq', exists_const, hw1, hw2, hft2, hcomp, htup, e5, hm2, hm3, e6, e7, e8, hl3, e9]
      exact hK9
  obtain ⟨w, g', e, rfl, h⟩ := hh.out
  exact ⟨g', e, h⟩
end LK77

set_option Elab.async false
set_option linter.all false
set_option maxRecDepth 100000
set_option maxHeartbeats 4000000
namespace LK77
open PySem PySem.Spec PyProof.Rows L2 Ev Sm
def okb (xs : List Int) : Bool := !xs.isEmpty && decide (xs.length ≤ 7) && (xs.getLastD 0 != 0) && decide (N1 xs < 2 ^ 18) && [(3 : Int), 4, 5, 6, 7, 8].all fun p => eI xs p != 0
theorem okp_b {xs : List Int} (h : okb xs = true) : Okp xs := by
  simp only [okb, Bool.and_eq_true, Bool.not_eq_true', bne_iff_ne, ne_eq, decide_eq_true_eq, List.all_eq_true] at h
  obtain ⟨⟨⟨⟨h1, h2⟩, h3⟩, h4⟩, h5⟩ := h
  have hn : xs ≠ [] := by intro e; subst e; simp at h1
  refine okp_of (fun a ha => ?_) hn h2 h4 [3, 4, 5, 6, 7, 8] (by decide) (by decide) fun p hp => ⟨?_, h5 p hp⟩
  · rw [List.getLastD_eq_getLast?, ha] at h3
    exact h3
  · have : ∀ p ∈ [(3 : Int), 4, 5, 6, 7, 8], p.natAbs ≤ 12 := by decide
    exact this p hp
theorem okp_far {a : Int} (ha : 0 < a) (hb : a < 2 ^ 100) : Okp [-a, 1] := by
  obtain ⟨v, hv, hdv⟩ := sl_div [-a, 1]
  have hN : N1 [-a, 1] < 2 ^ 101 := by
    rw [N1_two]
    have e : (2 : Nat) ^ 101 = 2 ^ 100 * 2 := by rw [Nat.pow_succ]
    have h2 : ((2 ^ 100 : Nat) : Int) = 2 ^ 100 := by rw [Int.natCast_pow]; rfl
    have h3 : 1 ≤ (2 : Nat) ^ 100 := Nat.pow_pos (by decide)
    rw [e]
    generalize (2 : Int) ^ 100 = z at *
    generalize (2 : Nat) ^ 100 = y at *
    omega
  refine ⟨fun c hc => by simp at hc; omega, by simp, by simp, [1], eZ [-a, 1], v, 101, 0, 1, tr_one, by simp, eZ.pol _, hv, fun x => by rw [eZ_cons 1, eZ_nil]; simp; grind, hdv, hN, (show be 101 2 ≤ 9000 by decide), .inl (by simp), by decide, by decide, fun q h hq hqt hqn he hql _ => ⟨?_, ?_⟩, fun _ => by decide⟩
  · match q, hqn, hql, hq with
    | [b], _, _, hq =>
      have h1 := hq b.natAbs fun c hc => by
        have : c = b := by simpa using hc
        rw [this]
        exact Int.natAbs_dvd.mpr (Int.dvd_refl b)
      simp only [N1]; omega
    | _ :: _ :: _, _, hql, _ => simp at hql
  · have : q.length ≤ 1 := by simp at hql; omega
    exact Nat.le_trans (be_mono 1 this) (by decide)
theorem T (ns : List Int) (hl : ns.length ≤ 63) : ∃ g, tbl 20 41 [.rol (ns.map .int)] [] = .ok (.bl true) g := by
  have hh : WR (tbl 20 41 [.rol (iw ns)] []) (fun w _ => w = .bl true) := by
    rw [show (20 : Nat) = 19 + 1 from rfl, tbl_41]
    refine WR_callS ?_
    obtain ⟨c, e0, e1, hc⟩ := C29 18 ns [] hl
    rw [List.nil_append] at e1 hc
    have e1' : tbl 19 29 [.rol (iw ns)] [] = .ok (.ref c) e0 := e1
    have hft5 : ∀ h : G, fTup [.int 0, .int 1, .int 2, .int 3, .int 4] h = .ok (.tup (iw [0, 1, 2, 3, 4])) h := fun _ => rfl
    have h5 : (iw [0, 1, 2, 3, 4]).length = 5 := rfl
    simp only [b41, WR_ok, OW_some, BW_bl, WS_seq, WS_asgN, WS_asgT, WS_ret, WS_exp, WS_next, WS_no, WS_par, WS_sFor, WS_sif, WS_set, WR_lc, WR_var, WR_c, WR_bin, WR_un, WA_nil, WA_cons, WR_fun, WR_call, WR_and, WR_or, WR_not, WR_if, WR_chain, WR_isn, WR_isi, WR_iteT, WR_seqI, WR_enI, WR_app, WR_pop, lk, stw, stws, wipew, stn, List.map_cons, List.map_nil, List.length_cons, List.length_nil, List.cons_append, List.nil_append, List.replicate, Nat.reduceAdd, Nat.reduceSub, Nat.reduceLeDiff, Nat.reduceEqDiff, BEq.rfl, beq_self_eq_true, if_true, true_and, and_true, forall_const, Bool.false_eq_true, Bool.true_eq_false, reduceCtorEq, false_implies, true_implies, W.ref.injEq, W.int.injEq, W.tup.injEq, W.bl.injEq, List.cons.injEq, Option.some.injEq, exists_eq_left', exists_eq_left, exists_and_left, exists_eq', exists_const, e1', hft5, cntI, h5]
    refine WS_for 5 (fun i s g' => Cu c g' ∧ ∃ y2 y3 y4, s = [some (.rol (iw ns)), some (.ref c), y2, y3, y4, none, none]) (fun i s g' hi ⟨hC, y2, y3, y4, hs⟩ => ?_) (fun s g' ⟨hC, y2, y3, y4, hs⟩ => ?_) _ 0 _ _ (by rfl) ⟨hc, none, none, none, rfl⟩
    · subst hs
      have hit : ∀ i : Nat, i < 5 → ([0, 1, 2, 3, 4] : List Int)[i]? = some (i : Int) := by decide
      refine ⟨.int (i : Nat), _, by simp only [itemI, at_get, hit i hi, Option.map_some], rfl, ?_⟩
      obtain ⟨zs, l, rs, g1, q1, K1, hg1, hlc, hP⟩ := C37 14 c i g' hC (by omega)
      obtain ⟨g2, q2, K2⟩ := C39 10 c l zs rs g1 K1.cup hg1 hlc hP
      obtain ⟨g3, q3, K3⟩ := C40 11 c g2 K2.cup
      have q1' : tbl 19 37 [.ref c, .int (i : Int)] g' = .ok (.tup [.tup (iw zs), .ref l]) g1 := q1
      have q2' : tbl 19 39 [.ref c, .tup (iw zs), .ref l] g1 = .ok (.bl true) g2 := q2
      have q3' : tbl 19 40 [.ref c] g2 = .ok (.bl true) g3 := q3
      simp only [WR_ok, OW_some, BW_bl, WS_seq, WS_asgN, WS_asgT, WS_ret, WS_exp, WS_next, WS_no, WS_par, WS_sFor, WS_sif, WS_set, WR_lc, WR_var, WR_c, WR_bin, WR_un, WA_nil, WA_cons, WR_fun, WR_call, WR_and, WR_or, WR_not, WR_if, WR_chain, WR_isn, WR_isi, WR_iteT, WR_seqI, WR_enI, WR_app, WR_pop, lk, stw, stws, wipew, stn, List.map_cons, List.map_nil, List.length_cons, List.length_nil, List.cons_append, List.nil_append, List.replicate, Nat.reduceAdd, Nat.reduceSub, Nat.reduceLeDiff, Nat.reduceEqDiff, BEq.rfl, beq_self_eq_true, if_true, true_and, and_true, forall_const, Bool.false_eq_true, Bool.true_eq_false, reduceCtorEq, false_implies, true_implies, W.ref.injEq, W.int.injEq, W.tup.injEq, W.bl.injEq, List.cons.injEq, Option.some.injEq, exists_eq_left', exists_eq_left, exists_and_left, exists_eq', exists_const, q1', q2', q3', Bool.not_true]
      exact K3.cup
    · subst hs
      refine ⟨by simp only [stopI, h5]; rfl, ?_⟩
      have hp3 : ∀ (a b c : Int) (h : G), fTup [.int a, .int b, .int c] h = .ok (.tup (iw [a, b, c])) h := fun _ _ _ _ => rfl
      have hp1 : ∀ (a : Int) (h : G), fTup [.int a] h = .ok (.tup (iw [a])) h := fun _ _ => rfl
      have w0 : ∀ h : G, fTup [.int 0, .int 1] h = .ok (fw ((0 : Int) : Rat)) h := fun _ => rfl
      have w1 : ∀ h : G, fTup [.int 1, .int 1] h = .ok (fw ((1 : Int) : Rat)) h := fun _ => rfl
      have w2 : ∀ h : G, fTup [.int 2, .int 1] h = .ok (fw ((2 : Int) : Rat)) h := fun _ => rfl
      have w9 : ∀ h : G, fTup [.int 9, .int 1] h = .ok (fw ((9 : Int) : Rat)) h := fun _ => rfl
      have wm2 : ∀ h : G, fTup [.int (-2), .int 1] h = .ok (fw ((-2 : Int) : Rat)) h := fun _ => rfl
      have wm1 : ∀ h : G, fTup [.int (-1), .int 1] h = .ok (fw ((-1 : Int) : Rat)) h := fun _ => rfl
      have F : ∀ a : Int, a.natAbs ≤ 40 → Frs (a : Rat) := fun a h => frs_int h
      have L : ∀ a b : Int, a ≤ b → (a : Rat) ≤ (b : Rat) := fun a b h => Rat.intCast_le_intCast.mpr h
      obtain ⟨W1, g1, q1, p1, S1⟩ := betw 12 [-2, 0, 1] (0 : Int) (2 : Int) g' (okp_b (by decide)) (F _ (by decide)) (F _ (by decide)) (L _ _ (by decide))
      obtain ⟨W2, g2, q2, p2, S2⟩ := betw 12 [-2, 0, 1] (-2 : Int) (2 : Int) g1 (okp_b (by decide)) (F _ (by decide)) (F _ (by decide)) (L _ _ (by decide))
      obtain ⟨W3, g3, q3, p3, S3⟩ := betw 12 [1, -2, 1] (0 : Int) (1 : Int) g2 (okp_b (by decide)) (F _ (by decide)) (F _ (by decide)) (L _ _ (by decide))
      rw [show W1 ((0 : Int) : Rat) - W1 ((2 : Int) : Rat) = 1 from m_up S1] at q1
      rw [show W2 ((-2 : Int) : Rat) - W2 ((2 : Int) : Rat) = 2 from m_all S2] at q2
      rw [show W3 ((0 : Int) : Rat) - W3 ((1 : Int) : Rat) = 1 from one_in S3] at q3
      have hl3 : ∀ h : G, fLst [.int 1, .int 2, .int 1] h = .ok (.ref h.length) (h ++ [[some 1, some 2, some 1].map oW]) := fun _ => rfl
      generalize hG4 : g3 ++ [[some 1, some 2, some 1].map oW] = g4 at *
      obtain ⟨W5, g5, q5, p5, S5⟩ := betw 12 [1, -2, 1] (1 : Int) (9 : Int) g4 (okp_b (by decide)) (F _ (by decide)) (F _ (by decide)) (L _ _ (by decide))
      obtain ⟨o6, W6, g6, q6, p6, S6⟩ := cell 11 [1, -1, -1] 8 g5 (okp_b (by decide)) (by decide) (by decide)
      obtain ⟨o7, W7, g7, q7, p7, S7⟩ := cell 11 [1, 0, 1] 8 g6 (okp_b (by decide)) (by decide) (by decide)
      rw [show W5 ((1 : Int) : Rat) - W5 ((9 : Int) : Rat) = 0 from one_out S5] at q5
      rw [gold S6] at q6
      rw [cell_none S7] at q7
      have p17 : g4 <+: g7 := (p5.trans p6).trans p7
      have hi3 : g4[g3.length]? = some ([some 1, some 2, some 1].map oW) := by rw [← hG4]; exact lk_new _ _ []
      have hl4 : ∀ h : G, fLst [.int 0, .int 4, .non] h = .ok (.ref h.length) (h ++ [[some 0, some 4, none].map oW]) := fun _ => rfl
      have hl6 : ∀ h : G, fLst [.int 1, .int 2, .int 1, .int 0, .int 4, .non] h = .ok (.ref h.length) (h ++ [[some 1, some 2, some 1, some 0, some 4, none].map oW]) := fun _ => rfl
      have hadd : fAdd (.ref g3.length) (.ref g7.length) (g7 ++ [[some 0, some 4, none].map oW]) = .ok (.ref (g7 ++ [[some 0, some 4, none].map oW]).length) (g7 ++ [[some 0, some 4, none].map oW] ++ [[some 1, some 2, some 1, some 0, some 4, none].map oW]) := by
        have h1 : (g7 ++ [[some 0, some 4, none].map oW])[g3.length]? = some ([some 1, some 2, some 1].map oW) := lk_pre (pre_lk p17 hi3) _
        have h2 : (g7 ++ [[some 0, some 4, none].map oW])[g7.length]? = some ([some 0, some 4, none].map oW) := lk_new _ _ []
        simp only [fAdd, h1, h2]
        rfl
      generalize hL1 : [some 1, some 2, some 1].map oW = L1 at *
      generalize hL2 : [some 0, some 4, none].map oW = L2 at *
      generalize hG8 : g7 ++ [L2] = g8 at *
      have hj1 : (g8 ++ [[some 1, some 2, some 1, some 0, some 4, none].map oW] ++ [[some 1, some 2, some 1, some 0, some 4, none].map oW])[g8.length]? = some ([some 1, some 2, some 1, some 0, some 4, none].map oW) := by rw [List.append_assoc]; exact lk_new _ _ _
      have hj2 : (g8 ++ [[some 1, some 2, some 1, some 0, some 4, none].map oW] ++ [[some 1, some 2, some 1, some 0, some 4, none].map oW])[(g8 ++ [[some 1, some 2, some 1, some 0, some 4, none].map oW]).length]? = some ([some 1, some 2, some 1, some 0, some 4, none].map oW) := lk_new _ _ _
      obtain ⟨e9, q9⟩ := C32l 16 _ _ _ _ hj1 hj2 (by decide)
      have hC9 : Cu c (g8 ++ [[some 1, some 2, some 1, some 0, some 4, none].map oW] ++ [[some 1, some 2, some 1, some 0, some 4, none].map oW] ++ e9) := by
        refine (((((Kc.refl hC).ext (((p1.trans p2).trans p3).trans ?_)).app _).app _).app _).cup
        rw [← hG8]
        refine List.IsPrefix.trans ?_ (List.prefix_append _ _)
        refine List.IsPrefix.trans ?_ p17
        rw [← hG4]
        exact List.prefix_append _ _
      generalize hL6 : [some 1, some 2, some 1, some 0, some 4, none].map oW = L6 at *
      generalize hG9 : g8 ++ [L6] ++ [L6] ++ e9 = g9 at *
      obtain ⟨r, g10, hr0, hr1, q10, K10⟩ := roll 18 c 9 g9 hC9 (by decide) (by decide)
      have hpw : ∀ h : G, fPow (.int 10) (.int 30) h = .ok (.int (10 ^ 30)) h := fun _ => rfl
      have hfar0 : (0 : Int) < 10 ^ 30 + r := by
        have : (0 : Int) < 10 ^ 30 := by decide
        omega
      have hfar1 : 10 ^ 30 + r < 2 ^ 100 := by
        have : (10 : Int) ^ 30 + 9 < 2 ^ 100 := by decide
        omega
      generalize hfar : (10 : Int) ^ 30 + r = far at *
      have hp2 : ∀ h : G, fTup [.int (-far), .int 1] h = .ok (.tup (iw [-far, 1])) h := fun _ => rfl
      obtain ⟨o11, W11, g11, q11, p11, S11⟩ := cell 11 [-far, 1] 3 g10 (okp_far hfar0 hfar1) (by decide) (by decide)
      obtain ⟨W12, g12, q12, p12, S12⟩ := betw 12 [5] (-1 : Int) (1 : Int) g11 (okp_b (by decide)) (F _ (by decide)) (F _ (by decide)) (L _ _ (by decide))
      obtain ⟨o13, W13, g13, q13, p13, S13⟩ := cell 11 [0, 0, 1] 1 g12 (okp_b (by decide)) (by decide) (by decide)
      obtain ⟨o14, W14, g14, q14, p14, S14⟩ := cell 11 [0, -1, 2] 2 g13 (okp_b (by decide)) (by decide) (by decide)
      rw [cell_far hfar0 S11] at q11
      rw [show W12 ((-1 : Int) : Rat) - W12 ((1 : Int) : Rat) = 0 from five_out S12] at q12
      rw [cell_xx S13] at q13
      rw [cell_half S14] at q14
      have hm3 : mulOk 3 far = true := mokL (by decide)
      have hle : ∀ h : G, fLst [.int (3 * far - 1), .int 0, .non, .int 0] h = .ok (.ref h.length) (h ++ [[some (3 * far - 1), some 0, none, some 0].map oW]) := fun _ => rfl
      generalize hL4 : [some (3 * far - 1), some 0, none, some 0].map oW = L4 at *
      have hk1 : (g14 ++ [L4] ++ [L4])[g14.length]? = some ([some (3 * far - 1), some 0, none, some 0].map oW) := by rw [List.append_assoc, hL4]; exact lk_new _ _ _
      have hk2 : (g14 ++ [L4] ++ [L4])[(g14 ++ [L4]).length]? = some ([some (3 * far - 1), some 0, none, some 0].map oW) := by rw [hL4]; exact lk_new _ _ _
      obtain ⟨e15, q15⟩ := C32l 16 _ _ _ _ hk1 hk2 (by simp)
      have Q1 : tbl 19 27 [.tup (iw [-2, 0, 1]), fw ((0 : Int) : Rat), fw ((2 : Int) : Rat)] g' = .ok (.int 1) g1 := q1
      have Q2 : tbl 19 27 [.tup (iw [-2, 0, 1]), fw ((-2 : Int) : Rat), fw ((2 : Int) : Rat)] g1 = .ok (.int 2) g2 := q2
      have Q3 : tbl 19 27 [.tup (iw [1, -2, 1]), fw ((0 : Int) : Rat), fw ((1 : Int) : Rat)] g2 = .ok (.int 1) g3 := q3
      have Q5 : tbl 19 27 [.tup (iw [1, -2, 1]), fw ((1 : Int) : Rat), fw ((9 : Int) : Rat)] g4 = .ok (.int 0) g5 := q5
      have Q6 : tbl 19 28 [.tup (iw [1, -1, -1]), .int 8] g5 = .ok (.int 4) g6 := q6
      have Q7 : tbl 19 28 [.tup (iw [1, 0, 1]), .int 8] g6 = .ok .non g7 := q7
      have Q9 : tbl 19 32 [.ref g8.length, .ref (g8 ++ [L6]).length] (g8 ++ [L6] ++ [L6]) = .ok (.bl true) g9 := q9
      have Q10 : tbl 19 30 [.ref c, .int 9] g9 = .ok (.int r) g10 := q10
      have Q11 : tbl 19 28 [.tup (iw [-far, 1]), .int 3] g10 = .ok (.int (3 * far - 1)) g11 := q11
      have Q12 : tbl 19 27 [.tup (iw [5]), fw ((-1 : Int) : Rat), fw ((1 : Int) : Rat)] g11 = .ok (.int 0) g12 := q12
      have Q13 : tbl 19 28 [.tup (iw [0, 0, 1]), .int 1] g12 = .ok .non g13 := q13
      have Q14 : tbl 19 28 [.tup (iw [0, -1, 2]), .int 2] g13 = .ok (.int 0) g14 := q14
      have Q15 : tbl 19 32 [.ref g14.length, .ref (g14 ++ [L4]).length] (g14 ++ [L4] ++ [L4]) = .ok (.bl true) (g14 ++ [L4] ++ [L4] ++ e15) := q15
      simp only [WR_ok, OW_some, BW_bl, WS_seq, WS_asgN, WS_asgT, WS_ret, WS_exp, WS_next, WS_no, WS_par, WS_sFor, WS_sif, WS_set, WR_lc, WR_var, WR_c, WR_bin, WR_un, WA_nil, WA_cons, WR_fun, WR_call, WR_and, WR_or, WR_not, WR_if, WR_chain, WR_isn, WR_isi, WR_iteT, WR_seqI, WR_enI, WR_app, WR_pop, lk, stw, stws, wipew, stn, List.map_cons, List.map_nil, List.length_cons, List.length_nil, List.cons_append, List.nil_append, List.replicate, Nat.reduceAdd, Nat.reduceSub, Nat.reduceLeDiff, Nat.reduceEqDiff, BEq.rfl, beq_self_eq_true, if_true, true_and, and_true, forall_const, Bool.false_eq_true, Bool.true_eq_false, reduceCtorEq, false_implies, true_implies, W.ref.injEq, W.int.injEq, W.tup.injEq, W.bl.injEq, List.cons.injEq, Option.some.injEq, exists_eq_left', exists_eq_left, exists_and_left, exists_eq', exists_const, fNeg_int, hp3, w0, w2, wm2, w1, Q1, Q2, Q3, hl3, hG4, w9, Q5, Q6, Q7, hl4, hG8, hadd, hl6, Q9, Bool.not_true, hpw, Q10, fAdd_int, hfar, hp2, Q11, hp1, wm1, Q12, Q13, Q14, hle, fMul_int hm3, fSub_int, Q15]
  obtain ⟨w, g', e, rfl⟩ := hh.out
  exact ⟨g', e⟩
end LK77

set_option Elab.async false
set_option linter.all false
set_option maxRecDepth 100000
set_option maxHeartbeats 4000000
/-! Printed by gen.py: the bond of each def. -/
namespace LK77
open PySem PySem.Spec PyProof.Rows L2 Ev
def top (i : Nat) : Stmt := PySem.Challenge.pw_shapescounted_k77_whole_roots_between.main.body.getD i (.Pass ⟨0, 0, 0, 0⟩)
abbrev s0 : Stmt := top 6
abbrev s1 : Stmt := top 7
abbrev s2 : Stmt := top 8
abbrev s3 : Stmt := top 9
abbrev s4 : Stmt := top 11
abbrev s5 : Stmt := top 12
abbrev s6 : Stmt := top 13
abbrev s7 : Stmt := top 14
abbrev s8 : Stmt := top 17
abbrev s9 : Stmt := top 19
abbrev s10 : Stmt := top 20
abbrev s11 : Stmt := top 21
abbrev s12 : Stmt := top 22
abbrev s13 : Stmt := top 25
abbrev s14 : Stmt := top 28
abbrev s15 : Stmt := top 30
abbrev s16 : Stmt := top 31
abbrev s17 : Stmt := top 32
abbrev s18 : Stmt := top 33
abbrev s19 : Stmt := top 34
abbrev s20 : Stmt := top 35
abbrev s21 : Stmt := top 36
abbrev s22 : Stmt := top 37
abbrev s23 : Stmt := top 38
abbrev s24 : Stmt := top 39
abbrev s25 : Stmt := top 40
abbrev s26 : Stmt := top 41
abbrev s27 : Stmt := top 42
abbrev s28 : Stmt := top 43
abbrev s29 : Stmt := top 45
abbrev s30 : Stmt := top 46
abbrev s31 : Stmt := top 47
abbrev s32 : Stmt := top 48
abbrev s33 : Stmt := top 49
abbrev s34 : Stmt := top 50
abbrev s35 : Stmt := top 51
abbrev s36 : Stmt := top 52
abbrev s37 : Stmt := top 53
abbrev s38 : Stmt := top 54
abbrev s39 : Stmt := top 55
abbrev s40 : Stmt := top 56
abbrev s41 : Stmt := top 57
structure Ctx (P : Program) (w : World) (K : PySem.W.Frag) (mg : Str → Option Value) (base : Heap) (o : Orc) (lv : Nat) : Prop where
  B : Bs mg
  m_MOST_ENTRIES_polynomials : ∃ t, mg "MOST_ENTRIES_polynomials" = some (.int 401 t)
  m_MOST_GRAIN : ∃ t, mg "MOST_GRAIN" = some (.int 64 t)
  m_MOST_ENTRIES_leastroots : ∃ t, mg "MOST_ENTRIES_leastroots" = some (.int 401 t)
  c0 : Cal P w K mg base o lv 0 "divisor_of" ["one", "other"]
  c1 : Cal P w K mg base o lv 1 "lowest" ["above", "below"]
  c2 : Cal P w K mg base o lv 2 "made_low" ["row"]
  c3 : Cal P w K mg base o lv 3 "cut_zeros" ["row"]
  c4 : Cal P w K mg base o lv 4 "is_integer" ["value"]
  c5 : Cal P w K mg base o lv 5 "is_number" ["value", "low", "high"]
  c6 : Cal P w K mg base o lv 6 "need_number" ["value", "low", "high"]
  c7 : Cal P w K mg base o lv 7 "is_tuple_of" ["value", "low", "high"]
  c8 : Cal P w K mg base o lv 8 "fits_polynomial_polynomials" ["value"]
  c9 : Cal P w K mg base o lv 9 "cut_off" ["entries"]
  c10 : Cal P w K mg base o lv 10 "times" ["one", "two"]
  c11 : Cal P w K mg base o lv 11 "need_two_polys" ["one", "two"]
  c12 : Cal P w K mg base o lv 12 "poly_product" ["one", "two"]
  c13 : Cal P w K mg base o lv 13 "is_at_most" ["one", "other"]
  c14 : Cal P w K mg base o lv 14 "fits_polynomial_leastroots" ["value"]
  c15 : Cal P w K mg base o lv 15 "slope_of" ["row"]
  c16 : Cal P w K mg base o lv 16 "rest_of" ["one", "other"]
  c17 : Cal P w K mg base o lv 17 "rows_of_rests" ["polynomial"]
  c18 : Cal P w K mg base o lv 18 "sign_at" ["row", "number"]
  c19 : Cal P w K mg base o lv 19 "changes_at" ["rows", "number"]
  c20 : Cal P w K mg base o lv 20 "quotient_of" ["one", "other"]
  c21 : Cal P w K mg base o lv 21 "without_doubles" ["polynomial"]
  c22 : Cal P w K mg base o lv 22 "roots_in" ["rows", "low", "high"]
  c23 : Cal P w K mg base o lv 23 "rows_for" ["polynomial"]
  c24 : Cal P w K mg base o lv 24 "cell_in" ["polynomial", "grain"]
  c25 : Cal P w K mg base o lv 25 "need_polynomial" ["value"]
  c26 : Cal P w K mg base o lv 26 "need_fraction" ["value"]
  c27 : Cal P w K mg base o lv 27 "roots_between" ["polynomial", "low", "high"]
  c28 : Cal P w K mg base o lv 28 "least_root_cell" ["polynomial", "grain"]
  c29 : Cal P w K mg base o lv 29 "_law_cup" ["script"]
  c30 : Cal P w K mg base o lv 30 "_law_roll" ["cup", "many"]
  c31 : Cal P w K mg base o lv 31 "_law_sort" ["value"]
  c32 : Cal P w K mg base o lv 32 "_law_like" ["one", "other"]
  c33 : Cal P w K mg base o lv 33 "_law_gcd" ["one", "other"]
  c34 : Cal P w K mg base o lv 34 "_law_low" ["above", "below"]
  c35 : Cal P w K mg base o lv 35 "_law_is_most" ["one", "other"]
  c36 : Cal P w K mg base o lv 36 "_law_value" ["polynomial", "number"]
  c37 : Cal P w K mg base o lv 37 "_law_product" ["cup", "many"]
  c38 : Cal P w K mg base o lv 38 "_law_sorted" ["roots"]
  c39 : Cal P w K mg base o lv 39 "_law_right" ["cup", "polynomial", "roots"]
  c40 : Cal P w K mg base o lv 40 "_law_signs_right" ["cup"]
  c41 : Cal P w K mg base o lv 41 "law" ["script"]
section
variable {P : Program} {w : World} {K : PySem.W.Frag} {mg : Str → Option Value} {base : Heap} {lv : Nat} {f : Addr} {fd : FuncData}
theorem sc0 : FnScope ["one", "other"] ["one", "other"] (defScope s0) := ⟨rfl, rfl, rfl, by decide +kernel, rfl, by decide +kernel, by decide +kernel⟩
theorem ok0 (C : Ctx P w K mg base (tbl lv) lv) (F : FunD K "divisor_of" "divisor_of" (defArgs s0) (defBody s0) (defScope s0) [] [] f fd) : FnOk P w K mg base CX0 (lv + 1) f fd ["one", "other"] (spE K (tbl (lv + 1)) 0 2) :=
  def_ok F sc0 (fun _ _ => rfl) fun cdv A outer s H E hr => by
    have nd := sc0.nd
    have hu64 := hr.units
    have hu70 := hu70_of hr
    exact svs_cons (sv_par2 (ix := 0) (jx := 1) rfl nd (av_cons (ev_abs C.B (av_cons (ev_var 0) av_nil)) (av_cons (ev_abs C.B (av_cons (ev_var 1) av_nil)) av_nil)) (by rfl)) (svs_cons (sv_while PassesOwn.never (tv_ne hu64 (ev_var 1) ev_int) (svs_one (sv_par2 (ix := 0) (jx := 1) rfl nd (av_cons (ev_var 1) (av_cons (ev_mod (ev_var 0) (ev_var 1)) av_nil)) (by rfl)))) (svs_one (sv_ret (ev_var 0))))
theorem sc1 : FnScope ["above", "below", "common"] ["above", "below"] (defScope s1) := ⟨rfl, rfl, rfl, by decide +kernel, rfl, by decide +kernel, by decide +kernel⟩
theorem ok1 (C : Ctx P w K mg base (tbl lv) lv) (F : FunD K "lowest" "lowest" (defArgs s1) (defBody s1) (defScope s1) [] [] f fd) : FnOk P w K mg base CX0 (lv + 1) f fd ["above", "below"] (spE K (tbl (lv + 1)) 1 2) :=
  def_ok F sc1 (fun _ _ => rfl) fun cdv A outer s H E hr => by
    have nd := sc1.nd
    have hu64 := hr.units
    have hu70 := hu70_of hr
    exact svs_cons (sv_asg (ev_mul (ev_call C.c0 hr (av_cons (ev_var 0) (av_cons (ev_var 1) av_nil))) (ev_if (tv_gt (ev_var 1) ev_int) ev_int (ev_neg ev_int))) (gv_name 2 nd)) (svs_one (sv_ret (ev_tup (av_cons (ev_div (ev_var 0) (ev_var 2)) (av_cons (ev_div (ev_var 1) (ev_var 2)) av_nil)))))
theorem sc2 : FnScope ["row", "common", "own"] ["row"] (defScope s2) := ⟨rfl, rfl, rfl, by decide +kernel, rfl, by decide +kernel, by decide +kernel⟩
theorem ok2 (C : Ctx P w K mg base (tbl lv) lv) (F : FunD K "made_low" "made_low" (defArgs s2) (defBody s2) (defScope s2) [] [] f fd) : FnOk P w K mg base CX0 (lv + 1) f fd ["row"] (spE K (tbl (lv + 1)) 2 1) :=
  def_ok F sc2 (fun _ _ => rfl) fun cdv A outer s H E hr => by
    have nd := sc2.nd
    have hu64 := hr.units
    have hu70 := hu70_of hr
    exact svs_cons (sv_asg ev_int (gv_name 1 nd)) (svs_cons (sv_for PassesOwn.never rfl (iv_seq (ev_var 0)) (gv_name 2 nd) (svs_one (sv_asg (ev_call C.c0 hr (av_cons (ev_var 1) (av_cons (ev_var 2) av_nil))) (gv_name 1 nd)))) (svs_one (sv_ret (ev_if (tv_gt (ev_var 1) ev_int) (ev_lc (own := ([("own", 2)] : List (Str × Nat))) rfl nd (iv_seq (ev_var 0)) (blkOk_by (N := ["row", "common", "own"]) (sc := defScope s2) (by decide +kernel)) (fun _ _ _ _ _ => gv_name 2 nd) (fun _ _ _ _ _ => pts_nilv) (fun _ _ _ _ _ => ev_div (ev_var 2) (ev_var 1))) (ev_list C.B (av_cons (ev_var 0) av_nil))))))
theorem sc3 : FnScope ["row", "found"] ["row"] (defScope s3) := ⟨rfl, rfl, rfl, by decide +kernel, rfl, by decide +kernel, by decide +kernel⟩
theorem ok3 (C : Ctx P w K mg base (tbl lv) lv) (F : FunD K "cut_zeros" "cut_zeros" (defArgs s3) (defBody s3) (defScope s3) [] [] f fd) : FnOk P w K mg base CX0 (lv + 1) f fd ["row"] (spE K (tbl (lv + 1)) 3 1) :=
  def_ok F sc3 (fun _ _ => rfl) fun cdv A outer s H E hr => by
    have nd := sc3.nd
    have hu64 := hr.units
    have hu70 := hu70_of hr
    exact svs_cons (sv_asg (ev_list C.B (av_cons (ev_var 0) av_nil)) (gv_name 1 nd)) (svs_cons (sv_while PassesOwn.never (PW.pt (tv_and (tv_ne hu64 (ev_var 1) (ev_lst av_nil)) (tv_and1 (tv_eq hu64 (ev_at (ev_var 1) (ev_neg ev_int)) ev_int)))) (svs_one (sv_expr (ev_pop (ev_var 1))))) (svs_one (sv_ret (ev_var 1))))
theorem sc4 : FnScope ["value"] ["value"] (defScope s4) := ⟨rfl, rfl, rfl, by decide +kernel, rfl, by decide +kernel, by decide +kernel⟩
theorem ok4 (C : Ctx P w K mg base (tbl lv) lv) (F : FunD K "is_integer" "is_integer" (defArgs s4) (defBody s4) (defScope s4) [] [] f fd) : FnOk P w K mg base CX0 (lv + 1) f fd ["value"] (spE K (tbl (lv + 1)) 4 1) :=
  def_ok F sc4 (fun _ _ => rfl) fun cdv A outer s H E hr => by
    have nd := sc4.nd
    have hu64 := hr.units
    have hu70 := hu70_of hr
    exact svs_one (sv_ret (ev_and (ev_isi .int C.B.isinstance C.B.int (by decide +kernel) (ev_var 0)) (ev_one (ev_not (ev_isi .bool C.B.isinstance C.B.bool (by decide +kernel) (ev_var 0))))))
theorem sc5 : FnScope ["value", "low", "high"] ["value", "low", "high"] (defScope s5) := ⟨rfl, rfl, rfl, by decide +kernel, rfl, by decide +kernel, by decide +kernel⟩
theorem ok5 (C : Ctx P w K mg base (tbl lv) lv) (F : FunD K "is_number" "is_number" (defArgs s5) (defBody s5) (defScope s5) [] [] f fd) : FnOk P w K mg base CX0 (lv + 1) f fd ["value", "low", "high"] (spE K (tbl (lv + 1)) 5 3) :=
  def_ok F sc5 (fun _ _ => rfl) fun cdv A outer s H E hr => by
    have nd := sc5.nd
    have hu64 := hr.units
    have hu70 := hu70_of hr
    exact svs_one (sv_ret (ev_and (ev_call C.c4 hr (av_cons (ev_var 0) av_nil)) (ev_one (ev_leLe (ev_var 1) (ev_var 0) (ev_var 2)))))
theorem sc6 : FnScope ["value", "low", "high"] ["value", "low", "high"] (defScope s6) := ⟨rfl, rfl, rfl, by decide +kernel, rfl, by decide +kernel, by decide +kernel⟩
theorem ok6 (C : Ctx P w K mg base (tbl lv) lv) (F : FunD K "need_number" "need_number" (defArgs s6) (defBody s6) (defScope s6) [] [] f fd) : FnOk P w K mg base CX0 (lv + 1) f fd ["value", "low", "high"] (spE K (tbl (lv + 1)) 6 3) :=
  def_ok F sc6 (fun _ _ => rfl) fun cdv A outer s H E hr => by
    have nd := sc6.nd
    have hu64 := hr.units
    have hu70 := hu70_of hr
    exact svs_one (sv_if (tv_not (ev_tval (ev_call C.c5 hr (av_cons (ev_var 0) (av_cons (ev_var 1) (av_cons (ev_var 2) av_nil)))))) (svs_one sv_no) svs_nil)
theorem sc7 : FnScope ["value", "low", "high"] ["value", "low", "high"] (defScope s7) := ⟨rfl, rfl, rfl, by decide +kernel, rfl, by decide +kernel, by decide +kernel⟩
theorem ok7 (C : Ctx P w K mg base (tbl lv) lv) (F : FunD K "is_tuple_of" "is_tuple_of" (defArgs s7) (defBody s7) (defScope s7) [] [] f fd) : FnOk P w K mg base CX0 (lv + 1) f fd ["value", "low", "high"] (spE K (tbl (lv + 1)) 7 3) :=
  def_ok F sc7 (fun _ _ => rfl) fun cdv A outer s H E hr => by
    have nd := sc7.nd
    have hu64 := hr.units
    have hu70 := hu70_of hr
    exact svs_one (sv_ret (ev_and (ev_isi .tuple C.B.isinstance C.B.tuple (by decide +kernel) (ev_var 0)) (ev_one (ev_leLe (ev_var 1) (ev_len C.B (av_cons (ev_var 0) av_nil)) (ev_var 2)))))
theorem sc8 : FnScope ["value", "entry"] ["value"] (defScope s8) := ⟨rfl, rfl, rfl, by decide +kernel, rfl, by decide +kernel, by decide +kernel⟩
theorem ok8 (C : Ctx P w K mg base (tbl lv) lv) (F : FunD K "fits_polynomial" "fits_polynomial" (defArgs s8) (defBody s8) (defScope s8) [] [] f fd) : FnOk P w K mg base CX0 (lv + 1) f fd ["value"] (spE K (tbl (lv + 1)) 8 1) :=
  def_ok F sc8 (fun _ _ => rfl) fun cdv A outer s H E hr => by
    have nd := sc8.nd
    have hu64 := hr.units
    have hu70 := hu70_of hr
    exact svs_cons (sv_if (PW.pt (tv_or (tv_not (ev_tval (ev_call C.c7 hr (av_cons (ev_var 0) (av_cons ev_int (av_cons (ev_gintE C.m_MOST_ENTRIES_polynomials) av_nil)))))) (tv_or1 (tv_not (ev_tval (ev_all C.B rfl (av_cons (ev_lc (own := ([("entry", 1)] : List (Str × Nat))) rfl nd (iv_seq (ev_var 0)) (blkOk_by (N := ["value", "entry"]) (sc := defScope s8) (by decide +kernel)) (fun _ _ _ _ _ => gv_name 1 nd) (fun _ _ _ _ _ => pts_nilv) (fun _ _ _ _ _ => ev_call C.c4 hr (av_cons (ev_var 1) av_nil))) av_nil))))))) (svs_one (sv_ret ev_bl)) svs_nil) (svs_one (sv_ret (ev_or (ev_eq hu64 (ev_var 0) (ev_tup av_nil)) (ev_one (ev_ne hu64 (ev_at (ev_var 0) (ev_neg ev_int)) ev_int)))))
theorem sc9 : FnScope ["entries", "found"] ["entries"] (defScope s9) := ⟨rfl, rfl, rfl, by decide +kernel, rfl, by decide +kernel, by decide +kernel⟩
theorem ok9 (C : Ctx P w K mg base (tbl lv) lv) (F : FunD K "cut_off" "cut_off" (defArgs s9) (defBody s9) (defScope s9) [] [] f fd) : FnOk P w K mg base CX0 (lv + 1) f fd ["entries"] (spE K (tbl (lv + 1)) 9 1) :=
  def_ok F sc9 (fun _ _ => rfl) fun cdv A outer s H E hr => by
    have nd := sc9.nd
    have hu64 := hr.units
    have hu70 := hu70_of hr
    exact svs_cons (sv_asg (ev_list C.B (av_cons (ev_var 0) av_nil)) (gv_name 1 nd)) (svs_cons (sv_while PassesOwn.never (PW.pt (tv_and (tv_ne hu64 (ev_var 1) (ev_lst av_nil)) (tv_and1 (tv_eq hu64 (ev_at (ev_var 1) (ev_neg ev_int)) ev_int)))) (svs_one (sv_expr (ev_pop (ev_var 1))))) (svs_one (sv_ret (ev_tuple C.B (av_cons (ev_var 1) av_nil)))))
theorem sc10 : FnScope ["one", "two", "found", "at", "first", "to", "second"] ["one", "two"] (defScope s10) := ⟨rfl, rfl, rfl, by decide +kernel, rfl, by decide +kernel, by decide +kernel⟩
theorem ok10 (C : Ctx P w K mg base (tbl lv) lv) (F : FunD K "times" "times" (defArgs s10) (defBody s10) (defScope s10) [] [] f fd) : FnOk P w K mg base CX0 (lv + 1) f fd ["one", "two"] (spE K (tbl (lv + 1)) 10 2) :=
  def_ok F sc10 (fun _ _ => rfl) fun cdv A outer s H E hr => by
    have nd := sc10.nd
    have hu64 := hr.units
    have hu70 := hu70_of hr
    exact svs_cons (sv_asg (ev_mul (ev_lst (av_cons ev_int av_nil)) (ev_max C.B rfl (av_cons ev_int (av_cons (ev_sub (ev_add (ev_len C.B (av_cons (ev_var 0) av_nil)) (ev_len C.B (av_cons (ev_var 1) av_nil))) ev_int) av_nil)))) (gv_name 2 nd)) (svs_cons (sv_for PassesOwn.never rfl (iv_en C.B.enumerate (av_cons (ev_var 0) av_nil)) (gv_tup rfl (gvs_name 3 nd (gvs_name 4 nd gvs_nil))) (svs_one (sv_for PassesOwn.never rfl (iv_en C.B.enumerate (av_cons (ev_var 1) av_nil)) (gv_tup rfl (gvs_name 5 nd (gvs_name 6 nd gvs_nil))) (svs_one (sv_set (ev_add (ev_at (ev_var 2) (ev_add (ev_var 3) (ev_var 5))) (ev_mul (ev_var 4) (ev_var 6))) (ev_var 2) (ev_add (ev_var 3) (ev_var 5))))))) (svs_one (sv_ret (ev_call C.c9 hr (av_cons (ev_var 2) av_nil)))))
theorem sc11 : FnScope ["one", "two"] ["one", "two"] (defScope s11) := ⟨rfl, rfl, rfl, by decide +kernel, rfl, by decide +kernel, by decide +kernel⟩
theorem ok11 (C : Ctx P w K mg base (tbl lv) lv) (F : FunD K "need_two_polys" "need_two_polys" (defArgs s11) (defBody s11) (defScope s11) [] [] f fd) : FnOk P w K mg base CX0 (lv + 1) f fd ["one", "two"] (spE K (tbl (lv + 1)) 11 2) :=
  def_ok F sc11 (fun _ _ => rfl) fun cdv A outer s H E hr => by
    have nd := sc11.nd
    have hu64 := hr.units
    have hu70 := hu70_of hr
    exact svs_one (sv_if (PW.pt (tv_or (tv_not (ev_tval (ev_call C.c8 hr (av_cons (ev_var 0) av_nil)))) (tv_or1 (tv_not (ev_tval (ev_call C.c8 hr (av_cons (ev_var 1) av_nil))))))) (svs_one sv_no) svs_nil)
theorem sc12 : FnScope ["one", "two"] ["one", "two"] (defScope s12) := ⟨rfl, rfl, rfl, by decide +kernel, rfl, by decide +kernel, by decide +kernel⟩
theorem ok12 (C : Ctx P w K mg base (tbl lv) lv) (F : FunD K "poly_product" "poly_product" (defArgs s12) (defBody s12) (defScope s12) [] [] f fd) : FnOk P w K mg base CX0 (lv + 1) f fd ["one", "two"] (spE K (tbl (lv + 1)) 12 2) :=
  def_ok F sc12 (fun _ _ => rfl) fun cdv A outer s H E hr => by
    have nd := sc12.nd
    have hu64 := hr.units
    have hu70 := hu70_of hr
    exact svs_cons (sv_expr (ev_call C.c11 hr (av_cons (ev_var 0) (av_cons (ev_var 1) av_nil)))) (svs_cons (sv_if (PW.pt (tv_and (tv_gt (ev_sub (ev_add (ev_len C.B (av_cons (ev_var 0) av_nil)) (ev_len C.B (av_cons (ev_var 1) av_nil))) ev_int) (ev_gintE C.m_MOST_ENTRIES_polynomials)) (tv_and (tv_ne hu64 (ev_var 0) (ev_tup av_nil)) (tv_and1 (tv_ne hu64 (ev_var 1) (ev_tup av_nil)))))) (svs_one sv_no) svs_nil) (svs_one (sv_ret (ev_call C.c10 hr (av_cons (ev_var 0) (av_cons (ev_var 1) av_nil))))))
theorem sc13 : FnScope ["one", "other"] ["one", "other"] (defScope s13) := ⟨rfl, rfl, rfl, by decide +kernel, rfl, by decide +kernel, by decide +kernel⟩
theorem ok13 (C : Ctx P w K mg base (tbl lv) lv) (F : FunD K "is_at_most" "is_at_most" (defArgs s13) (defBody s13) (defScope s13) [] [] f fd) : FnOk P w K mg base CX0 (lv + 1) f fd ["one", "other"] (spE K (tbl (lv + 1)) 13 2) :=
  def_ok F sc13 (fun _ _ => rfl) fun cdv A outer s H E hr => by
    have nd := sc13.nd
    have hu64 := hr.units
    have hu70 := hu70_of hr
    exact svs_one (sv_ret (ev_le (ev_mul (ev_at (ev_var 0) ev_int) (ev_at (ev_var 1) ev_int)) (ev_mul (ev_at (ev_var 1) ev_int) (ev_at (ev_var 0) ev_int))))
theorem sc14 : FnScope ["value", "own"] ["value"] (defScope s14) := ⟨rfl, rfl, rfl, by decide +kernel, rfl, by decide +kernel, by decide +kernel⟩
theorem ok14 (C : Ctx P w K mg base (tbl lv) lv) (F : FunD K "fits_polynomial" "fits_polynomial" (defArgs s14) (defBody s14) (defScope s14) [] [] f fd) : FnOk P w K mg base CX0 (lv + 1) f fd ["value"] (spE K (tbl (lv + 1)) 14 1) :=
  def_ok F sc14 (fun _ _ => rfl) fun cdv A outer s H E hr => by
    have nd := sc14.nd
    have hu64 := hr.units
    have hu70 := hu70_of hr
    exact svs_one (sv_ret (ev_and (ev_call C.c7 hr (av_cons (ev_var 0) (av_cons ev_int (av_cons (ev_gintE C.m_MOST_ENTRIES_leastroots) av_nil)))) (ev_and (ev_all C.B rfl (av_cons (ev_lc (own := ([("own", 1)] : List (Str × Nat))) rfl nd (iv_seq (ev_var 0)) (blkOk_by (N := ["value", "own"]) (sc := defScope s14) (by decide +kernel)) (fun _ _ _ _ _ => gv_name 1 nd) (fun _ _ _ _ _ => pts_nilv) (fun _ _ _ _ _ => ev_call C.c4 hr (av_cons (ev_var 1) av_nil))) av_nil)) (ev_one (ev_ne hu64 (ev_at (ev_var 0) (ev_neg ev_int)) ev_int)))))
theorem sc15 : FnScope ["row", "at", "own"] ["row"] (defScope s15) := ⟨rfl, rfl, rfl, by decide +kernel, rfl, by decide +kernel, by decide +kernel⟩
theorem ok15 (C : Ctx P w K mg base (tbl lv) lv) (F : FunD K "slope_of" "slope_of" (defArgs s15) (defBody s15) (defScope s15) [] [] f fd) : FnOk P w K mg base CX0 (lv + 1) f fd ["row"] (spE K (tbl (lv + 1)) 15 1) :=
  def_ok F sc15 (fun _ _ => rfl) fun cdv A outer s H E hr => by
    have nd := sc15.nd
    have hu64 := hr.units
    have hu70 := hu70_of hr
    exact svs_one (sv_ret (ev_slice (ev_lc (own := ([("at", 1), ("own", 2)] : List (Str × Nat))) rfl nd (iv_en C.B.enumerate (av_cons (ev_var 0) av_nil)) (blkOk_by (N := ["row", "at", "own"]) (sc := defScope s15) (by decide +kernel)) (fun _ _ _ _ _ => gv_tup rfl (gvs_name 1 nd (gvs_name 2 nd gvs_nil))) (fun _ _ _ _ _ => pts_nilv) (fun _ _ _ _ _ => ev_mul (ev_var 1) (ev_var 2))) (ov_some ev_int) ov_none))
theorem sc16 : FnScope ["one", "other", "left", "far", "top", "shift", "at", "own"] ["one", "other"] (defScope s16) := ⟨rfl, rfl, rfl, by decide +kernel, rfl, by decide +kernel, by decide +kernel⟩
theorem ok16 (C : Ctx P w K mg base (tbl lv) lv) (F : FunD K "rest_of" "rest_of" (defArgs s16) (defBody s16) (defScope s16) [] [] f fd) : FnOk P w K mg base CX0 (lv + 1) f fd ["one", "other"] (spE K (tbl (lv + 1)) 16 2) :=
  def_ok F sc16 (fun _ _ => rfl) fun cdv A outer s H E hr => by
    have nd := sc16.nd
    have hu64 := hr.units
    have hu70 := hu70_of hr
    exact svs_cons (sv_asg (ev_tup (av_cons (ev_list C.B (av_cons (ev_var 0) av_nil)) (av_cons (ev_abs C.B (av_cons (ev_at (ev_var 1) (ev_neg ev_int)) av_nil)) av_nil))) (gv_tup rfl (gvs_name 2 nd (gvs_name 3 nd gvs_nil)))) (svs_cons (sv_while PassesOwn.never (tv_ge (ev_len C.B (av_cons (ev_var 2) av_nil)) (ev_len C.B (av_cons (ev_var 1) av_nil))) (svs_cons (sv_par2 (ix := 4) (jx := 5) rfl nd (av_cons (ev_mul (ev_at (ev_var 2) (ev_neg ev_int)) (ev_if (tv_gt (ev_at (ev_var 1) (ev_neg ev_int)) ev_int) ev_int (ev_neg ev_int))) (av_cons (ev_sub (ev_len C.B (av_cons (ev_var 2) av_nil)) (ev_len C.B (av_cons (ev_var 1) av_nil))) av_nil)) (by rfl)) (svs_cons (sv_setLc (own := ([("own", 7)] : List (Str × Nat))) (ix := 2) rfl nd (sw_true rfl rfl rfl (by decide +kernel)) (iv_seq (ev_var 2)) (blkOk_by (N := ["one", "other", "left", "far", "top", "shift", "at", "own"]) (sc := defScope s16) (by decide +kernel)) (fun _ _ _ _ _ => gv_name 7 nd) (fun _ _ _ _ _ => pts_nilv) (fun _ _ _ _ _ => ev_mul (ev_var 7) (ev_var 3))) (svs_cons (sv_for PassesOwn.never rfl (iv_en C.B.enumerate (av_cons (ev_var 1) av_nil)) (gv_tup rfl (gvs_name 6 nd (gvs_name 7 nd gvs_nil))) (svs_one (sv_set (ev_sub (ev_at (ev_var 2) (ev_add (ev_var 6) (ev_var 5))) (ev_mul (ev_var 4) (ev_var 7))) (ev_var 2) (ev_add (ev_var 6) (ev_var 5))))) (svs_one (sv_asg (ev_call C.c2 hr (av_cons (ev_call C.c3 hr (av_cons (ev_slice (ev_var 2) ov_none (ov_some (ev_neg ev_int))) av_nil)) av_nil)) (gv_name 2 nd))))))) (svs_one (sv_ret (ev_var 2))))
theorem sc17 : FnScope ["polynomial", "found", "own"] ["polynomial"] (defScope s17) := ⟨rfl, rfl, rfl, by decide +kernel, rfl, by decide +kernel, by decide +kernel⟩
theorem ok17 (C : Ctx P w K mg base (tbl lv) lv) (F : FunD K "rows_of_rests" "rows_of_rests" (defArgs s17) (defBody s17) (defScope s17) [] [] f fd) : FnOk P w K mg base CX0 (lv + 1) f fd ["polynomial"] (spE K (tbl (lv + 1)) 17 1) :=
  def_ok F sc17 (fun _ _ => rfl) fun cdv A outer s H E hr => by
    have nd := sc17.nd
    have hu64 := hr.units
    have hu70 := hu70_of hr
    exact svs_cons (sv_asg (ev_lst (av_cons (ev_list C.B (av_cons (ev_var 0) av_nil)) (av_cons (ev_call C.c15 hr (av_cons (ev_var 0) av_nil)) av_nil))) (gv_name 1 nd)) (svs_cons (sv_while PassesOwn.never (tv_ne hu64 (ev_at (ev_var 1) (ev_neg ev_int)) (ev_lst av_nil)) (svs_one (sv_expr (ev_app (ev_var 1) (av_cons (ev_lc (own := ([("own", 2)] : List (Str × Nat))) rfl nd (iv_seq (ev_call C.c16 hr (av_cons (ev_at (ev_var 1) (ev_neg ev_int)) (av_cons (ev_at (ev_var 1) (ev_neg ev_int)) av_nil)))) (blkOk_by (N := ["polynomial", "found", "own"]) (sc := defScope s17) (by decide +kernel)) (fun _ _ _ _ _ => gv_name 2 nd) (fun _ _ _ _ _ => pts_nilv) (fun _ _ _ _ _ => ev_neg (ev_var 2))) av_nil))))) (svs_one (sv_ret (ev_slice (ev_var 1) ov_none (ov_some (ev_neg ev_int))))))
theorem sc18 : FnScope ["row", "number", "above", "below", "found", "scale", "own"] ["row", "number"] (defScope s18) := ⟨rfl, rfl, rfl, by decide +kernel, rfl, by decide +kernel, by decide +kernel⟩
theorem ok18 (C : Ctx P w K mg base (tbl lv) lv) (F : FunD K "sign_at" "sign_at" (defArgs s18) (defBody s18) (defScope s18) [] [] f fd) : FnOk P w K mg base CX0 (lv + 1) f fd ["row", "number"] (spE K (tbl (lv + 1)) 18 2) :=
  def_ok F sc18 (fun _ _ => rfl) fun cdv A outer s H E hr => by
    have nd := sc18.nd
    have hu64 := hr.units
    have hu70 := hu70_of hr
    exact svs_cons (sv_asg (ev_var 1) (gv_tup rfl (gvs_name 2 nd (gvs_name 3 nd gvs_nil)))) (svs_cons (sv_asg (ev_tup (av_cons ev_int (av_cons ev_int av_nil))) (gv_tup rfl (gvs_name 4 nd (gvs_name 5 nd gvs_nil)))) (svs_cons (sv_for PassesOwn.never rfl (iv_seq (ev_rev (ev_var 0))) (gv_name 6 nd) (svs_one (sv_par2 (ix := 4) (jx := 5) rfl nd (av_cons (ev_add (ev_mul (ev_var 4) (ev_var 2)) (ev_mul (ev_var 6) (ev_var 5))) (av_cons (ev_mul (ev_var 5) (ev_var 3)) av_nil)) (by rfl)))) (svs_one (sv_ret (ev_sub (ev_gt (ev_var 4) ev_int) (ev_lt (ev_var 4) ev_int))))))
theorem sc19 : FnScope ["rows", "number", "signs", "sign", "one", "other", "row"] ["rows", "number"] (defScope s19) := ⟨rfl, rfl, rfl, by decide +kernel, rfl, by decide +kernel, by decide +kernel⟩
theorem ok19 (C : Ctx P w K mg base (tbl lv) lv) (F : FunD K "changes_at" "changes_at" (defArgs s19) (defBody s19) (defScope s19) [] [] f fd) : FnOk P w K mg base CX0 (lv + 1) f fd ["rows", "number"] (spE K (tbl (lv + 1)) 19 2) :=
  def_ok F sc19 (fun _ _ => rfl) fun cdv A outer s H E hr => by
    have nd := sc19.nd
    have hu64 := hr.units
    have hu70 := hu70_of hr
    exact svs_cons (sv_setLc (own := ([("sign", 3)] : List (Str × Nat))) (ix := 2) rfl nd (sw_true rfl rfl rfl (by decide +kernel)) (iv_seq (ev_lc (own := ([("row", 6)] : List (Str × Nat))) rfl nd (iv_seq (ev_var 0)) (blkOk_by (N := ["rows", "number", "signs", "sign", "one", "other", "row"]) (sc := defScope s19) (by decide +kernel)) (fun _ _ _ _ _ => gv_name 6 nd) (fun _ _ _ _ _ => pts_nilv) (fun _ _ _ _ _ => ev_call C.c18 hr (av_cons (ev_var 6) (av_cons (ev_var 1) av_nil))))) (blkOk_by (N := ["rows", "number", "signs", "sign", "one", "other", "row"]) (sc := defScope s19) (by decide +kernel)) (fun _ _ _ _ _ => gv_name 3 nd) (fun _ _ _ _ _ => pts_onev (tv_ne hu64 (ev_var 3) ev_int)) (fun _ _ _ _ _ => ev_var 3)) (svs_one (sv_ret (ev_len C.B (av_cons (ev_lc (own := ([("one", 4), ("other", 5)] : List (Str × Nat))) rfl nd (iv_zip C.B.zip (av_cons (ev_var 2) (av_cons (ev_slice (ev_var 2) (ov_some ev_int) ov_none) av_nil))) (blkOk_by (N := ["rows", "number", "signs", "sign", "one", "other", "row"]) (sc := defScope s19) (by decide +kernel)) (fun _ _ _ _ _ => gv_tup rfl (gvs_name 4 nd (gvs_name 5 nd gvs_nil))) (fun _ _ _ _ _ => pts_onev (tv_ne hu64 (ev_var 4) (ev_var 5))) (fun _ _ _ _ _ => ev_var 4)) av_nil))))
theorem sc20 : FnScope ["one", "other", "left", "found", "far", "shift", "top", "at", "own"] ["one", "other"] (defScope s20) := ⟨rfl, rfl, rfl, by decide +kernel, rfl, by decide +kernel, by decide +kernel⟩
theorem ok20 (C : Ctx P w K mg base (tbl lv) lv) (F : FunD K "quotient_of" "quotient_of" (defArgs s20) (defBody s20) (defScope s20) [] [] f fd) : FnOk P w K mg base CX0 (lv + 1) f fd ["one", "other"] (spE K (tbl (lv + 1)) 20 2) :=
  def_ok F sc20 (fun _ _ => rfl) fun cdv A outer s H E hr => by
    have nd := sc20.nd
    have hu64 := hr.units
    have hu70 := hu70_of hr
    exact svs_cons (sv_asg (ev_tup (av_cons (ev_list C.B (av_cons (ev_var 0) av_nil)) (av_cons (ev_lst av_nil) (av_cons (ev_at (ev_var 1) (ev_neg ev_int)) av_nil)))) (gv_tup rfl (gvs_name 2 nd (gvs_name 3 nd (gvs_name 4 nd gvs_nil))))) (svs_cons (sv_for PassesOwn.never rfl (iv_rgD C.B.range (av_cons (ev_sub (ev_len C.B (av_cons (ev_var 0) av_nil)) (ev_len C.B (av_cons (ev_var 1) av_nil))) (av_cons (ev_neg ev_int) (av_cons (ev_neg ev_int) av_nil)))) (gv_name 5 nd) (svs_cons (sv_setLc (own := ([("own", 8)] : List (Str × Nat))) (ix := 3) rfl nd (sw_true rfl rfl rfl (by decide +kernel)) (iv_seq (ev_var 3)) (blkOk_by (N := ["one", "other", "left", "found", "far", "shift", "top", "at", "own"]) (sc := defScope s20) (by decide +kernel)) (fun _ _ _ _ _ => gv_name 8 nd) (fun _ _ _ _ _ => pts_nilv) (fun _ _ _ _ _ => ev_mul (ev_var 8) (ev_var 4))) (svs_cons (sv_asg (ev_at (ev_var 2) (ev_add (ev_sub (ev_len C.B (av_cons (ev_var 1) av_nil)) ev_int) (ev_var 5))) (gv_name 6 nd)) (svs_cons (sv_setLc (own := ([("own", 8)] : List (Str × Nat))) (ix := 2) rfl nd (sw_true rfl rfl rfl (by decide +kernel)) (iv_seq (ev_var 2)) (blkOk_by (N := ["one", "other", "left", "found", "far", "shift", "top", "at", "own"]) (sc := defScope s20) (by decide +kernel)) (fun _ _ _ _ _ => gv_name 8 nd) (fun _ _ _ _ _ => pts_nilv) (fun _ _ _ _ _ => ev_mul (ev_var 8) (ev_var 4))) (svs_cons (sv_for PassesOwn.never rfl (iv_en C.B.enumerate (av_cons (ev_var 1) av_nil)) (gv_tup rfl (gvs_name 7 nd (gvs_name 8 nd gvs_nil))) (svs_one (sv_set (ev_sub (ev_at (ev_var 2) (ev_add (ev_var 7) (ev_var 5))) (ev_mul (ev_var 6) (ev_var 8))) (ev_var 2) (ev_add (ev_var 7) (ev_var 5))))) (svs_one (sv_expr (ev_app (ev_var 3) (av_cons (ev_var 6) av_nil))))))))) (svs_one (sv_ret (ev_call C.c2 hr (av_cons (ev_rev (ev_var 3)) av_nil)))))
theorem sc21 : FnScope ["polynomial", "common"] ["polynomial"] (defScope s21) := ⟨rfl, rfl, rfl, by decide +kernel, rfl, by decide +kernel, by decide +kernel⟩
theorem ok21 (C : Ctx P w K mg base (tbl lv) lv) (F : FunD K "without_doubles" "without_doubles" (defArgs s21) (defBody s21) (defScope s21) [] [] f fd) : FnOk P w K mg base CX0 (lv + 1) f fd ["polynomial"] (spE K (tbl (lv + 1)) 21 1) :=
  def_ok F sc21 (fun _ _ => rfl) fun cdv A outer s H E hr => by
    have nd := sc21.nd
    have hu64 := hr.units
    have hu70 := hu70_of hr
    exact svs_cons (sv_asg (ev_at (ev_call C.c17 hr (av_cons (ev_var 0) av_nil)) (ev_neg ev_int)) (gv_name 1 nd)) (svs_one (sv_ret (ev_if (tv_lt (ev_len C.B (av_cons (ev_var 1) av_nil)) ev_int) (ev_list C.B (av_cons (ev_var 0) av_nil)) (ev_call C.c20 hr (av_cons (ev_var 0) (av_cons (ev_var 1) av_nil))))))
theorem sc22 : FnScope ["rows", "low", "high"] ["rows", "low", "high"] (defScope s22) := ⟨rfl, rfl, rfl, by decide +kernel, rfl, by decide +kernel, by decide +kernel⟩
theorem ok22 (C : Ctx P w K mg base (tbl lv) lv) (F : FunD K "roots_in" "roots_in" (defArgs s22) (defBody s22) (defScope s22) [] [] f fd) : FnOk P w K mg base CX0 (lv + 1) f fd ["rows", "low", "high"] (spE K (tbl (lv + 1)) 22 3) :=
  def_ok F sc22 (fun _ _ => rfl) fun cdv A outer s H E hr => by
    have nd := sc22.nd
    have hu64 := hr.units
    have hu70 := hu70_of hr
    exact svs_one (sv_ret (ev_sub (ev_call C.c19 hr (av_cons (ev_var 0) (av_cons (ev_var 1) av_nil))) (ev_call C.c19 hr (av_cons (ev_var 0) (av_cons (ev_var 2) av_nil)))))
theorem sc23 : FnScope ["polynomial"] ["polynomial"] (defScope s23) := ⟨rfl, rfl, rfl, by decide +kernel, rfl, by decide +kernel, by decide +kernel⟩
theorem ok23 (C : Ctx P w K mg base (tbl lv) lv) (F : FunD K "rows_for" "rows_for" (defArgs s23) (defBody s23) (defScope s23) [] [] f fd) : FnOk P w K mg base CX0 (lv + 1) f fd ["polynomial"] (spE K (tbl (lv + 1)) 23 1) :=
  def_ok F sc23 (fun _ _ => rfl) fun cdv A outer s H E hr => by
    have nd := sc23.nd
    have hu64 := hr.units
    have hu70 := hu70_of hr
    exact svs_one (sv_ret (ev_call C.c17 hr (av_cons (ev_call C.c21 hr (av_cons (ev_var 0) av_nil)) av_nil)))
theorem sc24 : FnScope ["polynomial", "grain", "rows", "far", "low", "high", "middle", "own"] ["polynomial", "grain"] (defScope s24) := ⟨rfl, rfl, rfl, by decide +kernel, rfl, by decide +kernel, by decide +kernel⟩
theorem ok24 (C : Ctx P w K mg base (tbl lv) lv) (F : FunD K "cell_in" "cell_in" (defArgs s24) (defBody s24) (defScope s24) [] [] f fd) : FnOk P w K mg base CX0 (lv + 1) f fd ["polynomial", "grain"] (spE K (tbl (lv + 1)) 24 2) :=
  def_ok F sc24 (fun _ _ => rfl) fun cdv A outer s H E hr => by
    have nd := sc24.nd
    have hu64 := hr.units
    have hu70 := hu70_of hr
    exact svs_cons (sv_asg (ev_call C.c23 hr (av_cons (ev_var 0) av_nil)) (gv_name 2 nd)) (svs_cons (sv_asg (ev_add ev_int (ev_max C.B rfl (av_cons (ev_lc (own := ([("own", 7)] : List (Str × Nat))) rfl nd (iv_seq (ev_at (ev_var 2) ev_int)) (blkOk_by (N := ["polynomial", "grain", "rows", "far", "low", "high", "middle", "own"]) (sc := defScope s24) (by decide +kernel)) (fun _ _ _ _ _ => gv_name 7 nd) (fun _ _ _ _ _ => pts_nilv) (fun _ _ _ _ _ => ev_abs C.B (av_cons (ev_var 7) av_nil))) av_nil))) (gv_name 3 nd)) (svs_cons (sv_if (tv_eq hu64 (ev_call C.c22 hr (av_cons (ev_var 2) (av_cons (ev_tup (av_cons ev_int (av_cons ev_int av_nil))) (av_cons (ev_tup (av_cons (ev_var 3) (av_cons ev_int av_nil))) av_nil)))) ev_int) (svs_one (sv_ret ev_non)) svs_nil) (svs_cons (sv_par2 (ix := 4) (jx := 5) rfl nd (av_cons ev_int (av_cons (ev_mul (ev_var 3) (ev_var 1)) av_nil)) (by rfl)) (svs_cons (sv_while PassesOwn.never (tv_gt (ev_sub (ev_var 5) (ev_var 4)) ev_int) (svs_cons (sv_asg (ev_div (ev_add (ev_var 4) (ev_var 5)) ev_int) (gv_name 6 nd)) (svs_one (sv_if (tv_eq hu64 (ev_call C.c22 hr (av_cons (ev_var 2) (av_cons (ev_tup (av_cons ev_int (av_cons ev_int av_nil))) (av_cons (ev_tup (av_cons (ev_var 6) (av_cons (ev_var 1) av_nil))) av_nil)))) ev_int) (svs_one (sv_asg (ev_var 6) (gv_name 4 nd))) (svs_one (sv_asg (ev_var 6) (gv_name 5 nd))))))) (svs_one (sv_ret (ev_var 4)))))))
theorem sc25 : FnScope ["value"] ["value"] (defScope s25) := ⟨rfl, rfl, rfl, by decide +kernel, rfl, by decide +kernel, by decide +kernel⟩
theorem ok25 (C : Ctx P w K mg base (tbl lv) lv) (F : FunD K "need_polynomial" "need_polynomial" (defArgs s25) (defBody s25) (defScope s25) [] [] f fd) : FnOk P w K mg base CX0 (lv + 1) f fd ["value"] (spE K (tbl (lv + 1)) 25 1) :=
  def_ok F sc25 (fun _ _ => rfl) fun cdv A outer s H E hr => by
    have nd := sc25.nd
    have hu64 := hr.units
    have hu70 := hu70_of hr
    exact svs_one (sv_if (tv_not (ev_tval (ev_call C.c14 hr (av_cons (ev_var 0) av_nil)))) (svs_one sv_no) svs_nil)
theorem sc26 : FnScope ["value", "own"] ["value"] (defScope s26) := ⟨rfl, rfl, rfl, by decide +kernel, rfl, by decide +kernel, by decide +kernel⟩
theorem ok26 (C : Ctx P w K mg base (tbl lv) lv) (F : FunD K "need_fraction" "need_fraction" (defArgs s26) (defBody s26) (defScope s26) [] [] f fd) : FnOk P w K mg base CX0 (lv + 1) f fd ["value"] (spE K (tbl (lv + 1)) 26 1) :=
  def_ok F sc26 (fun _ _ => rfl) fun cdv A outer s H E hr => by
    have nd := sc26.nd
    have hu64 := hr.units
    have hu70 := hu70_of hr
    exact svs_cons (sv_if (PW.pt (tv_or (tv_not (ev_tval (ev_call C.c7 hr (av_cons (ev_var 0) (av_cons ev_int (av_cons ev_int av_nil)))))) (tv_or1 (tv_not (ev_tval (ev_all C.B rfl (av_cons (ev_lc (own := ([("own", 1)] : List (Str × Nat))) rfl nd (iv_seq (ev_var 0)) (blkOk_by (N := ["value", "own"]) (sc := defScope s26) (by decide +kernel)) (fun _ _ _ _ _ => gv_name 1 nd) (fun _ _ _ _ _ => pts_nilv) (fun _ _ _ _ _ => ev_call C.c4 hr (av_cons (ev_var 1) av_nil))) av_nil))))))) (svs_one sv_no) svs_nil) (svs_one (sv_if (PW.pt (tv_or (tv_lt (ev_at (ev_var 0) ev_int) ev_int) (tv_or1 (tv_ne hu64 (ev_call C.c1 hr (av_cons (ev_at (ev_var 0) ev_int) (av_cons (ev_at (ev_var 0) ev_int) av_nil))) (ev_var 0))))) (svs_one sv_no) svs_nil))
theorem sc27 : FnScope ["polynomial", "low", "high"] ["polynomial", "low", "high"] (defScope s27) := ⟨rfl, rfl, rfl, by decide +kernel, rfl, by decide +kernel, by decide +kernel⟩
theorem ok27 (C : Ctx P w K mg base (tbl lv) lv) (F : FunD K "roots_between" "roots_between" (defArgs s27) (defBody s27) (defScope s27) [] [] f fd) : FnOk P w K mg base CX0 (lv + 1) f fd ["polynomial", "low", "high"] (spE K (tbl (lv + 1)) 27 3) :=
  def_ok F sc27 (fun _ _ => rfl) fun cdv A outer s H E hr => by
    have nd := sc27.nd
    have hu64 := hr.units
    have hu70 := hu70_of hr
    exact svs_cons (sv_expr (ev_call C.c25 hr (av_cons (ev_var 0) av_nil))) (svs_cons (sv_expr (ev_call C.c26 hr (av_cons (ev_var 1) av_nil))) (svs_cons (sv_expr (ev_call C.c26 hr (av_cons (ev_var 2) av_nil))) (svs_cons (sv_if (tv_not (ev_tval (ev_call C.c13 hr (av_cons (ev_var 1) (av_cons (ev_var 2) av_nil))))) (svs_one sv_no) svs_nil) (svs_one (sv_ret (ev_call C.c22 hr (av_cons (ev_call C.c23 hr (av_cons (ev_var 0) av_nil)) (av_cons (ev_var 1) (av_cons (ev_var 2) av_nil)))))))))
theorem sc28 : FnScope ["polynomial", "grain"] ["polynomial", "grain"] (defScope s28) := ⟨rfl, rfl, rfl, by decide +kernel, rfl, by decide +kernel, by decide +kernel⟩
theorem ok28 (C : Ctx P w K mg base (tbl lv) lv) (F : FunD K "least_root_cell" "least_root_cell" (defArgs s28) (defBody s28) (defScope s28) [] [] f fd) : FnOk P w K mg base CX0 (lv + 1) f fd ["polynomial", "grain"] (spE K (tbl (lv + 1)) 28 2) :=
  def_ok F sc28 (fun _ _ => rfl) fun cdv A outer s H E hr => by
    have nd := sc28.nd
    have hu64 := hr.units
    have hu70 := hu70_of hr
    exact svs_cons (sv_expr (ev_call C.c25 hr (av_cons (ev_var 0) av_nil))) (svs_cons (sv_expr (ev_call C.c6 hr (av_cons (ev_var 1) (av_cons ev_int (av_cons (ev_gintE C.m_MOST_GRAIN) av_nil))))) (svs_one (sv_ret (ev_call C.c24 hr (av_cons (ev_var 0) (av_cons (ev_var 1) av_nil))))))
theorem sc29 : FnScope ["script", "cell"] ["script"] (defScope s29) := ⟨rfl, rfl, rfl, by decide +kernel, rfl, by decide +kernel, by decide +kernel⟩
theorem ok29 (C : Ctx P w K mg base (tbl lv) lv) (F : FunD K "_law_cup" "_law_cup" (defArgs s29) (defBody s29) (defScope s29) [] [] f fd) : FnOk P w K mg base CX0 (lv + 1) f fd ["script"] (spE K (tbl (lv + 1)) 29 1) :=
  def_ok F sc29 (fun _ _ => rfl) fun cdv A outer s H E hr => by
    have nd := sc29.nd
    have hu64 := hr.units
    have hu70 := hu70_of hr
    exact svs_cons (sv_asg (ev_abs C.B (av_cons (ev_at (ev_add (ev_list C.B (av_cons (ev_var 0) av_nil)) (ev_lst (av_cons ev_int av_nil))) ev_int) av_nil)) (gv_name 1 nd)) (svs_one (sv_ret (ev_lst (av_cons (ev_if (tv_ge (ev_var 1) (ev_pow ev_int ev_int)) (ev_div (ev_var 1) ev_int) ev_int) (av_cons (ev_add (ev_mod (ev_toint C.B (av_cons (ev_add (ev_mul (ev_var 1) ev_int) ev_int) av_nil)) ev_int) ev_int) av_nil)))))
theorem sc30 : FnScope ["cup", "many", "found", "deep"] ["cup", "many"] (defScope s30) := ⟨rfl, rfl, rfl, by decide +kernel, rfl, by decide +kernel, by decide +kernel⟩
theorem ok30 (C : Ctx P w K mg base (tbl lv) lv) (F : FunD K "_law_roll" "_law_roll" (defArgs s30) (defBody s30) (defScope s30) [] [] f fd) : FnOk P w K mg base CX0 (lv + 1) f fd ["cup", "many"] (spE K (tbl (lv + 1)) 30 2) :=
  def_ok F sc30 (fun _ _ => rfl) fun cdv A outer s H E hr => by
    have nd := sc30.nd
    have hu64 := hr.units
    have hu70 := hu70_of hr
    exact svs_cons (sv_if (tv_gt (ev_at (ev_var 0) ev_int) ev_int) (svs_cons (sv_asg (ev_mod (ev_toint C.B (av_cons (ev_at (ev_var 0) ev_int) av_nil)) (ev_var 1)) (gv_name 2 nd)) (svs_cons (sv_set (ev_div (ev_at (ev_var 0) ev_int) (ev_var 1)) (ev_var 0) ev_int) (svs_one (sv_ret (ev_var 2))))) svs_nil) (svs_cons (sv_set (ev_mod (ev_toint C.B (av_cons (ev_add (ev_mul (ev_at (ev_var 0) ev_int) ev_int) ev_int) av_nil)) ev_int) (ev_var 0) ev_int) (svs_cons (sv_asg (ev_mod (ev_toint C.B (av_cons (ev_mul (ev_at (ev_var 0) ev_int) (ev_add (ev_at (ev_var 0) ev_int) ev_int)) av_nil)) ev_int) (gv_name 3 nd)) (svs_one (sv_ret (ev_mod (ev_toint C.B (av_cons (ev_div (ev_var 3) ev_int) av_nil)) (ev_var 1))))))
theorem sc31 : FnScope ["value"] ["value"] (defScope s31) := ⟨rfl, rfl, rfl, by decide +kernel, rfl, by decide +kernel, by decide +kernel⟩
theorem ok31 (C : Ctx P w K mg base (tbl lv) lv) (F : FunD K "_law_sort" "_law_sort" (defArgs s31) (defBody s31) (defScope s31) [] [] f fd) : FnOk P w K mg base CX0 (lv + 1) f fd ["value"] (spE K (tbl (lv + 1)) 31 1) :=
  def_ok F sc31 (fun _ _ => rfl) fun cdv A outer s H E hr => by
    have nd := sc31.nd
    have hu64 := hr.units
    have hu70 := hu70_of hr
    exact svs_cons (sv_if (PW.pt (tv_or (tv_isN (ev_var 0)) (tv_or1 (ev_tval (ev_isi .bool C.B.isinstance C.B.bool (by decide +kernel) (ev_var 0)))))) (svs_one (sv_ret (ev_if (tv_isN (ev_var 0)) ev_int ev_int))) svs_nil) (svs_cons (sv_if (PW.pt (tv_or (ev_tval (ev_isi .int C.B.isinstance C.B.int (by decide +kernel) (ev_var 0))) (tv_or1 (ev_tval (ev_isi .str C.B.isinstance C.B.str (by decide +kernel) (ev_var 0)))))) (svs_one (sv_ret (ev_if (ev_tval (ev_isi .int C.B.isinstance C.B.int (by decide +kernel) (ev_var 0))) ev_int ev_int))) svs_nil) (svs_one (sv_ret (ev_if (ev_tval (ev_isi .tuple C.B.isinstance C.B.tuple (by decide +kernel) (ev_var 0))) ev_int (ev_if (ev_tval (ev_isi .list C.B.isinstance C.B.list (by decide +kernel) (ev_var 0))) ev_int ev_int)))))
theorem sc32 : FnScope ["one", "other", "sort", "first", "second"] ["one", "other"] (defScope s32) := ⟨rfl, rfl, rfl, by decide +kernel, rfl, by decide +kernel, by decide +kernel⟩
theorem ok32 (C : Ctx P w K mg base (tbl lv) lv) (F : FunD K "_law_like" "_law_like" (defArgs s32) (defBody s32) (defScope s32) [] [] f fd) : FnOk P w K mg base CX0 (lv + 1) f fd ["one", "other"] (spE K (tbl (lv + 1)) 32 2) :=
  def_ok F sc32 (fun _ _ => rfl) fun cdv A outer s H E hr => by
    have nd := sc32.nd
    have hu64 := hr.units
    have hu70 := hu70_of hr
    exact svs_cons (sv_asg (ev_call C.c31 hr (av_cons (ev_var 1) av_nil)) (gv_name 2 nd)) (svs_cons (sv_if (PW.pt (tv_or (tv_ne hu64 (ev_call C.c31 hr (av_cons (ev_var 0) av_nil)) (ev_var 2)) (tv_or1 (tv_eq hu64 (ev_var 2) ev_int)))) (svs_one (sv_ret ev_bl)) svs_nil) (svs_cons (sv_if (tv_in hu70 (ev_var 2) (ev_tup (av_cons ev_int (av_cons ev_int av_nil)))) (svs_one (sv_ret (ev_and (ev_eq hu64 (ev_len C.B (av_cons (ev_var 0) av_nil)) (ev_len C.B (av_cons (ev_var 1) av_nil))) (ev_one (ev_eq hu64 (ev_lc (own := ([("first", 3), ("second", 4)] : List (Str × Nat))) rfl nd (iv_zip C.B.zip (av_cons (ev_var 0) (av_cons (ev_var 1) av_nil))) (blkOk_by (N := ["one", "other", "sort", "first", "second"]) (sc := defScope s32) (by decide +kernel)) (fun _ _ _ _ _ => gv_tup rfl (gvs_name 3 nd (gvs_name 4 nd gvs_nil))) (fun _ _ _ _ _ => pts_onev (tv_not (ev_tval (ev_call C.c32 hr (av_cons (ev_var 3) (av_cons (ev_var 4) av_nil)))))) (fun _ _ _ _ _ => ev_int)) (ev_lst av_nil)))))) svs_nil) (svs_one (sv_ret (ev_eq hu64 (ev_var 0) (ev_var 1))))))
theorem sc33 : FnScope ["one", "other"] ["one", "other"] (defScope s33) := ⟨rfl, rfl, rfl, by decide +kernel, rfl, by decide +kernel, by decide +kernel⟩
theorem ok33 (C : Ctx P w K mg base (tbl lv) lv) (F : FunD K "_law_gcd" "_law_gcd" (defArgs s33) (defBody s33) (defScope s33) [] [] f fd) : FnOk P w K mg base CX0 (lv + 1) f fd ["one", "other"] (spE K (tbl (lv + 1)) 33 2) :=
  def_ok F sc33 (fun _ _ => rfl) fun cdv A outer s H E hr => by
    have nd := sc33.nd
    have hu64 := hr.units
    have hu70 := hu70_of hr
    exact svs_cons (sv_par2 (ix := 0) (jx := 1) rfl nd (av_cons (ev_abs C.B (av_cons (ev_var 0) av_nil)) (av_cons (ev_abs C.B (av_cons (ev_var 1) av_nil)) av_nil)) (by rfl)) (svs_cons (sv_while PassesOwn.never (tv_ne hu64 (ev_var 1) ev_int) (svs_one (sv_par2 (ix := 0) (jx := 1) rfl nd (av_cons (ev_var 1) (av_cons (ev_mod (ev_toint C.B (av_cons (ev_var 0) av_nil)) (ev_var 1)) av_nil)) (by rfl)))) (svs_one (sv_ret (ev_var 0))))
theorem sc34 : FnScope ["above", "below", "common"] ["above", "below"] (defScope s34) := ⟨rfl, rfl, rfl, by decide +kernel, rfl, by decide +kernel, by decide +kernel⟩
theorem ok34 (C : Ctx P w K mg base (tbl lv) lv) (F : FunD K "_law_low" "_law_low" (defArgs s34) (defBody s34) (defScope s34) [] [] f fd) : FnOk P w K mg base CX0 (lv + 1) f fd ["above", "below"] (spE K (tbl (lv + 1)) 34 2) :=
  def_ok F sc34 (fun _ _ => rfl) fun cdv A outer s H E hr => by
    have nd := sc34.nd
    have hu64 := hr.units
    have hu70 := hu70_of hr
    exact svs_cons (sv_asg (ev_call C.c33 hr (av_cons (ev_var 0) (av_cons (ev_var 1) av_nil))) (gv_name 2 nd)) (svs_one (sv_ret (ev_if (tv_gt (ev_var 1) ev_int) (ev_tup (av_cons (ev_div (ev_var 0) (ev_var 2)) (av_cons (ev_div (ev_var 1) (ev_var 2)) av_nil))) (ev_tup (av_cons (ev_div (ev_neg (ev_var 0)) (ev_var 2)) (av_cons (ev_div (ev_neg (ev_var 1)) (ev_var 2)) av_nil))))))
theorem sc35 : FnScope ["one", "other"] ["one", "other"] (defScope s35) := ⟨rfl, rfl, rfl, by decide +kernel, rfl, by decide +kernel, by decide +kernel⟩
theorem ok35 (C : Ctx P w K mg base (tbl lv) lv) (F : FunD K "_law_is_most" "_law_is_most" (defArgs s35) (defBody s35) (defScope s35) [] [] f fd) : FnOk P w K mg base CX0 (lv + 1) f fd ["one", "other"] (spE K (tbl (lv + 1)) 35 2) :=
  def_ok F sc35 (fun _ _ => rfl) fun cdv A outer s H E hr => by
    have nd := sc35.nd
    have hu64 := hr.units
    have hu70 := hu70_of hr
    exact svs_one (sv_ret (ev_le (ev_mul (ev_at (ev_var 0) ev_int) (ev_at (ev_var 1) ev_int)) (ev_mul (ev_at (ev_var 1) ev_int) (ev_at (ev_var 0) ev_int))))
theorem sc36 : FnScope ["polynomial", "number", "above", "below", "total", "power", "rest", "turn", "own"] ["polynomial", "number"] (defScope s36) := ⟨rfl, rfl, rfl, by decide +kernel, rfl, by decide +kernel, by decide +kernel⟩
theorem ok36 (C : Ctx P w K mg base (tbl lv) lv) (F : FunD K "_law_value" "_law_value" (defArgs s36) (defBody s36) (defScope s36) [] [] f fd) : FnOk P w K mg base CX0 (lv + 1) f fd ["polynomial", "number"] (spE K (tbl (lv + 1)) 36 2) :=
  def_ok F sc36 (fun _ _ => rfl) fun cdv A outer s H E hr => by
    have nd := sc36.nd
    have hu64 := hr.units
    have hu70 := hu70_of hr
    exact svs_cons (sv_asg (ev_var 1) (gv_tup rfl (gvs_name 2 nd (gvs_name 3 nd gvs_nil)))) (svs_cons (sv_asg (ev_tup (av_cons ev_int (av_cons ev_int (av_cons ev_int av_nil)))) (gv_tup rfl (gvs_name 4 nd (gvs_name 5 nd (gvs_name 6 nd gvs_nil))))) (svs_cons (sv_for PassesOwn.never rfl (iv_rg1 C.B.range (av_cons (ev_sub (ev_len C.B (av_cons (ev_var 0) av_nil)) ev_int) av_nil)) (gv_name 7 nd) (svs_one (sv_asg (ev_mul (ev_var 6) (ev_var 3)) (gv_name 6 nd)))) (svs_cons (sv_for PassesOwn.never rfl (iv_seq (ev_var 0)) (gv_name 8 nd) (svs_one (sv_par3 (ix := 4) (jx := 5) (lx := 6) rfl nd (av_cons (ev_add (ev_var 4) (ev_mul (ev_mul (ev_var 8) (ev_var 5)) (ev_var 6))) (av_cons (ev_mul (ev_var 5) (ev_var 2)) (av_cons (ev_div (ev_var 6) (ev_var 3)) av_nil))) (by rfl)))) (svs_one (sv_ret (ev_if (tv_gt (ev_var 4) ev_int) ev_int (ev_if (tv_lt (ev_var 4) ev_int) (ev_neg ev_int) ev_int)))))))
theorem sc37 : FnScope ["cup", "many", "found", "roots", "turn", "root"] ["cup", "many"] (defScope s37) := ⟨rfl, rfl, rfl, by decide +kernel, rfl, by decide +kernel, by decide +kernel⟩
theorem ok37 (C : Ctx P w K mg base (tbl lv) lv) (F : FunD K "_law_product" "_law_product" (defArgs s37) (defBody s37) (defScope s37) [] [] f fd) : FnOk P w K mg base CX0 (lv + 1) f fd ["cup", "many"] (spE K (tbl (lv + 1)) 37 2) :=
  def_ok F sc37 (fun _ _ => rfl) fun cdv A outer s H E hr => by
    have nd := sc37.nd
    have hu64 := hr.units
    have hu70 := hu70_of hr
    exact svs_cons (sv_par2 (ix := 2) (jx := 3) rfl nd (av_cons (ev_tup (av_cons (ev_add ev_int (ev_call C.c30 hr (av_cons (ev_var 0) (av_cons ev_int av_nil)))) av_nil)) (av_cons (ev_lst av_nil) av_nil)) (by rfl)) (svs_cons (sv_for PassesOwn.never rfl (iv_rg1 C.B.range (av_cons (ev_var 1) av_nil)) (gv_name 4 nd) (svs_cons (sv_asg (ev_call C.c34 hr (av_cons (ev_sub (ev_call C.c30 hr (av_cons (ev_var 0) (av_cons ev_int av_nil))) ev_int) (av_cons (ev_add ev_int (ev_call C.c30 hr (av_cons (ev_var 0) (av_cons ev_int av_nil)))) av_nil))) (gv_name 5 nd)) (svs_cons (sv_expr (ev_app (ev_var 3) (av_cons (ev_var 5) av_nil))) (svs_one (sv_asg (ev_call C.c12 hr (av_cons (ev_var 2) (av_cons (ev_tup (av_cons (ev_neg (ev_at (ev_var 5) ev_int)) (av_cons (ev_at (ev_var 5) ev_int) av_nil))) av_nil))) (gv_name 2 nd)))))) (svs_cons (sv_if (tv_eq hu64 (ev_call C.c30 hr (av_cons (ev_var 0) (av_cons ev_int av_nil))) ev_int) (svs_one (sv_asg (ev_call C.c12 hr (av_cons (ev_var 2) (av_cons (ev_tup (av_cons (ev_add ev_int (ev_call C.c30 hr (av_cons (ev_var 0) (av_cons ev_int av_nil)))) (av_cons (ev_sub (ev_call C.c30 hr (av_cons (ev_var 0) (av_cons ev_int av_nil))) ev_int) (av_cons ev_int av_nil)))) av_nil))) (gv_name 2 nd))) svs_nil) (svs_one (sv_ret (ev_tup (av_cons (ev_var 2) (av_cons (ev_call C.c38 hr (av_cons (ev_var 3) av_nil)) av_nil)))))))
theorem sc38 : FnScope ["roots", "found", "root", "own"] ["roots"] (defScope s38) := ⟨rfl, rfl, rfl, by decide +kernel, rfl, by decide +kernel, by decide +kernel⟩
theorem ok38 (C : Ctx P w K mg base (tbl lv) lv) (F : FunD K "_law_sorted" "_law_sorted" (defArgs s38) (defBody s38) (defScope s38) [] [] f fd) : FnOk P w K mg base CX0 (lv + 1) f fd ["roots"] (spE K (tbl (lv + 1)) 38 1) :=
  def_ok F sc38 (fun _ _ => rfl) fun cdv A outer s H E hr => by
    have nd := sc38.nd
    have hu64 := hr.units
    have hu70 := hu70_of hr
    exact svs_cons (sv_asg (ev_lst av_nil) (gv_name 1 nd)) (svs_cons (sv_for PassesOwn.never rfl (iv_seq (ev_var 0)) (gv_name 2 nd) (svs_one (sv_if (tv_notIn hu70 (ev_var 2) (ev_var 1)) (svs_one (sv_asg (ev_add (ev_add (ev_lc (own := ([("own", 3)] : List (Str × Nat))) rfl nd (iv_seq (ev_var 1)) (blkOk_by (N := ["roots", "found", "root", "own"]) (sc := defScope s38) (by decide +kernel)) (fun _ _ _ _ _ => gv_name 3 nd) (fun _ _ _ _ _ => pts_onev (ev_tval (ev_call C.c35 hr (av_cons (ev_var 3) (av_cons (ev_var 2) av_nil))))) (fun _ _ _ _ _ => ev_var 3)) (ev_lst (av_cons (ev_var 2) av_nil))) (ev_lc (own := ([("own", 3)] : List (Str × Nat))) rfl nd (iv_seq (ev_var 1)) (blkOk_by (N := ["roots", "found", "root", "own"]) (sc := defScope s38) (by decide +kernel)) (fun _ _ _ _ _ => gv_name 3 nd) (fun _ _ _ _ _ => pts_onev (tv_not (ev_tval (ev_call C.c35 hr (av_cons (ev_var 3) (av_cons (ev_var 2) av_nil)))))) (fun _ _ _ _ _ => ev_var 3))) (gv_name 1 nd))) svs_nil))) (svs_one (sv_ret (ev_var 1))))
theorem sc39 : FnScope ["cup", "polynomial", "roots", "some", "low", "high", "due", "grain", "able", "root", "turn"] ["cup", "polynomial", "roots"] (defScope s39) := ⟨rfl, rfl, rfl, by decide +kernel, rfl, by decide +kernel, by decide +kernel⟩
theorem ok39 (C : Ctx P w K mg base (tbl lv) lv) (F : FunD K "_law_right" "_law_right" (defArgs s39) (defBody s39) (defScope s39) [] [] f fd) : FnOk P w K mg base CX0 (lv + 1) f fd ["cup", "polynomial", "roots"] (spE K (tbl (lv + 1)) 39 3) :=
  def_ok F sc39 (fun _ _ => rfl) fun cdv A outer s H E hr => by
    have nd := sc39.nd
    have hu64 := hr.units
    have hu70 := hu70_of hr
    exact svs_cons (sv_asg (ev_add (ev_lc (own := ([("turn", 10)] : List (Str × Nat))) rfl nd (iv_rg1 C.B.range (av_cons ev_int av_nil)) (blkOk_by (N := ["cup", "polynomial", "roots", "some", "low", "high", "due", "grain", "able", "root", "turn"]) (sc := defScope s39) (by decide +kernel)) (fun _ _ _ _ _ => gv_name 10 nd) (fun _ _ _ _ _ => pts_nilv) (fun _ _ _ _ _ => ev_call C.c34 hr (av_cons (ev_sub (ev_call C.c30 hr (av_cons (ev_var 0) (av_cons ev_int av_nil))) ev_int) (av_cons (ev_add ev_int (ev_call C.c30 hr (av_cons (ev_var 0) (av_cons ev_int av_nil)))) av_nil)))) (ev_var 2)) (gv_name 3 nd)) (svs_cons (sv_for PassesOwn.never rfl (iv_seq (ev_var 3)) (gv_name 4 nd) (svs_one (sv_for PassesOwn.never rfl (iv_seq (ev_var 3)) (gv_name 5 nd) (svs_one (sv_if (ev_tval (ev_call C.c35 hr (av_cons (ev_var 4) (av_cons (ev_var 5) av_nil)))) (svs_cons (sv_asg (ev_len C.B (av_cons (ev_lc (own := ([("root", 9)] : List (Str × Nat))) rfl nd (iv_seq (ev_var 2)) (blkOk_by (N := ["cup", "polynomial", "roots", "some", "low", "high", "due", "grain", "able", "root", "turn"]) (sc := defScope s39) (by decide +kernel)) (fun _ _ _ _ _ => gv_name 9 nd) (fun _ _ _ _ _ => pts_onev (PW.pt (tv_and (tv_not (ev_tval (ev_call C.c35 hr (av_cons (ev_var 9) (av_cons (ev_var 4) av_nil))))) (tv_and1 (ev_tval (ev_call C.c35 hr (av_cons (ev_var 9) (av_cons (ev_var 5) av_nil)))))))) (fun _ _ _ _ _ => ev_var 9)) av_nil)) (gv_name 6 nd)) (svs_one (sv_if (tv_not (ev_tval (ev_call C.c32 hr (av_cons (ev_call C.c27 hr (av_cons (ev_var 1) (av_cons (ev_var 4) (av_cons (ev_var 5) av_nil)))) (av_cons (ev_var 6) av_nil))))) (svs_one (sv_ret ev_bl)) svs_nil))) svs_nil))))) (svs_cons (sv_asg (ev_add ev_int (ev_call C.c30 hr (av_cons (ev_var 0) (av_cons ev_int av_nil)))) (gv_name 7 nd)) (svs_cons (sv_setLc (own := ([("root", 9)] : List (Str × Nat))) (ix := 8) rfl nd (sw_true rfl rfl rfl (by decide +kernel)) (iv_seq (ev_var 2)) (blkOk_by (N := ["cup", "polynomial", "roots", "some", "low", "high", "due", "grain", "able", "root", "turn"]) (sc := defScope s39) (by decide +kernel)) (fun _ _ _ _ _ => gv_name 9 nd) (fun _ _ _ _ _ => pts_onev (tv_gt (ev_at (ev_var 9) ev_int) ev_int)) (fun _ _ _ _ _ => ev_var 9)) (svs_cons (sv_asg (ev_if (tv_ne hu64 (ev_var 8) (ev_lst av_nil)) (ev_sub (ev_neg (ev_div (ev_mul (ev_neg (ev_at (ev_at (ev_var 8) ev_int) ev_int)) (ev_var 7)) (ev_at (ev_at (ev_var 8) ev_int) ev_int))) ev_int) ev_non) (gv_name 6 nd)) (svs_one (sv_ret (ev_call C.c32 hr (av_cons (ev_call C.c28 hr (av_cons (ev_var 1) (av_cons (ev_var 7) av_nil))) (av_cons (ev_var 6) av_nil)))))))))
theorem sc40 : FnScope ["cup", "polynomial", "low", "high", "at", "many", "one", "two", "wide", "turned", "square", "own", "turn"] ["cup"] (defScope s40) := ⟨rfl, rfl, rfl, by decide +kernel, rfl, by decide +kernel, by decide +kernel⟩
theorem ok40 (C : Ctx P w K mg base (tbl lv) lv) (F : FunD K "_law_signs_right" "_law_signs_right" (defArgs s40) (defBody s40) (defScope s40) [] [] f fd) : FnOk P w K mg base CX0 (lv + 1) f fd ["cup"] (spE K (tbl (lv + 1)) 40 1) :=
  def_ok F sc40 (fun _ _ => rfl) fun cdv A outer s H E hr => by
    have nd := sc40.nd
    have hu64 := hr.units
    have hu70 := hu70_of hr
    exact svs_cons (sv_asg (ev_add (ev_tuple C.B (av_cons (ev_lc (own := ([("turn", 12)] : List (Str × Nat))) rfl nd (iv_rg1 C.B.range (av_cons (ev_add ev_int (ev_call C.c30 hr (av_cons (ev_var 0) (av_cons ev_int av_nil)))) av_nil)) (blkOk_by (N := ["cup", "polynomial", "low", "high", "at", "many", "one", "two", "wide", "turned", "square", "own", "turn"]) (sc := defScope s40) (by decide +kernel)) (fun _ _ _ _ _ => gv_name 12 nd) (fun _ _ _ _ _ => pts_nilv) (fun _ _ _ _ _ => ev_sub (ev_call C.c30 hr (av_cons (ev_var 0) (av_cons ev_int av_nil))) ev_int)) av_nil)) (ev_tup (av_cons (ev_add ev_int (ev_call C.c30 hr (av_cons (ev_var 0) (av_cons ev_int av_nil)))) av_nil))) (gv_name 1 nd)) (svs_cons (sv_par2 (ix := 2) (jx := 3) rfl nd (av_cons (ev_call C.c34 hr (av_cons (ev_neg ev_int) (av_cons ev_int av_nil))) (av_cons (ev_call C.c34 hr (av_cons (ev_neg ev_int) (av_cons ev_int av_nil))) av_nil)) (by rfl)) (svs_cons (sv_for PassesOwn.never rfl (iv_rg2 C.B.range (av_cons (ev_neg ev_int) (av_cons ev_int av_nil))) (gv_name 4 nd) (svs_cons (sv_par2 (ix := 2) (jx := 3) rfl nd (av_cons (ev_var 3) (av_cons (ev_tup (av_cons (ev_var 4) (av_cons ev_int av_nil))) av_nil)) (by rfl)) (svs_one (sv_if (tv_ne hu64 (ev_var 2) (ev_var 3)) (svs_cons (sv_par3 (ix := 5) (jx := 6) (lx := 7) rfl nd (av_cons (ev_call C.c27 hr (av_cons (ev_var 1) (av_cons (ev_var 2) (av_cons (ev_var 3) av_nil)))) (av_cons (ev_call C.c36 hr (av_cons (ev_var 1) (av_cons (ev_var 2) av_nil))) (av_cons (ev_call C.c36 hr (av_cons (ev_var 1) (av_cons (ev_var 3) av_nil))) av_nil))) (by rfl)) (svs_one (sv_if (PW.pt (tv_or (PW.pt (tv_and (tv_lt (ev_mul (ev_var 6) (ev_var 7)) ev_int) (tv_and1 (tv_eq hu64 (ev_var 5) ev_int)))) (tv_or1 (PW.pt (tv_and (tv_eq hu64 (ev_var 7) ev_int) (tv_and1 (tv_eq hu64 (ev_var 5) ev_int))))))) (svs_one (sv_ret ev_bl)) svs_nil))) svs_nil)))) (svs_cons (sv_asg (ev_tup (av_cons (ev_tup (av_cons (ev_neg ev_int) (av_cons ev_int av_nil))) (av_cons (ev_tup (av_cons ev_int (av_cons ev_int av_nil))) av_nil))) (gv_name 8 nd)) (svs_cons (sv_asg (ev_tuple C.B (av_cons (ev_lc (own := ([("at", 4), ("own", 11)] : List (Str × Nat))) rfl nd (iv_en C.B.enumerate (av_cons (ev_var 1) av_nil)) (blkOk_by (N := ["cup", "polynomial", "low", "high", "at", "many", "one", "two", "wide", "turned", "square", "own", "turn"]) (sc := defScope s40) (by decide +kernel)) (fun _ _ _ _ _ => gv_tup rfl (gvs_name 4 nd (gvs_name 11 nd gvs_nil))) (fun _ _ _ _ _ => pts_nilv) (fun _ _ _ _ _ => ev_if (tv_eq hu64 (ev_mod (ev_toint C.B (av_cons (ev_var 4) av_nil)) ev_int) ev_int) (ev_var 11) (ev_neg (ev_var 11)))) av_nil)) (gv_name 9 nd)) (svs_cons (sv_asg (ev_call C.c12 hr (av_cons (ev_var 1) (av_cons (ev_var 1) av_nil))) (gv_name 10 nd)) (svs_cons (sv_asg (ev_call C.c27 hr (av_cons (ev_var 1) (av_cons (ev_at (ev_var 8) ev_int) (av_cons (ev_at (ev_var 8) ev_int) av_nil)))) (gv_name 5 nd)) (svs_one (sv_ret (ev_call C.c32 hr (av_cons (ev_lst (av_cons (ev_call C.c27 hr (av_cons (ev_var 10) (av_cons (ev_at (ev_var 8) ev_int) (av_cons (ev_at (ev_var 8) ev_int) av_nil)))) (av_cons (ev_call C.c27 hr (av_cons (ev_var 9) (av_cons (ev_at (ev_var 8) ev_int) (av_cons (ev_at (ev_var 8) ev_int) av_nil)))) av_nil))) (av_cons (ev_lst (av_cons (ev_var 5) (av_cons (ev_var 5) av_nil))) av_nil)))))))))))
theorem sc41 : FnScope ["script", "cup", "many", "polynomial", "roots", "told", "far"] ["script"] (defScope s41) := ⟨rfl, rfl, rfl, by decide +kernel, rfl, by decide +kernel, by decide +kernel⟩
theorem ok41 (C : Ctx P w K mg base (tbl lv) lv) (F : FunD K "law" "law" (defArgs s41) (defBody s41) (defScope s41) [] [] f fd) : FnOk P w K mg base CX0 (lv + 1) f fd ["script"] (spE K (tbl (lv + 1)) 41 1) :=
  def_ok F sc41 (fun _ _ => rfl) fun cdv A outer s H E hr => by
    have nd := sc41.nd
    have hu64 := hr.units
    have hu70 := hu70_of hr
    exact svs_cons (sv_asg (ev_call C.c29 hr (av_cons (ev_var 0) av_nil)) (gv_name 1 nd)) (svs_cons (sv_for PassesOwn.never rfl (iv_seq (ev_tup (av_cons ev_int (av_cons ev_int (av_cons ev_int (av_cons ev_int (av_cons ev_int av_nil))))))) (gv_name 2 nd) (svs_cons (sv_asg (ev_call C.c37 hr (av_cons (ev_var 1) (av_cons (ev_var 2) av_nil))) (gv_tup rfl (gvs_name 3 nd (gvs_name 4 nd gvs_nil)))) (svs_one (sv_if (PW.pt (tv_or (tv_not (ev_tval (ev_call C.c39 hr (av_cons (ev_var 1) (av_cons (ev_var 3) (av_cons (ev_var 4) av_nil)))))) (tv_or1 (tv_not (ev_tval (ev_call C.c40 hr (av_cons (ev_var 1) av_nil))))))) (svs_one (sv_ret ev_bl)) svs_nil)))) (svs_cons (sv_asg (ev_lst (av_cons (ev_call C.c27 hr (av_cons (ev_tup (av_cons (ev_neg ev_int) (av_cons ev_int (av_cons ev_int av_nil)))) (av_cons (ev_tup (av_cons ev_int (av_cons ev_int av_nil))) (av_cons (ev_tup (av_cons ev_int (av_cons ev_int av_nil))) av_nil)))) (av_cons (ev_call C.c27 hr (av_cons (ev_tup (av_cons (ev_neg ev_int) (av_cons ev_int (av_cons ev_int av_nil)))) (av_cons (ev_tup (av_cons (ev_neg ev_int) (av_cons ev_int av_nil))) (av_cons (ev_tup (av_cons ev_int (av_cons ev_int av_nil))) av_nil)))) (av_cons (ev_call C.c27 hr (av_cons (ev_tup (av_cons ev_int (av_cons (ev_neg ev_int) (av_cons ev_int av_nil)))) (av_cons (ev_tup (av_cons ev_int (av_cons ev_int av_nil))) (av_cons (ev_tup (av_cons ev_int (av_cons ev_int av_nil))) av_nil)))) av_nil)))) (gv_name 5 nd)) (svs_cons (sv_asg (ev_add (ev_var 5) (ev_lst (av_cons (ev_call C.c27 hr (av_cons (ev_tup (av_cons ev_int (av_cons (ev_neg ev_int) (av_cons ev_int av_nil)))) (av_cons (ev_tup (av_cons ev_int (av_cons ev_int av_nil))) (av_cons (ev_tup (av_cons ev_int (av_cons ev_int av_nil))) av_nil)))) (av_cons (ev_call C.c28 hr (av_cons (ev_tup (av_cons ev_int (av_cons (ev_neg ev_int) (av_cons (ev_neg ev_int) av_nil)))) (av_cons ev_int av_nil))) (av_cons (ev_call C.c28 hr (av_cons (ev_tup (av_cons ev_int (av_cons ev_int (av_cons ev_int av_nil)))) (av_cons ev_int av_nil))) av_nil))))) (gv_name 5 nd)) (svs_cons (sv_if (tv_not (ev_tval (ev_call C.c32 hr (av_cons (ev_var 5) (av_cons (ev_lst (av_cons ev_int (av_cons ev_int (av_cons ev_int (av_cons ev_int (av_cons ev_int (av_cons ev_non av_nil))))))) av_nil))))) (svs_one (sv_ret ev_bl)) svs_nil) (svs_cons (sv_asg (ev_add (ev_pow ev_int ev_int) (ev_call C.c30 hr (av_cons (ev_var 1) (av_cons ev_int av_nil)))) (gv_name 6 nd)) (svs_cons (sv_asg (ev_lst (av_cons (ev_call C.c28 hr (av_cons (ev_tup (av_cons (ev_neg (ev_var 6)) (av_cons ev_int av_nil))) (av_cons ev_int av_nil))) (av_cons (ev_call C.c27 hr (av_cons (ev_tup (av_cons ev_int av_nil)) (av_cons (ev_tup (av_cons (ev_neg ev_int) (av_cons ev_int av_nil))) (av_cons (ev_tup (av_cons ev_int (av_cons ev_int av_nil))) av_nil)))) (av_cons (ev_call C.c28 hr (av_cons (ev_tup (av_cons ev_int (av_cons ev_int (av_cons ev_int av_nil)))) (av_cons ev_int av_nil))) (av_cons (ev_call C.c28 hr (av_cons (ev_tup (av_cons ev_int (av_cons (ev_neg ev_int) (av_cons ev_int av_nil)))) (av_cons ev_int av_nil))) av_nil))))) (gv_name 5 nd)) (svs_one (sv_ret (ev_call C.c32 hr (av_cons (ev_var 5) (av_cons (ev_lst (av_cons (ev_sub (ev_mul ev_int (ev_var 6)) ev_int) (av_cons ev_int (av_cons ev_non (av_cons ev_int av_nil))))) av_nil)))))))))))
end
end LK77

set_option Elab.async false
set_option linter.all false
set_option maxRecDepth 100000
set_option maxHeartbeats 0
/-! Printed by genend.py: the levels, the head, the end. -/
namespace LK77
open PySem PySem.Spec PyProof.Rows L2 Ev
structure Facts (K : PySem.W.Frag) (mg : Str → Option Value) : Prop where
  B : Bs mg
  m_MOST_ENTRIES_polynomials : ∃ t, mg "MOST_ENTRIES_polynomials" = some (.int 401 t)
  m_MOST_GRAIN : ∃ t, mg "MOST_GRAIN" = some (.int 64 t)
  m_MOST_ENTRIES_leastroots : ∃ t, mg "MOST_ENTRIES_leastroots" = some (.int 401 t)
  f0 : ∃ f fd, FunD K "divisor_of" "divisor_of" (defArgs s0) (defBody s0) (defScope s0) [] [] f fd ∧ mg "divisor_of" = some (.ref f)
  f1 : ∃ f fd, FunD K "lowest" "lowest" (defArgs s1) (defBody s1) (defScope s1) [] [] f fd ∧ mg "lowest" = some (.ref f)
  f2 : ∃ f fd, FunD K "made_low" "made_low" (defArgs s2) (defBody s2) (defScope s2) [] [] f fd ∧ mg "made_low" = some (.ref f)
  f3 : ∃ f fd, FunD K "cut_zeros" "cut_zeros" (defArgs s3) (defBody s3) (defScope s3) [] [] f fd ∧ mg "cut_zeros" = some (.ref f)
  f4 : ∃ f fd, FunD K "is_integer" "is_integer" (defArgs s4) (defBody s4) (defScope s4) [] [] f fd ∧ mg "is_integer" = some (.ref f)
  f5 : ∃ f fd, FunD K "is_number" "is_number" (defArgs s5) (defBody s5) (defScope s5) [] [] f fd ∧ mg "is_number" = some (.ref f)
  f6 : ∃ f fd, FunD K "need_number" "need_number" (defArgs s6) (defBody s6) (defScope s6) [] [] f fd ∧ mg "need_number" = some (.ref f)
  f7 : ∃ f fd, FunD K "is_tuple_of" "is_tuple_of" (defArgs s7) (defBody s7) (defScope s7) [] [] f fd ∧ mg "is_tuple_of" = some (.ref f)
  f8 : ∃ f fd, FunD K "fits_polynomial" "fits_polynomial" (defArgs s8) (defBody s8) (defScope s8) [] [] f fd ∧ mg "fits_polynomial_polynomials" = some (.ref f)
  f9 : ∃ f fd, FunD K "cut_off" "cut_off" (defArgs s9) (defBody s9) (defScope s9) [] [] f fd ∧ mg "cut_off" = some (.ref f)
  f10 : ∃ f fd, FunD K "times" "times" (defArgs s10) (defBody s10) (defScope s10) [] [] f fd ∧ mg "times" = some (.ref f)
  f11 : ∃ f fd, FunD K "need_two_polys" "need_two_polys" (defArgs s11) (defBody s11) (defScope s11) [] [] f fd ∧ mg "need_two_polys" = some (.ref f)
  f12 : ∃ f fd, FunD K "poly_product" "poly_product" (defArgs s12) (defBody s12) (defScope s12) [] [] f fd ∧ mg "poly_product" = some (.ref f)
  f13 : ∃ f fd, FunD K "is_at_most" "is_at_most" (defArgs s13) (defBody s13) (defScope s13) [] [] f fd ∧ mg "is_at_most" = some (.ref f)
  f14 : ∃ f fd, FunD K "fits_polynomial" "fits_polynomial" (defArgs s14) (defBody s14) (defScope s14) [] [] f fd ∧ mg "fits_polynomial_leastroots" = some (.ref f)
  f15 : ∃ f fd, FunD K "slope_of" "slope_of" (defArgs s15) (defBody s15) (defScope s15) [] [] f fd ∧ mg "slope_of" = some (.ref f)
  f16 : ∃ f fd, FunD K "rest_of" "rest_of" (defArgs s16) (defBody s16) (defScope s16) [] [] f fd ∧ mg "rest_of" = some (.ref f)
  f17 : ∃ f fd, FunD K "rows_of_rests" "rows_of_rests" (defArgs s17) (defBody s17) (defScope s17) [] [] f fd ∧ mg "rows_of_rests" = some (.ref f)
  f18 : ∃ f fd, FunD K "sign_at" "sign_at" (defArgs s18) (defBody s18) (defScope s18) [] [] f fd ∧ mg "sign_at" = some (.ref f)
  f19 : ∃ f fd, FunD K "changes_at" "changes_at" (defArgs s19) (defBody s19) (defScope s19) [] [] f fd ∧ mg "changes_at" = some (.ref f)
  f20 : ∃ f fd, FunD K "quotient_of" "quotient_of" (defArgs s20) (defBody s20) (defScope s20) [] [] f fd ∧ mg "quotient_of" = some (.ref f)
  f21 : ∃ f fd, FunD K "without_doubles" "without_doubles" (defArgs s21) (defBody s21) (defScope s21) [] [] f fd ∧ mg "without_doubles" = some (.ref f)
  f22 : ∃ f fd, FunD K "roots_in" "roots_in" (defArgs s22) (defBody s22) (defScope s22) [] [] f fd ∧ mg "roots_in" = some (.ref f)
  f23 : ∃ f fd, FunD K "rows_for" "rows_for" (defArgs s23) (defBody s23) (defScope s23) [] [] f fd ∧ mg "rows_for" = some (.ref f)
  f24 : ∃ f fd, FunD K "cell_in" "cell_in" (defArgs s24) (defBody s24) (defScope s24) [] [] f fd ∧ mg "cell_in" = some (.ref f)
  f25 : ∃ f fd, FunD K "need_polynomial" "need_polynomial" (defArgs s25) (defBody s25) (defScope s25) [] [] f fd ∧ mg "need_polynomial" = some (.ref f)
  f26 : ∃ f fd, FunD K "need_fraction" "need_fraction" (defArgs s26) (defBody s26) (defScope s26) [] [] f fd ∧ mg "need_fraction" = some (.ref f)
  f27 : ∃ f fd, FunD K "roots_between" "roots_between" (defArgs s27) (defBody s27) (defScope s27) [] [] f fd ∧ mg "roots_between" = some (.ref f)
  f28 : ∃ f fd, FunD K "least_root_cell" "least_root_cell" (defArgs s28) (defBody s28) (defScope s28) [] [] f fd ∧ mg "least_root_cell" = some (.ref f)
  f29 : ∃ f fd, FunD K "_law_cup" "_law_cup" (defArgs s29) (defBody s29) (defScope s29) [] [] f fd ∧ mg "_law_cup" = some (.ref f)
  f30 : ∃ f fd, FunD K "_law_roll" "_law_roll" (defArgs s30) (defBody s30) (defScope s30) [] [] f fd ∧ mg "_law_roll" = some (.ref f)
  f31 : ∃ f fd, FunD K "_law_sort" "_law_sort" (defArgs s31) (defBody s31) (defScope s31) [] [] f fd ∧ mg "_law_sort" = some (.ref f)
  f32 : ∃ f fd, FunD K "_law_like" "_law_like" (defArgs s32) (defBody s32) (defScope s32) [] [] f fd ∧ mg "_law_like" = some (.ref f)
  f33 : ∃ f fd, FunD K "_law_gcd" "_law_gcd" (defArgs s33) (defBody s33) (defScope s33) [] [] f fd ∧ mg "_law_gcd" = some (.ref f)
  f34 : ∃ f fd, FunD K "_law_low" "_law_low" (defArgs s34) (defBody s34) (defScope s34) [] [] f fd ∧ mg "_law_low" = some (.ref f)
  f35 : ∃ f fd, FunD K "_law_is_most" "_law_is_most" (defArgs s35) (defBody s35) (defScope s35) [] [] f fd ∧ mg "_law_is_most" = some (.ref f)
  f36 : ∃ f fd, FunD K "_law_value" "_law_value" (defArgs s36) (defBody s36) (defScope s36) [] [] f fd ∧ mg "_law_value" = some (.ref f)
  f37 : ∃ f fd, FunD K "_law_product" "_law_product" (defArgs s37) (defBody s37) (defScope s37) [] [] f fd ∧ mg "_law_product" = some (.ref f)
  f38 : ∃ f fd, FunD K "_law_sorted" "_law_sorted" (defArgs s38) (defBody s38) (defScope s38) [] [] f fd ∧ mg "_law_sorted" = some (.ref f)
  f39 : ∃ f fd, FunD K "_law_right" "_law_right" (defArgs s39) (defBody s39) (defScope s39) [] [] f fd ∧ mg "_law_right" = some (.ref f)
  f40 : ∃ f fd, FunD K "_law_signs_right" "_law_signs_right" (defArgs s40) (defBody s40) (defScope s40) [] [] f fd ∧ mg "_law_signs_right" = some (.ref f)
  f41 : ∃ f fd, FunD K "law" "law" (defArgs s41) (defBody s41) (defScope s41) [] [] f fd ∧ mg "law" = some (.ref f)
theorem fn_zero {P : Program} {w : World} {K : PySem.W.Frag} {mg : Str → Option Value} {base : Heap} {f : Addr} {fd : FuncData} {ps : List Str} {lv j : Nat} : FnOk P w K mg base CX0 lv f fd ps (spE K (tbl 0) j ps.length) :=
  ⟨fun vs H Q E h => (by obtain ⟨_, _, _, _, _, _, _, _, e, _⟩ := h; cases e), fun A outer s H args us vs Q E hr e0 hb hv h => (by obtain ⟨_, _, _, _, _, _, _, _, e, _⟩ := h; cases e)⟩
theorem ctx {P : Program} {w : World} {K : PySem.W.Frag} {mg : Str → Option Value} {base : Heap} (F : Facts K mg) : ∀ lv, Ctx P w K mg base (tbl lv) lv
  | 0 => by
    obtain ⟨a0, g0, h0, e0⟩ := F.f0
    obtain ⟨a1, g1, h1, e1⟩ := F.f1
    obtain ⟨a2, g2, h2, e2⟩ := F.f2
    obtain ⟨a3, g3, h3, e3⟩ := F.f3
    obtain ⟨a4, g4, h4, e4⟩ := F.f4
    obtain ⟨a5, g5, h5, e5⟩ := F.f5
    obtain ⟨a6, g6, h6, e6⟩ := F.f6
    obtain ⟨a7, g7, h7, e7⟩ := F.f7
    obtain ⟨a8, g8, h8, e8⟩ := F.f8
    obtain ⟨a9, g9, h9, e9⟩ := F.f9
    obtain ⟨a10, g10, h10, e10⟩ := F.f10
    obtain ⟨a11, g11, h11, e11⟩ := F.f11
    obtain ⟨a12, g12, h12, e12⟩ := F.f12
    obtain ⟨a13, g13, h13, e13⟩ := F.f13
    obtain ⟨a14, g14, h14, e14⟩ := F.f14
    obtain ⟨a15, g15, h15, e15⟩ := F.f15
    obtain ⟨a16, g16, h16, e16⟩ := F.f16
    obtain ⟨a17, g17, h17, e17⟩ := F.f17
    obtain ⟨a18, g18, h18, e18⟩ := F.f18
    obtain ⟨a19, g19, h19, e19⟩ := F.f19
    obtain ⟨a20, g20, h20, e20⟩ := F.f20
    obtain ⟨a21, g21, h21, e21⟩ := F.f21
    obtain ⟨a22, g22, h22, e22⟩ := F.f22
    obtain ⟨a23, g23, h23, e23⟩ := F.f23
    obtain ⟨a24, g24, h24, e24⟩ := F.f24
    obtain ⟨a25, g25, h25, e25⟩ := F.f25
    obtain ⟨a26, g26, h26, e26⟩ := F.f26
    obtain ⟨a27, g27, h27, e27⟩ := F.f27
    obtain ⟨a28, g28, h28, e28⟩ := F.f28
    obtain ⟨a29, g29, h29, e29⟩ := F.f29
    obtain ⟨a30, g30, h30, e30⟩ := F.f30
    obtain ⟨a31, g31, h31, e31⟩ := F.f31
    obtain ⟨a32, g32, h32, e32⟩ := F.f32
    obtain ⟨a33, g33, h33, e33⟩ := F.f33
    obtain ⟨a34, g34, h34, e34⟩ := F.f34
    obtain ⟨a35, g35, h35, e35⟩ := F.f35
    obtain ⟨a36, g36, h36, e36⟩ := F.f36
    obtain ⟨a37, g37, h37, e37⟩ := F.f37
    obtain ⟨a38, g38, h38, e38⟩ := F.f38
    obtain ⟨a39, g39, h39, e39⟩ := F.f39
    obtain ⟨a40, g40, h40, e40⟩ := F.f40
    obtain ⟨a41, g41, h41, e41⟩ := F.f41
    exact ⟨F.B, F.m_MOST_ENTRIES_polynomials, F.m_MOST_GRAIN, F.m_MOST_ENTRIES_leastroots, ⟨a0, g0, fn_zero, e0, h0.kp, h0.bindsN fun _ _ _ _ _ _ us hl => match us, hl with | [_, _], _ => rfl⟩, ⟨a1, g1, fn_zero, e1, h1.kp, h1.bindsN fun _ _ _ _ _ _ us hl => match us, hl with | [_, _], _ => rfl⟩, ⟨a2, g2, fn_zero, e2, h2.kp, h2.bindsN fun _ _ _ _ _ _ us hl => match us, hl with | [_], _ => rfl⟩, ⟨a3, g3, fn_zero, e3, h3.kp, h3.bindsN fun _ _ _ _ _ _ us hl => match us, hl with | [_], _ => rfl⟩, ⟨a4, g4, fn_zero, e4, h4.kp, h4.bindsN fun _ _ _ _ _ _ us hl => match us, hl with | [_], _ => rfl⟩, ⟨a5, g5, fn_zero, e5, h5.kp, h5.bindsN fun _ _ _ _ _ _ us hl => match us, hl with | [_, _, _], _ => rfl⟩, ⟨a6, g6, fn_zero, e6, h6.kp, h6.bindsN fun _ _ _ _ _ _ us hl => match us, hl with | [_, _, _], _ => rfl⟩, ⟨a7, g7, fn_zero, e7, h7.kp, h7.bindsN fun _ _ _ _ _ _ us hl => match us, hl with | [_, _, _], _ => rfl⟩, ⟨a8, g8, fn_zero, e8, h8.kp, h8.bindsN fun _ _ _ _ _ _ us hl => match us, hl with | [_], _ => rfl⟩, ⟨a9, g9, fn_zero, e9, h9.kp, h9.bindsN fun _ _ _ _ _ _ us hl => match us, hl with | [_], _ => rfl⟩, ⟨a10, g10, fn_zero, e10, h10.kp, h10.bindsN fun _ _ _ _ _ _ us hl => match us, hl with | [_, _], _ => rfl⟩, ⟨a11, g11, fn_zero, e11, h11.kp, h11.bindsN fun _ _ _ _ _ _ us hl => match us, hl with | [_, _], _ => rfl⟩, ⟨a12, g12, fn_zero, e12, h12.kp, h12.bindsN fun _ _ _ _ _ _ us hl => match us, hl with | [_, _], _ => rfl⟩, ⟨a13, g13, fn_zero, e13, h13.kp, h13.bindsN fun _ _ _ _ _ _ us hl => match us, hl with | [_, _], _ => rfl⟩, ⟨a14, g14, fn_zero, e14, h14.kp, h14.bindsN fun _ _ _ _ _ _ us hl => match us, hl with | [_], _ => rfl⟩, ⟨a15, g15, fn_zero, e15, h15.kp, h15.bindsN fun _ _ _ _ _ _ us hl => match us, hl with | [_], _ => rfl⟩, ⟨a16, g16, fn_zero, e16, h16.kp, h16.bindsN fun _ _ _ _ _ _ us hl => match us, hl with | [_, _], _ => rfl⟩, ⟨a17, g17, fn_zero, e17, h17.kp, h17.bindsN fun _ _ _ _ _ _ us hl => match us, hl with | [_], _ => rfl⟩, ⟨a18, g18, fn_zero, e18, h18.kp, h18.bindsN fun _ _ _ _ _ _ us hl => match us, hl with | [_, _], _ => rfl⟩, ⟨a19, g19, fn_zero, e19, h19.kp, h19.bindsN fun _ _ _ _ _ _ us hl => match us, hl with | [_, _], _ => rfl⟩, ⟨a20, g20, fn_zero, e20, h20.kp, h20.bindsN fun _ _ _ _ _ _ us hl => match us, hl with | [_, _], _ => rfl⟩, ⟨a21, g21, fn_zero, e21, h21.kp, h21.bindsN fun _ _ _ _ _ _ us hl => match us, hl with | [_], _ => rfl⟩, ⟨a22, g22, fn_zero, e22, h22.kp, h22.bindsN fun _ _ _ _ _ _ us hl => match us, hl with | [_, _, _], _ => rfl⟩, ⟨a23, g23, fn_zero, e23, h23.kp, h23.bindsN fun _ _ _ _ _ _ us hl => match us, hl with | [_], _ => rfl⟩, ⟨a24, g24, fn_zero, e24, h24.kp, h24.bindsN fun _ _ _ _ _ _ us hl => match us, hl with | [_, _], _ => rfl⟩, ⟨a25, g25, fn_zero, e25, h25.kp, h25.bindsN fun _ _ _ _ _ _ us hl => match us, hl with | [_], _ => rfl⟩, ⟨a26, g26, fn_zero, e26, h26.kp, h26.bindsN fun _ _ _ _ _ _ us hl => match us, hl with | [_], _ => rfl⟩, ⟨a27, g27, fn_zero, e27, h27.kp, h27.bindsN fun _ _ _ _ _ _ us hl => match us, hl with | [_, _, _], _ => rfl⟩, ⟨a28, g28, fn_zero, e28, h28.kp, h28.bindsN fun _ _ _ _ _ _ us hl => match us, hl with | [_, _], _ => rfl⟩, ⟨a29, g29, fn_zero, e29, h29.kp, h29.bindsN fun _ _ _ _ _ _ us hl => match us, hl with | [_], _ => rfl⟩, ⟨a30, g30, fn_zero, e30, h30.kp, h30.bindsN fun _ _ _ _ _ _ us hl => match us, hl with | [_, _], _ => rfl⟩, ⟨a31, g31, fn_zero, e31, h31.kp, h31.bindsN fun _ _ _ _ _ _ us hl => match us, hl with | [_], _ => rfl⟩, ⟨a32, g32, fn_zero, e32, h32.kp, h32.bindsN fun _ _ _ _ _ _ us hl => match us, hl with | [_, _], _ => rfl⟩, ⟨a33, g33, fn_zero, e33, h33.kp, h33.bindsN fun _ _ _ _ _ _ us hl => match us, hl with | [_, _], _ => rfl⟩, ⟨a34, g34, fn_zero, e34, h34.kp, h34.bindsN fun _ _ _ _ _ _ us hl => match us, hl with | [_, _], _ => rfl⟩, ⟨a35, g35, fn_zero, e35, h35.kp, h35.bindsN fun _ _ _ _ _ _ us hl => match us, hl with | [_, _], _ => rfl⟩, ⟨a36, g36, fn_zero, e36, h36.kp, h36.bindsN fun _ _ _ _ _ _ us hl => match us, hl with | [_, _], _ => rfl⟩, ⟨a37, g37, fn_zero, e37, h37.kp, h37.bindsN fun _ _ _ _ _ _ us hl => match us, hl with | [_, _], _ => rfl⟩, ⟨a38, g38, fn_zero, e38, h38.kp, h38.bindsN fun _ _ _ _ _ _ us hl => match us, hl with | [_], _ => rfl⟩, ⟨a39, g39, fn_zero, e39, h39.kp, h39.bindsN fun _ _ _ _ _ _ us hl => match us, hl with | [_, _, _], _ => rfl⟩, ⟨a40, g40, fn_zero, e40, h40.kp, h40.bindsN fun _ _ _ _ _ _ us hl => match us, hl with | [_], _ => rfl⟩, ⟨a41, g41, fn_zero, e41, h41.kp, h41.bindsN fun _ _ _ _ _ _ us hl => match us, hl with | [_], _ => rfl⟩⟩
  | lv + 1 => by
    have C := ctx (P := P) (w := w) (base := base) F lv
    obtain ⟨a0, g0, h0, e0⟩ := F.f0
    obtain ⟨a1, g1, h1, e1⟩ := F.f1
    obtain ⟨a2, g2, h2, e2⟩ := F.f2
    obtain ⟨a3, g3, h3, e3⟩ := F.f3
    obtain ⟨a4, g4, h4, e4⟩ := F.f4
    obtain ⟨a5, g5, h5, e5⟩ := F.f5
    obtain ⟨a6, g6, h6, e6⟩ := F.f6
    obtain ⟨a7, g7, h7, e7⟩ := F.f7
    obtain ⟨a8, g8, h8, e8⟩ := F.f8
    obtain ⟨a9, g9, h9, e9⟩ := F.f9
    obtain ⟨a10, g10, h10, e10⟩ := F.f10
    obtain ⟨a11, g11, h11, e11⟩ := F.f11
    obtain ⟨a12, g12, h12, e12⟩ := F.f12
    obtain ⟨a13, g13, h13, e13⟩ := F.f13
    obtain ⟨a14, g14, h14, e14⟩ := F.f14
    obtain ⟨a15, g15, h15, e15⟩ := F.f15
    obtain ⟨a16, g16, h16, e16⟩ := F.f16
    obtain ⟨a17, g17, h17, e17⟩ := F.f17
    obtain ⟨a18, g18, h18, e18⟩ := F.f18
    obtain ⟨a19, g19, h19, e19⟩ := F.f19
    obtain ⟨a20, g20, h20, e20⟩ := F.f20
    obtain ⟨a21, g21, h21, e21⟩ := F.f21
    obtain ⟨a22, g22, h22, e22⟩ := F.f22
    obtain ⟨a23, g23, h23, e23⟩ := F.f23
    obtain ⟨a24, g24, h24, e24⟩ := F.f24
    obtain ⟨a25, g25, h25, e25⟩ := F.f25
    obtain ⟨a26, g26, h26, e26⟩ := F.f26
    obtain ⟨a27, g27, h27, e27⟩ := F.f27
    obtain ⟨a28, g28, h28, e28⟩ := F.f28
    obtain ⟨a29, g29, h29, e29⟩ := F.f29
    obtain ⟨a30, g30, h30, e30⟩ := F.f30
    obtain ⟨a31, g31, h31, e31⟩ := F.f31
    obtain ⟨a32, g32, h32, e32⟩ := F.f32
    obtain ⟨a33, g33, h33, e33⟩ := F.f33
    obtain ⟨a34, g34, h34, e34⟩ := F.f34
    obtain ⟨a35, g35, h35, e35⟩ := F.f35
    obtain ⟨a36, g36, h36, e36⟩ := F.f36
    obtain ⟨a37, g37, h37, e37⟩ := F.f37
    obtain ⟨a38, g38, h38, e38⟩ := F.f38
    obtain ⟨a39, g39, h39, e39⟩ := F.f39
    obtain ⟨a40, g40, h40, e40⟩ := F.f40
    obtain ⟨a41, g41, h41, e41⟩ := F.f41
    exact ⟨F.B, F.m_MOST_ENTRIES_polynomials, F.m_MOST_GRAIN, F.m_MOST_ENTRIES_leastroots, ⟨a0, g0, ok0 C h0, e0, h0.kp, h0.bindsN fun _ _ _ _ _ _ us hl => match us, hl with | [_, _], _ => rfl⟩, ⟨a1, g1, ok1 C h1, e1, h1.kp, h1.bindsN fun _ _ _ _ _ _ us hl => match us, hl with | [_, _], _ => rfl⟩, ⟨a2, g2, ok2 C h2, e2, h2.kp, h2.bindsN fun _ _ _ _ _ _ us hl => match us, hl with | [_], _ => rfl⟩, ⟨a3, g3, ok3 C h3, e3, h3.kp, h3.bindsN fun _ _ _ _ _ _ us hl => match us, hl with | [_], _ => rfl⟩, ⟨a4, g4, ok4 C h4, e4, h4.kp, h4.bindsN fun _ _ _ _ _ _ us hl => match us, hl with | [_], _ => rfl⟩, ⟨a5, g5, ok5 C h5, e5, h5.kp, h5.bindsN fun _ _ _ _ _ _ us hl => match us, hl with | [_, _, _], _ => rfl⟩, ⟨a6, g6, ok6 C h6, e6, h6.kp, h6.bindsN fun _ _ _ _ _ _ us hl => match us, hl with | [_, _, _], _ => rfl⟩, ⟨a7, g7, ok7 C h7, e7, h7.kp, h7.bindsN fun _ _ _ _ _ _ us hl => match us, hl with | [_, _, _], _ => rfl⟩, ⟨a8, g8, ok8 C h8, e8, h8.kp, h8.bindsN fun _ _ _ _ _ _ us hl => match us, hl with | [_], _ => rfl⟩, ⟨a9, g9, ok9 C h9, e9, h9.kp, h9.bindsN fun _ _ _ _ _ _ us hl => match us, hl with | [_], _ => rfl⟩, ⟨a10, g10, ok10 C h10, e10, h10.kp, h10.bindsN fun _ _ _ _ _ _ us hl => match us, hl with | [_, _], _ => rfl⟩, ⟨a11, g11, ok11 C h11, e11, h11.kp, h11.bindsN fun _ _ _ _ _ _ us hl => match us, hl with | [_, _], _ => rfl⟩, ⟨a12, g12, ok12 C h12, e12, h12.kp, h12.bindsN fun _ _ _ _ _ _ us hl => match us, hl with | [_, _], _ => rfl⟩, ⟨a13, g13, ok13 C h13, e13, h13.kp, h13.bindsN fun _ _ _ _ _ _ us hl => match us, hl with | [_, _], _ => rfl⟩, ⟨a14, g14, ok14 C h14, e14, h14.kp, h14.bindsN fun _ _ _ _ _ _ us hl => match us, hl with | [_], _ => rfl⟩, ⟨a15, g15, ok15 C h15, e15, h15.kp, h15.bindsN fun _ _ _ _ _ _ us hl => match us, hl with | [_], _ => rfl⟩, ⟨a16, g16, ok16 C h16, e16, h16.kp, h16.bindsN fun _ _ _ _ _ _ us hl => match us, hl with | [_, _], _ => rfl⟩, ⟨a17, g17, ok17 C h17, e17, h17.kp, h17.bindsN fun _ _ _ _ _ _ us hl => match us, hl with | [_], _ => rfl⟩, ⟨a18, g18, ok18 C h18, e18, h18.kp, h18.bindsN fun _ _ _ _ _ _ us hl => match us, hl with | [_, _], _ => rfl⟩, ⟨a19, g19, ok19 C h19, e19, h19.kp, h19.bindsN fun _ _ _ _ _ _ us hl => match us, hl with | [_, _], _ => rfl⟩, ⟨a20, g20, ok20 C h20, e20, h20.kp, h20.bindsN fun _ _ _ _ _ _ us hl => match us, hl with | [_, _], _ => rfl⟩, ⟨a21, g21, ok21 C h21, e21, h21.kp, h21.bindsN fun _ _ _ _ _ _ us hl => match us, hl with | [_], _ => rfl⟩, ⟨a22, g22, ok22 C h22, e22, h22.kp, h22.bindsN fun _ _ _ _ _ _ us hl => match us, hl with | [_, _, _], _ => rfl⟩, ⟨a23, g23, ok23 C h23, e23, h23.kp, h23.bindsN fun _ _ _ _ _ _ us hl => match us, hl with | [_], _ => rfl⟩, ⟨a24, g24, ok24 C h24, e24, h24.kp, h24.bindsN fun _ _ _ _ _ _ us hl => match us, hl with | [_, _], _ => rfl⟩, ⟨a25, g25, ok25 C h25, e25, h25.kp, h25.bindsN fun _ _ _ _ _ _ us hl => match us, hl with | [_], _ => rfl⟩, ⟨a26, g26, ok26 C h26, e26, h26.kp, h26.bindsN fun _ _ _ _ _ _ us hl => match us, hl with | [_], _ => rfl⟩, ⟨a27, g27, ok27 C h27, e27, h27.kp, h27.bindsN fun _ _ _ _ _ _ us hl => match us, hl with | [_, _, _], _ => rfl⟩, ⟨a28, g28, ok28 C h28, e28, h28.kp, h28.bindsN fun _ _ _ _ _ _ us hl => match us, hl with | [_, _], _ => rfl⟩, ⟨a29, g29, ok29 C h29, e29, h29.kp, h29.bindsN fun _ _ _ _ _ _ us hl => match us, hl with | [_], _ => rfl⟩, ⟨a30, g30, ok30 C h30, e30, h30.kp, h30.bindsN fun _ _ _ _ _ _ us hl => match us, hl with | [_, _], _ => rfl⟩, ⟨a31, g31, ok31 C h31, e31, h31.kp, h31.bindsN fun _ _ _ _ _ _ us hl => match us, hl with | [_], _ => rfl⟩, ⟨a32, g32, ok32 C h32, e32, h32.kp, h32.bindsN fun _ _ _ _ _ _ us hl => match us, hl with | [_, _], _ => rfl⟩, ⟨a33, g33, ok33 C h33, e33, h33.kp, h33.bindsN fun _ _ _ _ _ _ us hl => match us, hl with | [_, _], _ => rfl⟩, ⟨a34, g34, ok34 C h34, e34, h34.kp, h34.bindsN fun _ _ _ _ _ _ us hl => match us, hl with | [_, _], _ => rfl⟩, ⟨a35, g35, ok35 C h35, e35, h35.kp, h35.bindsN fun _ _ _ _ _ _ us hl => match us, hl with | [_, _], _ => rfl⟩, ⟨a36, g36, ok36 C h36, e36, h36.kp, h36.bindsN fun _ _ _ _ _ _ us hl => match us, hl with | [_, _], _ => rfl⟩, ⟨a37, g37, ok37 C h37, e37, h37.kp, h37.bindsN fun _ _ _ _ _ _ us hl => match us, hl with | [_, _], _ => rfl⟩, ⟨a38, g38, ok38 C h38, e38, h38.kp, h38.bindsN fun _ _ _ _ _ _ us hl => match us, hl with | [_], _ => rfl⟩, ⟨a39, g39, ok39 C h39, e39, h39.kp, h39.bindsN fun _ _ _ _ _ _ us hl => match us, hl with | [_, _, _], _ => rfl⟩, ⟨a40, g40, ok40 C h40, e40, h40.kp, h40.bindsN fun _ _ _ _ _ _ us hl => match us, hl with | [_], _ => rfl⟩, ⟨a41, g41, ok41 C h41, e41, h41.kp, h41.bindsN fun _ _ _ _ _ _ us hl => match us, hl with | [_], _ => rfl⟩⟩
/-- the law's promise: the script's list in, True out -/
def spLaw (K : PySem.W.Frag) : Sp := fun vs H Q _ => ∃ (a : Addr) (ns : List Int), vs = [.ref a] ∧ SqL K H a (ns.map V.int) ∧ ns.length ≤ 63 ∧ Only H ∧ ∀ H', Q (.bl true) H'
theorem rel_ints {K : PySem.W.Frag} {ι : List Addr} {H : Hp} : ∀ ns : List Int, RelWs K ι H (ns.map V.int) (ns.map W.int)
  | [] => .nil
  | n :: ns => .cons (.int n) (rel_ints ns)
theorem law_sp {K : PySem.W.Frag} (T : ∀ ns : List Int, ns.length ≤ 63 → ∃ g, tbl 20 41 [.rol (ns.map W.int)] [] = .ok (.bl true) g) : ∀ vs H Q E, spLaw K vs H Q E → spE K (tbl 20) 41 1 vs H Q E := by
  rintro vs H Q E ⟨a, ns, rfl, hS, hl, hO, hQ⟩
  obtain ⟨g, e⟩ := T ns hl
  have hF : SqF K H a (ns.map V.int) := by
    rcases hS with (h | ⟨o, h⟩) | h
    · rcases hO a with q | ⟨o, xs, q⟩
      · rw [q] at h; cases h
      · rw [q] at h; cases h
    · exact .inl ⟨o, h⟩
    · exact .inr h
  refine ⟨[], [], [.rol (ns.map W.int)], .bl true, g, rfl, ⟨List.nodup_nil, rfl, fun n a ws e1 _ => by simp at e1⟩, .cons (.rol hF (rel_ints ns)) .nil, e, fun ι' H' v f r q => ?_⟩
  cases q
  exact hQ H'
/-! ### the head -/
def d0 : He.DefD := ⟨("divisor_of", none), "divisor_of", "divisor_of", defArgs s0, defBody s0, defScope s0, [], []⟩
def d1 : He.DefD := ⟨("lowest", none), "lowest", "lowest", defArgs s1, defBody s1, defScope s1, [], []⟩
def d2 : He.DefD := ⟨("made_low", none), "made_low", "made_low", defArgs s2, defBody s2, defScope s2, [], []⟩
def d3 : He.DefD := ⟨("cut_zeros", none), "cut_zeros", "cut_zeros", defArgs s3, defBody s3, defScope s3, [], []⟩
def d4 : He.DefD := ⟨("is_integer", none), "is_integer", "is_integer", defArgs s4, defBody s4, defScope s4, [], []⟩
def d5 : He.DefD := ⟨("is_number", none), "is_number", "is_number", defArgs s5, defBody s5, defScope s5, [], []⟩
def d6 : He.DefD := ⟨("need_number", none), "need_number", "need_number", defArgs s6, defBody s6, defScope s6, [], []⟩
def d7 : He.DefD := ⟨("is_tuple_of", none), "is_tuple_of", "is_tuple_of", defArgs s7, defBody s7, defScope s7, [], []⟩
def d8 : He.DefD := ⟨("fits_polynomial_polynomials", none), "fits_polynomial", "fits_polynomial", defArgs s8, defBody s8, defScope s8, [], []⟩
def d9 : He.DefD := ⟨("cut_off", none), "cut_off", "cut_off", defArgs s9, defBody s9, defScope s9, [], []⟩
def d10 : He.DefD := ⟨("times", none), "times", "times", defArgs s10, defBody s10, defScope s10, [], []⟩
def d11 : He.DefD := ⟨("need_two_polys", none), "need_two_polys", "need_two_polys", defArgs s11, defBody s11, defScope s11, [], []⟩
def d12 : He.DefD := ⟨("poly_product", none), "poly_product", "poly_product", defArgs s12, defBody s12, defScope s12, [], []⟩
def d13 : He.DefD := ⟨("is_at_most", none), "is_at_most", "is_at_most", defArgs s13, defBody s13, defScope s13, [], []⟩
def d14 : He.DefD := ⟨("fits_polynomial_leastroots", none), "fits_polynomial", "fits_polynomial", defArgs s14, defBody s14, defScope s14, [], []⟩
def d15 : He.DefD := ⟨("slope_of", none), "slope_of", "slope_of", defArgs s15, defBody s15, defScope s15, [], []⟩
def d16 : He.DefD := ⟨("rest_of", none), "rest_of", "rest_of", defArgs s16, defBody s16, defScope s16, [], []⟩
def d17 : He.DefD := ⟨("rows_of_rests", none), "rows_of_rests", "rows_of_rests", defArgs s17, defBody s17, defScope s17, [], []⟩
def d18 : He.DefD := ⟨("sign_at", none), "sign_at", "sign_at", defArgs s18, defBody s18, defScope s18, [], []⟩
def d19 : He.DefD := ⟨("changes_at", none), "changes_at", "changes_at", defArgs s19, defBody s19, defScope s19, [], []⟩
def d20 : He.DefD := ⟨("quotient_of", none), "quotient_of", "quotient_of", defArgs s20, defBody s20, defScope s20, [], []⟩
def d21 : He.DefD := ⟨("without_doubles", none), "without_doubles", "without_doubles", defArgs s21, defBody s21, defScope s21, [], []⟩
def d22 : He.DefD := ⟨("roots_in", none), "roots_in", "roots_in", defArgs s22, defBody s22, defScope s22, [], []⟩
def d23 : He.DefD := ⟨("rows_for", none), "rows_for", "rows_for", defArgs s23, defBody s23, defScope s23, [], []⟩
def d24 : He.DefD := ⟨("cell_in", none), "cell_in", "cell_in", defArgs s24, defBody s24, defScope s24, [], []⟩
def d25 : He.DefD := ⟨("need_polynomial", none), "need_polynomial", "need_polynomial", defArgs s25, defBody s25, defScope s25, [], []⟩
def d26 : He.DefD := ⟨("need_fraction", none), "need_fraction", "need_fraction", defArgs s26, defBody s26, defScope s26, [], []⟩
def d27 : He.DefD := ⟨("roots_between", none), "roots_between", "roots_between", defArgs s27, defBody s27, defScope s27, [], []⟩
def d28 : He.DefD := ⟨("least_root_cell", none), "least_root_cell", "least_root_cell", defArgs s28, defBody s28, defScope s28, [], []⟩
def d29 : He.DefD := ⟨("_law_cup", none), "_law_cup", "_law_cup", defArgs s29, defBody s29, defScope s29, [], []⟩
def d30 : He.DefD := ⟨("_law_roll", none), "_law_roll", "_law_roll", defArgs s30, defBody s30, defScope s30, [], []⟩
def d31 : He.DefD := ⟨("_law_sort", none), "_law_sort", "_law_sort", defArgs s31, defBody s31, defScope s31, [], []⟩
def d32 : He.DefD := ⟨("_law_like", none), "_law_like", "_law_like", defArgs s32, defBody s32, defScope s32, [], []⟩
def d33 : He.DefD := ⟨("_law_gcd", none), "_law_gcd", "_law_gcd", defArgs s33, defBody s33, defScope s33, [], []⟩
def d34 : He.DefD := ⟨("_law_low", none), "_law_low", "_law_low", defArgs s34, defBody s34, defScope s34, [], []⟩
def d35 : He.DefD := ⟨("_law_is_most", none), "_law_is_most", "_law_is_most", defArgs s35, defBody s35, defScope s35, [], []⟩
def d36 : He.DefD := ⟨("_law_value", none), "_law_value", "_law_value", defArgs s36, defBody s36, defScope s36, [], []⟩
def d37 : He.DefD := ⟨("_law_product", none), "_law_product", "_law_product", defArgs s37, defBody s37, defScope s37, [], []⟩
def d38 : He.DefD := ⟨("_law_sorted", none), "_law_sorted", "_law_sorted", defArgs s38, defBody s38, defScope s38, [], []⟩
def d39 : He.DefD := ⟨("_law_right", none), "_law_right", "_law_right", defArgs s39, defBody s39, defScope s39, [], []⟩
def d40 : He.DefD := ⟨("_law_signs_right", none), "_law_signs_right", "_law_signs_right", defArgs s40, defBody s40, defScope s40, [], []⟩
def d41 : He.DefD := ⟨("law", none), "law", "law", defArgs s41, defBody s41, defScope s41, [], []⟩
def fn : List He.DefD := ([d0, d1, d2, d3, d4, d5, d6, d7, d8, d9, d10, d11, d12, d13, d14, d15, d16, d17, d18, d19] : List He.DefD) ++ ([d20, d21, d22, d23, d24, d25, d26, d27, d28, d29, d30, d31, d32, d33, d34, d35, d36, d37, d38, d39] : List He.DefD) ++ ([d40, d41] : List He.DefD)
def fa : List He.Fa := ([.glo "divisor_of", .glo "lowest", .glo "made_low", .glo "cut_zeros", .glo "is_integer", .glo "is_number", .glo "need_number", .glo "is_tuple_of", .glo "fits_polynomial_polynomials", .glo "cut_off", .glo "times", .glo "need_two_polys", .glo "poly_product", .glo "is_at_most", .glo "fits_polynomial_leastroots", .glo "slope_of", .glo "rest_of", .glo "rows_of_rests", .glo "sign_at", .glo "changes_at"] : List He.Fa) ++ ([.glo "quotient_of", .glo "without_doubles", .glo "roots_in", .glo "rows_for", .glo "cell_in", .glo "need_polynomial", .glo "need_fraction", .glo "roots_between", .glo "least_root_cell", .glo "_law_cup", .glo "_law_roll", .glo "_law_sort", .glo "_law_like", .glo "_law_gcd", .glo "_law_low", .glo "_law_is_most", .glo "_law_value", .glo "_law_product", .glo "_law_sorted", .glo "_law_right"] : List He.Fa) ++ ([.glo "_law_signs_right", .glo "law", .free "len", .free "abs", .free "max", .free "all", .free "list", .free "tuple", .free "int", .free "bool", .free "str", .free "isinstance", .free "range", .free "enumerate", .free "zip", .int "MOST_ENTRIES_polynomials" 401, .int "MOST_GRAIN" 64, .int "MOST_ENTRIES_leastroots" 401] : List He.Fa)
def names : List Str := (["ShapeError", "InvalidNumber", "InvalidSeries", "TooMany", "divisor_of", "lowest", "made_low", "cut_zeros", "is_integer", "is_number", "need_number", "is_tuple_of", "MOST_ENTRIES_polynomials", "fits_polynomial", "fits_polynomial_polynomials", "cut_off", "times", "need_two_polys", "poly_product", "MOST_GRAIN"] : List Str) ++ (["is_at_most", "MOST_ENTRIES_leastroots", "fits_polynomial_leastroots", "slope_of", "rest_of", "rows_of_rests", "sign_at", "changes_at", "quotient_of", "without_doubles", "roots_in", "rows_for", "cell_in", "need_polynomial", "need_fraction", "roots_between", "least_root_cell", "_law_cup", "_law_roll", "_law_sort"] : List Str) ++ (["_law_like", "_law_gcd", "_law_low", "_law_is_most", "_law_value", "_law_product", "_law_sorted", "_law_right", "_law_signs_right"] : List Str)
abbrev R : PySem.W.OpenRow := PySem.W.OpenLaw.row PySem.Challenge.rw_shapescounted_k77_whole_roots_between
abbrev hk : PySem.W.Hook := He.hookD 4 fa fn
def ob (s : PySem.W.SharedT) : He.AlD := He.obsDG 4 fa fn (HandSHeadRun.getT s)
theorem ob_eq (s : PySem.W.SharedT) : ob s = hk.obs s.abs := He.obsDG_eq (HandSHeadRun.getT_eq s)
theorem run (w : World) : HandSHeadRun.RunEq R (PySem.W.view R.prog [57]) hk ob 4000 names w := by
  intro os
  kernel_rfl
theorem facts_of {K : PySem.W.Frag} {h : Heap} {mg : Str → Option Value} (X : K.In h) (G : h.Ns mainGlobals mg) (c : He.SaysD fa fn K) : Facts K mg := by
  obtain ⟨g0, h0⟩ := c.def_ 0 (d := d0) rfl
  obtain ⟨g1, h1⟩ := c.def_ 1 (d := d1) rfl
  obtain ⟨g2, h2⟩ := c.def_ 2 (d := d2) rfl
  obtain ⟨g3, h3⟩ := c.def_ 3 (d := d3) rfl
  obtain ⟨g4, h4⟩ := c.def_ 4 (d := d4) rfl
  obtain ⟨g5, h5⟩ := c.def_ 5 (d := d5) rfl
  obtain ⟨g6, h6⟩ := c.def_ 6 (d := d6) rfl
  obtain ⟨g7, h7⟩ := c.def_ 7 (d := d7) rfl
  obtain ⟨g8, h8⟩ := c.def_ 8 (d := d8) rfl
  obtain ⟨g9, h9⟩ := c.def_ 9 (d := d9) rfl
  obtain ⟨g10, h10⟩ := c.def_ 10 (d := d10) rfl
  obtain ⟨g11, h11⟩ := c.def_ 11 (d := d11) rfl
  obtain ⟨g12, h12⟩ := c.def_ 12 (d := d12) rfl
  obtain ⟨g13, h13⟩ := c.def_ 13 (d := d13) rfl
  obtain ⟨g14, h14⟩ := c.def_ 14 (d := d14) rfl
  obtain ⟨g15, h15⟩ := c.def_ 15 (d := d15) rfl
  obtain ⟨g16, h16⟩ := c.def_ 16 (d := d16) rfl
  obtain ⟨g17, h17⟩ := c.def_ 17 (d := d17) rfl
  obtain ⟨g18, h18⟩ := c.def_ 18 (d := d18) rfl
  obtain ⟨g19, h19⟩ := c.def_ 19 (d := d19) rfl
  obtain ⟨g20, h20⟩ := c.def_ 20 (d := d20) rfl
  obtain ⟨g21, h21⟩ := c.def_ 21 (d := d21) rfl
  obtain ⟨g22, h22⟩ := c.def_ 22 (d := d22) rfl
  obtain ⟨g23, h23⟩ := c.def_ 23 (d := d23) rfl
  obtain ⟨g24, h24⟩ := c.def_ 24 (d := d24) rfl
  obtain ⟨g25, h25⟩ := c.def_ 25 (d := d25) rfl
  obtain ⟨g26, h26⟩ := c.def_ 26 (d := d26) rfl
  obtain ⟨g27, h27⟩ := c.def_ 27 (d := d27) rfl
  obtain ⟨g28, h28⟩ := c.def_ 28 (d := d28) rfl
  obtain ⟨g29, h29⟩ := c.def_ 29 (d := d29) rfl
  obtain ⟨g30, h30⟩ := c.def_ 30 (d := d30) rfl
  obtain ⟨g31, h31⟩ := c.def_ 31 (d := d31) rfl
  obtain ⟨g32, h32⟩ := c.def_ 32 (d := d32) rfl
  obtain ⟨g33, h33⟩ := c.def_ 33 (d := d33) rfl
  obtain ⟨g34, h34⟩ := c.def_ 34 (d := d34) rfl
  obtain ⟨g35, h35⟩ := c.def_ 35 (d := d35) rfl
  obtain ⟨g36, h36⟩ := c.def_ 36 (d := d36) rfl
  obtain ⟨g37, h37⟩ := c.def_ 37 (d := d37) rfl
  obtain ⟨g38, h38⟩ := c.def_ 38 (d := d38) rfl
  obtain ⟨g39, h39⟩ := c.def_ 39 (d := d39) rfl
  obtain ⟨g40, h40⟩ := c.def_ 40 (d := d40) rfl
  obtain ⟨g41, h41⟩ := c.def_ 41 (d := d41) rfl
  exact ⟨⟨He.free_ok X G (c.fact 42 (f := .free "len") rfl), He.free_ok X G (c.fact 43 (f := .free "abs") rfl), He.free_ok X G (c.fact 44 (f := .free "max") rfl), He.free_ok X G (c.fact 45 (f := .free "all") rfl), He.free_ok X G (c.fact 46 (f := .free "list") rfl), He.free_ok X G (c.fact 47 (f := .free "tuple") rfl), He.free_ok X G (c.fact 48 (f := .free "int") rfl), He.free_ok X G (c.fact 49 (f := .free "bool") rfl), He.free_ok X G (c.fact 50 (f := .free "str") rfl), He.free_ok X G (c.fact 51 (f := .free "isinstance") rfl), He.free_ok X G (c.fact 52 (f := .free "range") rfl), He.free_ok X G (c.fact 53 (f := .free "enumerate") rfl), He.free_ok X G (c.fact 54 (f := .free "zip") rfl)⟩, He.int_ok X G (c.fact 55 (f := .int "MOST_ENTRIES_polynomials" 401) rfl), He.int_ok X G (c.fact 56 (f := .int "MOST_GRAIN" 64) rfl), He.int_ok X G (c.fact 57 (f := .int "MOST_ENTRIES_leastroots" 401) rfl), ⟨_, g0, h0, He.glo_ok X G (c.fact 0 (f := .glo "divisor_of") rfl)⟩, ⟨_, g1, h1, He.glo_ok X G (c.fact 1 (f := .glo "lowest") rfl)⟩, ⟨_, g2, h2, He.glo_ok X G (c.fact 2 (f := .glo "made_low") rfl)⟩, ⟨_, g3, h3, He.glo_ok X G (c.fact 3 (f := .glo "cut_zeros") rfl)⟩, ⟨_, g4, h4, He.glo_ok X G (c.fact 4 (f := .glo "is_integer") rfl)⟩, ⟨_, g5, h5, He.glo_ok X G (c.fact 5 (f := .glo "is_number") rfl)⟩, ⟨_, g6, h6, He.glo_ok X G (c.fact 6 (f := .glo "need_number") rfl)⟩, ⟨_, g7, h7, He.glo_ok X G (c.fact 7 (f := .glo "is_tuple_of") rfl)⟩, ⟨_, g8, h8, He.glo_ok X G (c.fact 8 (f := .glo "fits_polynomial_polynomials") rfl)⟩, ⟨_, g9, h9, He.glo_ok X G (c.fact 9 (f := .glo "cut_off") rfl)⟩, ⟨_, g10, h10, He.glo_ok X G (c.fact 10 (f := .glo "times") rfl)⟩, ⟨_, g11, h11, He.glo_ok X G (c.fact 11 (f := .glo "need_two_polys") rfl)⟩, ⟨_, g12, h12, He.glo_ok X G (c.fact 12 (f := .glo "poly_product") rfl)⟩, ⟨_, g13, h13, He.glo_ok X G (c.fact 13 (f := .glo "is_at_most") rfl)⟩, ⟨_, g14, h14, He.glo_ok X G (c.fact 14 (f := .glo "fits_polynomial_leastroots") rfl)⟩, ⟨_, g15, h15, He.glo_ok X G (c.fact 15 (f := .glo "slope_of") rfl)⟩, ⟨_, g16, h16, He.glo_ok X G (c.fact 16 (f := .glo "rest_of") rfl)⟩, ⟨_, g17, h17, He.glo_ok X G (c.fact 17 (f := .glo "rows_of_rests") rfl)⟩, ⟨_, g18, h18, He.glo_ok X G (c.fact 18 (f := .glo "sign_at") rfl)⟩, ⟨_, g19, h19, He.glo_ok X G (c.fact 19 (f := .glo "changes_at") rfl)⟩, ⟨_, g20, h20, He.glo_ok X G (c.fact 20 (f := .glo "quotient_of") rfl)⟩, ⟨_, g21, h21, He.glo_ok X G (c.fact 21 (f := .glo "without_doubles") rfl)⟩, ⟨_, g22, h22, He.glo_ok X G (c.fact 22 (f := .glo "roots_in") rfl)⟩, ⟨_, g23, h23, He.glo_ok X G (c.fact 23 (f := .glo "rows_for") rfl)⟩, ⟨_, g24, h24, He.glo_ok X G (c.fact 24 (f := .glo "cell_in") rfl)⟩, ⟨_, g25, h25, He.glo_ok X G (c.fact 25 (f := .glo "need_polynomial") rfl)⟩, ⟨_, g26, h26, He.glo_ok X G (c.fact 26 (f := .glo "need_fraction") rfl)⟩, ⟨_, g27, h27, He.glo_ok X G (c.fact 27 (f := .glo "roots_between") rfl)⟩, ⟨_, g28, h28, He.glo_ok X G (c.fact 28 (f := .glo "least_root_cell") rfl)⟩, ⟨_, g29, h29, He.glo_ok X G (c.fact 29 (f := .glo "_law_cup") rfl)⟩, ⟨_, g30, h30, He.glo_ok X G (c.fact 30 (f := .glo "_law_roll") rfl)⟩, ⟨_, g31, h31, He.glo_ok X G (c.fact 31 (f := .glo "_law_sort") rfl)⟩, ⟨_, g32, h32, He.glo_ok X G (c.fact 32 (f := .glo "_law_like") rfl)⟩, ⟨_, g33, h33, He.glo_ok X G (c.fact 33 (f := .glo "_law_gcd") rfl)⟩, ⟨_, g34, h34, He.glo_ok X G (c.fact 34 (f := .glo "_law_low") rfl)⟩, ⟨_, g35, h35, He.glo_ok X G (c.fact 35 (f := .glo "_law_is_most") rfl)⟩, ⟨_, g36, h36, He.glo_ok X G (c.fact 36 (f := .glo "_law_value") rfl)⟩, ⟨_, g37, h37, He.glo_ok X G (c.fact 37 (f := .glo "_law_product") rfl)⟩, ⟨_, g38, h38, He.glo_ok X G (c.fact 38 (f := .glo "_law_sorted") rfl)⟩, ⟨_, g39, h39, He.glo_ok X G (c.fact 39 (f := .glo "_law_right") rfl)⟩, ⟨_, g40, h40, He.glo_ok X G (c.fact 40 (f := .glo "_law_signs_right") rfl)⟩, ⟨_, g41, h41, He.glo_ok X G (c.fact 41 (f := .glo "law") rfl)⟩⟩
end LK77
open PySem PySem.W PySem.Calls PyProof.Rows
theorem LK77.holds_of (T : ∀ ns : List Int, ns.length ≤ 63 → ∃ g, LK77.tbl 20 41 [.rol (ns.map Ev.W.int)] [] = .ok (.bl true) g) : PySem.Challenge.rw_shapescounted_k77_whole_roots_between.Holds := by
  w_on; o_law
  refine HandSHeadRun.head_any (r := OpenLaw.row PySem.Challenge.rw_shapescounted_k77_whole_roots_between) (q := view (OpenLaw.row PySem.Challenge.rw_shapescounted_k77_whole_roots_between).prog [57]) (H := LK77.hk) (ob := LK77.ob) (M := 4000) (loose := LK77.names) (d := HandSHeadRun.topDef (OpenLaw.row PySem.Challenge.rw_shapescounted_k77_whole_roots_between).prog 57) (kwd := []) LK77.ob_eq
    (by kernel_rfl) (fun s => by kernel_rfl) LK77.run (by kernel_rfl) (by kernel_rfl) (by kernel_rfl) (by rfl) (by first | assumption | decide +kernel) (by decide +kernel) ⟨rfl, rfl, rfl, rfl, rfl, by decide +kernel⟩ ?hw ?hc
  case hw => w_witness2
  case hc =>
    refine L2.walk_ofE (l := PySem.Challenge.rw_shapescounted_k77_whole_roots_between) (n := 63) (k := 20) (x := "script") (CX := L2.CX0) rfl (by decide) (by kernel_rfl) ⟨rfl, by decide, by decide⟩ ?F (fun _ _ _ _ z => z)
    intro w mg fa h Y G hmg0
    obtain ⟨K, KX, c⟩ := Y
    have hmg : mg ("law" : PySem.Str) = some (.ref fa) := by
      have e : (HandSHeadRun.topDef (OpenLaw.row PySem.Challenge.rw_shapescounted_k77_whole_roots_between).prog 57).name = ("law" : PySem.Str) := by kernel_rfl
      rw [← e]
      exact hmg0
    have F := LK77.facts_of KX G c
    obtain ⟨fa', fd, hF, e1⟩ := F.f41
    have e2 := hmg.symm.trans e1
    cases e2
    refine ⟨K, fd, LK77.spLaw K, KX, fun s v => (hF.bindsA (ps := ["script"]) fun _ _ _ _ _ _ us hl => match us, hl with | [_], _ => rfl) s [v] rfl, fun H a ns hl hO hS => ⟨a, ns, rfl, hS, hl, hO, fun _ => rfl⟩, fun base _ _ => ?_⟩
    exact (LK77.ok41 (LK77.ctx F 19) hF).imp (LK77.law_sp T)

theorem PySem.Challenge.cw_shapescounted_k77_whole_roots_between_holds : PySem.Challenge.rw_shapescounted_k77_whole_roots_between.Holds :=
  LK77.holds_of LK77.T
