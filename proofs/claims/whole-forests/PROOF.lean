import PyProof.Rows.All
import Wide.All
import OpenK.AllK
import Wide.FinOn
import HandS.ForMost
import HandS.IsInst
import HandS.Evl
import HandS.Walk
import HandS.SortRule
import HandS.SortInts
import HandS.TupAny
import HandS.Style
import HandS.More
import HandS.CallRecv
import HandS.SetFor
import HandS.Zip
import HandS.DictTup
import HandS.Conv
import HandS.WideBits
import HandS.Deep
import HandS.DictComp
import HandS.Flow
import KE.SortData
import KE.DataEq
import KE.DataMinMax
import KE.KDictItemsList
import PySem.Challenge.RW_fewways_k37_whole_forests
import HandS.ListItems
set_option Elab.async false
/-! b-matchings of an edge list: the most edges under capacities, and how many sets have so many -/
namespace G37
abbrev Ed := Nat × Nat
abbrev Cap := Nat → Nat
def dec (b : Cap) (v : Nat) : Cap := fun x => if x = v then b x - 1 else b x
def bet (p q : Nat × Nat) : Nat × Nat := if p.1 = q.1 then (p.1, p.2 + q.2) else if p.1 < q.1 then q else p
def sh (p : Nat × Nat) : Nat × Nat := (p.1 + 1, p.2)
def bth (p q : Nat × Nat) : Nat × Nat := (p.1 + q.1, p.2 * q.2)
def okE (e : Ed) (b : Cap) : Prop := e.1 ≠ e.2 ∧ 0 < b e.1 ∧ 0 < b e.2
instance (e : Ed) (b : Cap) : Decidable (okE e b) := by unfold okE; infer_instance
def tk (e : Ed) (b : Cap) : Cap := dec (dec b e.1) e.2
def M : List Ed → Cap → Nat × Nat
  | [], _ => (0, 1)
  | e :: es, b => if okE e b then bet (M es b) (sh (M es (tk e b))) else M es b
theorem bet_comm (p q : Nat × Nat) : bet p q = bet q p := by
  obtain ⟨a, c⟩ := p; obtain ⟨a', c'⟩ := q; simp only [bet]; grind
theorem bet_assoc (p q r : Nat × Nat) : bet (bet p q) r = bet p (bet q r) := by
  obtain ⟨a, c⟩ := p; obtain ⟨a', c'⟩ := q; obtain ⟨a'', c''⟩ := r; simp only [bet]; grind
theorem sh_bet (p q : Nat × Nat) : sh (bet p q) = bet (sh p) (sh q) := by
  obtain ⟨a, c⟩ := p; obtain ⟨a', c'⟩ := q; simp only [bet, sh]; grind
theorem bth_bet (p q r : Nat × Nat) : bth (bet p q) r = bet (bth p r) (bth q r) := by
  obtain ⟨a, c⟩ := p; obtain ⟨a', c'⟩ := q; obtain ⟨a'', c''⟩ := r; simp only [bet, bth]; grind
theorem bth_comm (p q : Nat × Nat) : bth p q = bth q p := by
  simp only [bth, Nat.add_comm, Nat.mul_comm]
theorem bth_assoc (p q r : Nat × Nat) : bth (bth p q) r = bth p (bth q r) := by
  simp only [bth, Nat.add_assoc, Nat.mul_assoc]
theorem bth_sh (p q : Nat × Nat) : bth (sh p) q = sh (bth p q) := by
  simp only [bth, sh]; grind
theorem bth_one (p : Nat × Nat) : bth (0, 1) p = p := by simp [bth]
theorem dec_comm (b : Cap) (u v : Nat) : dec (dec b u) v = dec (dec b v) u := by
  funext x; simp only [dec]; grind
theorem tk_comm (e f : Ed) (b : Cap) : tk e (tk f b) = tk f (tk e b) := by
  funext x; simp only [tk, dec]; grind
theorem okE_swap {e f : Ed} {b : Cap} (h : okE e b) (h' : okE f (tk e b)) : okE f b ∧ okE e (tk f b) := by
  obtain ⟨e1, e2⟩ := e; obtain ⟨f1, f2⟩ := f
  simp only [okE, tk, dec] at *; grind
theorem dec_le (b : Cap) (v x : Nat) : dec b v x ≤ b x := by simp only [dec]; split <;> omega
theorem tk_le (e : Ed) (b : Cap) (x : Nat) : tk e b x ≤ b x := Nat.le_trans (dec_le _ _ _) (dec_le _ _ _)
theorem okE_mono {e : Ed} {b b' : Cap} (h : ∀ x, b x ≤ b' x) (k : okE e b) : okE e b' :=
  ⟨k.1, Nat.lt_of_lt_of_le k.2.1 (h _), Nat.lt_of_lt_of_le k.2.2 (h _)⟩
theorem okE_of_tk {e f : Ed} {b : Cap} (k : okE f (tk e b)) : okE f b := okE_mono (tk_le e b) k
theorem M_perm {es fs : List Ed} (p : es.Perm fs) : ∀ b, M es b = M fs b := by
  induction p with
  | nil => intro b; rfl
  | cons e _ ih => intro b; simp only [M]; rw [ih, ih]
  | trans _ _ ih1 ih2 => intro b; rw [ih1, ih2]
  | swap e f es =>
    intro b
    simp only [M]
    by_cases he : okE e b
    · by_cases hf : okE f b
      · by_cases hef : okE f (tk e b)
        · have hfe := (okE_swap he hef).2
          simp only [he, hf, hef, hfe, if_true, tk_comm e f b, sh_bet]
          generalize M es b = m
          generalize sh (M es (tk f b)) = x
          generalize sh (M es (tk e b)) = y
          generalize sh (sh (M es (tk f (tk e b)))) = z
          rw [bet_assoc, bet_assoc, ← bet_assoc y x z, ← bet_assoc x y z, bet_comm x y]
        · have hfe : ¬ okE e (tk f b) := fun h => hef (okE_swap hf h).2
          simp only [he, hf, hef, hfe, if_true, if_false]
          rw [bet_assoc, bet_assoc, bet_comm (sh (M es (tk f b)))]
      · have hef : ¬ okE f (tk e b) := fun h => hf (okE_of_tk h)
        simp only [he, hf, hef, if_true, if_false]
    · by_cases hf : okE f b
      · have hfe : ¬ okE e (tk f b) := fun h => he (okE_of_tk h)
        simp only [he, hf, hfe, if_true, if_false]
      · simp only [he, hf, if_false]
theorem M_congr : ∀ {es : List Ed} {b b' : Cap}, (∀ e ∈ es, b e.1 = b' e.1 ∧ b e.2 = b' e.2) → M es b = M es b'
  | [], _, _, _ => rfl
  | e :: es, b, b', h => by
    have h0 := h e (by simp)
    have ok : okE e b ↔ okE e b' := by simp only [okE, h0.1, h0.2]
    have h1 : ∀ f ∈ es, b f.1 = b' f.1 ∧ b f.2 = b' f.2 := fun f hf => h f (by simp [hf])
    have h2 : ∀ f ∈ es, tk e b f.1 = tk e b' f.1 ∧ tk e b f.2 = tk e b' f.2 := fun f hf => by
      have := h1 f hf
      simp only [tk, dec]; grind
    simp only [M, M_congr h1, M_congr h2, ok]
def nu (es : List Ed) (b : Cap) : Nat := (M es b).1
def cnt (es : List Ed) (b : Cap) : Nat := (M es b).2
theorem bet_fst (p q : Nat × Nat) : (bet p q).1 = max p.1 q.1 := by
  simp only [bet]; split
  · rename_i h; simp [h]
  · split <;> omega
theorem nu_nil (b : Cap) : nu [] b = 0 := rfl
theorem nu_cons (e : Ed) (es : List Ed) (b : Cap) : nu (e :: es) b = if okE e b then max (nu es b) (nu es (tk e b) + 1) else nu es b := by
  simp only [nu, M]; split
  · rw [bet_fst]; rfl
  · rfl
theorem nu_perm {es fs : List Ed} (p : es.Perm fs) (b : Cap) : nu es b = nu fs b := by simp only [nu, M_perm p]
theorem dec_mono {b b' : Cap} (h : ∀ x, b x ≤ b' x) (v x : Nat) : dec b v x ≤ dec b' v x := by
  have := h x; simp only [dec]; split <;> omega
theorem tk_mono {b b' : Cap} (h : ∀ x, b x ≤ b' x) (e : Ed) (x : Nat) : tk e b x ≤ tk e b' x := dec_mono (dec_mono h _) _ _
theorem nu_mono : ∀ {es : List Ed} {b b' : Cap}, (∀ x, b x ≤ b' x) → nu es b ≤ nu es b'
  | [], _, _, _ => Nat.le_refl _
  | e :: es, b, b', h => by
    have h1 := nu_mono (es := es) h
    have h2 := nu_mono (es := es) (tk_mono h e)
    rw [nu_cons, nu_cons]
    by_cases k : okE e b
    · rw [if_pos k, if_pos (okE_mono h k)]; omega
    · rw [if_neg k]; split <;> omega
theorem nu_tail (e : Ed) (es : List Ed) (b : Cap) : nu es b ≤ nu (e :: es) b ∧ nu (e :: es) b ≤ nu es b + 1 := by
  have h := nu_mono (es := es) (tk_le e b)
  rw [nu_cons]; split <;> omega
theorem tk_dec (e : Ed) (b : Cap) (x : Nat) : tk e (dec b x) = dec (tk e b) x := by
  funext y; simp only [tk, dec]; grind
theorem nu_dec : ∀ {es : List Ed} {b : Cap} (x : Nat), nu es b ≤ nu es (dec b x) + 1
  | [], _, _ => by simp [nu_nil]
  | e :: es, b, x => by
    have h1 := nu_dec (es := es) (b := b) x
    have h2 := nu_dec (es := es) (b := tk e b) x
    rw [nu_cons, nu_cons, tk_dec]
    by_cases k : okE e b
    · by_cases k' : okE e (dec b x)
      · rw [if_pos k, if_pos k']; omega
      · rw [if_pos k, if_neg k']
        have : ∀ y, tk e b y ≤ dec b x y := fun y => by
          obtain ⟨u, v⟩ := e
          simp only [okE, tk, dec] at *; grind
        have h3 := nu_mono (es := es) this
        omega
    · have k' : ¬ okE e (dec b x) := fun q => k (okE_mono (dec_le b x) q)
      rw [if_neg k, if_neg k']; exact h1
/-- the bound by a bar -/
theorem sum_tk (b : Cap) (e : Ed) (hk : okE e b) : ∀ {B : List Nat}, (e.1 ∈ B ∨ e.2 ∈ B) → (B.map (tk e b)).sum + 1 ≤ (B.map b).sum
  | [], h => by simp at h
  | x :: B, h => by
    have le : (B.map (tk e b)).sum ≤ (B.map b).sum := by
      clear h
      induction B with
      | nil => simp
      | cons y B ih => simp only [List.map_cons, List.sum_cons]; have := tk_le e b y; omega
    simp only [List.map_cons, List.sum_cons]
    by_cases hx : x = e.1 ∨ x = e.2
    · have : tk e b x + 1 ≤ b x := by
        obtain ⟨u, v⟩ := e
        simp only [okE, tk, dec] at *; grind
      omega
    · have h' : e.1 ∈ B ∨ e.2 ∈ B := by
        rcases h with h | h
        · rcases List.mem_cons.mp h with q | q
          · exact absurd (Or.inl q.symm) hx
          · exact Or.inl q
        · rcases List.mem_cons.mp h with q | q
          · exact absurd (Or.inr q.symm) hx
          · exact Or.inr q
      have := sum_tk b e hk h'
      have := tk_le e b x
      omega
def offB (B : List Nat) (e : Ed) : Bool := !B.contains e.1 && !B.contains e.2
theorem nu_bar (B : List Nat) : ∀ (es : List Ed) (b : Cap), nu es b ≤ (B.map b).sum + (es.filter (offB B)).length
  | [], b => by simp [nu_nil]
  | e :: es, b => by
    have h1 := nu_bar B es b
    have h2 := nu_bar B es (tk e b)
    have le : (B.map (tk e b)).sum ≤ (B.map b).sum := by
      clear h1 h2
      induction B with
      | nil => simp
      | cons y B ih => simp only [List.map_cons, List.sum_cons]; have := tk_le e b y; omega
    rw [nu_cons, List.filter_cons]
    by_cases off : offB B e = true
    · rw [if_pos off, List.length_cons]; split <;> omega
    · rw [if_neg off]
      split
      · rename_i hk
        have : e.1 ∈ B ∨ e.2 ∈ B := by
          simp only [offB, Bool.and_eq_true, Bool.not_eq_true', List.contains_eq_mem, decide_eq_false_iff_not] at off
          by_cases q : e.1 ∈ B
          · exact Or.inl q
          · exact Or.inr (Classical.byContradiction fun q' => off ⟨q, q'⟩)
        have := sum_tk b e hk this
        omega
      · exact h1
/-- the degree in a list of edges -/
def deg (T : List Ed) (v : Nat) : Nat := T.countP fun e => e.1 == v || e.2 == v
theorem deg_cons (e : Ed) (T : List Ed) (v : Nat) : deg (e :: T) v = deg T v + (if e.1 = v ∨ e.2 = v then 1 else 0) := by
  simp only [deg, List.countP_cons]; grind
theorem deg_perm {T U : List Ed} (p : T.Perm U) (v : Nat) : deg T v = deg U v := p.countP_eq _
/-- a set of edges that keeps to the capacities is no larger than nu -/
theorem nu_feas {T es : List Ed} (s : T.Sublist es) : ∀ {b : Cap}, (∀ e ∈ T, e.1 ≠ e.2) → (∀ v, deg T v ≤ b v) → T.length ≤ nu es b := by
  induction s with
  | slnil => intro b _ _; simp [nu_nil]
  | @cons T es e _ ih => intro b h1 h2; exact Nat.le_trans (ih h1 h2) (nu_tail e es b).1
  | @cons_cons T es e _ ih =>
    intro b h1 h2
    have ne : e.1 ≠ e.2 := h1 e (by simp)
    have k : okE e b := by
      refine ⟨ne, ?_, ?_⟩
      · have := h2 e.1; rw [deg_cons, if_pos (Or.inl rfl)] at this; omega
      · have := h2 e.2; rw [deg_cons, if_pos (Or.inr rfl)] at this; omega
    have h3 : ∀ v, deg T v ≤ tk e b v := fun v => by
      have := h2 v; rw [deg_cons] at this
      obtain ⟨x, y⟩ := e
      simp only [tk, dec] at *; grind
    have := ih (b := tk e b) (fun f hf => h1 f (by simp [hf])) h3
    rw [nu_cons, if_pos k, List.length_cons]; omega
theorem perm_filter_of_subset {T es : List Ed} (hT : T.Nodup) (he : es.Nodup) (hs : T ⊆ es) : T.Perm (es.filter fun e => T.contains e) := by
  refine (List.perm_ext_iff_of_nodup hT (List.Nodup.sublist List.filter_sublist he)).mpr fun a => ?_
  simp only [List.mem_filter, List.contains_eq_mem, decide_eq_true_eq]
  exact ⟨fun h => ⟨hs h, h⟩, fun h => h.2⟩
theorem nu_feasP {T es : List Ed} (hT : T.Nodup) (he : es.Nodup) (hs : T ⊆ es) {b : Cap} (h1 : ∀ e ∈ es, e.1 ≠ e.2) (h2 : ∀ v, deg T v ≤ b v) : T.length ≤ nu es b := by
  have p := perm_filter_of_subset hT he hs
  rw [p.length_eq]
  exact nu_feas List.filter_sublist (fun e h => h1 e (List.mem_filter.mp h).1) fun v => by rw [← deg_perm p]; exact h2 v
/-- edge lists without common places -/
def apart (es fs : List Ed) : Prop := ∀ e ∈ es, ∀ f ∈ fs, e.1 ≠ f.1 ∧ e.1 ≠ f.2 ∧ e.2 ≠ f.1 ∧ e.2 ≠ f.2
theorem M_append : ∀ {es fs : List Ed} {b : Cap}, apart es fs → M (es ++ fs) b = bth (M es b) (M fs b)
  | [], fs, b, _ => by simp only [List.nil_append, M, bth_one]
  | e :: es, fs, b, h => by
    have h' : apart es fs := fun x hx => h x (by simp [hx])
    have hf : M fs (tk e b) = M fs b := M_congr fun f hf => by
      have := h e (by simp) f hf
      simp only [tk, dec]; grind
    simp only [List.cons_append, M, M_append h', hf]
    split
    · rw [bth_bet, bth_sh]
    · rfl
theorem M_map (g : Nat → Nat) : ∀ {es : List Ed} {b b' : Cap}, (∀ x y, (∃ e ∈ es, x = e.1 ∨ x = e.2) → (∃ e ∈ es, y = e.1 ∨ y = e.2) → g x = g y → x = y) → (∀ x, (∃ e ∈ es, x = e.1 ∨ x = e.2) → b' (g x) = b x) → M (es.map fun e => (g e.1, g e.2)) b' = M es b
  | [], _, _, _, _ => rfl
  | e :: es, b, b', hi, hb => by
    have e1 : ∃ f ∈ e :: es, e.1 = f.1 ∨ e.1 = f.2 := ⟨e, by simp, Or.inl rfl⟩
    have e2 : ∃ f ∈ e :: es, e.2 = f.1 ∨ e.2 = f.2 := ⟨e, by simp, Or.inr rfl⟩
    have up : ∀ x, (∃ f ∈ es, x = f.1 ∨ x = f.2) → ∃ f ∈ e :: es, x = f.1 ∨ x = f.2 := fun x ⟨f, hf, h⟩ => ⟨f, by simp [hf], h⟩
    have hi' : ∀ x y, (∃ e ∈ es, x = e.1 ∨ x = e.2) → (∃ e ∈ es, y = e.1 ∨ y = e.2) → g x = g y → x = y := fun x y hx hy => hi x y (up x hx) (up y hy)
    have ok : okE (g e.1, g e.2) b' ↔ okE e b := by
      simp only [okE, hb _ e1, hb _ e2]
      constructor
      · rintro ⟨h, k⟩; exact ⟨fun q => h (by rw [q]), k⟩
      · rintro ⟨h, k⟩; exact ⟨fun q => h (hi _ _ e1 e2 q), k⟩
    have hb1 : ∀ x, (∃ e ∈ es, x = e.1 ∨ x = e.2) → b' (g x) = b x := fun x hx => hb x (up x hx)
    have hb2 : ∀ x, (∃ e ∈ es, x = e.1 ∨ x = e.2) → tk (g e.1, g e.2) b' (g x) = tk e b x := fun x hx => by
      have q := hb1 x hx
      have q1 : g x = g e.1 ↔ x = e.1 := ⟨fun z => hi _ _ (up x hx) e1 z, fun z => by rw [z]⟩
      have q2 : g x = g e.2 ↔ x = e.2 := ⟨fun z => hi _ _ (up x hx) e2 z, fun z => by rw [z]⟩
      simp only [tk, dec, q1, q2, q]
    simp only [List.map_cons, M, ok, M_map g hi' hb1, M_map g hi' hb2]
theorem cnt_pos : ∀ (es : List Ed) (b : Cap), 0 < (M es b).2
  | [], _ => by simp [M]
  | e :: es, b => by
    have h1 := cnt_pos es b
    have h2 := cnt_pos es (tk e b)
    simp only [M, bet, sh]; grind
theorem cnt_le : ∀ (es : List Ed) (b : Cap), (M es b).2 ≤ 2 ^ es.length
  | [], _ => by simp [M]
  | e :: es, b => by
    have h1 := cnt_le es b
    have h2 := cnt_le es (tk e b)
    simp only [M, bet, sh, List.length_cons, Nat.pow_succ]; grind
theorem nu_le : ∀ (es : List Ed) (b : Cap), nu es b ≤ es.length
  | [], _ => by simp [nu_nil]
  | e :: es, b => by have := nu_le es b; have := (nu_tail e es b).2; rw [List.length_cons]; omega
/-- how many sets of j edges keep to the capacities -/
def Mc : List Ed → Cap → Nat → Nat
  | [], _, j => if j = 0 then 1 else 0
  | e :: es, b, j => Mc es b j + (if okE e b then (match j with | 0 => 0 | j + 1 => Mc es (tk e b) j) else 0)
theorem Mc_above : ∀ {es : List Ed} {b : Cap} {j : Nat}, nu es b < j → Mc es b j = 0
  | [], b, j, h => by simp only [nu_nil] at h; simp only [Mc]; rw [if_neg (by omega)]
  | e :: es, b, j, h => by
    rw [nu_cons] at h
    simp only [Mc]
    by_cases k : okE e b
    · rw [if_pos k] at h
      rw [if_pos k, Mc_above (by omega)]
      cases j with
      | zero => rfl
      | succ j => simp only [Nat.zero_add]; exact Mc_above (by omega)
    · rw [if_neg k] at h
      rw [if_neg k, Mc_above h]
theorem bet_mk (a c a' c' : Nat) : bet (a, c) (sh (a', c')) = if a = a' + 1 then (a, c + c') else if a < a' + 1 then (a' + 1, c') else (a, c) := rfl
theorem Mc_top : ∀ (es : List Ed) (b : Cap), Mc es b (nu es b) = cnt es b
  | [], b => rfl
  | e :: es, b => by
    have h1 := Mc_top es b
    have h2 := Mc_top es (tk e b)
    by_cases k : okE e b
    · have a1 := @Mc_above es b
      have a2 := @Mc_above es (tk e b)
      simp only [nu, cnt] at h1 h2 a1 a2 ⊢
      rw [show M (e :: es) b = bet (M es b) (sh (M es (tk e b))) by simp only [M, if_pos k]]
      simp only [Mc, if_pos k]
      rcases hM : M es b with ⟨a, c⟩
      rcases hN : M es (tk e b) with ⟨a', c'⟩
      rw [hM] at h1 a1
      rw [hN] at h2 a2
      simp only [] at h1 h2 a1 a2
      rw [bet_mk]
      by_cases q : a = a' + 1
      · rw [if_pos q, q]
        show Mc es b (a' + 1) + Mc es (tk e b) a' = c + c'
        rw [← h1, ← h2, q]
      · rw [if_neg q]
        by_cases q' : a < a' + 1
        · rw [if_pos q']
          show Mc es b (a' + 1) + Mc es (tk e b) a' = c'
          rw [a1 q', h2, Nat.zero_add]
        · rw [if_neg q']
          cases a with
          | zero => omega
          | succ j =>
            show Mc es b (j + 1) + Mc es (tk e b) j = c
            rw [h1, a2 (by omega), Nat.add_zero]
    · simp only [nu_cons, cnt, M, if_neg k, Mc, Nat.add_zero]; exact h1
end G37
/-! forests: each further place is tied to one elder place at the most -/
namespace G37
def tie (u v : Nat) : Ed := (min u v, max u v)
theorem tie_comm (u v : Nat) : tie u v = tie v u := by simp only [tie, Nat.min_comm, Nat.max_comm]
theorem tie_eq {u v x y : Nat} : tie u v = tie x y ↔ (u = x ∧ v = y) ∨ (u = y ∧ v = x) := by
  simp only [tie, Prod.mk.injEq]; omega
theorem tie_of_lt {e : Ed} (h : e.1 < e.2) : tie e.1 e.2 = e := by
  obtain ⟨a, b⟩ := e; simp only [tie, Prod.mk.injEq] at *; omega
theorem tie_mem1 (u v : Nat) : (tie u v).1 = u ∧ (tie u v).2 = v ∨ (tie u v).1 = v ∧ (tie u v).2 = u := by
  simp only [tie]; omega
inductive FF : List Nat → List Ed → Prop where
  | nil : FF [] []
  | iso {v : Nat} {vs : List Nat} {es : List Ed} : v ∉ vs → FF vs es → FF (v :: vs) es
  | leaf {v w : Nat} {vs : List Nat} {es : List Ed} : v ∉ vs → w ∈ vs → FF vs es → FF (v :: vs) (tie v w :: es)
theorem FF.nodup {vs : List Nat} {es : List Ed} (h : FF vs es) : vs.Nodup := by
  induction h with
  | nil => exact List.nodup_nil
  | iso hv _ ih => exact List.nodup_cons.mpr ⟨hv, ih⟩
  | leaf hv _ _ ih => exact List.nodup_cons.mpr ⟨hv, ih⟩
theorem FF.mem {vs : List Nat} {es : List Ed} (h : FF vs es) : ∀ e ∈ es, e.1 ∈ vs ∧ e.2 ∈ vs ∧ e.1 < e.2 := by
  induction h with
  | nil => simp
  | iso hv _ ih => intro e he; have := ih e he; simp [this]
  | @leaf v w vs es hv hw _ ih =>
    intro e he
    rcases List.mem_cons.mp he with q | q
    · subst q
      have ne : v ≠ w := fun z => hv (z ▸ hw)
      rcases tie_mem1 v w with ⟨a, b⟩ | ⟨a, b⟩
      · rw [a, b]; refine ⟨by simp, by simp [hw], ?_⟩
        have : (tie v w).1 < (tie v w).2 := by simp only [tie]; omega
        omega
      · rw [a, b]; refine ⟨by simp [hw], by simp, ?_⟩
        have : (tie v w).1 < (tie v w).2 := by simp only [tie]; omega
        omega
    · have := ih e q; simp [this]
theorem FF.edup {vs : List Nat} {es : List Ed} (h : FF vs es) : es.Nodup := by
  induction h with
  | nil => exact List.nodup_nil
  | iso _ _ ih => exact ih
  | @leaf v w vs es hv hw hf ih =>
    refine List.nodup_cons.mpr ⟨fun q => ?_, ih⟩
    have := hf.mem _ q
    rcases tie_mem1 v w with ⟨a, b⟩ | ⟨a, b⟩ <;> (rw [a, b] at this; exact hv (by simp [this]))
def inS (p : Nat → Bool) (e : Ed) : Bool := p e.1 && p e.2
theorem inS_tie (p : Nat → Bool) (u v : Nat) : inS p (tie u v) = (p u && p v) := by
  simp only [inS]
  rcases tie_mem1 u v with ⟨a, b⟩ | ⟨a, b⟩ <;> rw [a, b]
  exact Bool.and_comm _ _
theorem FF.filter {vs : List Nat} {es : List Ed} (h : FF vs es) (p : Nat → Bool) : FF (vs.filter p) (es.filter (inS p)) := by
  induction h with
  | nil => exact .nil
  | @iso v vs es hv hf ih =>
    rw [List.filter_cons]
    split
    · exact .iso (fun q => hv (List.mem_filter.mp q).1) ih
    · exact ih
  | @leaf v w vs es hv hw hf ih =>
    rw [List.filter_cons, List.filter_cons, inS_tie]
    by_cases pv : p v = true
    · by_cases pw : p w = true
      · rw [if_pos pv, if_pos (by simp [pv, pw])]
        exact .leaf (fun q => hv (List.mem_filter.mp q).1) (List.mem_filter.mpr ⟨hw, pw⟩) ih
      · rw [if_pos pv, if_neg (by simp [pw])]
        exact .iso (fun q => hv (List.mem_filter.mp q).1) ih
    · rw [if_neg pv, if_neg (by simp [pv])]
      exact ih
theorem FF.sub {vs : List Nat} {es : List Ed} (h : FF vs es) : ∀ {fs : List Ed}, fs.Sublist es → FF vs fs := by
  induction h with
  | nil => intro fs s; cases List.sublist_nil.mp s; exact .nil
  | iso hv _ ih => intro fs s; exact .iso hv (ih s)
  | leaf hv hw _ ih =>
    intro fs s
    cases s with
    | cons _ s => exact .iso hv (ih s)
    | cons_cons _ s => exact .leaf hv hw (ih s)
theorem FF.map {vs : List Nat} {es : List Ed} (h : FF vs es) (g : Nat → Nat) : (∀ x ∈ vs, ∀ y ∈ vs, x < y → g x < g y) → FF (vs.map g) (es.map fun e => (g e.1, g e.2)) := by
  induction h with
  | nil => intro _; exact .nil
  | @iso v vs es hv hf ih =>
    intro hg
    refine .iso (fun q => ?_) (ih fun x hx y hy => hg x (by simp [hx]) y (by simp [hy]))
    obtain ⟨u, hu, e⟩ := List.mem_map.mp q
    have a := hg u (by simp [hu]) v (by simp)
    have b := hg v (by simp) u (by simp [hu])
    have : u ≠ v := fun z => hv (z ▸ hu)
    omega
  | @leaf v w vs es hv hw hf ih =>
    intro hg
    have ne : v ≠ w := fun z => hv (z ▸ hw)
    have e : (g (tie v w).1, g (tie v w).2) = tie (g v) (g w) := by
      have a := hg w (by simp [hw]) v (by simp)
      have b := hg v (by simp) w (by simp [hw])
      simp only [tie, Prod.mk.injEq]
      by_cases q : v < w
      · rw [Nat.min_eq_left (by omega), Nat.max_eq_right (by omega)]; omega
      · rw [Nat.min_eq_right (by omega), Nat.max_eq_left (by omega)]; omega
    rw [List.map_cons, List.map_cons, e]
    refine .leaf (fun q => ?_) (List.mem_map.mpr ⟨w, hw, rfl⟩) (ih fun x hx y hy => hg x (by simp [hx]) y (by simp [hy]))
    obtain ⟨u, hu, e⟩ := List.mem_map.mp q
    have a := hg u (by simp [hu]) v (by simp)
    have b := hg v (by simp) u (by simp [hu])
    have : u ≠ v := fun z => hv (z ▸ hu)
    omega
/-- what can be come to -/
inductive Rch (es : List Ed) (u : Nat) : Nat → Prop where
  | refl : Rch es u u
  | step {v w : Nat} : Rch es u v → tie v w ∈ es → Rch es u w
theorem Rch.trans {es : List Ed} {u v w : Nat} (h : Rch es u v) (k : Rch es v w) : Rch es u w := by
  induction k with
  | refl => exact h
  | step _ m ih => exact .step ih m
theorem Rch.symm {es : List Ed} {u v : Nat} (h : Rch es u v) : Rch es v u := by
  induction h with
  | refl => exact .refl
  | step _ m ih => exact Rch.trans (.step .refl (by rw [tie_comm]; exact m)) ih
theorem Rch.mono {es fs : List Ed} (s : ∀ e ∈ es, e ∈ fs) {u v : Nat} (h : Rch es u v) : Rch fs u v := by
  induction h with
  | refl => exact .refl
  | step _ m ih => exact .step ih (s _ m)
theorem Rch.closed {es : List Ed} {p : Nat → Prop} (c : ∀ x y, p x → tie x y ∈ es → p y) {u v : Nat} (h : Rch es u v) (hu : p u) : p v := by
  induction h with
  | refl => exact hu
  | step _ m ih => exact c _ _ ih m
theorem Rch.pend {es : List Ed} {v w : Nat} (hv : ∀ e ∈ es, e.1 ≠ v ∧ e.2 ≠ v) {x y : Nat} (h : Rch (tie v w :: es) x y) : Rch es (if x = v then w else x) (if y = v then w else y) := by
  induction h with
  | refl => exact .refl
  | @step a c _ m ih =>
    rcases List.mem_cons.mp m with q | q
    · rcases tie_eq.mp q with ⟨r, s⟩ | ⟨r, s⟩
      · rw [if_pos r] at ih
        rw [show (if c = v then w else c) = w by rw [s]; split <;> rfl]
        exact ih
      · rw [show (if a = v then w else a) = w by rw [r]; split <;> rfl] at ih
        rw [if_pos s]
        exact ih
    · have n1 : a ≠ v := by
        have := hv _ q
        rcases tie_mem1 a c with ⟨r, s⟩ | ⟨r, s⟩ <;> (rw [r, s] at this; simp [this])
      have n2 : c ≠ v := by
        have := hv _ q
        rcases tie_mem1 a c with ⟨r, s⟩ | ⟨r, s⟩ <;> (rw [r, s] at this; simp [this])
      rw [if_neg n1] at ih
      rw [if_neg n2]
      exact .step ih q
theorem FF.reps {vs : List Nat} {es : List Ed} (h : FF vs es) : ∃ A : List Nat, A.Nodup ∧ (∀ a ∈ A, a ∈ vs) ∧ A.length + es.length = vs.length ∧ (∀ v ∈ vs, ∃ a ∈ A, Rch es a v) ∧ ∀ a ∈ A, ∀ b ∈ A, Rch es a b → a = b := by
  induction h with
  | nil => exact ⟨[], List.nodup_nil, by simp, rfl, by simp, by simp⟩
  | @iso v vs es hv hf ih =>
    obtain ⟨A, h1, h2, h3, h4, h5⟩ := ih
    have cl : ∀ x y, x ≠ v → tie x y ∈ es → y ≠ v := fun x y _ m z => by
      have := hf.mem _ m
      rcases tie_mem1 x y with ⟨r, s⟩ | ⟨r, s⟩ <;> (rw [r, s] at this; subst z; exact hv (by simp [this]))
    refine ⟨v :: A, List.nodup_cons.mpr ⟨fun q => hv (h2 _ q), h1⟩, fun a ha => ?_, by simp; omega, fun x hx => ?_, fun a ha b hb r => ?_⟩
    · rcases List.mem_cons.mp ha with q | q
      · simp [q]
      · simp [h2 a q]
    · rcases List.mem_cons.mp hx with q | q
      · subst q; exact ⟨x, by simp, .refl⟩
      · obtain ⟨a, ha, ra⟩ := h4 x q; exact ⟨a, by simp [ha], ra⟩
    · rcases List.mem_cons.mp ha with q | q
      · rcases List.mem_cons.mp hb with q' | q'
        · rw [q, q']
        · exact absurd q (r.symm.closed (p := fun x => x ≠ v) cl fun z => hv (z ▸ h2 b q'))
      · rcases List.mem_cons.mp hb with q' | q'
        · exact absurd q' (r.closed (p := fun x => x ≠ v) cl fun z => hv (z ▸ h2 a q))
        · exact h5 a q b q' r
  | @leaf v w vs es hv hw hf ih =>
    obtain ⟨A, h1, h2, h3, h4, h5⟩ := ih
    have av : ∀ e ∈ es, e.1 ≠ v ∧ e.2 ≠ v := fun e he => by
      have := hf.mem e he
      exact ⟨fun z => hv (z ▸ this.1), fun z => hv (z ▸ this.2.1)⟩
    have up : ∀ {x y}, Rch es x y → Rch (tie v w :: es) x y := fun r => r.mono fun e he => by simp [he]
    refine ⟨A, h1, fun a ha => by simp [h2 a ha], by simp; omega, fun x hx => ?_, fun a ha b hb r => ?_⟩
    · rcases List.mem_cons.mp hx with q | q
      · subst q
        obtain ⟨a, ha, ra⟩ := h4 w hw
        exact ⟨a, ha, .step (up ra) (by rw [tie_comm]; simp)⟩
      · obtain ⟨a, ha, ra⟩ := h4 x q; exact ⟨a, ha, up ra⟩
    · have r' := r.pend av
      have na : a ≠ v := fun z => hv (z ▸ h2 a ha)
      have nb : b ≠ v := fun z => hv (z ▸ h2 b hb)
      rw [if_neg na, if_neg nb] at r'
      exact h5 a ha b hb r'
theorem FF.few {vs : List Nat} {es : List Ed} (h : FF vs es) (ne : vs ≠ []) : es.length + 1 ≤ vs.length := by
  obtain ⟨A, h1, h2, h3, h4, h5⟩ := h.reps
  obtain ⟨v, hv⟩ := List.exists_mem_of_ne_nil vs ne
  obtain ⟨a, ha, _⟩ := h4 v hv
  have := List.length_pos_of_mem ha
  omega
/-- a forest on the places 0 .. n - 1 -/
structure Fo (n : Nat) (es : List Ed) : Prop where
  ex : ∃ vs fs, FF vs fs ∧ vs.Perm (List.range n) ∧ fs.Perm es
theorem Fo.mem {n : Nat} {es : List Ed} (h : Fo n es) : ∀ e ∈ es, e.1 < n ∧ e.2 < n ∧ e.1 < e.2 := fun e he => by
  obtain ⟨vs, fs, hf, pv, pe⟩ := h.ex
  have := hf.mem e (pe.mem_iff.mpr he)
  have a := List.mem_range.mp (pv.mem_iff.mp this.1)
  have b := List.mem_range.mp (pv.mem_iff.mp this.2.1)
  exact ⟨a, b, this.2.2⟩
theorem Fo.ne {n : Nat} {es : List Ed} (h : Fo n es) : ∀ e ∈ es, e.1 ≠ e.2 := fun e he => Nat.ne_of_lt (h.mem e he).2.2
theorem Fo.edup {n : Nat} {es : List Ed} (h : Fo n es) : es.Nodup := by
  obtain ⟨vs, fs, hf, pv, pe⟩ := h.ex
  exact pe.nodup_iff.mp hf.edup
theorem Fo.adj {n : Nat} {es : List Ed} (h : Fo n es) {u v : Nat} (m : tie u v ∈ es) : u < n ∧ v < n ∧ u ≠ v := by
  have := h.mem _ m
  simp only [tie] at this; omega
theorem Fo.perm {n : Nat} {es fs : List Ed} (h : Fo n es) (p : es.Perm fs) : Fo n fs := by
  obtain ⟨vs, gs, hf, pv, pe⟩ := h.ex
  exact ⟨vs, gs, hf, pv, pe.trans p⟩
/-- fewer ties than places, in any part of it -/
theorem Fo.bound {n : Nat} {es : List Ed} (h : Fo n es) {S : List Nat} {T : List Ed} (hS : S ≠ []) (hT : T.Nodup) (hs : ∀ s ∈ S, s < n) (ht : ∀ e ∈ T, e ∈ es ∧ e.1 ∈ S ∧ e.2 ∈ S) : T.length + 1 ≤ S.length := by
  obtain ⟨vs, fs, hf, pv, pe⟩ := h.ex
  have g := hf.filter (fun v => S.contains v)
  have ne : vs.filter (fun v => S.contains v) ≠ [] := by
    obtain ⟨s, hs'⟩ := List.exists_mem_of_ne_nil S hS
    have : s ∈ vs.filter (fun v => S.contains v) := List.mem_filter.mpr ⟨pv.mem_iff.mpr (List.mem_range.mpr (hs s hs')), by simpa using hs'⟩
    exact List.ne_nil_of_mem this
  have a := g.few ne
  have b : (vs.filter fun v => S.contains v).length ≤ S.length := g.nodup.length_le_of_subset fun x hx => by simpa using (List.mem_filter.mp hx).2
  have c : T.length ≤ (fs.filter (inS fun v => S.contains v)).length := hT.length_le_of_subset fun e he => by
    have := ht e he
    refine List.mem_filter.mpr ⟨pe.mem_iff.mpr this.1, ?_⟩
    simp [inS, this]
  omega
/-- a closed set of places has one with fewer than two neighbours: told by FF's head -/
theorem Fo.sub {n : Nat} {es fs : List Ed} (h : Fo n es) (hn : fs.Nodup) (s : ∀ e ∈ fs, e ∈ es) : Fo n fs := by
  obtain ⟨vs, gs, hf, pv, pe⟩ := h.ex
  refine ⟨vs, gs.filter (fun e => fs.contains e), hf.sub List.filter_sublist, pv, ?_⟩
  exact (perm_filter_of_subset hn hf.edup fun e he => pe.mem_iff.mpr (s e he)).symm
/-- representatives: two lists of them are equally long -/
theorem reps_le {R : Nat → Nat → Prop} (rs : ∀ {x y}, R x y → R y x) (rt : ∀ {x y z}, R x y → R y z → R x z) {A B : List Nat} (hA : A.Nodup) (ha : ∀ a ∈ A, ∀ b ∈ A, R a b → a = b) (hB : ∀ a ∈ A, ∃ b ∈ B, R b a) : A.length ≤ B.length := by
  have : ∃ f : Nat → Nat, ∀ a ∈ A, f a ∈ B ∧ R (f a) a := by
    refine ⟨fun a => Classical.epsilon fun b => b ∈ B ∧ R b a, fun a q => ?_⟩
    obtain ⟨b, hb, r⟩ := hB a q
    exact Classical.epsilon_spec (p := fun b => b ∈ B ∧ R b a) ⟨b, hb, r⟩
  obtain ⟨f, hf⟩ := this
  have nd : (A.map f).Nodup := by
    clear hB
    induction A with
    | nil => exact List.nodup_nil
    | cons a A ih =>
      have hA' := List.nodup_cons.mp hA
      rw [List.map_cons]
      refine List.nodup_cons.mpr ⟨fun q => ?_, ih hA'.2 (fun x hx y hy => ha x (by simp [hx]) y (by simp [hy])) fun x hx => hf x (by simp [hx])⟩
      obtain ⟨b, hb, e⟩ := List.mem_map.mp q
      have r1 := (hf a (by simp)).2
      have r2 := (hf b (by simp [hb])).2
      rw [e] at r2
      have := ha a (by simp) b (by simp [hb]) (rt (rs r1) r2)
      exact hA'.1 (this ▸ hb)
  have := nd.length_le_of_subset (l₂ := B) fun x hx => by
    obtain ⟨a, ha', e⟩ := List.mem_map.mp hx
    exact e ▸ (hf a ha').1
  rwa [List.length_map] at this
open Classical in
noncomputable def comp (n : Nat) (es : List Ed) (v : Nat) : List Nat := (List.range n).filter fun u => decide (Rch es v u)
open Classical in
/-- the least places of the parts -/
noncomputable def roots (n : Nat) (es : List Ed) : List Nat := (List.range n).filter fun v => decide (∀ u, u < n → Rch es u v → v ≤ u)
noncomputable def partsF (n : Nat) (es : List Ed) : List (List Nat) := (roots n es).map (comp n es)
theorem mem_comp {n : Nat} {es : List Ed} {v u : Nat} : u ∈ comp n es v ↔ u < n ∧ Rch es v u := by
  simp [comp]
theorem mem_roots {n : Nat} {es : List Ed} {v : Nat} : v ∈ roots n es ↔ v < n ∧ ∀ u, u < n → Rch es u v → v ≤ u := by
  simp [roots]
theorem root_of {n : Nat} {es : List Ed} : ∀ (v : Nat), v < n → ∃ r ∈ roots n es, Rch es r v ∧ r ≤ v := by
  intro v
  induction v using Nat.strongRecOn with
  | ind v ih =>
    intro hv
    by_cases q : ∀ u, u < n → Rch es u v → v ≤ u
    · exact ⟨v, mem_roots.mpr ⟨hv, q⟩, .refl, Nat.le_refl _⟩
    · have : ∃ u, u < n ∧ Rch es u v ∧ u < v := Classical.byContradiction fun z => q fun u hu r => Classical.byContradiction fun l => z ⟨u, hu, r, by omega⟩
      obtain ⟨u, hu, r, l⟩ := this
      obtain ⟨r', h1, h2, h3⟩ := ih u l hu
      exact ⟨r', h1, h2.trans r, by omega⟩
theorem roots_one {n : Nat} {es : List Ed} {a b : Nat} (ha : a ∈ roots n es) (hb : b ∈ roots n es) (r : Rch es a b) : a = b := by
  have h1 := mem_roots.mp ha
  have h2 := mem_roots.mp hb
  have := h1.2 b h2.1 r.symm
  have := h2.2 a h1.1 r
  omega
theorem roots_nodup (n : Nat) (es : List Ed) : (roots n es).Nodup := List.Nodup.sublist List.filter_sublist List.nodup_range
theorem Fo.parts {n : Nat} {es : List Ed} (h : Fo n es) : (roots n es).length + es.length = n := by
  obtain ⟨vs, fs, hf, pv, pe⟩ := h.ex
  obtain ⟨A, h1, h2, h3, h4, h5⟩ := hf.reps
  have ef : ∀ {x y}, Rch fs x y ↔ Rch es x y := fun {x y} => ⟨fun r => r.mono fun e he => pe.mem_iff.mp he, fun r => r.mono fun e he => pe.mem_iff.mpr he⟩
  have l1 := reps_le (R := Rch es) Rch.symm Rch.trans h1 (fun a ha b hb r => h5 a ha b hb (ef.mpr r)) (B := roots n es) fun a ha => by
    obtain ⟨r, hr, q, _⟩ := root_of (es := es) a (List.mem_range.mp (pv.mem_iff.mp (h2 a ha)))
    exact ⟨r, hr, q⟩
  have l2 := reps_le (R := Rch es) Rch.symm Rch.trans (roots_nodup n es) (fun a ha b hb r => roots_one ha hb r) (B := A) fun a ha => by
    obtain ⟨b, hb, r⟩ := h4 a (pv.mem_iff.mpr (List.mem_range.mpr (mem_roots.mp ha).1))
    exact ⟨b, hb, ef.mp r⟩
  have l3 := pv.length_eq
  rw [List.length_range] at l3
  have l4 := pe.length_eq
  omega
end G37
/-! a forest read from the leaves on: the ties that are taken, the bar, and the count -/
namespace G37
abbrev RE := Nat × Option Nat
def TE : List RE → List Ed
  | [] => []
  | (x, some p) :: R => tie x p :: TE R
  | (_, none) :: R => TE R
def vsR (R : List RE) : List Nat := R.map (·.1)
inductive Gd : List RE → Prop where
  | nil : Gd []
  | cons {x : Nat} {o : Option Nat} {R : List RE} : x ∉ vsR R → (∀ p, o = some p → p ∈ vsR R) → Gd R → Gd ((x, o) :: R)
theorem vsR_cons (x : Nat) (o : Option Nat) (R : List RE) : vsR ((x, o) :: R) = x :: vsR R := rfl
theorem Gd.ff {R : List RE} (h : Gd R) : FF (vsR R) (TE R) := by
  induction h with
  | nil => exact .nil
  | @cons x o R hx ho _ ih =>
    cases o with
    | none => exact .iso hx ih
    | some p => exact .leaf hx (ho p rfl) ih
theorem Gd.nd {R : List RE} (h : Gd R) : (vsR R).Nodup := h.ff.nodup
theorem TE_mem {R : List RE} (h : Gd R) : ∀ e ∈ TE R, e.1 ∈ vsR R ∧ e.2 ∈ vsR R ∧ e.1 < e.2 := h.ff.mem
/-! ### the ties that are taken -/
def push (off : Nat → List Nat) (p x : Nat) : Nat → List Nat := fun y => if y = p then off y ++ [x] else off y
def offTo (off : Nat → List Nat) (x : Nat) : Option Nat → Nat → List Nat
  | some p => push off p x
  | none => off
def grd (b : Cap) : List RE → (Nat → List Nat) → List Ed × List Nat
  | [], _ => ([], [])
  | (x, o) :: R, off =>
    if b x ≤ (off x).length then (((off x).take (b x)).map (tie x) ++ (grd b R off).1, x :: (grd b R off).2)
    else (((off x).take (b x)).map (tie x) ++ (grd b R (offTo off x o)).1, (grd b R (offTo off x o)).2)
def OE (R : List RE) (off : Nat → List Nat) : List Ed := R.flatMap fun q => (off q.1).map (tie q.1)
structure Off (R : List RE) (off : Nat → List Nat) : Prop where
  nd : ∀ v ∈ vsR R, (off v).Nodup
  out : ∀ v ∈ vsR R, ∀ c ∈ off v, c ∉ vsR R
  dj : ∀ v ∈ vsR R, ∀ u ∈ vsR R, v ≠ u → ∀ c ∈ off v, c ∉ off u
theorem OE_mem {R : List RE} {off : Nat → List Nat} {e : Ed} : e ∈ OE R off ↔ ∃ v ∈ vsR R, ∃ c ∈ off v, e = tie v c := by
  simp only [OE, List.mem_flatMap, List.mem_map, vsR]
  constructor
  · rintro ⟨q, hq, c, hc, rfl⟩; exact ⟨q.1, ⟨q, hq, rfl⟩, c, hc, rfl⟩
  · rintro ⟨v, ⟨q, hq, rfl⟩, c, hc, rfl⟩; exact ⟨q, hq, c, hc, rfl⟩
theorem OE_push {x p : Nat} {off : Nat → List Nat} : ∀ {R : List RE}, (vsR R).Nodup → p ∈ vsR R → (OE R (push off p x)).Perm (tie p x :: OE R off)
  | [], _, h => by simp [vsR] at h
  | (y, o) :: R, nd, h => by
    rw [vsR_cons] at nd h
    obtain ⟨h1, h2⟩ := List.nodup_cons.mp nd
    simp only [OE, List.flatMap_cons]
    by_cases q : y = p
    · subst q
      have same : R.flatMap (fun q => (push off y x q.1).map (tie q.1)) = R.flatMap fun q => (off q.1).map (tie q.1) := by
        rw [List.flatMap_def, List.flatMap_def]
        congr 1
        refine List.map_congr_left fun q hq => ?_
        have : q.1 ≠ y := fun z => h1 (z ▸ List.mem_map.mpr ⟨q, hq, rfl⟩)
        simp only [push, if_neg this]
      rw [same]
      simp only [push, if_pos, List.map_append, List.map_cons, List.map_nil, List.append_assoc]
      exact List.perm_middle
    · have hp : p ∈ vsR R := by rcases List.mem_cons.mp h with z | z; exact absurd z.symm q; exact z
      have ih := OE_push (x := x) (off := off) h2 hp
      have e : push off p x y = off y := by simp only [push, if_neg q]
      rw [e]
      exact ((ih.append_left _).trans List.perm_middle)
theorem deg_star {x : Nat} : ∀ {l : List Nat}, l.Nodup → x ∉ l → ∀ v, deg (l.map (tie x)) v = if v = x then l.length else if v ∈ l then 1 else 0
  | [], _, _, v => by simp [deg]
  | c :: l, nd, hx, v => by
    obtain ⟨h1, h2⟩ := List.nodup_cons.mp nd
    have hx' : x ∉ l := fun z => hx (by simp [z])
    have hc : x ≠ c := fun z => hx (by simp [z])
    rw [List.map_cons, deg_cons, deg_star h2 hx' v]
    have : ((tie x c).1 = v ∨ (tie x c).2 = v) ↔ (v = x ∨ v = c) := by
      rcases tie_mem1 x c with ⟨a, b⟩ | ⟨a, b⟩ <;> (rw [a, b]; constructor <;> (rintro (z | z) <;> simp [z]))
    simp only [this]
    by_cases q : v = x
    · simp [q]
    · by_cases q' : v = c
      · subst q'; simp [q, h1]
      · simp [q, q']
theorem deg_zero {T : List Ed} {v : Nat} (h : ∀ e ∈ T, e.1 ≠ v ∧ e.2 ≠ v) : deg T v = 0 := by
  simp only [deg, List.countP_eq_zero]
  intro e he
  have := h e he
  simp [this]
theorem deg_append (T U : List Ed) (v : Nat) : deg (T ++ U) v = deg T v + deg U v := by simp [deg]
theorem tie_inj_left {x c d : Nat} (h : tie x c = tie x d) : c = d := by
  rcases tie_eq.mp h with ⟨_, a⟩ | ⟨a, b⟩
  · exact a
  · omega
theorem nodup_star {x : Nat} : ∀ {l : List Nat}, l.Nodup → (l.map (tie x)).Nodup
  | [], _ => List.nodup_nil
  | c :: l, nd => by
    obtain ⟨h1, h2⟩ := List.nodup_cons.mp nd
    rw [List.map_cons]
    refine List.nodup_cons.mpr ⟨fun q => ?_, nodup_star h2⟩
    obtain ⟨d, hd, e⟩ := List.mem_map.mp q
    exact h1 (tie_inj_left e ▸ hd)
theorem tie_ends {u v x : Nat} {e : Ed} (h : e = tie u v) (k : e.1 = x ∨ e.2 = x) : x = u ∨ x = v := by
  subst h
  rcases tie_mem1 u v with ⟨a, b⟩ | ⟨a, b⟩ <;> (rw [a, b] at k; rcases k with k | k <;> simp [← k])
structure GOk (b : Cap) (R : List RE) (off : Nat → List Nat) (T : List Ed) (B : List Nat) : Prop where
  nd : T.Nodup
  sub : ∀ e ∈ T, e ∈ TE R ∨ e ∈ OE R off
  deg : ∀ v ∈ vsR R, deg T v ≤ b v
  deg1 : ∀ v, v ∉ vsR R → G37.deg T v ≤ 1
  num : T.length = (B.map b).sum + (TE R ++ OE R off).countP (offB B)
  bsub : ∀ v ∈ B, v ∈ vsR R
  bnd : B.Nodup
theorem offB_cons_of {x : Nat} {B : List Nat} {e : Ed} (h : e.1 ≠ x ∧ e.2 ≠ x) : offB (x :: B) e = offB B e := by
  simp [offB, List.contains_eq_mem, h]
theorem offB_hit {x : Nat} {B : List Nat} {e : Ed} (h : e.1 = x ∨ e.2 = x) : offB (x :: B) e = false := by
  rcases h with h | h <;> simp [offB, h]
theorem Off.tail {x : Nat} {o : Option Nat} {R : List RE} {off : Nat → List Nat} (h : Off ((x, o) :: R) off) : Off R off :=
  ⟨fun v hv => h.nd v (by simp [vsR_cons, hv]), fun v hv c hc z => h.out v (by simp [vsR_cons, hv]) c hc (by simp [vsR_cons, z]), fun v hv u hu => h.dj v (by simp [vsR_cons, hv]) u (by simp [vsR_cons, hu])⟩
theorem Off.to {x : Nat} {o : Option Nat} {R : List RE} {off : Nat → List Nat} (hx : x ∉ vsR R) (h : Off ((x, o) :: R) off) : Off R (offTo off x o) := by
  have xo : ∀ v ∈ vsR R, x ∉ off v := fun v hv z => h.out v (by simp [vsR_cons, hv]) x z (by simp [vsR_cons])
  have t := h.tail
  cases o with
  | none => exact t
  | some p =>
    refine ⟨fun v hv => ?_, fun v hv c hc => ?_, fun v hv u hu ne c hc => ?_⟩
    · simp only [offTo, push]
      split
      · rw [List.nodup_append]
        exact ⟨t.nd v hv, by simp, fun a ha b hb => by
          have : b = x := by simpa using hb
          exact fun z => xo v hv (this ▸ z ▸ ha)⟩
      · exact t.nd v hv
    · simp only [offTo, push] at hc
      split at hc
      · rcases List.mem_append.mp hc with q | q
        · exact t.out v hv c q
        · have : c = x := by simpa using q
          exact this ▸ hx
      · exact t.out v hv c hc
    · simp only [offTo, push] at hc ⊢
      have a1 : ∀ c, c ∈ off v → c ∉ off u := t.dj v hv u hu ne
      split at hc
      · rename_i e1
        rw [if_neg (fun z => ne (e1.trans z.symm))]
        rcases List.mem_append.mp hc with q | q
        · exact a1 c q
        · have : c = x := by simpa using q
          exact this ▸ xo u hu
      · split
        · intro q
          rcases List.mem_append.mp q with q | q
          · exact a1 c hc q
          · have : c = x := by simpa using q
            exact xo v hv (this ▸ hc)
        · exact a1 c hc
theorem OE_to {x : Nat} {o : Option Nat} {R : List RE} {off : Nat → List Nat} (hd : (vsR R).Nodup) (ho : ∀ p, o = some p → p ∈ vsR R) : (TE R ++ OE R (offTo off x o)).Perm (TE ((x, o) :: R) ++ OE R off) := by
  cases o with
  | none => exact List.Perm.refl _
  | some p =>
    have := OE_push (x := x) (off := off) hd (ho p rfl)
    simp only [offTo, TE]
    rw [tie_comm x p]
    exact (this.append_left _).trans List.perm_middle
theorem grd_ok {b : Cap} {R : List RE} (g : Gd R) : ∀ {off : Nat → List Nat}, Off R off → GOk b R off (grd b R off).1 (grd b R off).2 := by
  induction g with
  | nil => intro off _; exact ⟨by simp [grd], by simp [grd], by simp [vsR], by simp [grd, deg], by simp [grd, TE, OE], by simp [grd], by simp [grd]⟩
  | @cons x o R hx ho gR ih =>
    intro off h
    have hxm : x ∈ vsR ((x, o) :: R) := by simp [vsR_cons]
    have xo : x ∉ off x := fun z => h.out x hxm x z hxm
    have ndx := h.nd x hxm
    have nR : ∀ v ∈ vsR R, v ≠ x := fun v hv z => hx (z ▸ hv)
    have tR : ∀ e ∈ TE R, e.1 ≠ x ∧ e.2 ≠ x := fun e he => ⟨nR _ (TE_mem gR e he).1, nR _ (TE_mem gR e he).2.1⟩
    have oR : ∀ v ∈ vsR R, ∀ c ∈ off v, c ≠ x := fun v hv c hc z => h.out v (by simp [vsR_cons, hv]) c hc (by rw [z]; exact hxm)
    have eR : ∀ e ∈ OE R off, e.1 ≠ x ∧ e.2 ≠ x := fun e he => by
      obtain ⟨v, hv, c, hc, e1⟩ := OE_mem.mp he
      constructor <;> (intro z; rcases tie_ends e1 (by first | exact Or.inl z | exact Or.inr z) with q | q; exact nR v hv q.symm; exact oR v hv c hc q.symm)
    have ox : ∀ c ∈ off x, c ≠ x ∧ c ∉ vsR R := fun c hc => by
      have := h.out x hxm c hc
      rw [vsR_cons] at this
      simp only [List.mem_cons, not_or] at this
      exact this
    have tko : ∀ c ∈ (off x).take (b x), c ∈ off x := fun c hc => List.mem_of_mem_take hc
    have ndt : ((off x).take (b x)).Nodup := ndx.sublist (List.take_sublist _ _)
    have xt : x ∉ (off x).take (b x) := fun z => xo (tko x z)
    have stE : ∀ e ∈ ((off x).take (b x)).map (tie x), ∃ c ∈ off x, e = tie x c := fun e he => by
      obtain ⟨c, hc, e1⟩ := List.mem_map.mp he
      exact ⟨c, tko c hc, e1.symm⟩
    have OEc : OE ((x, o) :: R) off = (off x).map (tie x) ++ OE R off := rfl
    have dj : ∀ v ∈ vsR R, ∀ c ∈ off x, c ∉ off v := fun v hv c hc => h.dj x hxm v (by simp [vsR_cons, hv]) (Ne.symm (nR v hv)) c hc
    -- a vertex offered to x touches nothing else
    have far : ∀ c ∈ off x, (∀ e ∈ TE R, e.1 ≠ c ∧ e.2 ≠ c) ∧ ∀ e ∈ OE R off, e.1 ≠ c ∧ e.2 ≠ c := fun c hc => by
      refine ⟨fun e he => ⟨fun z => (ox c hc).2 (z ▸ (TE_mem gR e he).1), fun z => (ox c hc).2 (z ▸ (TE_mem gR e he).2.1)⟩, fun e he => ?_⟩
      obtain ⟨v, hv, d, hd, e1⟩ := OE_mem.mp he
      constructor <;> (intro z; rcases tie_ends e1 (by first | exact Or.inl z | exact Or.inr z) with q | q; exact (ox c hc).2 (q ▸ hv); exact dj v hv c hc (q ▸ hd))
    by_cases k : b x ≤ (off x).length
    · have e1 : (grd b ((x, o) :: R) off).1 = ((off x).take (b x)).map (tie x) ++ (grd b R off).1 := by simp only [grd, if_pos k]
      have e2 : (grd b ((x, o) :: R) off).2 = x :: (grd b R off).2 := by simp only [grd, if_pos k]
      have I := ih h.tail
      rw [e1, e2]
      generalize (grd b R off).1 = T at *
      generalize (grd b R off).2 = B at *
      have Tx : ∀ e ∈ T, e.1 ≠ x ∧ e.2 ≠ x := fun e he => (I.sub e he).elim (tR e) (eR e)
      refine ⟨?_, ?_, ?_, ?_, ?_, ?_, ?_⟩
      · rw [List.nodup_append]
        refine ⟨nodup_star ndt, I.nd, fun e he f hf z => ?_⟩
        obtain ⟨c, hc, e3⟩ := stE e he
        have := Tx f hf
        rw [← z, e3] at this
        rcases tie_mem1 x c with ⟨p, q⟩ | ⟨p, q⟩ <;> (rw [p, q] at this; simp at this)
      · intro e he
        rcases List.mem_append.mp he with q | q
        · obtain ⟨c, hc, e3⟩ := stE e q
          exact Or.inr (OE_mem.mpr ⟨x, hxm, c, hc, e3⟩)
        · rcases I.sub e q with z | z
          · cases o with
            | none => exact Or.inl z
            | some p => exact Or.inl (by simp [TE, z])
          · exact Or.inr (by rw [OEc]; simp [z])
      · intro v hv
        rw [deg_append, deg_star ndt xt]
        rcases List.mem_cons.mp hv with q | q
        · subst q
          rw [if_pos rfl, deg_zero Tx, List.length_take]; omega
        · rw [if_neg (nR v q), if_neg (fun z => (ox v (tko v z)).2 q)]
          have := I.deg v q; omega
      · intro v hv
        rw [vsR_cons] at hv
        simp only [List.mem_cons, not_or] at hv
        rw [deg_append, deg_star ndt xt, if_neg hv.1]
        by_cases q : v ∈ (off x).take (b x)
        · have f := far v (tko v q)
          rw [if_pos q, deg_zero fun e he => (I.sub e he).elim (f.1 e) (f.2 e)]; omega
        · rw [if_neg q]
          have := I.deg1 v hv.2; omega
      · have c1 : ((TE ((x, o) :: R) ++ OE ((x, o) :: R) off)).countP (offB (x :: B)) = (TE R ++ OE R off).countP (offB B) := by
          have ct : (TE ((x, o) :: R)).countP (offB (x :: B)) = (TE R).countP (offB B) := by
            have c0 : (TE R).countP (offB (x :: B)) = (TE R).countP (offB B) := List.countP_congr fun e he => by rw [offB_cons_of (tR e he)]
            cases o with
            | none => exact c0
            | some p =>
              simp only [TE, List.countP_cons, c0]
              rw [offB_hit (by rcases tie_mem1 x p with ⟨a, c⟩ | ⟨a, c⟩; exact Or.inl a; exact Or.inr c)]; simp
          have co : (OE R off).countP (offB (x :: B)) = (OE R off).countP (offB B) := List.countP_congr fun e he => by rw [offB_cons_of (eR e he)]
          have cs : ((off x).map (tie x)).countP (offB (x :: B)) = 0 := by
            rw [List.countP_eq_zero]
            intro e he
            obtain ⟨c, hc, e3⟩ := List.mem_map.mp he
            subst e3
            rw [offB_hit (by rcases tie_mem1 x c with ⟨a, c⟩ | ⟨a, c⟩; exact Or.inl a; exact Or.inr c)]; simp
          rw [OEc, List.countP_append, List.countP_append, List.countP_append, ct, co, cs]; omega
        rw [c1, List.length_append, List.length_map, List.length_take, I.num, List.map_cons, List.sum_cons, Nat.min_eq_left k]; omega
      · intro v hv
        rcases List.mem_cons.mp hv with q | q
        · rw [q]; exact hxm
        · have := I.bsub v q; simp [vsR_cons, this]
      · exact List.nodup_cons.mpr ⟨fun z => hx (I.bsub x z), I.bnd⟩
    · have k' : (off x).length < b x := by omega
      have e1 : (grd b ((x, o) :: R) off).1 = (off x).map (tie x) ++ (grd b R (offTo off x o)).1 := by
        simp only [grd, if_neg k]; rw [List.take_of_length_le (by omega)]
      have e2 : (grd b ((x, o) :: R) off).2 = (grd b R (offTo off x o)).2 := by simp only [grd, if_neg k]
      have I := ih (h.to hx)
      have P := OE_to (x := x) (off := off) gR.nd ho
      rw [e1, e2]
      generalize (grd b R (offTo off x o)).1 = T at *
      generalize (grd b R (offTo off x o)).2 = B at *
      have Tm : ∀ e ∈ T, e ∈ TE ((x, o) :: R) ∨ e ∈ OE R off := fun e he => by
        have : e ∈ TE R ++ OE R (offTo off x o) := List.mem_append.mpr (I.sub e he)
        exact List.mem_append.mp (P.mem_iff.mp this)
      have xm : ∀ e ∈ TE ((x, o) :: R), (e.1 = x ∨ e.2 = x) → ∃ p, o = some p ∧ e = tie x p := fun e he z => by
        cases o with
        | none => exact absurd z (by have := tR e he; simp [this])
        | some p =>
          rcases List.mem_cons.mp (show e ∈ tie x p :: TE R from he) with q | q
          · exact ⟨p, rfl, q⟩
          · exact absurd z (by have := tR e q; simp [this])
      refine ⟨?_, ?_, ?_, ?_, ?_, ?_, I.bnd⟩
      · rw [List.nodup_append]
        refine ⟨nodup_star ndx, I.nd, fun e he f hf z => ?_⟩
        obtain ⟨c, hc, e3⟩ := List.mem_map.mp he
        rw [← z, ← e3] at hf
        have hit : (tie x c).1 = x ∨ (tie x c).2 = x := by rcases tie_mem1 x c with ⟨a, c⟩ | ⟨a, c⟩; exact Or.inl a; exact Or.inr c
        rcases Tm _ hf with q | q
        · obtain ⟨p, op, e4⟩ := xm _ q hit
          have := tie_inj_left e4
          exact (ox c hc).2 (this ▸ ho p op)
        · exact absurd hit (by have := eR _ q; simp [this])
      · intro e he
        rcases List.mem_append.mp he with q | q
        · obtain ⟨c, hc, e3⟩ := List.mem_map.mp q
          exact Or.inr (OE_mem.mpr ⟨x, hxm, c, hc, e3.symm⟩)
        · rcases Tm e q with z | z
          · exact Or.inl z
          · exact Or.inr (by rw [OEc]; simp [z])
      · intro v hv
        rw [deg_append, deg_star ndx xo]
        rcases List.mem_cons.mp hv with q | q
        · subst q
          rw [if_pos rfl]
          have := I.deg1 v hx; omega
        · rw [if_neg (nR v q), if_neg (fun z => (ox v z).2 q)]
          have := I.deg v q; omega
      · intro v hv
        rw [vsR_cons] at hv
        simp only [List.mem_cons, not_or] at hv
        rw [deg_append, deg_star ndx xo, if_neg hv.1]
        by_cases q : v ∈ off x
        · have f := far v q
          have z : ∀ e ∈ T, e.1 ≠ v ∧ e.2 ≠ v := fun e he => by
            rcases Tm e he with m | m
            · cases o with
              | none => exact f.1 e m
              | some p =>
                rcases List.mem_cons.mp (show e ∈ tie x p :: TE R from m) with m | m
                · have pv : p ≠ v := fun w => hv.2 (w ▸ ho p rfl)
                  constructor <;> (intro w; rcases tie_ends m (by first | exact Or.inl w | exact Or.inr w) with s | s; exact hv.1 s; exact pv s.symm)
                · exact f.1 e m
            · exact f.2 e m
          rw [if_pos q, deg_zero z]; omega
        · rw [if_neg q]
          have := I.deg1 v hv.2; omega
      · have c1 : ((TE ((x, o) :: R) ++ OE ((x, o) :: R) off)).countP (offB B) = (off x).length + (TE R ++ OE R (offTo off x o)).countP (offB B) := by
          have cs : ((off x).map (tie x)).countP (offB B) = (off x).length := by
            rw [List.countP_eq_length.mpr, List.length_map]
            intro e he
            obtain ⟨c, hc, e3⟩ := List.mem_map.mp he
            subst e3
            have a1 : x ∉ B := fun z => hx (I.bsub x z)
            have a2 : c ∉ B := fun z => (ox c hc).2 (I.bsub c z)
            simp only [offB]
            rcases tie_mem1 x c with ⟨a, d⟩ | ⟨a, d⟩ <;> (rw [a, d]; simp [a1, a2])
          rw [P.countP_eq, OEc, List.countP_append, List.countP_append, List.countP_append, cs]; omega
        rw [c1, List.length_append, List.length_map, I.num]; omega
      · intro v hv
        have := I.bsub v hv; simp [vsR_cons, this]
end G37
namespace G37
/-- the order in which from_roots tells the places, read from behind -/
structure Ord (n : Nat) (es : List Ed) (R : List RE) : Prop where
  gd : Gd R
  vs : (vsR R).Perm (List.range n)
  te : (TE R).Perm es
theorem Ord.fo {n : Nat} {es : List Ed} {R : List RE} (h : Ord n es R) : Fo n es := ⟨_, _, h.gd.ff, h.vs, h.te⟩
theorem off_nil (R : List RE) : Off R fun _ => [] := ⟨fun _ _ => List.nodup_nil, fun _ _ _ h => by simp at h, fun _ _ _ _ _ _ h => by simp at h⟩
theorem OE_nil (R : List RE) : OE R (fun _ => []) = [] := by simp [OE]
/-- what is told of the ties that are taken up, and of the bar -/
structure Taken (n : Nat) (es : List Ed) (b : Cap) (T : List Ed) (B : List Nat) : Prop where
  nd : T.Nodup
  sub : ∀ e ∈ T, e ∈ es
  deg : ∀ v, v < n → G37.deg T v ≤ b v
  num : T.length = (B.map b).sum + es.countP (offB B)
  bsub : ∀ v ∈ B, v < n
  bnd : B.Nodup
theorem Ord.taken {n : Nat} {es : List Ed} {R : List RE} (h : Ord n es R) (b : Cap) : Taken n es b (grd b R fun _ => []).1 (grd b R fun _ => []).2 := by
  have g := grd_ok (b := b) h.gd (off_nil R)
  refine ⟨g.nd, fun e he => ?_, fun v hv => g.deg v (h.vs.mem_iff.mpr (List.mem_range.mpr hv)), ?_, fun v hv => List.mem_range.mp (h.vs.mem_iff.mp (g.bsub v hv)), g.bnd⟩
  · rcases g.sub e he with q | q
    · exact h.te.mem_iff.mp q
    · rw [OE_nil] at q; simp at q
  · rw [g.num, OE_nil, List.append_nil, h.te.countP_eq]
theorem Taken.perm {n : Nat} {es : List Ed} {b : Cap} {T T' : List Ed} {B B' : List Nat} (h : Taken n es b T B) (pT : T'.Perm T) (pB : B'.Perm B) : Taken n es b T' B' := by
  refine ⟨pT.nodup_iff.mpr h.nd, fun e he => h.sub e (pT.mem_iff.mp he), fun v hv => by rw [deg_perm pT]; exact h.deg v hv, ?_, fun v hv => h.bsub v (pB.mem_iff.mp hv), pB.nodup_iff.mpr h.bnd⟩
  rw [pT.length_eq, h.num, (pB.map b).sum_nat]
  congr 1
  refine List.countP_congr fun e _ => ?_
  simp only [offB, List.contains_eq_mem, pB.mem_iff]
theorem Taken.nu {n : Nat} {es : List Ed} {b : Cap} {T : List Ed} {B : List Nat} (h : Taken n es b T B) (f : Fo n es) : T.length = G37.nu es b := by
  apply Nat.le_antisymm
  · refine nu_feasP h.nd f.edup h.sub f.ne fun v => ?_
    by_cases hv : v < n
    · exact h.deg v hv
    · rw [deg_zero fun e he => ?_]; omega
      have := f.mem e (h.sub e he)
      exact ⟨fun z => hv (z ▸ this.1), fun z => hv (z ▸ this.2.1)⟩
  · have := nu_bar B es b
    rw [h.num, List.countP_eq_length_filter]; exact this
/-! ### the count -/
abbrev P2 := Int × Int
abbrev Rows := P2 × P2 × P2
def betI (p q : P2) : P2 := if p.1 = q.1 then (p.1, p.2 + q.2) else if p.1 < q.1 then q else p
def bthI (p q : P2) : P2 := (p.1 + q.1, p.2 * q.2)
def shI (p : P2) : P2 := (p.1 + 1, p.2)
def all2 (r : Rows) : P2 := betI (betI r.1 r.2.1) r.2.2
def one2 (r : Rows) : P2 := betI r.1 r.2.1
def wb (r q : Rows) : Rows := (bthI r.1 (all2 q), betI (bthI r.2.1 (all2 q)) (bthI r.1 (shI (one2 q))), betI (bthI r.2.2 (all2 q)) (bthI r.2.1 (shI (one2 q))))
def rows0 : Rows := ((0, 1), (-100, 0), (-100, 0))
def toI (p : Nat × Nat) : P2 := ((p.1 : Int), (p.2 : Int))
theorem betI_comm (p q : P2) : betI p q = betI q p := by
  obtain ⟨a, c⟩ := p; obtain ⟨a', c'⟩ := q; simp only [betI]; grind
theorem betI_assoc (p q r : P2) : betI (betI p q) r = betI p (betI q r) := by
  obtain ⟨a, c⟩ := p; obtain ⟨a', c'⟩ := q; obtain ⟨a'', c''⟩ := r; simp only [betI]; grind
theorem bthI_betI (p q r : P2) : bthI (betI p q) r = betI (bthI p r) (bthI q r) := by
  obtain ⟨a, c⟩ := p; obtain ⟨a', c'⟩ := q; obtain ⟨a'', c''⟩ := r; simp only [betI, bthI]; grind
theorem bthI_shI (p q : P2) : bthI p (shI q) = shI (bthI p q) := by simp only [bthI, shI]; grind
theorem toI_bet (p q : Nat × Nat) : toI (bet p q) = betI (toI p) (toI q) := by
  obtain ⟨a, c⟩ := p; obtain ⟨a', c'⟩ := q
  show toI (if a = a' then (a, c + c') else if a < a' then (a', c') else (a, c)) = if (a : Int) = (a' : Int) then ((a : Int), (c : Int) + (c' : Int)) else if (a : Int) < (a' : Int) then ((a' : Int), (c' : Int)) else ((a : Int), (c : Int))
  by_cases h : a = a'
  · subst h; simp [toI]
  · rw [if_neg h, if_neg (show ¬ ((a : Int) = (a' : Int)) by omega)]
    by_cases h2 : a < a'
    · rw [if_pos h2, if_pos (show (a : Int) < (a' : Int) by omega)]; rfl
    · rw [if_neg h2, if_neg (show ¬ ((a : Int) < (a' : Int)) by omega)]; rfl
theorem toI_bth (p q : Nat × Nat) : toI (bth p q) = bthI (toI p) (toI q) := by
  simp [bth, bthI, toI]
theorem toI_sh (p : Nat × Nat) : toI (sh p) = shI (toI p) := by simp [sh, shI, toI]
def cap2 : Cap := fun _ => 2
def setc (v k : Nat) : Cap := fun y => if y = v then k else 2
structure Rep (v : Nat) (C : List Ed) (r : Rows) : Prop where
  r0 : r.1 = toI (M C (setc v 0))
  r1 : one2 r = toI (M C (setc v 1))
  r2 : all2 r = toI (M C cap2)
theorem Rep.nil (v : Nat) : Rep v [] rows0 := by
  refine ⟨rfl, ?_, ?_⟩ <;> (simp [rows0, one2, all2, betI, toI, M])
/-- the places of a cluster -/
def In (C : Nat → List Ed) (v y : Nat) : Prop := y = v ∨ ∃ e ∈ C v, y = e.1 ∨ y = e.2
theorem M_tie {p x : Nat} (Cx Cp : List Ed) (ne : p ≠ x) (hx : ∀ e ∈ Cp, e.1 ≠ x ∧ e.2 ≠ x) (hp : ∀ e ∈ Cx, e.1 ≠ p ∧ e.2 ≠ p) (ap : apart Cx Cp) :
    M (tie p x :: (Cx ++ Cp)) (setc p 0) = bth (M Cx cap2) (M Cp (setc p 0)) ∧
    M (tie p x :: (Cx ++ Cp)) (setc p 1) = bet (bth (M Cx cap2) (M Cp (setc p 1))) (sh (bth (M Cx (setc x 1)) (M Cp (setc p 0)))) ∧
    M (tie p x :: (Cx ++ Cp)) cap2 = bet (bth (M Cx cap2) (M Cp cap2)) (sh (bth (M Cx (setc x 1)) (M Cp (setc p 1)))) := by
  have ends : ((tie p x).1 = p ∧ (tie p x).2 = x) ∨ ((tie p x).1 = x ∧ (tie p x).2 = p) := tie_mem1 p x
  have cx : ∀ b : Cap, (∀ y, y ≠ p → b y = 2) → M Cx b = M Cx cap2 := fun b hb => M_congr fun e he => ⟨hb _ (hp e he).1, hb _ (hp e he).2⟩
  have cx1 : ∀ b : Cap, (∀ y, y ≠ p → b y = setc x 1 y) → M Cx b = M Cx (setc x 1) := fun b hb => M_congr fun e he => ⟨hb _ (hp e he).1, hb _ (hp e he).2⟩
  have cp : ∀ (k : Nat) (b : Cap), (∀ y, y ≠ x → b y = setc p k y) → M Cp b = M Cp (setc p k) := fun k b hb => M_congr fun e he => ⟨hb _ (hx e he).1, hb _ (hx e he).2⟩
  have tkv : ∀ (b : Cap) (y : Nat), tk (tie p x) b y = if y = p ∨ y = x then b y - 1 else b y := fun b y => by
    simp only [tk, dec]
    rcases ends with ⟨a, c⟩ | ⟨a, c⟩ <;> (rw [a, c]; by_cases h1 : y = p <;> by_cases h2 : y = x <;> simp_all)
  have okv : ∀ b : Cap, okE (tie p x) b ↔ 0 < b p ∧ 0 < b x := fun b => by
    simp only [okE]
    rcases ends with ⟨a, c⟩ | ⟨a, c⟩ <;> (rw [a, c]; constructor)
    · exact fun h => h.2
    · exact fun h => ⟨ne, h⟩
    · exact fun h => ⟨h.2.2, h.2.1⟩
    · exact fun h => ⟨Ne.symm ne, h.2, h.1⟩
  have A0 : M Cx (setc p 0) = M Cx cap2 := cx _ fun y hy => by simp [setc, hy]
  have A5 : M Cx (setc p 1) = M Cx cap2 := cx _ fun y hy => by simp [setc, hy]
  have A1 : M Cx (tk (tie p x) (setc p 1)) = M Cx (setc x 1) := cx1 _ fun y hy => by
    rw [tkv]; by_cases h : y = x <;> simp_all [setc]
  have A2 : M Cp (tk (tie p x) (setc p 1)) = M Cp (setc p 0) := cp 0 _ fun y hy => by
    rw [tkv]; by_cases h : y = p <;> simp_all [setc]
  have A3 : M Cx (tk (tie p x) cap2) = M Cx (setc x 1) := cx1 _ fun y hy => by
    rw [tkv]; by_cases h : y = x <;> simp_all [setc, cap2]
  have A4 : M Cp (tk (tie p x) cap2) = M Cp (setc p 1) := cp 1 _ fun y hy => by
    rw [tkv]; by_cases h : y = p <;> simp_all [setc, cap2]
  refine ⟨?_, ?_, ?_⟩
  · rw [M, if_neg (by rw [okv]; simp [setc]), M_append ap, A0]
  · rw [M, if_pos (by rw [okv]; simp [setc, Ne.symm ne]), M_append ap, M_append ap, A5, A1, A2]
  · rw [M, if_pos (by rw [okv]; simp [cap2]), M_append ap, M_append ap, A3, A4]
theorem Rep.merge {p x : Nat} {Cx Cp : List Ed} {r q : Rows} (hr : Rep p Cp r) (hq : Rep x Cx q) (ne : p ≠ x) (hx : ∀ e ∈ Cp, e.1 ≠ x ∧ e.2 ≠ x) (hp : ∀ e ∈ Cx, e.1 ≠ p ∧ e.2 ≠ p) (ap : apart Cx Cp) : Rep p (tie p x :: (Cx ++ Cp)) (wb r q) := by
  obtain ⟨h0, h1, h2⟩ := M_tie Cx Cp ne hx hp ap
  obtain ⟨r0, r1, r2⟩ := r
  obtain ⟨a0, a1, a2⟩ := hr
  have e2 := hq.r2
  have e1 := hq.r1
  have bc : ∀ p q : P2, bthI p q = bthI q p := fun p q => by simp only [bthI, Int.add_comm, Int.mul_comm]
  simp only [one2, all2] at a0 a1 a2
  refine ⟨?_, ?_, ?_⟩
  · show bthI r0 (all2 q) = _
    rw [h0, toI_bth, ← e2, a0, bc]
  · show betI (bthI r0 (all2 q)) (betI (bthI r1 (all2 q)) (bthI r0 (shI (one2 q)))) = _
    rw [h1, toI_bet, toI_sh, toI_bth, toI_bth, ← e2, ← e1, ← betI_assoc, ← bthI_betI, a1, bthI_shI, a0, bc, bc (toI (M Cp (setc p 0)))]
  · show betI (betI (bthI r0 (all2 q)) (betI (bthI r1 (all2 q)) (bthI r0 (shI (one2 q))))) (betI (bthI r2 (all2 q)) (bthI r1 (shI (one2 q)))) = _
    rw [h2, toI_bet, toI_sh, toI_bth, toI_bth, ← e2, ← e1]
    have k : betI (betI (bthI r0 (all2 q)) (betI (bthI r1 (all2 q)) (bthI r0 (shI (one2 q))))) (betI (bthI r2 (all2 q)) (bthI r1 (shI (one2 q)))) = betI (bthI (betI (betI r0 r1) r2) (all2 q)) (bthI (betI r0 r1) (shI (one2 q))) := by
      rw [bthI_betI, bthI_betI, bthI_betI]
      generalize bthI r0 (all2 q) = A
      generalize bthI r1 (all2 q) = B
      generalize bthI r2 (all2 q) = C
      generalize bthI r0 (shI (one2 q)) = D
      generalize bthI r1 (shI (one2 q)) = E
      rw [← betI_assoc A B D, betI_assoc (betI A B) D, ← betI_assoc D C E, betI_comm D C, betI_assoc C D E, ← betI_assoc (betI A B) C]
    rw [k, a2, a1, bthI_shI, bc, bc (toI (M Cp (setc p 1)))]
def setR (rw_ : Nat → Rows) (p : Nat) (r : Rows) : Nat → Rows := fun y => if y = p then r else rw_ y
theorem len_flatMap {C : RE → List Ed} : ∀ {R : List RE} {w : RE}, w ∈ R → (C w).length ≤ (R.flatMap C).length
  | [], _, h => by simp at h
  | q :: R, w, h => by
    rw [List.flatMap_cons, List.length_append]
    rcases List.mem_cons.mp h with z | z
    · rw [z]; omega
    · have := len_flatMap (C := C) z; omega
/-- what holds between two turns of the count's loop: R the places to come -/
structure HI (es : List Ed) (R : List RE) (rw_ : Nat → Rows) (f : Int) : Prop where
  gd : Gd R
  ex : ∃ C : Nat → List Ed, (∀ v ∈ vsR R, ∀ u ∈ vsR R, v ≠ u → ∀ y, In C v y → ¬ In C u y) ∧ (∀ v ∈ vsR R, Rep v (C v) (rw_ v)) ∧
    (∀ v ∈ vsR R, (C v).length ≤ es.length) ∧
    f * (cnt (TE R ++ R.flatMap fun q => C q.1) cap2 : Int) = (cnt es cap2 : Int) ∧ (TE R ++ R.flatMap fun q => C q.1).length ≤ es.length
theorem HI.start {n : Nat} {es : List Ed} {R : List RE} (h : Ord n es R) : HI es R (fun _ => rows0) 1 := by
  refine ⟨h.gd, fun _ => [], fun v _ u _ ne y hy hz => ?_, fun v _ => Rep.nil v, fun _ _ => by simp, ?_, ?_⟩
  · have a : y = v := by rcases hy with q | ⟨e, he, _⟩; exact q; simp at he
    have b : y = u := by rcases hz with q | ⟨e, he, _⟩; exact q; simp at he
    exact ne (a ▸ b)
  · have : (R.flatMap fun _ => ([] : List Ed)) = [] := by simp
    rw [this, List.append_nil, Int.one_mul]
    simp only [cnt, M_perm h.te]
  · have : (R.flatMap fun _ => ([] : List Ed)) = [] := by simp
    rw [this, List.append_nil, h.te.length_eq]; exact Nat.le_refl _
theorem HI.bound {es : List Ed} {x : Nat} {o : Option Nat} {R : List RE} {rw_ : Nat → Rows} {f : Int} (h : HI es ((x, o) :: R) rw_ f) : 0 ≤ (all2 (rw_ x)).2 ∧ (all2 (rw_ x)).2 ≤ 2 ^ es.length ∧ 0 ≤ (one2 (rw_ x)).2 ∧ (one2 (rw_ x)).2 ≤ 2 ^ es.length := by
  obtain ⟨C, _, h2, h3, _⟩ := h.ex
  have r := h2 x (by simp [vsR_cons])
  have l := h3 x (by simp [vsR_cons])
  have a := Nat.le_trans (cnt_le (C x) cap2) (Nat.pow_le_pow_right (by decide) l)
  have b := Nat.le_trans (cnt_le (C x) (setc x 1)) (Nat.pow_le_pow_right (by decide) l)
  rw [r.r2, r.r1]
  simp only [toI]
  refine ⟨by omega, ?_, by omega, ?_⟩
  · exact_mod_cast a
  · exact_mod_cast b
theorem HI.root {es : List Ed} {x : Nat} {R : List RE} {rw_ : Nat → Rows} {f : Int} (h : HI es ((x, none) :: R) rw_ f) : HI es R rw_ (f * (all2 (rw_ x)).2) := by
  obtain ⟨C, h1, h2, h3, h4, h5⟩ := h.ex
  have g := h.gd
  cases g with
  | cons hx ho gR =>
    have up : ∀ v ∈ vsR R, v ∈ vsR ((x, none) :: R) := fun v hv => by simp [vsR_cons, hv]
    refine ⟨gR, C, fun v hv u hu => h1 v (up v hv) u (up u hu), fun v hv => h2 v (up v hv), fun v hv => h3 v (up v hv), ?_, ?_⟩
    · have ap : apart (C x) (TE R ++ R.flatMap fun q => C q.1) := fun e he f hf => by
        have hxe : In C x e.1 ∧ In C x e.2 := ⟨Or.inr ⟨e, he, Or.inl rfl⟩, Or.inr ⟨e, he, Or.inr rfl⟩⟩
        have : ∃ v ∈ vsR R, ∃ w ∈ vsR R, In C v f.1 ∧ In C w f.2 := by
          rcases List.mem_append.mp hf with q | q
          · have := TE_mem gR f q
            exact ⟨f.1, this.1, f.2, this.2.1, Or.inl rfl, Or.inl rfl⟩
          · obtain ⟨q, hq, m⟩ := List.mem_flatMap.mp q
            have : q.1 ∈ vsR R := List.mem_map.mpr ⟨q, hq, rfl⟩
            exact ⟨q.1, this, q.1, this, Or.inr ⟨f, m, Or.inl rfl⟩, Or.inr ⟨f, m, Or.inr rfl⟩⟩
        obtain ⟨v, hv, w, hw, i1, i2⟩ := this
        have nv : x ≠ v := fun z => hx (z ▸ hv)
        have nw : x ≠ w := fun z => hx (z ▸ hw)
        have d1 := h1 x (by simp [vsR_cons]) v (up v hv) nv
        have d2 := h1 x (by simp [vsR_cons]) w (up w hw) nw
        exact ⟨fun z => d1 _ hxe.1 (z ▸ i1), fun z => d2 _ hxe.1 (z ▸ i2), fun z => d1 _ hxe.2 (z ▸ i1), fun z => d2 _ hxe.2 (z ▸ i2)⟩
      have p : (TE ((x, none) :: R) ++ ((x, none) :: R : List RE).flatMap fun q => C q.1).Perm (C x ++ (TE R ++ R.flatMap fun q => C q.1)) := by
        simp only [TE, List.flatMap_cons]
        rw [← List.append_assoc, ← List.append_assoc]
        exact (List.perm_append_comm).append_right _
      rw [← h4]
      simp only [cnt, M_perm p, M_append ap, bth]
      rw [(h2 x (by simp [vsR_cons])).r2]
      simp only [toI]
      rw [Int.mul_assoc]; simp
    · simp only [TE, List.flatMap_cons, List.length_append] at h5 ⊢
      omega
theorem HI.join {es : List Ed} {x p : Nat} {R : List RE} {rw_ : Nat → Rows} {f : Int} (h : HI es ((x, some p) :: R) rw_ f) : HI es R (setR rw_ p (wb (rw_ p) (rw_ x))) f := by
  obtain ⟨C, h1, h2, h3, h4, h5⟩ := h.ex
  have g := h.gd
  cases g with
  | cons hx ho gR =>
    have hp := ho p rfl
    have up : ∀ v ∈ vsR R, v ∈ vsR ((x, some p) :: R) := fun v hv => by simp [vsR_cons, hv]
    have xm : x ∈ vsR ((x, some p) :: R) := by simp [vsR_cons]
    have ne : p ≠ x := fun z => hx (z ▸ hp)
    have d := h1 x xm p (up p hp) (Ne.symm ne)
    have iE : ∀ v e, e ∈ C v → In C v e.1 ∧ In C v e.2 := fun v e he => ⟨Or.inr ⟨e, he, Or.inl rfl⟩, Or.inr ⟨e, he, Or.inr rfl⟩⟩
    have mg := (h2 p (up p hp)).merge (h2 x xm) ne
      (fun e he => ⟨fun z => d x (Or.inl rfl) (z ▸ (iE p e he).1), fun z => d x (Or.inl rfl) (z ▸ (iE p e he).2)⟩)
      (fun e he => ⟨fun z => d _ (iE x e he).1 (Or.inl z), fun z => d _ (iE x e he).2 (Or.inl z)⟩)
      (fun e he f hf => ⟨fun z => d _ (iE x e he).1 (z ▸ (iE p f hf).1), fun z => d _ (iE x e he).1 (z ▸ (iE p f hf).2), fun z => d _ (iE x e he).2 (z ▸ (iE p f hf).1), fun z => d _ (iE x e he).2 (z ▸ (iE p f hf).2)⟩)
    let C' : Nat → List Ed := fun y => if y = p then tie p x :: (C x ++ C p) else C y
    have inC' : ∀ v y, In C' v y → (v = p ∧ (In C x y ∨ In C p y)) ∨ (v ≠ p ∧ In C v y) := fun v y hy => by
      by_cases q : v = p
      · subst q
        refine Or.inl ⟨rfl, ?_⟩
        rcases hy with hy | ⟨e, he, hy⟩
        · exact Or.inr (Or.inl hy)
        · simp only [C', if_pos] at he
          rcases List.mem_cons.mp he with z | z
          · rcases tie_ends z (hy.elim (fun w => Or.inl w.symm) fun w => Or.inr w.symm) with w | w
            · exact Or.inr (Or.inl w)
            · exact Or.inl (Or.inl w)
          · rcases List.mem_append.mp z with z | z
            · exact Or.inl (Or.inr ⟨e, z, hy⟩)
            · exact Or.inr (Or.inr ⟨e, z, hy⟩)
      · refine Or.inr ⟨q, ?_⟩
        rcases hy with hy | ⟨e, he, hy⟩
        · exact Or.inl hy
        · simp only [C', if_neg q] at he
          exact Or.inr ⟨e, he, hy⟩
    have nR : ∀ v ∈ vsR R, v ≠ x := fun v hv z => hx (z ▸ hv)
    have fl : (R.flatMap fun q => C' q.1).Perm ((tie p x :: C x) ++ R.flatMap fun q => C q.1) := by
      have nd := gR.nd
      clear h1 h2 h3 h4 h5 h d mg inC' iE nR up xm ho gR hx
      induction R with
      | nil => simp [vsR] at hp
      | cons q R ih =>
        obtain ⟨y, o⟩ := q
        rw [vsR_cons] at nd hp
        obtain ⟨n1, n2⟩ := List.nodup_cons.mp nd
        simp only [List.flatMap_cons]
        by_cases z : y = p
        · subst z
          have same : (R.flatMap fun q => C' q.1) = R.flatMap fun q => C q.1 := by
            rw [List.flatMap_def, List.flatMap_def]
            congr 1
            refine List.map_congr_left fun q hq => ?_
            have : q.1 ≠ y := fun z => n1 (z ▸ List.mem_map.mpr ⟨q, hq, rfl⟩)
            simp only [C', if_neg this]
          rw [same]
          simp only [C', if_pos, List.cons_append, List.append_assoc]
          exact List.Perm.refl _
        · have hp' : p ∈ vsR R := by rcases List.mem_cons.mp hp with w | w; exact absurd w.symm z; exact w
          have := ih hp' n2
          simp only [C', if_neg z] at this ⊢
          refine (this.append_left _).trans ?_
          rw [← List.append_assoc, ← List.append_assoc]
          exact List.perm_append_comm.append_right _
    have tot : (TE R ++ R.flatMap fun q => C' q.1).Perm (TE ((x, some p) :: R) ++ ((x, some p) :: R : List RE).flatMap fun q => C q.1) := by
      refine (fl.append_left _).trans ?_
      simp only [TE, List.flatMap_cons, List.cons_append]
      rw [tie_comm p x]
      refine List.perm_middle.trans (List.Perm.refl _)
    refine ⟨gR, C', fun v hv u hu n y hy hz => ?_, fun v hv => ?_, fun v hv => ?_, ?_, ?_⟩
    · rcases inC' v y hy with ⟨e1, i1⟩ | ⟨e1, i1⟩ <;> rcases inC' u y hz with ⟨e2, i2⟩ | ⟨e2, i2⟩
      · exact n (e1.trans e2.symm)
      · rcases i1 with i1 | i1
        · exact h1 x xm u (up u hu) (Ne.symm (nR u hu)) y i1 i2
        · exact h1 p (up p hp) u (up u hu) (Ne.symm e2) y i1 i2
      · rcases i2 with i2 | i2
        · exact h1 v (up v hv) x xm (nR v hv) y i1 i2
        · exact h1 v (up v hv) p (up p hp) e1 y i1 i2
      · exact h1 v (up v hv) u (up u hu) n y i1 i2
    · by_cases q : v = p
      · subst q; simp only [C', setR, if_pos]; exact mg
      · simp only [C', setR, if_neg q]; exact h2 v (up v hv)
    · by_cases q : v = p
      · have l := tot.length_eq
        have : (C' p).length ≤ (R.flatMap fun q => C' q.1).length := by
          obtain ⟨w, hw, e⟩ := List.mem_map.mp hp
          have s : C' p = C' w.1 := by rw [e]
          rw [s]
          exact len_flatMap (C := fun q => C' q.1) hw
        rw [List.length_append] at l
        rw [q]; omega
      · simp only [C', if_neg q]; exact h3 v (up v hv)
    · rw [← h4]; simp only [cnt, M_perm tot]
    · rw [tot.length_eq]; exact h5
theorem HI.done {es : List Ed} {rw_ : Nat → Rows} {f : Int} (h : HI es [] rw_ f) : f = (cnt es cap2 : Int) := by
  obtain ⟨C, _, _, _, h4, _⟩ := h.ex
  simpa [TE, cnt, M] using h4
end G37
namespace G37
/-! ### numbers of fewest ways -/
def capS (S : List Nat) : Cap := fun v => if v ∈ S then 1 else 2
theorem capS_nil : capS [] = cap2 := by funext v; simp [capS, cap2]
theorem capS_le (S : List Nat) (v : Nat) : capS S v ≤ 2 := by simp only [capS]; split <;> omega
theorem capS_cons {x : Nat} {S : List Nat} (h : x ∉ S) : capS (x :: S) = dec (capS S) x := by
  funext v; simp only [capS, dec, List.mem_cons]; grind
theorem nu_ends (es : List Ed) (x : Nat) (S : List Nat) (h : x ∉ S) : nu es (capS (x :: S)) ≤ nu es (capS S) ∧ nu es (capS S) ≤ nu es (capS (x :: S)) + 1 := by
  rw [capS_cons h]
  exact ⟨nu_mono (dec_le _ _), nu_dec x⟩
theorem nu_none (es : List Ed) (S : List Nat) : nu es (capS S) ≤ nu es cap2 := nu_mono fun v => by rw [← capS_nil]; exact Nat.le_trans (capS_le S v) (by simp [capS])
theorem Fo.le {n : Nat} {es : List Ed} (h : Fo n es) : es.length ≤ n := by have := h.parts; omega
theorem Fo.nu_le {n : Nat} {es : List Ed} (h : Fo n es) (b : Cap) : nu es b ≤ n := Nat.le_trans (G37.nu_le es b) h.le
theorem nu_hung {n p : Nat} {es : List Ed} (h : Fo n es) (hp : p < n) : nu ((p, n) :: es) cap2 = nu es cap2 + (if nu es (capS [p]) = nu es cap2 then 1 else 0) := by
  have a := nu_none es [p]
  have b := (nu_ends es p [] (by simp)).2
  rw [capS_nil] at b
  have c : nu es (tk (p, n) cap2) = nu es (capS [p]) := by
    simp only [nu]
    congr 1
    refine M_congr fun e he => ?_
    have := h.mem e he
    simp only [tk, dec, cap2, capS, List.mem_singleton]
    grind
  rw [nu_cons, if_pos (by simp only [okE, cap2]; omega), c]
  split <;> omega
theorem Fo.hung {n p : Nat} {es : List Ed} (h : Fo n es) (hp : p < n) : Fo (n + 1) ((p, n) :: es) := by
  obtain ⟨vs, fs, hf, pv, pe⟩ := h.ex
  have e : (p, n) = tie n p := by simp only [tie, Prod.mk.injEq]; omega
  refine ⟨n :: vs, tie n p :: fs, .leaf (fun q => ?_) (pv.mem_iff.mpr (List.mem_range.mpr hp)) hf, ?_, by rw [e]; exact pe.cons _⟩
  · have := List.mem_range.mp (pv.mem_iff.mp q); omega
  · rw [List.range_succ]
    exact (pv.cons n).trans (List.perm_append_comm (l₁ := [n]) (l₂ := List.range n))
theorem Fo.tail {n : Nat} {e : Ed} {es : List Ed} (h : Fo n (e :: es)) : Fo n es :=
  h.sub (List.nodup_cons.mp h.edup).2 fun f hf => by simp [hf]
/-! ### webs -/
def ltE (e f : Ed) : Prop := e.1 < f.1 ∨ (e.1 = f.1 ∧ e.2 < f.2)
structure Web (n : Nat) (es : List Ed) : Prop where
  le : n ≤ 60
  fo : Fo n es
  up : es.Pairwise ltE
theorem ltE_irr (e : Ed) : ¬ ltE e e := by simp only [ltE]; omega
theorem ltE_trans {e f g : Ed} (h : ltE e f) (k : ltE f g) : ltE e g := by simp only [ltE] at *; omega
theorem Web.tail {n : Nat} {e : Ed} {es : List Ed} (h : Web n (e :: es)) : Web n es := ⟨h.le, h.fo.tail, (List.pairwise_cons.mp h.up).2⟩
/-! ### neighbours -/
def nb (n : Nat) (es : List Ed) (v : Nat) : List Nat := (List.range n).filter fun u => es.contains (tie v u)
theorem mem_nb {n : Nat} {es : List Ed} {v u : Nat} : u ∈ nb n es v ↔ u < n ∧ tie v u ∈ es := by simp [nb]
theorem nb_nodup (n : Nat) (es : List Ed) (v : Nat) : (nb n es v).Nodup := List.Nodup.sublist List.filter_sublist List.nodup_range
theorem nb_up (n : Nat) (es : List Ed) (v : Nat) : (nb n es v).Pairwise (· < ·) := List.Pairwise.filter _ List.pairwise_lt_range
/-- as the ties are read, one after another -/
def adjL : List Ed → Nat → List Nat
  | [], _ => []
  | e :: es, v => (if e.1 = v then [e.2] else if e.2 = v then [e.1] else []) ++ adjL es v
theorem adjL_append (es fs : List Ed) (v : Nat) : adjL (es ++ fs) v = adjL es v ++ adjL fs v := by
  induction es with
  | nil => rfl
  | cons e es ih => simp only [List.cons_append, adjL, ih, List.append_assoc]
theorem mem_adjL {es : List Ed} (h : ∀ e ∈ es, e.1 < e.2) {v u : Nat} : u ∈ adjL es v ↔ tie v u ∈ es := by
  induction es with
  | nil => simp [adjL]
  | cons e es ih =>
    have he := h e (by simp)
    have ih := ih fun f hf => h f (by simp [hf])
    simp only [adjL, List.mem_append, ih, List.mem_cons]
    have : (u ∈ if e.1 = v then [e.2] else if e.2 = v then [e.1] else []) ↔ tie v u = e := by
      obtain ⟨a, b⟩ := e
      simp only [tie, Prod.mk.injEq] at *
      by_cases q : a = v
      · simp only [if_pos q, List.mem_singleton]; omega
      · by_cases q' : b = v
        · simp only [if_neg q, if_pos q', List.mem_singleton]; omega
        · simp only [if_neg q, if_neg q', List.not_mem_nil, false_iff]; omega
    rw [this]
theorem adjL_nodup {es : List Ed} (h : ∀ e ∈ es, e.1 < e.2) (nd : es.Nodup) (v : Nat) : (adjL es v).Nodup := by
  induction es with
  | nil => exact List.nodup_nil
  | cons e es ih =>
    obtain ⟨h1, h2⟩ := List.nodup_cons.mp nd
    have he := h e (by simp)
    have hh : ∀ f ∈ es, f.1 < f.2 := fun f hf => h f (by simp [hf])
    have ih := ih hh h2
    have m := fun u => mem_adjL (v := v) (u := u) hh
    simp only [adjL]
    obtain ⟨a, b⟩ := e
    by_cases q : a = v
    · simp only [if_pos q, List.singleton_append]
      refine List.nodup_cons.mpr ⟨fun z => h1 ?_, ih⟩
      have := (m b).mp z
      rw [← q] at this
      simp only at he
      have e1 : tie a b = (a, b) := by simp only [tie, Prod.mk.injEq]; omega
      rwa [e1] at this
    · by_cases q' : b = v
      · simp only [if_neg q, if_pos q', List.singleton_append]
        refine List.nodup_cons.mpr ⟨fun z => h1 ?_, ih⟩
        have := (m a).mp z
        rw [← q'] at this
        simp only at he
        have e1 : tie b a = (a, b) := by simp only [tie, Prod.mk.injEq]; omega
        rwa [e1] at this
      · simpa only [if_neg q, if_neg q', List.nil_append] using ih
theorem le_antisymm' : ∀ {l₁ l₂ : List Nat} (a b : Nat), a ∈ l₁ → b ∈ l₂ → a ≤ b → b ≤ a → a = b := fun _ _ _ _ h k => Nat.le_antisymm h k
/-- a list sorted is told by what is in it -/
theorem sorted_eq {l m k : List Nat} (p : l.Perm m) (s : l.Pairwise (· ≤ ·)) (nd : m.Nodup) (k1 : k.Pairwise (· < ·)) (e : ∀ x, x ∈ m ↔ x ∈ k) : l = k := by
  have kn : k.Nodup := List.Pairwise.imp (fun {a b} (h : a < b) => Nat.ne_of_lt h) k1
  exact List.Perm.eq_of_pairwise le_antisymm' s (List.Pairwise.imp (fun {a b} (h : a < b) => Nat.le_of_lt h) k1) (p.trans ((List.perm_ext_iff_of_nodup nd kn).mpr e))
theorem near_eq {n : Nat} {es : List Ed} (h : ∀ e ∈ es, e.1 < e.2 ∧ e.2 < n) (nd : es.Nodup) {v : Nat} {l : List Nat} (p : l.Perm (adjL es v)) (s : l.Pairwise (· ≤ ·)) : l = nb n es v := by
  have hh : ∀ e ∈ es, e.1 < e.2 := fun e he => (h e he).1
  refine sorted_eq p s (adjL_nodup hh nd v) (nb_up n es v) fun x => ?_
  rw [mem_adjL hh, mem_nb]
  refine ⟨fun q => ⟨?_, q⟩, fun q => q.2⟩
  have := h _ q
  simp only [tie] at this; omega
/-! ### what can be come to -/
structure BF (n : Nat) (es : List Ed) (v : Nat) (found : List Nat) (at_ : Nat) : Prop where
  nd : found.Nodup
  lt : ∀ x ∈ found, x < n
  rc : ∀ x ∈ found, Rch es v x
  st : v ∈ found
  le : at_ ≤ found.length
  cl : ∀ (i x : Nat), i < at_ → found[i]? = some x → ∀ y, tie x y ∈ es → y ∈ found
theorem BF.start {n : Nat} {es : List Ed} {v : Nat} (h : v < n) : BF n es v [v] 0 :=
  ⟨by simp, by simp [h], by simp [Rch.refl], by simp, by simp, by simp⟩
theorem BF.len {n : Nat} {es : List Ed} {v : Nat} {found : List Nat} {a : Nat} (h : BF n es v found a) : found.length ≤ n := by
  have := h.nd.length_le_of_subset (l₂ := List.range n) fun x hx => List.mem_range.mpr (h.lt x hx)
  rwa [List.length_range] at this
theorem BF.step {n : Nat} {es : List Ed} (hm : ∀ e ∈ es, e.2 < n ∧ e.1 < e.2) {v : Nat} {found : List Nat} {a x : Nat} (h : BF n es v found a) (hx : found[a]? = some x) : BF n es v (found ++ (nb n es x).filter fun u => !found.contains u) (a + 1) := by
  have hl : a < found.length := (List.getElem?_eq_some_iff.mp hx).1
  have hxm : x ∈ found := List.mem_of_getElem? hx
  refine ⟨?_, fun y hy => ?_, fun y hy => ?_, by simp [h.st], by simp; omega, fun i y hi hy z hz => ?_⟩
  · rw [List.nodup_append]
    refine ⟨h.nd, List.Nodup.sublist List.filter_sublist (nb_nodup n es x), fun a ha b hb e => ?_⟩
    have := (List.mem_filter.mp hb).2
    rw [← e] at this
    simp [ha] at this
  · rcases List.mem_append.mp hy with q | q
    · exact h.lt y q
    · exact (mem_nb.mp (List.mem_filter.mp q).1).1
  · rcases List.mem_append.mp hy with q | q
    · exact h.rc y q
    · exact .step (h.rc x hxm) (mem_nb.mp (List.mem_filter.mp q).1).2
  · by_cases q : z ∈ found
    · simp [q]
    · rw [List.getElem?_append_left (by omega)] at hy
      by_cases e : i = a
      · subst e
        rw [hx] at hy
        have : x = y := Option.some.inj hy
        subst this
        refine List.mem_append.mpr (Or.inr (List.mem_filter.mpr ⟨mem_nb.mpr ⟨?_, hz⟩, by simp [q]⟩))
        have := hm _ hz
        simp only [tie] at this; omega
      · exact absurd (h.cl i y (by omega) hy z hz) q
theorem BF.done {n : Nat} {es : List Ed} {v : Nat} {found l : List Nat} (h : BF n es v found found.length) (p : l.Perm found) (s : l.Pairwise (· ≤ ·)) : l = comp n es v := by
  refine sorted_eq p s h.nd (List.Pairwise.filter _ List.pairwise_lt_range) fun x => ?_
  rw [mem_comp]
  refine ⟨fun q => ⟨h.lt x q, h.rc x q⟩, fun q => ?_⟩
  refine q.2.closed (p := fun x => x ∈ found) (fun a b ha hb => ?_) h.st
  obtain ⟨i, hi, e⟩ := List.mem_iff_getElem.mp ha
  exact h.cl i a hi (by rw [List.getElem?_eq_getElem hi, e]) b hb
/-! ### the parts -/
/-- behind the places below k: the parts told, the places seen -/
noncomputable def rootsTo (n : Nat) (es : List Ed) (k : Nat) : List Nat := (roots n es).filter (· < k)
theorem rootsTo_all (n : Nat) (es : List Ed) : rootsTo n es n = roots n es := by
  simp only [rootsTo]
  exact List.filter_eq_self.mpr fun a ha => by simpa using (mem_roots.mp ha).1
theorem rootsTo_zero (n : Nat) (es : List Ed) : rootsTo n es 0 = [] := by simp [rootsTo]
theorem seen_iff {n : Nat} {es : List Ed} {k v : Nat} (hv : v < n) : v ∈ (rootsTo n es k).flatMap (comp n es) ↔ ∃ r ∈ roots n es, r < k ∧ Rch es r v := by
  simp only [List.mem_flatMap, rootsTo, List.mem_filter, decide_eq_true_eq, mem_comp]
  exact ⟨fun ⟨r, ⟨h1, h2⟩, _, h3⟩ => ⟨r, h1, h2, h3⟩, fun ⟨r, h1, h2, h3⟩ => ⟨r, ⟨h1, h2⟩, hv, h3⟩⟩
theorem not_seen {n : Nat} {es : List Ed} {k : Nat} (hk : k < n) : k ∉ (rootsTo n es k).flatMap (comp n es) ↔ k ∈ roots n es := by
  rw [seen_iff hk]
  constructor
  · intro h
    obtain ⟨r, hr, rr, le⟩ := root_of (es := es) k hk
    by_cases q : r = k
    · exact q ▸ hr
    · exact absurd ⟨r, hr, by omega, rr⟩ h
  · rintro h ⟨r, hr, l, rr⟩
    have := roots_one hr h rr
    omega
theorem rootsTo_succ {n : Nat} {es : List Ed} {k : Nat} (hk : k < n) : rootsTo n es (k + 1) = rootsTo n es k ++ (if k ∈ roots n es then [k] else []) := by
  have key : ∀ (l : List Nat), l.Pairwise (· < ·) → l.filter (· < k + 1) = l.filter (· < k) ++ (if k ∈ l then [k] else []) := by
    intro l
    induction l with
    | nil => intro _; simp
    | cons a l ih =>
      intro h
      obtain ⟨h1, h2⟩ := List.pairwise_cons.mp h
      have ih := ih h2
      rw [List.filter_cons, List.filter_cons]
      by_cases q : a < k
      · rw [if_pos (by simp; omega), if_pos (by simpa using q), ih]
        have : (k ∈ a :: l) ↔ k ∈ l := by simp; omega
        simp only [this, List.cons_append]
      · have e1 : l.filter (· < k) = [] := List.filter_eq_nil_iff.mpr fun x hx => by have := h1 x hx; simp; omega
        by_cases q' : a = k
        · subst q'
          rw [if_pos (by simp), if_neg (by simp), ih, e1]
          have : a ∉ l := fun z => by have := h1 a z; omega
          simp [this]
        · have : k ∉ a :: l := fun z => by
            rcases List.mem_cons.mp z with z | z
            · exact q' z.symm
            · have := h1 k z; omega
          have n2 : k ∉ l := fun z => this (by simp [z])
          rw [if_neg (by simp; omega), if_neg (by simpa using q), ih, if_neg this, if_neg n2]
  exact key _ (List.Pairwise.filter _ List.pairwise_lt_range)
theorem comp_head {n : Nat} {es : List Ed} {r : Nat} (h : r ∈ roots n es) : (comp n es r)[0]? = some r := by
  have hr := mem_roots.mp h
  have m : r ∈ comp n es r := mem_comp.mpr ⟨hr.1, .refl⟩
  have up : (comp n es r).Pairwise (· < ·) := List.Pairwise.filter _ List.pairwise_lt_range
  have le : ∀ x ∈ comp n es r, r ≤ x := fun x hx => hr.2 x (mem_comp.mp hx).1 (mem_comp.mp hx).2.symm
  generalize comp n es r = l at *
  cases l with
  | nil => simp at m
  | cons a l =>
    have a1 := le a (by simp)
    rcases List.mem_cons.mp m with z | z
    · simp [z]
    · have := (List.pairwise_cons.mp up).1 r z; omega
/-! ### from the roots on -/
theorem Gd.app {F : List RE} (g : Gd F) : ∀ {L : List RE}, (∀ a o, (a, o) ∈ L → a ∉ vsR F ∧ ∃ p, o = some p ∧ p ∈ vsR F) → (vsR L).Nodup → Gd (L ++ F)
  | [], _, _ => g
  | (a, o) :: L, h, nd => by
    rw [vsR_cons] at nd
    obtain ⟨n1, n2⟩ := List.nodup_cons.mp nd
    obtain ⟨h1, p, h2, h3⟩ := h a o (by simp)
    have e : vsR (L ++ F) = vsR L ++ vsR F := by simp [vsR]
    show Gd ((a, o) :: (L ++ F))
    refine Gd.cons (by rw [e]; simp [n1, h1]) (fun q hq => ?_) (g.app (fun b o' hb => h b o' (by simp [hb])) n2)
    rw [e]; rw [h2] at hq; cases hq; simp [h3]
theorem Gd.append {F : List RE} (g : Gd F) {L : List RE} (gl : Gd L) (d : ∀ x ∈ vsR L, x ∉ vsR F) : Gd (L ++ F) := by
  induction gl with
  | nil => exact g
  | @cons x o L hx ho gL ih =>
    have e : vsR (L ++ F) = vsR L ++ vsR F := by simp [vsR]
    show Gd ((x, o) :: (L ++ F))
    refine Gd.cons (by rw [e]; simp only [List.mem_append, not_or]; exact ⟨hx, d x (by simp [vsR_cons])⟩) (fun p hp => by rw [e]; simp [ho p hp]) (ih fun y hy => d y (by simp [vsR_cons, hy]))
theorem mem_TE {R : List RE} {e : Ed} : e ∈ TE R ↔ ∃ a b, (a, some b) ∈ R ∧ e = tie a b := by
  induction R with
  | nil => simp [TE]
  | cons p R ih =>
    obtain ⟨x, o⟩ := p
    cases o with
    | none => simp only [TE, ih, List.mem_cons]; grind
    | some q => simp only [TE, ih, List.mem_cons]; grind
theorem TE_append (A B : List RE) : TE (A ++ B) = TE A ++ TE B := by
  induction A with
  | nil => rfl
  | cons p A ih =>
    obtain ⟨x, o⟩ := p
    cases o <;> simp [TE, ih]
theorem TE_rev (A : List RE) : (TE A.reverse).Perm (TE A) := by
  induction A with
  | nil => exact List.Perm.refl _
  | cons p A ih =>
    obtain ⟨x, o⟩ := p
    rw [List.reverse_cons, TE_append]
    cases o with
    | none => simpa [TE] using ih
    | some q =>
      have : TE [(x, some q)] = [tie x q] := rfl
      rw [this]
      exact (List.perm_append_comm).trans (ih.cons _)
theorem vsR_rev (A : List RE) : (vsR A.reverse).Perm (vsR A) := (List.reverse_perm A).map _
theorem mem_vsR_rev {A : List RE} {x : Nat} : x ∈ vsR A.reverse ↔ x ∈ vsR A := (vsR_rev A).mem_iff
/-- one part, while its places are told: found, to do (the last one first) -/
structure DF (n : Nat) (es : List Ed) (r : Nat) (found todo : List RE) : Prop where
  gd : Gd found.reverse
  nd : (vsR todo).Nodup
  out : ∀ x ∈ vsR todo, x ∉ vsR found
  lt : ∀ x ∈ vsR (found ++ todo), x < n
  ov : ∀ x o, (x, o) ∈ todo → (o = none ∧ x = r ∧ found = []) ∨ ∃ p, o = some p ∧ p ∈ vsR found ∧ tie x p ∈ es
  sub : ∀ e ∈ TE found, e ∈ es
  cl : ∀ x ∈ vsR found, ∀ y, tie x y ∈ es → y ∈ vsR (found ++ todo)
  rc : ∀ x ∈ vsR (found ++ todo), Rch es r x
  st : (found = [] ∧ todo = [(r, none)]) ∨ (r ∈ vsR found ∧ (TE found).length + 1 = found.length)
theorem DF.start {n : Nat} {es : List Ed} {r : Nat} (h : r < n) : DF n es r [] [(r, none)] :=
  ⟨.nil, by simp [vsR], by simp [vsR], by simp [vsR, h], fun x o m => by simp at m; exact Or.inl ⟨m.2, m.1, rfl⟩, by simp [TE], by simp [vsR], by simp [vsR, Rch.refl], Or.inl ⟨rfl, rfl⟩⟩
theorem vsR_app (A B : List RE) : vsR (A ++ B) = vsR A ++ vsR B := by simp [vsR]
theorem DF.len {n : Nat} {es : List Ed} {r : Nat} {found todo : List RE} (h : DF n es r found todo) : found.length + todo.length ≤ n := by
  have nd : (vsR (found ++ todo)).Nodup := by
    rw [vsR_app, List.nodup_append]
    exact ⟨(vsR_rev found).nodup_iff.mp h.gd.nd, h.nd, fun a ha b hb e => h.out b hb (e ▸ ha)⟩
  have := nd.length_le_of_subset (l₂ := List.range n) fun x hx => List.mem_range.mpr (h.lt x hx)
  simpa [vsR] using this
def others (n : Nat) (es : List Ed) (x : Nat) (o : Option Nat) : List Nat := (nb n es x).filter fun y => decide (some y ≠ o)
theorem DF.new {n : Nat} {es : List Ed} (f : Fo n es) {r x : Nat} {o : Option Nat} {found rest : List RE} (h : DF n es r found (rest ++ [(x, o)])) : ∀ y ∈ others n es x o, y ∉ vsR found ∧ y ∉ vsR rest ∧ y ≠ x ∧ y < n ∧ tie x y ∈ es := by
  intro y hy
  obtain ⟨m, ne⟩ := List.mem_filter.mp hy
  have ne : some y ≠ o := by simpa using ne
  obtain ⟨yl, ye⟩ := mem_nb.mp m
  have yx := (f.adj ye).2.2
  refine Classical.byContradiction fun q => ?_
  have hit : y ∈ vsR found ∨ y ∈ vsR rest := Classical.byContradiction fun z => q ⟨fun w => z (Or.inl w), fun w => z (Or.inr w), fun w => yx w.symm, yl, ye⟩
  have xt : (x, o) ∈ rest ++ [(x, o)] := by simp
  have nd := h.nd
  rw [vsR_app] at nd
  obtain ⟨nd1, _, nd3⟩ := List.nodup_append.mp nd
  have xr : x ∉ vsR rest := fun z => nd3 x z x (by simp [vsR]) rfl
  have xf : x ∉ vsR found := h.out x (by simp [vsR])
  rcases h.st with ⟨e1, e2⟩ | ⟨rf, len⟩
  · have : rest = [] := by
      cases rest with
      | nil => rfl
      | cons a b => simp at e2
    subst this; subst e1
    simp [vsR] at hit
  · have nf : found ≠ [] := fun z => by rw [z] at rf; simp [vsR] at rf
    have ovx := h.ov x o xt
    have gR : Gd (rest ++ [(x, o)] ++ found.reverse) := by
      refine h.gd.app (fun a o' ha => ?_) h.nd
      refine ⟨fun z => h.out a (List.mem_map.mpr ⟨(a, o'), ha, rfl⟩) (mem_vsR_rev.mp z), ?_⟩
      rcases h.ov a o' ha with z | ⟨p, z1, z2, _⟩
      · exact absurd z.2.2 nf
      · exact ⟨p, z1, mem_vsR_rev.mpr z2⟩
    have esR : ∀ e ∈ TE (rest ++ [(x, o)] ++ found.reverse), e ∈ es := fun e he => by
      obtain ⟨a, b, ha, e1⟩ := mem_TE.mp he
      rcases List.mem_append.mp ha with z | z
      · rcases h.ov a (some b) z with w | ⟨p, z1, _, z3⟩
        · cases w.1
        · cases z1; rw [e1]; exact z3
      · exact h.sub e (mem_TE.mpr ⟨a, b, List.mem_reverse.mp z, e1⟩)
    have lT : (TE (rest ++ [(x, o)] ++ found.reverse)).length + 1 = rest.length + 1 + found.length := by
      have l1 : (TE (rest ++ [(x, o)])).length = rest.length + 1 := by
        have : ∀ L : List RE, (∀ a o', (a, o') ∈ L → o' ≠ none) → (TE L).length = L.length := by
          intro L
          induction L with
          | nil => intro _; rfl
          | cons p L ih =>
            intro hL
            obtain ⟨a, o'⟩ := p
            cases o' with
            | none => exact absurd rfl (hL a none (by simp))
            | some b => simp [TE, ih fun a o' z => hL a o' (by simp [z])]
        rw [this _ fun a o' ha => ?_]; · simp
        rcases h.ov a o' ha with z | ⟨p, z1, _, _⟩
        · exact absurd z.2.2 nf
        · rw [z1]; simp
      rw [TE_append, List.length_append, l1, (TE_rev found).length_eq]; omega
    have notin : tie x y ∉ TE (rest ++ [(x, o)] ++ found.reverse) := fun z => by
      obtain ⟨a, b, ha, e1⟩ := mem_TE.mp z
      have bf : b ∈ vsR found := by
        rcases List.mem_append.mp ha with w | w
        · rcases h.ov a (some b) w with u | ⟨p, z1, z2, _⟩
          · cases u.1
          · cases z1; exact z2
        · have := gR.nd
          -- b stands in found, for found is in order
          have : ∀ {F : List RE}, Gd F → (a, some b) ∈ F → b ∈ vsR F := by
            intro F g
            induction g with
            | nil => simp
            | @cons x' o' R' h1 h2 _ ih =>
              intro m
              rcases List.mem_cons.mp m with u | u
              · cases u; rw [vsR_cons]; simp [h2 b rfl]
              · rw [vsR_cons]; simp [ih u]
          exact mem_vsR_rev.mp (this h.gd w)
      rcases tie_eq.mp e1 with ⟨e2, e3⟩ | ⟨e2, e3⟩
      · subst e2; subst e3
        rcases List.mem_append.mp ha with w | w
        · rcases List.mem_append.mp w with w | w
          · exact xr (List.mem_map.mpr ⟨_, w, rfl⟩)
          · simp at w; exact ne w
        · exact xf (List.mem_map.mpr ⟨_, List.mem_reverse.mp w, rfl⟩)
      · exact xf (e2 ▸ bf)
    have b := f.bound (S := vsR (rest ++ [(x, o)] ++ found.reverse)) (T := tie x y :: TE (rest ++ [(x, o)] ++ found.reverse)) (by simp [vsR]) (List.nodup_cons.mpr ⟨notin, gR.ff.edup⟩)
      (fun s hs => h.lt s (by
        rw [vsR_app, vsR_app] at hs ⊢
        rcases List.mem_append.mp hs with z | z
        · simp only [List.mem_append] at z ⊢; exact Or.inr z
        · simp [mem_vsR_rev.mp z]))
      (fun e he => by
        rcases List.mem_cons.mp he with z | z
        · subst z
          have xm : x ∈ vsR (rest ++ [(x, o)] ++ found.reverse) := by simp [vsR]
          have ym : y ∈ vsR (rest ++ [(x, o)] ++ found.reverse) := by
            rw [vsR_app, vsR_app]
            rcases hit with w | w
            · simp [mem_vsR_rev.mpr w]
            · simp [w]
          refine ⟨ye, ?_⟩
          rcases tie_mem1 x y with ⟨a, c⟩ | ⟨a, c⟩ <;> (rw [a, c]; first | exact ⟨xm, ym⟩ | exact ⟨ym, xm⟩)
        · have := TE_mem gR e z
          exact ⟨esR e z, this.1, this.2.1⟩)
    rw [List.length_cons, lT] at b
    simp [vsR] at b
    omega
theorem DF.step {n : Nat} {es : List Ed} (f : Fo n es) {r x : Nat} {o : Option Nat} {found rest : List RE} (h : DF n es r found (rest ++ [(x, o)])) : DF n es r (found ++ [(x, o)]) (rest ++ (others n es x o).map fun y => (y, some x)) := by
  have new := h.new f
  have nd := h.nd
  rw [vsR_app] at nd
  obtain ⟨nd1, _, nd3⟩ := List.nodup_append.mp nd
  have xr : x ∉ vsR rest := fun z => nd3 x z x (by simp [vsR]) rfl
  have xf : x ∉ vsR found := h.out x (by simp [vsR])
  have vm : vsR ((others n es x o).map fun y => (y, some x)) = others n es x o := by simp [vsR, List.map_map, Function.comp_def]
  have ovx := h.ov x o (by simp)
  have xo : ∀ p, o = some p → p ∈ vsR found ∧ tie x p ∈ es := fun p hp => by
    rcases ovx with z | ⟨q, z1, z2, z3⟩
    · rw [z.1] at hp; cases hp
    · rw [z1] at hp; cases hp; exact ⟨z2, z3⟩
  have rx : Rch es r x := h.rc x (by simp [vsR])
  refine ⟨?_, ?_, fun y hy => ?_, fun y hy => ?_, fun y o' hy => ?_, fun e he => ?_, fun y hy z hz => ?_, fun y hy => ?_, ?_⟩
  · rw [List.reverse_append]
    refine Gd.cons (fun z => xf (mem_vsR_rev.mp z)) (fun p hp => mem_vsR_rev.mpr (xo p hp).1) h.gd
  · rw [vsR_app, vm, List.nodup_append]
    refine ⟨nd1, List.Nodup.sublist List.filter_sublist (nb_nodup n es x), fun a ha b hb e => (new b hb).2.1 (e ▸ ha)⟩
  · rw [vsR_app, vm] at hy
    rw [vsR_app]
    rcases List.mem_append.mp hy with z | z
    · have := h.out y (by rw [vsR_app]; simp [z])
      have ne : y ≠ x := fun w => xr (w ▸ z)
      simp [this, vsR, ne]
      simpa [vsR] using this
    · have := new y z
      simp [vsR, this]
      simpa [vsR] using this.1
  · rw [vsR_app, vsR_app, vsR_app, vm] at hy
    simp only [List.mem_append] at hy
    rcases hy with (z | z) | (z | z)
    · exact h.lt y (by rw [vsR_app]; simp [z])
    · exact h.lt y (by rw [vsR_app, vsR_app]; simp [z])
    · exact h.lt y (by rw [vsR_app, vsR_app]; simp [z])
    · exact (new y z).2.2.2.1
  · rcases List.mem_append.mp hy with z | z
    · rcases h.ov y o' (by simp [z]) with w | ⟨p, z1, z2, z3⟩
      · have : y ∈ vsR rest := List.mem_map.mpr ⟨_, z, rfl⟩
        rcases h.st with ⟨_, e2⟩ | ⟨rf, _⟩
        · have : rest = [] := by
            cases rest with
            | nil => rfl
            | cons a b => simp at e2
          rw [this] at z; simp at z
        · rw [w.2.2] at rf; simp [vsR] at rf
      · exact Or.inr ⟨p, z1, by rw [vsR_app]; simp [z2], z3⟩
    · obtain ⟨u, hu, e⟩ := List.mem_map.mp z
      cases e
      exact Or.inr ⟨x, rfl, by simp [vsR], by rw [tie_comm]; exact (new _ hu).2.2.2.2⟩
  · rw [TE_append] at he
    rcases List.mem_append.mp he with z | z
    · exact h.sub e z
    · obtain ⟨a, b, hab, e1⟩ := mem_TE.mp z
      simp at hab
      obtain ⟨q1, q2⟩ := hab
      subst q1
      rw [e1]
      exact (xo b q2.symm).2
  · have zm : z ∈ vsR (found ++ (rest ++ [(x, o)])) ∨ z ∈ others n es x o := by
      rw [vsR_app] at hy
      rcases List.mem_append.mp hy with w | w
      · exact Or.inl (h.cl y w z hz)
      · have : y = x := by simpa [vsR] using w
        subst this
        by_cases q : some z = o
        · exact Or.inl (by rw [vsR_app]; simp [(xo z q.symm).1])
        · exact Or.inr (List.mem_filter.mpr ⟨mem_nb.mpr ⟨(f.adj hz).2.1, hz⟩, by simpa using q⟩)
    rw [vsR_app, vsR_app, vsR_app, vm]
    rcases zm with w | w
    · rw [vsR_app, vsR_app] at w
      simp only [List.mem_append] at w ⊢
      rcases w with w | w | w
      · exact Or.inl (Or.inl w)
      · exact Or.inr (Or.inl w)
      · exact Or.inl (Or.inr w)
    · simp [w]
  · rw [vsR_app, vsR_app, vsR_app, vm] at hy
    simp only [List.mem_append] at hy
    rcases hy with (z | z) | (z | z)
    · exact h.rc y (by rw [vsR_app]; simp [z])
    · exact h.rc y (by rw [vsR_app, vsR_app]; simp [z])
    · exact h.rc y (by rw [vsR_app, vsR_app]; simp [z])
    · exact .step rx (new y z).2.2.2.2
  · refine Or.inr ?_
    rw [vsR_app, TE_append, List.length_append, List.length_append]
    rcases h.st with ⟨e1, e2⟩ | ⟨rf, len⟩
    · subst e1
      have : rest = [] ∧ (x, o) = (r, none) := by
        cases rest with
        | nil => simpa using e2
        | cons a b => simp at e2
      obtain ⟨q1, q2⟩ := this
      cases q2
      simp [vsR, TE]
    · have nf : found ≠ [] := fun z => by rw [z] at rf; simp [vsR] at rf
      rcases ovx with z | ⟨q, z1, z2, z3⟩
      · exact absurd z.2.2 nf
      · subst z1
        refine ⟨by simp [rf], ?_⟩
        simp [TE]; omega
theorem DF.done {n : Nat} {es : List Ed} {r : Nat} {found : List RE} (h : DF n es r found []) : (∀ x, x ∈ vsR found ↔ x < n ∧ Rch es r x) ∧ (TE found).length + 1 = found.length := by
  rcases h.st with ⟨_, e2⟩ | ⟨rf, len⟩
  · cases e2
  · refine ⟨fun x => ⟨fun hx => ⟨h.lt x (by simpa using hx), h.rc x (by simpa using hx)⟩, fun hx => ?_⟩, len⟩
    exact hx.2.closed (p := fun x => x ∈ vsR found) (fun a b ha hb => by simpa using h.cl a ha b hb) rf
/-- all parts whose roots are told -/
structure DA (n : Nat) (es : List Ed) (rs : List Nat) (found : List RE) : Prop where
  gd : Gd found.reverse
  mem : ∀ x, x ∈ vsR found ↔ x < n ∧ ∃ r ∈ rs, Rch es r x
  len : (TE found).length + rs.length = found.length
  sub : ∀ e ∈ TE found, e ∈ es
theorem DA.start (n : Nat) (es : List Ed) : DA n es [] [] := ⟨.nil, by simp [vsR], rfl, by simp [TE]⟩
theorem DA.step {n : Nat} {es : List Ed} {rs : List Nat} {r : Nat} {F found : List RE} (h : DA n es rs F) (d : DF n es r found []) (hr : r ∈ roots n es) (hrs : ∀ s ∈ rs, s ∈ roots n es) (nr : r ∉ rs) : DA n es (rs ++ [r]) (F ++ found) := by
  obtain ⟨m, l⟩ := d.done
  refine ⟨?_, fun x => ?_, ?_, fun e he => ?_⟩
  · rw [List.reverse_append]
    refine h.gd.append d.gd fun x hx hy => ?_
    have a := (m x).mp (mem_vsR_rev.mp hx)
    obtain ⟨_, s, hs, q⟩ := (h.mem x).mp (mem_vsR_rev.mp hy)
    exact nr ((roots_one hr (hrs s hs) (a.2.trans q.symm)) ▸ hs)
  · rw [vsR_app, List.mem_append, h.mem, m]
    constructor
    · rintro (⟨a, s, hs, q⟩ | ⟨a, q⟩)
      · exact ⟨a, s, by simp [hs], q⟩
      · exact ⟨a, r, by simp, q⟩
    · rintro ⟨a, s, hs, q⟩
      rcases List.mem_append.mp hs with z | z
      · exact Or.inl ⟨a, s, z, q⟩
      · have : s = r := by simpa using z
        exact Or.inr ⟨a, this ▸ q⟩
  · rw [TE_append]; simp only [List.length_append, List.length_singleton]; have := h.len; omega
  · rw [TE_append] at he
    rcases List.mem_append.mp he with z | z
    · exact h.sub e z
    · exact d.sub e z
theorem perm_of_len {A B : List Ed} (hA : A.Nodup) (hB : B.Nodup) (s : ∀ e ∈ A, e ∈ B) (l : B.length ≤ A.length) : A.Perm B := by
  have p := perm_filter_of_subset hA hB s
  have : B.filter (fun e => A.contains e) = B := List.filter_sublist.eq_of_length (by have := p.length_eq; have := List.length_filter_le (fun e => A.contains e) B; omega)
  rwa [this] at p
theorem DA.done {n : Nat} {es : List Ed} (f : Fo n es) {F : List RE} (h : DA n es (roots n es) F) : Ord n es F.reverse := by
  have nd := h.gd.nd
  have pv : (vsR F.reverse).Perm (List.range n) := by
    refine (List.perm_ext_iff_of_nodup nd List.nodup_range).mpr fun x => ?_
    rw [mem_vsR_rev, h.mem, List.mem_range]
    exact ⟨fun q => q.1, fun q => by obtain ⟨r, hr, rr, _⟩ := root_of (es := es) x q; exact ⟨q, r, hr, rr⟩⟩
  refine ⟨h.gd, pv, ?_⟩
  have l1 := f.parts
  have l2 := h.len
  have l3 := pv.length_eq
  have l4 := (TE_rev F).length_eq
  simp only [vsR, List.length_map, List.length_reverse, List.length_range] at l3
  refine perm_of_len h.gd.ff.edup f.edup (fun e he => h.sub e ((TE_rev F).mem_iff.mp he)) (by omega)
end G37
namespace G37
/-! ### ways along ties -/
def wayE : List Nat → List Ed
  | a :: b :: r => tie a b :: wayE (b :: r)
  | _ => []
theorem wayE_len : ∀ (w : List Nat), (wayE w).length = w.length - 1
  | [] => rfl
  | [_] => rfl
  | a :: b :: r => by simp only [wayE, List.length_cons, wayE_len (b :: r)]; omega
theorem wayE_mem : ∀ {w : List Nat} {e : Ed}, e ∈ wayE w → e.1 ∈ w ∧ e.2 ∈ w
  | [], _, h => by simp [wayE] at h
  | [_], _, h => by simp [wayE] at h
  | a :: b :: r, e, h => by
    simp only [wayE] at h
    rcases List.mem_cons.mp h with q | q
    · subst q
      rcases tie_mem1 a b with ⟨x, y⟩ | ⟨x, y⟩ <;> (rw [x, y]; simp)
    · have := wayE_mem q; exact ⟨by simp [this.1], by simp [this.2]⟩
theorem wayE_nodup : ∀ {w : List Nat}, w.Nodup → (wayE w).Nodup
  | [], _ => List.nodup_nil
  | [_], _ => List.nodup_nil
  | a :: b :: r, h => by
    obtain ⟨h1, h2⟩ := List.nodup_cons.mp h
    simp only [wayE]
    refine List.nodup_cons.mpr ⟨fun q => ?_, wayE_nodup h2⟩
    have := wayE_mem q
    rcases tie_mem1 a b with ⟨x, y⟩ | ⟨x, y⟩ <;> (rw [x, y] at this; first | exact h1 this.1 | exact h1 this.2)
theorem wayE_snoc : ∀ (w : List Nat) (l y : Nat), wayE (w ++ [l] ++ [y]) = wayE (w ++ [l]) ++ [tie l y]
  | [], l, y => rfl
  | [a], l, y => rfl
  | a :: b :: r, l, y => by
    have := wayE_snoc (b :: r) l y
    simp only [List.cons_append, wayE] at this ⊢
    rw [this]
theorem wayE_rev : ∀ (w : List Nat), (wayE w.reverse).Perm (wayE w)
  | [] => List.Perm.refl _
  | [_] => List.Perm.refl _
  | a :: b :: r => by
    have ih := wayE_rev (b :: r)
    rw [List.reverse_cons, List.reverse_cons] at *
    rw [wayE_snoc, tie_comm]
    exact (List.perm_append_comm).trans (ih.cons _)
theorem wayE_get : ∀ (w : List Nat) (k x y : Nat), w[k]? = some x → w[k + 1]? = some y → tie x y ∈ wayE w
  | [], _, _, _, h, _ => by simp at h
  | [_], 0, _, _, _, h => by simp at h
  | [_], k + 1, _, _, h, _ => by simp at h
  | a :: b :: r, 0, x, y, h, h2 => by
    simp at h h2
    subst h; subst h2; simp [wayE]
  | a :: b :: r, k + 1, x, y, h, h2 => by
    have := wayE_get (b :: r) k x y (by simpa using h) (by simpa using h2)
    simp [wayE, this]
theorem wayE_ix : ∀ {w : List Nat} {e : Ed}, e ∈ wayE w → ∃ k x y, w[k]? = some x ∧ w[k + 1]? = some y ∧ e = tie x y
  | [], _, h => by simp [wayE] at h
  | [_], _, h => by simp [wayE] at h
  | a :: b :: r, e, h => by
    simp only [wayE] at h
    rcases List.mem_cons.mp h with q | q
    · exact ⟨0, a, b, rfl, rfl, q⟩
    · obtain ⟨k, x, y, h1, h2, h3⟩ := wayE_ix q
      exact ⟨k + 1, x, y, by simpa using h1, by simpa using h2, h3⟩
def inner (w : List Nat) : List Nat := (w.drop 1).dropLast
theorem inner_ix {w : List Nat} {v : Nat} (h : v ∈ inner w) : ∃ i x y, w[i]? = some x ∧ w[i + 1]? = some v ∧ w[i + 2]? = some y := by
  obtain ⟨i, hi, e⟩ := List.mem_iff_getElem.mp h
  simp only [inner, List.length_dropLast, List.length_drop] at hi
  simp only [inner, List.getElem_dropLast, List.getElem_drop] at e
  refine ⟨i, w[i]'(by omega), w[i + 2]'(by omega), ?_, ?_, ?_⟩
  · exact List.getElem?_eq_getElem _
  · rw [List.getElem?_eq_getElem (by omega), ← e]; congr 1; congr 1; omega
  · exact List.getElem?_eq_getElem _
theorem deg_adjL {es : List Ed} (h : ∀ e ∈ es, e.1 < e.2) (v : Nat) : deg es v = (adjL es v).length := by
  induction es with
  | nil => rfl
  | cons e es ih =>
    have ih := ih fun f hf => h f (by simp [hf])
    have he := h e (by simp)
    rw [deg_cons, ih]
    simp only [adjL, List.length_append]
    by_cases q : e.1 = v
    · rw [if_pos (Or.inl q), if_pos q]; simp; omega
    · by_cases q' : e.2 = v
      · rw [if_pos (Or.inr q'), if_neg q, if_pos q']; simp; omega
      · rw [if_neg (by simp [q, q']), if_neg q, if_neg q']; simp
theorem deg_nb {n : Nat} {es : List Ed} (f : Fo n es) (v : Nat) : deg es v = (nb n es v).length := by
  have hh : ∀ e ∈ es, e.1 < e.2 := fun e he => (f.mem e he).2.2
  rw [deg_adjL hh]
  refine List.Perm.length_eq ((List.perm_ext_iff_of_nodup (adjL_nodup hh f.edup v) (nb_nodup n es v)).mpr fun x => ?_)
  rw [mem_adjL hh, mem_nb]
  exact ⟨fun q => ⟨(f.adj q).2.1, q⟩, fun q => q.2⟩
/-- a way that goes on along the ties T -/
structure PWay (n : Nat) (T : List Ed) (w : List Nat) : Prop where
  nd : w.Nodup
  lt : ∀ x ∈ w, x < n
  ch : ∀ e ∈ wayE w, e ∈ T
  hd : ∀ x, w[0]? = some x → (nb n T x).length < 2
  ne : w ≠ []
/-- where it may go on -/
def more (n : Nat) (T : List Ed) (w : List Nat) : List Nat :=
  match w.reverse with
  | l :: p :: _ => (nb n T l).filter fun y => decide (y ≠ p)
  | [l] => nb n T l
  | [] => []
theorem more_one (n : Nat) (T : List Ed) (x : Nat) : more n T [x] = nb n T x := rfl
theorem more_two (n : Nat) (T : List Ed) (w : List Nat) (p l : Nat) : more n T (w ++ [p] ++ [l]) = (nb n T l).filter fun y => decide (y ≠ p) := by
  simp [more]
theorem last_two : ∀ (w : List Nat), w ≠ [] → (∃ l, w = [l]) ∨ ∃ v p l, w = v ++ [p] ++ [l]
  | [], h => absurd rfl h
  | [l], _ => Or.inl ⟨l, rfl⟩
  | a :: b :: r, _ => by
    rcases last_two (b :: r) (by simp) with ⟨l, e⟩ | ⟨v, p, l, e⟩
    · cases e; exact Or.inr ⟨[], a, b, rfl⟩
    · exact Or.inr ⟨a :: v, p, l, by rw [e]; rfl⟩
theorem PWay.step {n : Nat} {T : List Ed} (f : Fo n T) {w : List Nat} (h : PWay n T w) {y : Nat} (hy : y ∈ more n T w) : PWay n T (w ++ [y]) := by
  have key : ∃ v l, w = v ++ [l] ∧ tie l y ∈ T ∧ tie l y ∉ wayE w := by
    rcases last_two w h.ne with ⟨l, e⟩ | ⟨v, p, l, e⟩
    · subst e
      rw [more_one] at hy
      exact ⟨[], l, rfl, (mem_nb.mp hy).2, by simp [wayE]⟩
    · rw [e, more_two] at hy
      obtain ⟨m, ne⟩ := List.mem_filter.mp hy
      have ne : y ≠ p := by simpa using ne
      have ly := (mem_nb.mp m).2
      refine ⟨v ++ [p], l, e, ly, fun q => ?_⟩
      rw [e, wayE_snoc] at q
      have nd := h.nd
      rw [e, List.nodup_append] at nd
      rcases List.mem_append.mp q with z | z
      · have := wayE_mem z
        rcases tie_mem1 l y with ⟨a, b⟩ | ⟨a, b⟩ <;> (rw [a, b] at this; first | exact nd.2.2 l this.1 l (by simp) rfl | exact nd.2.2 l this.2 l (by simp) rfl)
      · have z : tie l y = tie p l := by simpa using z
        rcases tie_eq.mp z with ⟨a, b⟩ | ⟨a, b⟩
        · exact nd.2.2 p (by simp) l (by simp) a.symm
        · exact ne b
  obtain ⟨v, l, e, ty, nin⟩ := key
  have yl := (f.adj ty).2.1
  have lw : l ∈ w := by rw [e]; simp
  have ny : y ∉ w := fun q => by
    have b := f.bound (S := w) (T := tie l y :: wayE w) h.ne (List.nodup_cons.mpr ⟨nin, wayE_nodup h.nd⟩) h.lt fun e' he => by
      rcases List.mem_cons.mp he with z | z
      · subst z
        refine ⟨ty, ?_⟩
        rcases tie_mem1 l y with ⟨a, b⟩ | ⟨a, b⟩ <;> (rw [a, b]; first | exact ⟨lw, q⟩ | exact ⟨q, lw⟩)
      · exact ⟨h.ch e' z, wayE_mem z⟩
    rw [List.length_cons, wayE_len] at b
    have := List.length_pos_of_mem lw
    omega
  refine ⟨?_, fun x hx => ?_, fun e' he => ?_, fun x hx => ?_, by simp⟩
  · rw [List.nodup_append]
    exact ⟨h.nd, by simp, fun a ha b hb z => by
      have : b = y := by simpa using hb
      exact ny (this ▸ z ▸ ha)⟩
  · rcases List.mem_append.mp hx with z | z
    · exact h.lt x z
    · have : x = y := by simpa using z
      exact this ▸ yl
  · rw [e, wayE_snoc] at he
    rcases List.mem_append.mp he with z | z
    · exact h.ch e' (by rw [e]; exact z)
    · have : e' = tie l y := by simpa using z
      exact this ▸ ty
  · have : 0 < w.length := List.length_pos_of_mem lw
    rw [List.getElem?_append_left this] at hx
    exact h.hd x hx
theorem PWay.len {n : Nat} {T : List Ed} {w : List Nat} (h : PWay n T w) : w.length ≤ n := by
  have := h.nd.length_le_of_subset (l₂ := List.range n) fun x hx => List.mem_range.mpr (h.lt x hx)
  rwa [List.length_range] at this
theorem two_of {l : List Nat} (nd : l.Nodup) (h : l.length ≤ 2) {a b y : Nat} (ha : a ∈ l) (hb : b ∈ l) (hy : y ∈ l) (ne : a ≠ b) : y = a ∨ y = b := by
  refine Classical.byContradiction fun q => ?_
  have q1 : y ≠ a := fun z => q (Or.inl z)
  have q2 : y ≠ b := fun z => q (Or.inr z)
  have : ([a, b, y] : List Nat).Nodup := by simp [ne, Ne.symm q1, Ne.symm q2]
  have := this.length_le_of_subset (l₂ := l) (by intro z hz; simp at hz; rcases hz with z | z | z <;> simp_all)
  simp at this; omega
/-- a way at its end: all ties at its places are along it -/
theorem PWay.done {n : Nat} {T : List Ed} (f : Fo n T) (d2 : ∀ v, v < n → (nb n T v).length ≤ 2) {w : List Nat} (h : PWay n T w) (hm : more n T w = []) : ∀ v ∈ w, ∀ y, tie v y ∈ T → tie v y ∈ wayE w := by
  intro v hv y hy
  have yn : y ∈ nb n T v := mem_nb.mpr ⟨(f.adj hy).2.1, hy⟩
  obtain ⟨i, hi, e⟩ := List.mem_iff_getElem.mp hv
  have gi : w[i]? = some v := by rw [List.getElem?_eq_getElem hi, e]
  have nbm : ∀ {x z k}, w[k]? = some x → w[k + 1]? = some z → tie x z ∈ T := fun h1 h2 => h.ch _ (wayE_get w _ _ _ h1 h2)
  by_cases i0 : i = 0
  · subst i0
    by_cases l1 : w.length = 1
    · have : w = [v] := by
        match w, l1, gi with
        | [a], _, g => simp at g; rw [g]
      rw [this, more_one] at hm
      rw [hm] at yn; simp at yn
    · have g1 : w[1]? = some (w[1]'(by omega)) := List.getElem?_eq_getElem _
      have t1 := nbm gi g1
      have m1 : w[1]'(by omega) ∈ nb n T v := mem_nb.mpr ⟨(f.adj t1).2.1, t1⟩
      have l2 := h.hd v gi
      have : y = w[1]'(by omega) := by
        refine Classical.byContradiction fun q => ?_
        have : ([y, w[1]'(by omega)] : List Nat).Nodup := by simpa using q
        have := this.length_le_of_subset (l₂ := nb n T v) (by intro z hz; simp at hz; rcases hz with z | z <;> simp_all)
        simp at this; omega
      rw [this]; exact wayE_get w 0 v _ gi g1
  · obtain ⟨j, rfl⟩ : ∃ j, i = j + 1 := ⟨i - 1, by omega⟩
    have gj : w[j]? = some (w[j]'(by omega)) := List.getElem?_eq_getElem _
    have tj := nbm gj gi
    have mj : w[j]'(by omega) ∈ nb n T v := mem_nb.mpr ⟨(f.adj tj).1, by rw [tie_comm]; exact tj⟩
    by_cases le : j + 2 < w.length
    · have g2 : w[j + 2]? = some (w[j + 2]'le) := List.getElem?_eq_getElem _
      have t2 := nbm gi g2
      have m2 : w[j + 2]'le ∈ nb n T v := mem_nb.mpr ⟨(f.adj t2).2.1, t2⟩
      have ne : w[j]'(by omega) ≠ w[j + 2]'le := fun q => by
        have := (List.getElem_inj h.nd).mp q; omega
      rcases two_of (nb_nodup n T v) (d2 v (h.lt v hv)) mj m2 yn ne with z | z
      · rw [z, tie_comm]; exact wayE_get w j _ _ gj gi
      · rw [z]; exact wayE_get w (j + 1) _ _ gi g2
    · -- the last place
      rcases last_two w h.ne with ⟨l, q⟩ | ⟨u, p, l, q⟩
      · rw [q] at hi; simp at hi
      · have ln : w.length = u.length + 2 := by rw [q]; simp
        have jl : j = u.length := by omega
        have ev : v = l := by
          have : w[j + 1]? = some l := by
            rw [q, List.getElem?_append_right (by simp; omega)]
            simp [jl]
          rw [this] at gi; exact (Option.some.inj gi).symm
        have ep : w[j]? = some p := by
          rw [q, List.append_assoc, List.getElem?_append_right (by omega)]
          simp [jl]
        rw [q, more_two] at hm
        have : y = p := by
          refine Classical.byContradiction fun z => ?_
          have : y ∈ (nb n T l).filter fun y => decide (y ≠ p) := List.mem_filter.mpr ⟨ev ▸ yn, by simpa using z⟩
          rw [hm] at this; simp at this
        rw [this, tie_comm]
        exact wayE_get w j p v ep gi
/-- the ways found so far; seen: their places -/
structure JP (n : Nat) (T : List Ed) (k : Nat) (P : List (List Nat)) : Prop where
  pw : ∀ w ∈ P, PWay n T w
  full : ∀ w ∈ P, ∀ v ∈ w, ∀ y, tie v y ∈ T → tie v y ∈ wayE w
  nd : P.flatten.Nodup
  all : ∀ v, v < k → v < n → (nb n T v).length < 2 → v ∈ P.flatten
theorem JP.start (n : Nat) (T : List Ed) : JP n T 0 [] := ⟨by simp, by simp, by simp, fun v h => by omega⟩
theorem JP.skip {n : Nat} {T : List Ed} {k : Nat} {P : List (List Nat)} (h : JP n T k P) (q : k ∈ P.flatten ∨ ¬ (nb n T k).length < 2) : JP n T (k + 1) P :=
  ⟨h.pw, h.full, h.nd, fun v hv hn hd => by
    by_cases e : v = k
    · subst e; exact q.resolve_right fun z => z hd
    · exact h.all v (by omega) hn hd⟩
theorem JP.closed {n : Nat} {T : List Ed} {k : Nat} {P : List (List Nat)} (h : JP n T k P) {v y : Nat} (hv : v ∈ P.flatten) (ht : tie v y ∈ T) : y ∈ P.flatten := by
  obtain ⟨w, hw, m⟩ := List.mem_flatten.mp hv
  have := wayE_mem (h.full w hw v m y ht)
  refine List.mem_flatten.mpr ⟨w, hw, ?_⟩
  rcases tie_mem1 v y with ⟨a, b⟩ | ⟨a, b⟩ <;> (rw [a, b] at this; first | exact this.2 | exact this.1)
theorem JP.apart {n : Nat} {T : List Ed} {k : Nat} {P : List (List Nat)} (h : JP n T k P) {w : List Nat} (pw : PWay n T w) (hk : ∀ x, w[0]? = some x → x ∉ P.flatten) : ∀ x ∈ w, x ∉ P.flatten := by
  have : ∀ (i : Nat) (x : Nat), w[i]? = some x → x ∉ P.flatten := by
    intro i
    induction i with
    | zero => exact hk
    | succ i ih =>
      intro x hx z
      have hi : i + 1 < w.length := (List.getElem?_eq_some_iff.mp hx).1
      have gi : w[i]? = some (w[i]'(by omega)) := List.getElem?_eq_getElem _
      refine ih _ gi (h.closed z ?_)
      rw [tie_comm]; exact pw.ch _ (wayE_get w i _ _ gi hx)
  intro x hx
  obtain ⟨i, hi, e⟩ := List.mem_iff_getElem.mp hx
  exact this i x (by rw [List.getElem?_eq_getElem hi, e])
theorem JP.add {n : Nat} {T : List Ed} (f : Fo n T) (d2 : ∀ v, v < n → (nb n T v).length ≤ 2) {k : Nat} {P : List (List Nat)} (h : JP n T k P) {w : List Nat} (pw : PWay n T w) (h0 : w[0]? = some k) (hk : k ∉ P.flatten) (hm : more n T w = []) : JP n T (k + 1) (P ++ [w]) := by
  have ap := h.apart pw fun x hx => by rw [h0] at hx; cases hx; exact hk
  refine ⟨fun u hu => ?_, fun u hu => ?_, ?_, fun v hv hn hd => ?_⟩
  · rcases List.mem_append.mp hu with z | z
    · exact h.pw u z
    · have : u = w := by simpa using z
      exact this ▸ pw
  · rcases List.mem_append.mp hu with z | z
    · exact h.full u z
    · have : u = w := by simpa using z
      subst this; exact pw.done f d2 hm
  · rw [List.flatten_append, List.nodup_append]
    refine ⟨h.nd, by simpa using pw.nd, fun a ha b hb e => ?_⟩
    exact ap b (by simpa using hb) (e ▸ ha)
  · rw [List.flatten_append]
    by_cases e : v = k
    · subst e; simp; exact Or.inr (List.mem_of_getElem? h0)
    · simp; have := h.all v (by omega) hn hd; exact Or.inl (by simpa using this)
/-- the head of FF has one neighbour at most -/
theorem FF.head {v : Nat} {vs : List Nat} {es : List Ed} (h : FF (v :: vs) es) : deg es v ≤ 1 := by
  cases h with
  | iso hv hf =>
    rw [deg_zero fun e he => ?_]; · omega
    have := hf.mem e he
    exact ⟨fun z => hv (z ▸ this.1), fun z => hv (z ▸ this.2.1)⟩
  | leaf hv hw hf =>
    rw [deg_cons, deg_zero fun e he => ?_]; · split <;> omega
    have := hf.mem e he
    exact ⟨fun z => hv (z ▸ this.1), fun z => hv (z ▸ this.2.1)⟩
theorem JP.done {n : Nat} {T : List Ed} (f : Fo n T) {P : List (List Nat)} (h : JP n T n P) : P.flatten.Perm (List.range n) ∧ P.length + T.length = n := by
  have all : ∀ v, v < n → v ∈ P.flatten := by
    intro v hv
    refine Classical.byContradiction fun nv => ?_
    obtain ⟨vs, fs, hf, pv, pe⟩ := f.ex
    have g := hf.filter fun x => !P.flatten.contains x
    have vin : v ∈ vs.filter fun x => !P.flatten.contains x := List.mem_filter.mpr ⟨pv.mem_iff.mpr (List.mem_range.mpr hv), by simpa using nv⟩
    match e : vs.filter (fun x => !P.flatten.contains x), g with
    | [], _ => rw [e] at vin; simp at vin
    | u :: us, g =>
      have d := g.head
      have um : u ∈ vs.filter fun x => !P.flatten.contains x := by rw [e]; simp
      obtain ⟨u1, u2⟩ := List.mem_filter.mp um
      have u2 : u ∉ P.flatten := by simpa using u2
      have ul := List.mem_range.mp (pv.mem_iff.mp u1)
      have dT : deg (fs.filter (inS fun x => !P.flatten.contains x)) u = deg T u := by
        rw [← deg_perm pe]
        simp only [deg, List.countP_filter]
        refine List.countP_congr fun e' he' => ?_
        simp only [Bool.and_eq_true, Bool.or_eq_true, beq_iff_eq, inS, Bool.not_eq_true', and_iff_left_iff_imp]
        intro hit
        have et : e' ∈ T := pe.mem_iff.mp he'
        have lt := (f.mem e' et).2.2
        have n1 : ∀ {x y}, tie x y = e' → u = x → x ∉ P.flatten ∧ y ∉ P.flatten := fun {x y} q ux => by
          subst ux
          exact ⟨u2, fun z => u2 (h.closed z (by rw [tie_comm, q]; exact et))⟩
        have := tie_of_lt lt
        rcases hit with z | z
        · have := n1 (x := e'.1) (y := e'.2) this z.symm
          simpa using this
        · have := n1 (x := e'.2) (y := e'.1) (by rw [tie_comm]; exact this) z.symm
          simpa using this.symm
      rw [dT, deg_nb f] at d
      exact u2 (h.all u ul ul (by omega))
  have pm : P.flatten.Perm (List.range n) := (List.perm_ext_iff_of_nodup h.nd List.nodup_range).mpr fun x => by
    rw [List.mem_range]
    refine ⟨fun q => ?_, all x⟩
    obtain ⟨w, hw, m⟩ := List.mem_flatten.mp q
    exact (h.pw w hw).lt x m
  refine ⟨pm, ?_⟩
  have nE : (P.flatMap wayE).Nodup := by
    have nd := h.nd
    clear pm all
    have pw := h.pw
    clear h
    induction P with
    | nil => simp
    | cons w P ih =>
      rw [List.flatten_cons, List.nodup_append] at nd
      rw [List.flatMap_cons, List.nodup_append]
      refine ⟨wayE_nodup nd.1, ih nd.2.1 fun u hu => pw u (by simp [hu]), fun a ha b hb e => ?_⟩
      obtain ⟨u, hu, m⟩ := List.mem_flatMap.mp hb
      have x1 := (wayE_mem ha).1
      have x2 := (wayE_mem m).1
      exact nd.2.2 _ x1 _ (List.mem_flatten.mpr ⟨u, hu, x2⟩) (by rw [e])
  have pT : (P.flatMap wayE).Perm T := (List.perm_ext_iff_of_nodup nE f.edup).mpr fun e => by
    constructor
    · intro he
      obtain ⟨w, hw, m⟩ := List.mem_flatMap.mp he
      exact (h.pw w hw).ch e m
    · intro he
      have lt := (f.mem e he)
      obtain ⟨w, hw, m⟩ := List.mem_flatten.mp (all e.1 lt.1)
      have := h.full w hw e.1 m e.2 (by rw [tie_of_lt lt.2.2]; exact he)
      rw [tie_of_lt lt.2.2] at this
      exact List.mem_flatMap.mpr ⟨w, hw, this⟩
  have l1 := pT.length_eq
  have l2 := pm.length_eq
  rw [List.length_range] at l2
  have l3 : (P.flatMap wayE).length + P.length = P.flatten.length := by
    have ne : ∀ w ∈ P, w ≠ [] := fun w hw => (h.pw w hw).ne
    clear h pm pT nE all l1 l2
    induction P with
    | nil => rfl
    | cons w P ih =>
      have := ih fun u hu => ne u (by simp [hu])
      have w0 : 0 < w.length := List.length_pos_iff.mpr (ne w (by simp))
      simp only [List.flatMap_cons, List.flatten_cons, List.length_append, List.length_cons, wayE_len] at *
      omega
  omega
/-- what a parting is asked to be: P the ways, T the ties along them -/
structure Prt (n : Nat) (T : List Ed) (P : List (List Nat)) : Prop where
  ne : ∀ w ∈ P, w ≠ []
  pm : P.flatten.Perm (List.range n)
  ch : ∀ w ∈ P, ∀ e ∈ wayE w, e ∈ T
  ins : ∀ w ∈ P, ∀ v ∈ inner w, 2 ≤ deg T v
  num : P.length + T.length = n
theorem inner_deg {n : Nat} {T : List Ed} (f : Fo n T) {w : List Nat} (nd : w.Nodup) (ch : ∀ e ∈ wayE w, e ∈ T) : ∀ v ∈ inner w, 2 ≤ deg T v := by
  intro v hv
  obtain ⟨i, x, y, g0, g1, g2⟩ := inner_ix hv
  have t1 := ch _ (wayE_get w i x v g0 g1)
  have t2 := ch _ (wayE_get w (i + 1) v y g1 g2)
  have ne : x ≠ y := fun q => by
    obtain ⟨h0, e0⟩ := List.getElem?_eq_some_iff.mp g0
    obtain ⟨h2, e2⟩ := List.getElem?_eq_some_iff.mp g2
    have := (List.getElem_inj nd).mp (e0.trans (q.trans e2.symm))
    omega
  rw [deg_nb f]
  have : ([x, y] : List Nat).Nodup := by simpa using ne
  have := this.length_le_of_subset (l₂ := nb n T v) (by
    intro z hz; simp at hz
    rcases hz with z | z
    · subst z; exact mem_nb.mpr ⟨(f.adj t1).1, by rw [tie_comm]; exact t1⟩
    · subst z; exact mem_nb.mpr ⟨(f.adj t2).2.1, t2⟩)
  simpa using this
theorem Fo.prt {n : Nat} {T : List Ed} (f : Fo n T) {Z : List (List Nat × List Nat)} {Q : List (List Nat)} (h : JP n T n (Z.map (·.1))) (p : Q.Perm (Z.map (·.2))) (e : ∀ z ∈ Z, z.2 = z.1 ∨ z.2 = z.1.reverse) : Prt n T Q := by
  obtain ⟨pm, num⟩ := h.done f
  have back : ∀ w ∈ Q, ∃ u ∈ Z.map (·.1), w = u ∨ w = u.reverse := fun w hw => by
    obtain ⟨z, hz, e1⟩ := List.mem_map.mp (p.mem_iff.mp hw)
    exact ⟨z.1, List.mem_map.mpr ⟨z, hz, rfl⟩, e1 ▸ e z hz⟩
  have fl : (Z.map (·.2)).flatten.Perm (Z.map (·.1)).flatten := by
    clear h pm num p back
    induction Z with
    | nil => simp
    | cons z Z ih =>
      simp only [List.map_cons, List.flatten_cons]
      have ih := ih fun y hy => e y (by simp [hy])
      rcases e z (by simp) with q | q
      · rw [q]; exact ih.append_left _
      · rw [q]; exact ((List.reverse_perm _).append_right _).trans (ih.append_left _)
  refine ⟨fun w hw => ?_, ?_, fun w hw => ?_, fun w hw => ?_, ?_⟩
  · obtain ⟨u, hu, q⟩ := back w hw
    have := (h.pw u hu).ne
    rcases q with q | q
    · rw [q]; exact this
    · rw [q]; simpa using this
  · have : Q.flatten.Perm (Z.map (·.2)).flatten := p.flatten
    exact this.trans (fl.trans pm)
  · obtain ⟨u, hu, q⟩ := back w hw
    intro e' he'
    rcases q with q | q
    · rw [q] at he'; exact (h.pw u hu).ch e' he'
    · rw [q] at he'; exact (h.pw u hu).ch e' ((wayE_rev u).mem_iff.mp he')
  · obtain ⟨u, hu, q⟩ := back w hw
    rcases q with q | q
    · rw [q]; exact inner_deg f (h.pw u hu).nd (h.pw u hu).ch
    · rw [q]
      refine inner_deg f ((List.reverse_perm u).nodup_iff.mpr (h.pw u hu).nd) fun e' he' => (h.pw u hu).ch e' ((wayE_rev u).mem_iff.mp he')
  · rw [p.length_eq, List.length_map]; rw [List.length_map] at num; exact num
end G37
namespace G37
/-! ### a web without some places -/
def offP (S : List Nat) (v : Nat) : Bool := !S.contains v
def keptL (n : Nat) (S : List Nat) : List Nat := (List.range n).filter (offP S)
def idx (n : Nat) (S : List Nat) (v : Nat) : Nat := (keptL n S).idxOf v
def leftE (n : Nat) (S : List Nat) (es : List Ed) : List Ed := (es.filter (inS (offP S))).map fun e => (idx n S e.1, idx n S e.2)
theorem keptL_up (n : Nat) (S : List Nat) : (keptL n S).Pairwise (· < ·) := List.Pairwise.filter _ List.pairwise_lt_range
theorem keptL_nodup (n : Nat) (S : List Nat) : (keptL n S).Nodup := List.Nodup.sublist List.filter_sublist List.nodup_range
theorem mem_keptL {n : Nat} {S : List Nat} {v : Nat} : v ∈ keptL n S ↔ v < n ∧ v ∉ S := by simp [keptL, offP]
theorem idx_lt {n : Nat} {S : List Nat} {u v : Nat} (hu : u ∈ keptL n S) (hv : v ∈ keptL n S) (h : u < v) : idx n S u < idx n S v := by
  have lu : idx n S u < (keptL n S).length := List.idxOf_lt_length_iff.mpr hu
  have lv : idx n S v < (keptL n S).length := List.idxOf_lt_length_iff.mpr hv
  have eu : (keptL n S)[idx n S u] = u := List.getElem_idxOf lu
  have ev : (keptL n S)[idx n S v] = v := List.getElem_idxOf lv
  have up := List.pairwise_iff_getElem.mp (keptL_up n S)
  refine Classical.byContradiction fun q => ?_
  by_cases e : idx n S u = idx n S v
  · have : (keptL n S)[idx n S u] = (keptL n S)[idx n S v] := by congr 1
    omega
  · have := up (idx n S v) (idx n S u) lv lu (by omega)
    omega
theorem idx_get {n : Nat} {S : List Nat} {k v : Nat} (h : (keptL n S)[k]? = some v) : idx n S v = k := by
  obtain ⟨hk, e⟩ := List.getElem?_eq_some_iff.mp h
  have := (keptL_nodup n S).idxOf_getElem k hk
  rw [e] at this; exact this
theorem idx_bound {n : Nat} {S : List Nat} {v : Nat} (h : v ∈ keptL n S) : idx n S v < (keptL n S).length := List.idxOf_lt_length_iff.mpr h
theorem idx_inj {n : Nat} {S : List Nat} {u v : Nat} (hu : u ∈ keptL n S) (hv : v ∈ keptL n S) (h : idx n S u = idx n S v) : u = v := by
  by_cases a : u < v
  · have := idx_lt hu hv a; omega
  · by_cases b : v < u
    · have := idx_lt hv hu b; omega
    · omega
theorem Fo.left {n : Nat} {es : List Ed} (f : Fo n es) (S : List Nat) : Fo (keptL n S).length (leftE n S es) := by
  obtain ⟨vs, fs, hf, pv, pe⟩ := f.ex
  have g := hf.filter (offP S)
  have km : ∀ x, x ∈ vs.filter (offP S) ↔ x ∈ keptL n S := fun x => by
    rw [List.mem_filter, pv.mem_iff, keptL, List.mem_filter]
  have g2 := g.map (idx n S) fun x hx y hy l => idx_lt ((km x).mp hx) ((km y).mp hy) l
  refine ⟨_, _, g2, ?_, (pe.filter _).map _⟩
  have nd := g2.nodup
  refine (List.perm_ext_iff_of_nodup nd List.nodup_range).mpr fun k => ?_
  rw [List.mem_range, List.mem_map]
  constructor
  · rintro ⟨v, hv, rfl⟩; exact idx_bound ((km v).mp hv)
  · intro hk
    refine ⟨(keptL n S)[k], (km _).mpr (List.getElem_mem _), idx_get (List.getElem?_eq_getElem hk)⟩
theorem in_keptL {n : Nat} {es : List Ed} (f : Fo n es) {S : List Nat} {e : Ed} (h : e ∈ es.filter (inS (offP S))) : e.1 ∈ keptL n S ∧ e.2 ∈ keptL n S := by
  obtain ⟨h1, h2⟩ := List.mem_filter.mp h
  have := f.mem e h1
  simp only [inS, Bool.and_eq_true] at h2
  exact ⟨List.mem_filter.mpr ⟨List.mem_range.mpr this.1, h2.1⟩, List.mem_filter.mpr ⟨List.mem_range.mpr this.2.1, h2.2⟩⟩
theorem Web.left {n : Nat} {es : List Ed} (w : Web n es) (S : List Nat) : Web (keptL n S).length (leftE n S es) := by
  refine ⟨?_, w.fo.left S, ?_⟩
  · have := List.length_filter_le (offP S) (List.range n)
    rw [List.length_range] at this
    exact Nat.le_trans this w.le
  · have h : (es.filter (inS (offP S))).Pairwise ltE := List.Pairwise.filter _ w.up
    rw [leftE, List.pairwise_map]
    have k := fun e => in_keptL w.fo (S := S) (e := e)
    generalize es.filter (inS (offP S)) = fs at *
    induction fs with
    | nil => exact .nil
    | cons e fs ih =>
      obtain ⟨h1, h2⟩ := List.pairwise_cons.mp h
      refine List.pairwise_cons.mpr ⟨fun g hg => ?_, ih h2 fun e' he' => k e' (by simp [he'])⟩
      have a := h1 g hg
      have ke := k e (by simp)
      have kg := k g (by simp [hg])
      rcases a with a | ⟨a, b⟩
      · exact Or.inl (idx_lt ke.1 kg.1 a)
      · exact Or.inr ⟨by show idx n S e.1 = idx n S g.1; rw [a], idx_lt ke.2 kg.2 b⟩
theorem left_M {n : Nat} {es : List Ed} (f : Fo n es) (S : List Nat) : M (leftE n S es) cap2 = M (es.filter (inS (offP S))) cap2 := by
  refine M_map (idx n S) (fun x y hx hy e => ?_) fun _ _ => rfl
  obtain ⟨e1, h1, q1⟩ := hx
  obtain ⟨e2, h2, q2⟩ := hy
  have k1 := in_keptL f h1
  have k2 := in_keptL f h2
  refine idx_inj ?_ ?_ e
  · rcases q1 with q | q <;> (rw [q]; first | exact k1.1 | exact k1.2)
  · rcases q2 with q | q <;> (rw [q]; first | exact k2.1 | exact k2.2)
theorem left_len (n : Nat) (S : List Nat) (es : List Ed) : (leftE n S es).length = es.countP (offB S) := by
  rw [leftE, List.length_map, List.countP_eq_length_filter]
  congr 1
theorem kept_len {n : Nat} {S : List Nat} (nd : S.Nodup) (lt : ∀ v ∈ S, v < n) : (keptL n S).length + S.length = n := by
  have p : (keptL n S ++ S).Perm (List.range n) := by
    refine (List.perm_ext_iff_of_nodup ?_ List.nodup_range).mpr fun x => ?_
    · rw [List.nodup_append]
      exact ⟨keptL_nodup n S, nd, fun a ha b hb e => (mem_keptL.mp ha).2 (e ▸ hb)⟩
    · rw [List.mem_append, mem_keptL, List.mem_range]
      constructor
      · rintro (q | q)
        · exact q.1
        · exact lt x q
      · intro q
        by_cases z : x ∈ S
        · exact Or.inr z
        · exact Or.inl ⟨q, z⟩
  have := p.length_eq
  simpa using this
theorem sum_cap (S : List Nat) : ∀ (B : List Nat), (B.map (capS S)).sum + (B.filter fun v => S.contains v).length = 2 * B.length
  | [] => rfl
  | v :: B => by
    have := sum_cap S B
    simp only [List.map_cons, List.sum_cons, List.filter_cons, List.length_cons, capS]
    by_cases q : v ∈ S
    · rw [if_pos q, if_pos (by simpa using q), List.length_cons]; omega
    · rw [if_neg q, if_neg (by simpa using q)]; omega
/-- a bar paper's numbers -/
theorem bar_num {n : Nat} {es T : List Ed} {B S : List Nat} (f : Fo n es) (t : Taken n es (capS S) T B) {p : Nat} (hp : p + T.length = n) : ((roots (keptL n B).length (leftE n B es)).length : Int) - (B.length : Int) + ((B.filter fun v => S.contains v).length : Int) = (p : Int) := by
  have a := (f.left B).parts
  have b := left_len n B es
  have c := kept_len t.bnd t.bsub
  have d := sum_cap S B
  have e := t.num
  omega
/-! ### part by part -/
noncomputable def esOf (n : Nat) (es : List Ed) (r : Nat) : List Ed := es.filter (inS fun v => (comp n es r).contains v)
noncomputable def outOf (n : Nat) (es : List Ed) (r : Nat) : List Nat := (List.range n).filter fun v => !(comp n es r).contains v
theorem kept_out (n : Nat) (es : List Ed) (r : Nat) : keptL n (outOf n es r) = comp n es r := by
  have h : ∀ v, v ∈ keptL n (outOf n es r) ↔ v ∈ comp n es r := fun v => by
    rw [mem_keptL, outOf, List.mem_filter, List.mem_range]
    have : v ∈ comp n es r → v < n := fun q => (mem_comp.mp q).1
    simp only [Bool.not_eq_true', List.contains_eq_mem, decide_eq_false_iff_not, not_and, Classical.not_not]
    exact ⟨fun q => q.2 q.1, fun q => ⟨this q, fun _ => q⟩⟩
  exact List.Perm.eq_of_pairwise (le := (· < ·)) (fun a b _ _ h1 h2 => by omega) (keptL_up _ _) (List.Pairwise.filter _ List.pairwise_lt_range)
    ((List.perm_ext_iff_of_nodup (keptL_nodup _ _) (List.Nodup.sublist List.filter_sublist List.nodup_range)).mpr h)
theorem filter_out {n : Nat} {es : List Ed} (f : Fo n es) (r : Nat) : es.filter (inS (offP (outOf n es r))) = esOf n es r := by
  refine List.filter_congr fun e he => ?_
  have := f.mem e he
  have k : ∀ v, v < n → offP (outOf n es r) v = (comp n es r).contains v := fun v hv => by
    simp only [offP, outOf, List.contains_eq_mem, List.mem_filter, List.mem_range, hv, true_and]
    simp
  simp only [inS, k _ this.1, k _ this.2.1]
theorem alone_few {n : Nat} {es : List Ed} (f : Fo n es) (r : Nat) : M (leftE n (outOf n es r) es) cap2 = M (esOf n es r) cap2 := by
  rw [left_M f, filter_out f]
theorem esOf_mem {n : Nat} {es : List Ed} {r : Nat} {e : Ed} (f : Fo n es) : e ∈ esOf n es r ↔ e ∈ es ∧ Rch es r e.1 := by
  rw [esOf, List.mem_filter]
  refine and_congr_right fun he => ?_
  have := f.mem e he
  simp only [inS, List.contains_eq_mem, Bool.and_eq_true, decide_eq_true_eq, mem_comp]
  refine ⟨fun q => q.1.2, fun q => ⟨⟨this.1, q⟩, this.2.1, .step q ?_⟩⟩
  rw [tie_of_lt this.2.2]; exact he
theorem split_M {n : Nat} {es : List Ed} (f : Fo n es) : ∀ {rs : List Nat}, (∀ r ∈ rs, r ∈ roots n es) → rs.Nodup → M (rs.flatMap (esOf n es)) cap2 = rs.foldr (fun r m => bth (M (esOf n es r) cap2) m) (0, 1)
  | [], _, _ => rfl
  | r :: rs, h, nd => by
    obtain ⟨n1, n2⟩ := List.nodup_cons.mp nd
    rw [List.flatMap_cons, M_append, split_M f (fun s hs => h s (by simp [hs])) n2]
    · rfl
    · intro e he g hg
      obtain ⟨s, hs, hg⟩ := List.mem_flatMap.mp hg
      have a := (esOf_mem f).mp he
      have b := (esOf_mem f).mp hg
      have ne : ∀ x y, Rch es r x → Rch es s y → x ≠ y := fun x y p q z => by
        subst z
        have := roots_one (h r (by simp)) (h s (by simp [hs])) (p.trans q.symm)
        exact n1 (this ▸ hs)
      have two : ∀ {e : Ed} {r : Nat}, e ∈ es ∧ Rch es r e.1 → Rch es r e.2 := fun {e r} q => .step q.2 (by rw [tie_of_lt (f.mem e q.1).2.2]; exact q.1)
      exact ⟨ne _ _ a.2 b.2, ne _ _ a.2 (two b), ne _ _ (two a) b.2, ne _ _ (two a) (two b)⟩
theorem split_perm {n : Nat} {es : List Ed} (f : Fo n es) : ((roots n es).flatMap (esOf n es)).Perm es := by
  have nd : ∀ {rs : List Nat}, (∀ r ∈ rs, r ∈ roots n es) → rs.Nodup → (rs.flatMap (esOf n es)).Nodup := by
    intro rs
    induction rs with
    | nil => intro _ _; simp
    | cons r rs ih =>
      intro h nd
      obtain ⟨n1, n2⟩ := List.nodup_cons.mp nd
      rw [List.flatMap_cons, List.nodup_append]
      refine ⟨List.Nodup.sublist List.filter_sublist f.edup, ih (fun s hs => h s (by simp [hs])) n2, fun e he g hg z => ?_⟩
      obtain ⟨s, hs, hg⟩ := List.mem_flatMap.mp hg
      have a := (esOf_mem f).mp he
      have b := (esOf_mem f).mp hg
      rw [← z] at b
      have := roots_one (h r (by simp)) (h s (by simp [hs])) (a.2.trans b.2.symm)
      exact n1 (this ▸ hs)
  refine (List.perm_ext_iff_of_nodup (nd (fun _ h => h) (roots_nodup n es)) f.edup).mpr fun e => ?_
  rw [List.mem_flatMap]
  constructor
  · rintro ⟨r, _, he⟩; exact ((esOf_mem f).mp he).1
  · intro he
    obtain ⟨r, hr, q, _⟩ := root_of (es := es) e.1 (f.mem e he).1
    exact ⟨r, hr, (esOf_mem f).mpr ⟨he, q⟩⟩
theorem comp_total (n : Nat) (es : List Ed) : ((roots n es).map fun r => (comp n es r).length).sum = n := by
  have : ((roots n es).flatMap (comp n es)).Perm (List.range n) := by
    refine (List.perm_ext_iff_of_nodup ?_ List.nodup_range).mpr fun x => ?_
    · have nd : ∀ {rs : List Nat}, (∀ r ∈ rs, r ∈ roots n es) → rs.Nodup → (rs.flatMap (comp n es)).Nodup := by
        intro rs
        induction rs with
        | nil => intro _ _; simp
        | cons r rs ih =>
          intro h nd
          obtain ⟨n1, n2⟩ := List.nodup_cons.mp nd
          rw [List.flatMap_cons, List.nodup_append]
          refine ⟨List.Nodup.sublist List.filter_sublist List.nodup_range, ih (fun s hs => h s (by simp [hs])) n2, fun a ha b hb z => ?_⟩
          obtain ⟨s, hs, hb⟩ := List.mem_flatMap.mp hb
          subst z
          have := roots_one (h r (by simp)) (h s (by simp [hs])) ((mem_comp.mp ha).2.trans (mem_comp.mp hb).2.symm)
          exact n1 (this ▸ hs)
      exact nd (fun _ h => h) (roots_nodup n es)
    · rw [List.mem_flatMap, List.mem_range]
      constructor
      · rintro ⟨r, _, h⟩; exact (mem_comp.mp h).1
      · intro h
        obtain ⟨r, hr, q, _⟩ := root_of (es := es) x h
        exact ⟨r, hr, mem_comp.mpr ⟨h, q⟩⟩
  have l := this.length_eq
  rw [List.length_range, List.length_flatMap] at l
  exact l
/-- the running total and product, over the parts told so far -/
noncomputable def totR (n : Nat) (es : List Ed) (rs : List Nat) : Int := (rs.map fun r => ((comp n es r).length : Int) - (nu (esOf n es r) cap2 : Int)).sum
noncomputable def prodR (n : Nat) (es : List Ed) (rs : List Nat) : Int := rs.foldl (fun m r => m * (cnt (esOf n es r) cap2 : Int)) 1
theorem totR_snoc (n : Nat) (es : List Ed) (rs : List Nat) (r : Nat) : totR n es (rs ++ [r]) = totR n es rs + (((comp n es r).length : Int) - (nu (esOf n es r) cap2 : Int)) := by simp [totR]
theorem prodR_snoc (n : Nat) (es : List Ed) (rs : List Nat) (r : Nat) : prodR n es (rs ++ [r]) = prodR n es rs * (cnt (esOf n es r) cap2 : Int) := by simp [prodR]
theorem fold_nu (n : Nat) (es : List Ed) : ∀ rs : List Nat, (rs.foldr (fun r m => bth (M (esOf n es r) cap2) m) (0, 1)).1 = (rs.map fun r => nu (esOf n es r) cap2).sum
  | [] => rfl
  | r :: rs => by
    have := fold_nu n es rs
    rw [List.foldr_cons, List.map_cons, List.sum_cons, ← this]; rfl
theorem fold_cnt (n : Nat) (es : List Ed) : ∀ (rs : List Nat) (k : Int), rs.foldl (fun m r => m * (cnt (esOf n es r) cap2 : Int)) k = k * ((rs.foldr (fun r m => bth (M (esOf n es r) cap2) m) (0, 1)).2 : Int)
  | [], k => by simp
  | r :: rs, k => by
    rw [List.foldl_cons, fold_cnt n es rs, List.foldr_cons]
    simp only [bth]
    rw [Int.natCast_mul, ← Int.mul_assoc]; rfl
theorem totR_all {n : Nat} {es : List Ed} (f : Fo n es) : totR n es (roots n es) = (n : Int) - (nu es cap2 : Int) := by
  have a : nu es cap2 = ((roots n es).map fun r => nu (esOf n es r) cap2).sum := by
    rw [← fold_nu, ← split_M f (fun _ h => h) (roots_nodup n es), M_perm (split_perm f)]; rfl
  have b := comp_total n es
  have c : ∀ rs : List Nat, totR n es rs = (((rs.map fun r => (comp n es r).length).sum : Nat) : Int) - (((rs.map fun r => nu (esOf n es r) cap2).sum : Nat) : Int) := by
    intro rs
    induction rs with
    | nil => rfl
    | cons r rs ih =>
      simp only [totR, List.map_cons, List.sum_cons] at ih ⊢
      rw [ih]; omega
  rw [c, b, ← a]
theorem prodR_all {n : Nat} {es : List Ed} (f : Fo n es) : prodR n es (roots n es) = (cnt es cap2 : Int) := by
  rw [prodR, fold_cnt, ← split_M f (fun _ h => h) (roots_nodup n es), M_perm (split_perm f), Int.one_mul]; rfl
end G37
namespace G37
/-! ### bits -/
theorem bit_zero (X : Nat) : X.testBit 0 = decide (X % 2 = 1) := Nat.testBit_zero X
theorem bit_succ (X i : Nat) : X.testBit (i + 1) = (X / 2).testBit i := Nat.testBit_succ X i
theorem bit_two (a : Nat) (b : Bool) (i : Nat) : (2 * a + b.toNat).testBit i = match i with | 0 => b | i + 1 => a.testBit i := by
  cases i with
  | zero => rw [bit_zero]; cases b <;> simp <;> omega
  | succ i => rw [bit_succ]; congr 1; cases b <;> simp <;> omega
theorem bit_add : ∀ {v X : Nat}, X.testBit v = false → ∀ u, (X + 2 ^ v).testBit u = (decide (u = v) || X.testBit u)
  | 0, X, h, u => by
    rw [bit_zero] at h
    have h : X % 2 = 0 := by
      have := of_decide_eq_false h; omega
    cases u with
    | zero => rw [bit_zero]; simp; omega
    | succ u => rw [bit_succ, bit_succ, show (X + 2 ^ 0) / 2 = X / 2 by simp; omega]; simp
  | v + 1, X, h, u => by
    rw [bit_succ] at h
    cases u with
    | zero => rw [bit_zero, bit_zero, Nat.pow_succ, show (X + 2 ^ v * 2) % 2 = X % 2 by omega]; simp
    | succ u =>
      have := bit_add (v := v) (X := X / 2) h u
      rw [bit_succ, bit_succ, show (X + 2 ^ (v + 1)) / 2 = X / 2 + 2 ^ v by rw [Nat.pow_succ]; omega, this]; simp
theorem bit_le : ∀ {v X : Nat}, X.testBit v = true → 2 ^ v ≤ X
  | 0, X, h => by
    rw [bit_zero] at h
    have := of_decide_eq_true h
    simp; omega
  | v + 1, X, h => by
    rw [bit_succ] at h
    have := bit_le h
    rw [Nat.pow_succ]; omega
theorem bit_sub : ∀ {v X : Nat}, X.testBit v = true → ∀ u, (X - 2 ^ v).testBit u = (decide (u ≠ v) && X.testBit u)
  | 0, X, h, u => by
    rw [bit_zero] at h
    have h : X % 2 = 1 := of_decide_eq_true h
    cases u with
    | zero => rw [bit_zero]; simp; omega
    | succ u => rw [bit_succ, bit_succ, show (X - 2 ^ 0) / 2 = X / 2 by simp; omega]; simp
  | v + 1, X, h, u => by
    rw [bit_succ] at h
    have le := bit_le h
    cases u with
    | zero => rw [bit_zero, bit_zero, Nat.pow_succ, show (X - 2 ^ v * 2) % 2 = X % 2 by omega]; simp
    | succ u =>
      have := bit_sub (v := v) (X := X / 2) h u
      rw [bit_succ, bit_succ, show (X - 2 ^ (v + 1)) / 2 = X / 2 - 2 ^ v by rw [Nat.pow_succ]; omega, this]; simp
theorem and_two (a b c d : Nat) (hc : c < 2) (hd : d < 2) : (2 * a + c) &&& (2 * b + d) = 2 * (a &&& b) + (c &&& d) := by
  apply Nat.eq_of_testBit_eq
  intro i
  cases i with
  | zero =>
    rw [Nat.testBit_and, bit_zero, bit_zero, bit_zero]
    have h1 : (2 * a + c) % 2 = c := by omega
    have h2 : (2 * b + d) % 2 = d := by omega
    rcases (show c = 0 ∨ c = 1 by omega) with rfl | rfl <;> rcases (show d = 0 ∨ d = 1 by omega) with rfl | rfl <;> simp <;> omega
  | succ i =>
    rw [Nat.testBit_and, bit_succ, bit_succ, bit_succ]
    have h1 : (2 * a + c) / 2 = a := by omega
    have h2 : (2 * b + d) / 2 = b := by omega
    have h3 : (2 * (a &&& b) + (c &&& d)) / 2 = a &&& b := by
      have : c &&& d < 2 := Nat.lt_of_le_of_lt Nat.and_le_left hc
      omega
    rw [h1, h2, h3, Nat.testBit_and]
theorem low_bit : ∀ (X : Nat), 0 < X → ∃ v, X.testBit v = true ∧ X &&& (X - 1) = X - 2 ^ v := by
  intro X
  induction X using Nat.strongRecOn with
  | ind X ih =>
    intro hX
    by_cases q : X % 2 = 1
    · refine ⟨0, by rw [bit_zero]; simpa using q, ?_⟩
      have e1 : X = 2 * (X / 2) + 1 := by omega
      have e2 : X - 1 = 2 * (X / 2) + 0 := by omega
      have := and_two (X / 2) (X / 2) 1 0 (by omega) (by omega)
      rw [← e1, ← e2, Nat.and_self] at this
      rw [this]; simp; omega
    · have h2 : 0 < X / 2 := by omega
      obtain ⟨v, hv, e⟩ := ih (X / 2) (by omega) h2
      refine ⟨v + 1, by rw [bit_succ]; exact hv, ?_⟩
      have e1 : X = 2 * (X / 2) + 0 := by omega
      have e2 : X - 1 = 2 * (X / 2 - 1) + 1 := by omega
      have := and_two (X / 2) (X / 2 - 1) 0 1 (by omega) (by omega)
      rw [← e1, ← e2, e] at this
      have le := bit_le hv
      rw [this, Nat.pow_succ]; simp; omega
def subm (s r : Nat) : Prop := s &&& r = s
theorem subm_iff {s r : Nat} : subm s r ↔ ∀ i, s.testBit i = true → r.testBit i = true := by
  constructor
  · intro h i hi
    have : (s &&& r).testBit i = true := by rw [h]; exact hi
    rw [Nat.testBit_and, Bool.and_eq_true] at this
    exact this.2
  · intro h
    apply Nat.eq_of_testBit_eq
    intro i
    rw [Nat.testBit_and]
    cases hs : s.testBit i with
    | false => rfl
    | true => rw [h i hs]; rfl
theorem subm_le {s r : Nat} (h : subm s r) : s ≤ r := by
  have : s &&& r ≤ r := Nat.and_le_right
  rwa [h] at this
theorem subm_next : ∀ (s t r : Nat), subm s r → subm t r → t < s → t ≤ (s - 1) &&& r := by
  intro s
  induction s using Nat.strongRecOn with
  | ind s ih =>
    intro t r hs ht l
    have hs2 : subm (s / 2) (r / 2) := subm_iff.mpr fun i hi => by
      rw [← bit_succ] at hi ⊢; exact subm_iff.mp hs _ hi
    have ht2 : subm (t / 2) (r / 2) := subm_iff.mpr fun i hi => by
      rw [← bit_succ] at hi ⊢; exact subm_iff.mp ht _ hi
    have t0 : t % 2 ≤ r % 2 := by
      have := subm_iff.mp ht 0
      rw [bit_zero, bit_zero] at this
      simp only [decide_eq_true_eq] at this
      omega
    have er : r = 2 * (r / 2) + r % 2 := by omega
    by_cases q : s % 2 = 1
    · have e2 : s - 1 = 2 * (s / 2) + 0 := by omega
      have := and_two (s / 2) (r / 2) 0 (r % 2) (by omega) (by omega)
      rw [← e2, ← er] at this
      rw [this]
      have : s / 2 &&& r / 2 = s / 2 := hs2
      rw [this]; simp; omega
    · have e2 : s - 1 = 2 * (s / 2 - 1) + 1 := by omega
      have := and_two (s / 2 - 1) (r / 2) 1 (r % 2) (by omega) (by omega)
      rw [← e2, ← er] at this
      rw [this]
      have i1 := ih (s / 2) (by omega) (t / 2) (r / 2) hs2 ht2 (by omega)
      have : 1 &&& r % 2 = r % 2 := by
        rcases (show r % 2 = 0 ∨ r % 2 = 1 by omega) with z | z <;> rw [z] <;> rfl
      rw [this]; omega
/-- what within() has found so far -/
structure WI (r : Nat) (found : List Nat) (last : Nat) : Prop where
  lst : found.getLast? = some last
  sub : ∀ s ∈ found, subm s r
  nd : found.Nodup
  ge : ∀ s ∈ found, last ≤ s
  all : ∀ t, subm t r → last ≤ t → t ∈ found
theorem WI.start (r : Nat) : WI r [r] r :=
  ⟨rfl, by simp [subm], by simp, by simp, fun t ht h => by have := subm_le ht; simp; omega⟩
theorem WI.step {r : Nat} {found : List Nat} {last : Nat} (h : WI r found last) (hl : last ≠ 0) : WI r (found ++ [(last - 1) &&& r]) ((last - 1) &&& r) ∧ (last - 1) &&& r < last := by
  have lm : last ∈ found := List.mem_of_getLast? h.lst
  have lt : (last - 1) &&& r < last := Nat.lt_of_le_of_lt Nat.and_le_left (by omega)
  refine ⟨⟨by simp, fun s hs => ?_, ?_, fun s hs => ?_, fun t ht hle => ?_⟩, lt⟩
  · rcases List.mem_append.mp hs with z | z
    · exact h.sub s z
    · have : s = (last - 1) &&& r := by simpa using z
      rw [this]
      refine subm_iff.mpr fun i hi => ?_
      rw [Nat.testBit_and, Bool.and_eq_true] at hi; exact hi.2
  · rw [List.nodup_append]
    refine ⟨h.nd, by simp, fun a ha b hb e => ?_⟩
    have : b = (last - 1) &&& r := by simpa using hb
    have := h.ge a ha
    omega
  · rcases List.mem_append.mp hs with z | z
    · have := h.ge s z; omega
    · have : s = (last - 1) &&& r := by simpa using z
      omega
  · by_cases q : last ≤ t
    · simp [h.all t ht q]
    · have := subm_next last t r (h.sub last lm) ht (by omega)
      have : t = (last - 1) &&& r := by omega
      simp [this]
theorem WI.done {r : Nat} {found : List Nat} (h : WI r found 0) : found.Nodup ∧ ∀ s, s ∈ found ↔ subm s r :=
  ⟨h.nd, fun s => ⟨h.sub s, fun q => h.all s q (Nat.zero_le _)⟩⟩
theorem bit_full (n i : Nat) : (2 ^ n - 1).testBit i = decide (i < n) := Nat.testBit_two_pow_sub_one n i
theorem bit_lt {X n i : Nat} (h : X < 2 ^ n) (hi : X.testBit i = true) : i < n := by
  refine Classical.byContradiction fun q => ?_
  have a := bit_le hi
  have b : 2 ^ n ≤ 2 ^ i := Nat.pow_le_pow_right (by decide) (by omega)
  omega
theorem shift_bit (X v : Nat) : (X / 2 ^ v) % 2 = if X.testBit v then 1 else 0 := by
  have : X.testBit v = decide (X / 2 ^ v % 2 = 1) := Nat.testBit_eq_decide_div_mod_eq
  rw [this]
  by_cases q : X / 2 ^ v % 2 = 1
  · simp [q]
  · simp [q]; omega
end G37
namespace G37
/-! ### the trial's fewest ways -/
theorem nu_star {e : Nat} {F : List Ed} (hF : ∀ x ∈ F, x.1 ≠ e ∧ x.2 ≠ e) : ∀ {us : List Nat} {b : Cap}, b e = 1 → (∀ u ∈ us, u ≠ e ∧ 0 < b u) →
    nu (us.map (tie e) ++ F) b = us.foldl (fun m u => max m (nu F (dec b u) + 1)) (nu F b)
  | [], b, _, _ => rfl
  | u :: us, b, hb, hu => by
    have hu0 := hu u (by simp)
    have ends := tie_mem1 e u
    have okv : okE (tie e u) b := by
      simp only [okE]
      rcases ends with ⟨x, y⟩ | ⟨x, y⟩ <;> (rw [x, y]; omega)
    have key : ∀ (vs : List Nat) (b' : Cap), b' e = 0 → nu (vs.map (tie e) ++ F) b' = nu F b' := by
      intro vs b' h0
      induction vs with
      | nil => rfl
      | cons v vs ih =>
        rw [List.map_cons, List.cons_append, nu_cons, if_neg, ih]
        simp only [okE]
        rcases tie_mem1 e v with ⟨x, y⟩ | ⟨x, y⟩ <;> (rw [x, y]; omega)
    have tkv : ∀ y, tk (tie e u) b y = if y = e ∨ y = u then b y - 1 else b y := fun y => by
      simp only [tk, dec]
      rcases ends with ⟨a, c⟩ | ⟨a, c⟩ <;> (rw [a, c]; by_cases h1 : y = e <;> by_cases h2 : y = u <;> simp_all)
    have t0 : tk (tie e u) b e = 0 := by rw [tkv, if_pos (Or.inl rfl), hb]
    have e1 : nu F (tk (tie e u) b) = nu F (dec b u) := by
      simp only [nu]; congr 1
      refine M_congr fun x hx => ?_
      have := hF x hx
      simp only [tkv, dec, this, false_or]; simp
    rw [List.map_cons, List.cons_append, nu_cons, if_pos okv, nu_star hF hb fun v hv => hu v (by simp [hv]), key _ _ t0, e1, List.foldl_cons]
    have comm : ∀ (l : List Nat) (m c : Nat), max (l.foldl (fun m u => max m (nu F (dec b u) + 1)) m) c = l.foldl (fun m u => max m (nu F (dec b u) + 1)) (max m c) := by
      intro l
      induction l with
      | nil => intro m c; rfl
      | cons v l ih =>
        intro m c
        simp only [List.foldl_cons]
        rw [ih]; congr 1; omega
    exact comm us _ _
theorem nu_dec_one : ∀ {es : List Ed} {b : Cap} {v : Nat}, deg es v ≤ 1 → 2 ≤ b v → nu es (dec b v) = nu es b
  | [], _, _, _, _ => rfl
  | e :: es, b, v, hd, hb => by
    rw [deg_cons] at hd
    have ok : okE e (dec b v) ↔ okE e b := by
      simp only [okE, dec]; constructor
      · rintro ⟨h1, h2, h3⟩; refine ⟨h1, ?_, ?_⟩ <;> (first | (split at h2 <;> omega) | (split at h3 <;> omega))
      · rintro ⟨h1, h2, h3⟩; refine ⟨h1, ?_, ?_⟩ <;> (split <;> (first | omega | (rename_i z; subst z; omega)))
    have h1 := nu_dec_one (es := es) (b := b) (v := v) (by omega) hb
    by_cases hit : e.1 = v ∨ e.2 = v
    · rw [if_pos hit] at hd
      have z : ∀ x ∈ es, x.1 ≠ v ∧ x.2 ≠ v := fun x hx => by
        have : deg es v = 0 := by omega
        simp only [deg, List.countP_eq_zero] at this
        have := this x hx
        simpa using this
      have h2 : nu es (tk e (dec b v)) = nu es (tk e b) := by
        simp only [nu]; congr 1
        refine M_congr fun x hx => ?_
        have := z x hx
        simp only [tk, dec, this, if_false, and_self]
      rw [nu_cons, nu_cons, h1, h2]
      simp only [ok]
    · rw [if_neg hit] at hd
      have tv : tk e b v = b v := by
        simp only [tk, dec]
        rw [if_neg (fun z => hit (Or.inr z.symm)), if_neg (fun z => hit (Or.inl z.symm))]
      have h2 := nu_dec_one (es := es) (b := tk e b) (v := v) (by omega) (by omega)
      rw [nu_cons, nu_cons, h1, tk_dec, h2]
      simp only [ok]
/-! places told by bits -/
def ins (es : List Ed) (X : Nat) : List Ed := es.filter (inS X.testBit)
def sz (n X : Nat) : Nat := ((List.range n).filter X.testBit).length
/-- the fewest ways of the places X; those more, from an end on -/
def fewX (n : Nat) (es : List Ed) (X : Nat) : Int := (sz n X : Int) - (nu (ins es X) cap2 : Int)
def ledX (n : Nat) (es : List Ed) (X e : Nat) : Int := (sz n X : Int) - (nu (ins es (X + 2 ^ e)) (capS [e]) : Int)
theorem ins_mem {es : List Ed} {X : Nat} {e : Ed} : e ∈ ins es X ↔ e ∈ es ∧ X.testBit e.1 = true ∧ X.testBit e.2 = true := by
  simp [ins, inS, List.mem_filter]
theorem Fo.ins {n : Nat} {es : List Ed} (f : Fo n es) (X : Nat) : Fo n (ins es X) :=
  f.sub (List.Nodup.sublist List.filter_sublist f.edup) fun e he => (ins_mem.mp he).1
theorem sz_sub {n X v : Nat} (hv : X.testBit v = true) (hn : v < n) : sz n (X - 2 ^ v) + 1 = sz n X := by
  have e : ∀ u, (X - 2 ^ v).testBit u = (decide (u ≠ v) && X.testBit u) := bit_sub hv
  have : ((List.range n).filter X.testBit).Perm (v :: (List.range n).filter (X - 2 ^ v).testBit) := by
    have nd : ∀ Y : Nat, ((List.range n).filter Y.testBit).Nodup := fun Y => List.Nodup.sublist List.filter_sublist List.nodup_range
    refine (List.perm_ext_iff_of_nodup (nd X) (List.nodup_cons.mpr ⟨fun q => ?_, nd _⟩)).mpr fun x => ?_
    · have := (List.mem_filter.mp q).2
      rw [e] at this; simp at this
    · rw [List.mem_cons, List.mem_filter, List.mem_filter, e]
      by_cases q : x = v
      · subst q; simp [hn, hv]
      · simp [q]
  have := this.length_eq
  rw [List.length_cons] at this
  exact this.symm
theorem sz_zero (n : Nat) : sz n 0 = 0 := by
  simp only [sz]
  rw [List.filter_eq_nil_iff.mpr (fun x _ => by simp)]; rfl
theorem fewX_zero (n : Nat) (es : List Ed) : fewX n es 0 = 0 := by
  have : ins es 0 = [] := List.filter_eq_nil_iff.mpr fun x _ => by simp [inS]
  simp only [fewX, sz_zero, this]; rfl
theorem ledX_sub {n X v : Nat} {es : List Ed} (hv : X.testBit v = true) (hn : v < n) : ledX n es (X - 2 ^ v) v = (sz n X : Int) - ((nu (ins es X) (capS [v]) : Int) + 1) := by
  have := sz_sub hv hn
  have le := bit_le hv
  simp only [ledX]
  rw [Nat.sub_add_cancel le]; omega
/-- some place can be an end: the fewest ways, by their ends -/
theorem fewX_step {n : Nat} {es : List Ed} (f : Fo n es) {X : Nat} (hX : 0 < X) (hn : X < 2 ^ n) {m : Int} (hm : ∃ v, X.testBit v = true ∧ m = ledX n es (X - 2 ^ v) v) (le : ∀ v, X.testBit v = true → m ≤ ledX n es (X - 2 ^ v) v) : 1 + m = fewX n es X := by
  have low : ∀ v, X.testBit v = true → fewX n es X ≤ 1 + ledX n es (X - 2 ^ v) v := fun v hv => by
    rw [ledX_sub hv (bit_lt hn hv)]
    have := nu_none (ins es X) [v]
    simp only [fewX]; omega
  obtain ⟨v, hv, e⟩ := hm
  have a := low v hv
  rw [← e] at a
  obtain ⟨vs, fs, hf, pv, pe⟩ := (f.ins X).ex
  -- the first of X in the forest's order
  have g := hf.filter X.testBit
  obtain ⟨w0, hw0, _⟩ := low_bit X hX
  have win : w0 ∈ vs.filter X.testBit := List.mem_filter.mpr ⟨pv.mem_iff.mpr (List.mem_range.mpr (bit_lt hn hw0)), hw0⟩
  match e2 : vs.filter X.testBit, g with
  | [], _ => rw [e2] at win; simp at win
  | u :: us, g =>
    have um : u ∈ vs.filter X.testBit := by rw [e2]; simp
    have hu := (List.mem_filter.mp um).2
    have d := g.head
    have dE : deg (ins es X) u ≤ 1 := by
      have q : fs.filter (inS X.testBit) = fs := List.filter_eq_self.mpr fun e he => by
        have := ins_mem.mp (pe.mem_iff.mp he)
        simp [inS, this]
      rw [q, deg_perm pe] at d; exact d
    have q := nu_dec_one (b := cap2) dE (by simp [cap2])
    have c : dec cap2 u = capS [u] := by rw [← capS_nil, capS_cons (by simp)]
    rw [c] at q
    have b := le u hu
    rw [ledX_sub hu (bit_lt hn hu), q] at b
    simp only [fewX] at a ⊢
    omega
theorem foldl_min_max (s : Int) (g : Nat → Nat) : ∀ (us : List Nat) (m : Nat), us.foldl (fun (a : Int) u => min a (s - ((g u : Int) + 1))) (s - (m : Int)) = s - ((us.foldl (fun m u => max m (g u + 1)) m : Nat) : Int)
  | [], m => rfl
  | u :: us, m => by
    rw [List.foldl_cons, List.foldl_cons, ← foldl_min_max s g us]
    congr 1
    omega
theorem ledX_step {n : Nat} {es : List Ed} (f : Fo n es) {X e : Nat} (hn : X < 2 ^ n) (he : X.testBit e = false) : ((nb n es e).filter X.testBit).foldl (fun a u => min a (ledX n es (X - 2 ^ u) u)) (fewX n es X) = ledX n es X e := by
  have bits := bit_add he
  have F0 : ∀ x ∈ ins es X, x.1 ≠ e ∧ x.2 ≠ e := fun x hx => by
    have := ins_mem.mp hx
    exact ⟨fun z => by rw [z, he] at this; simp at this, fun z => by rw [z, he] at this; simp at this⟩
  have usm : ∀ u, u ∈ (nb n es e).filter X.testBit ↔ tie e u ∈ es ∧ X.testBit u = true := fun u => by
    rw [List.mem_filter, mem_nb]
    exact ⟨fun q => ⟨q.1.2, q.2⟩, fun q => ⟨⟨(f.adj q.1).2.1, q.1⟩, q.2⟩⟩
  have usn : ((nb n es e).filter X.testBit).Nodup := List.Nodup.sublist List.filter_sublist (nb_nodup n es e)
  have p : (((nb n es e).filter X.testBit).map (tie e) ++ ins es X).Perm (ins es (X + 2 ^ e)) := by
    refine (List.perm_ext_iff_of_nodup ?_ (List.Nodup.sublist List.filter_sublist f.edup)).mpr fun x => ?_
    · rw [List.nodup_append]
      refine ⟨nodup_star usn, List.Nodup.sublist List.filter_sublist f.edup, fun a ha b hb z => ?_⟩
      obtain ⟨u, _, q⟩ := List.mem_map.mp ha
      have := F0 b hb
      rw [← z, ← q] at this
      rcases tie_mem1 e u with ⟨c, d⟩ | ⟨c, d⟩ <;> (rw [c, d] at this; simp at this)
    · rw [List.mem_append, List.mem_map, ins_mem, show (x ∈ List.filter (inS (X + 2 ^ e).testBit) es) = (x ∈ ins es (X + 2 ^ e)) from rfl, ins_mem, bits, bits]
      constructor
      · rintro (⟨u, hu, rfl⟩ | ⟨h1, h2, h3⟩)
        · have := (usm u).mp hu
          refine ⟨this.1, ?_⟩
          rcases tie_mem1 e u with ⟨c, d⟩ | ⟨c, d⟩ <;> (rw [c, d]; simp [this.2])
        · exact ⟨h1, by simp [h2], by simp [h3]⟩
      · rintro ⟨h1, h2, h3⟩
        have lt := (f.mem x h1).2.2
        simp only [Bool.or_eq_true, decide_eq_true_eq] at h2 h3
        by_cases q1 : x.1 = e
        · have h3 : X.testBit x.2 = true := by rcases h3 with z | z; omega; exact z
          have ex : tie e x.2 = x := by rw [← q1]; exact tie_of_lt lt
          exact Or.inl ⟨x.2, (usm _).mpr ⟨by rw [ex]; exact h1, h3⟩, ex⟩
        · have h2 : X.testBit x.1 = true := by rcases h2 with z | z; exact absurd z q1; exact z
          by_cases q2 : x.2 = e
          · have ex : tie e x.1 = x := by rw [← q2, tie_comm]; exact tie_of_lt lt
            exact Or.inl ⟨x.1, (usm _).mpr ⟨by rw [ex]; exact h1, h2⟩, ex⟩
          · have h3 : X.testBit x.2 = true := by rcases h3 with z | z; exact absurd z q2; exact z
            exact Or.inr ⟨h1, h2, h3⟩
  have st := nu_star (e := e) (F := ins es X) F0 (us := (nb n es e).filter X.testBit) (b := capS [e]) (by simp [capS]) fun u hu => by
    have := (usm u).mp hu
    have ne : u ≠ e := fun z => by rw [z, he] at this; simp at this
    exact ⟨ne, by simp [capS, ne]⟩
  have c0 : nu (ins es X) (capS [e]) = nu (ins es X) cap2 := by
    simp only [nu]; congr 1
    refine M_congr fun x hx => ?_
    have := F0 x hx
    simp [capS, cap2, this]
  have c1 : ∀ u, nu (ins es X) (dec (capS [e]) u) = nu (ins es X) (capS [u]) := fun u => by
    simp only [nu]; congr 1
    refine M_congr fun x hx => ?_
    have := F0 x hx
    simp only [capS, dec, List.mem_singleton, this, if_false]
    grind
  rw [c0] at st
  simp only [c1] at st
  have lhs : ∀ (l : List Nat), (∀ u ∈ l, X.testBit u = true) → ∀ a : Int, l.foldl (fun a u => min a (ledX n es (X - 2 ^ u) u)) a = l.foldl (fun a u => min a ((sz n X : Int) - ((nu (ins es X) (capS [u]) : Int) + 1))) a := by
    intro l
    induction l with
    | nil => intro _ a; rfl
    | cons u l ih =>
      intro h a
      have hu := h u (by simp)
      rw [List.foldl_cons, List.foldl_cons, ih (fun w hw => h w (by simp [hw])), ledX_sub hu (bit_lt hn hu)]
  rw [lhs _ fun u hu => ((usm u).mp hu).2]
  have := foldl_min_max (sz n X) (fun u => nu (ins es X) (capS [u])) ((nb n es e).filter X.testBit) (nu (ins es X) cap2)
  show List.foldl _ ((sz n X : Int) - (nu (ins es X) cap2 : Int)) _ = _
  rw [this, ← st, nu_perm p]; rfl
theorem fewX_full {n : Nat} {es : List Ed} (f : Fo n es) : fewX n es (2 ^ n - 1) = (n : Int) - (nu es cap2 : Int) := by
  have a : sz n (2 ^ n - 1) = n := by
    simp only [sz]
    rw [List.filter_eq_self.mpr fun x hx => by rw [bit_full]; simpa using hx, List.length_range]
  have b : ins es (2 ^ n - 1) = es := List.filter_eq_self.mpr fun e he => by
    have := f.mem e he
    simp only [inS, bit_full, this, decide_true, Bool.and_self]
  simp only [fewX, a, b]
end G37
namespace G37
/-! ### the trial's counts: L the places, the youngest first -/
/-- the neighbour of v among L -/
def lk (es : List Ed) (v : Nat) (L : List Nat) : Option Nat := L.find? fun w => es.contains (tie v w)
/-- whether L is one way, its ties within the capacities -/
def pth (es : List Ed) : List Nat → Cap → Nat
  | [], _ => 0
  | v :: L, b => if L = [] then 1 else match lk es v L with
    | some w => if 0 < b v ∧ 0 < b w then pth es L (dec b w) else 0
    | none => 0
def sft (f : Nat → Nat) : Nat → Nat
  | 0 => 0
  | k + 1 => f k
/-- how many partings have k ways -/
def Zc (es : List Ed) : List Nat → Cap → Nat → Nat
  | [], _, k => if k = 0 then 1 else 0
  | v :: L, b, k => sft (Zc es L b) k + match lk es v L with
    | some w => if 0 < b v ∧ 0 < b w then Zc es L (dec b w) k else 0
    | none => 0
/-- the order of a forest: each place has one elder neighbour at most -/
inductive FO (es : List Ed) : List Nat → Prop where
  | nil : FO es []
  | cons {v : Nat} {L : List Nat} : v ∉ L → (∀ w ∈ L, ∀ u ∈ L, tie v w ∈ es → tie v u ∈ es → w = u) → FO es L → FO es (v :: L)
theorem FO.nodup {es : List Ed} {L : List Nat} (h : FO es L) : L.Nodup := by
  induction h with
  | nil => exact List.nodup_nil
  | cons hv _ _ ih => exact List.nodup_cons.mpr ⟨hv, ih⟩
theorem FO.sub {es : List Ed} {L : List Nat} (h : FO es L) : ∀ {C : List Nat}, C.Sublist L → FO es C := by
  induction h with
  | nil => intro C s; cases List.sublist_nil.mp s; exact .nil
  | @cons v L hv hu _ ih =>
    intro C s
    cases s with
    | cons _ s => exact ih s
    | cons_cons _ s => exact .cons (fun z => hv (s.subset z)) (fun w hw u hu' => hu w (s.subset hw) u (s.subset hu')) (ih s)
theorem FF.fo {vs : List Nat} {fs : List Ed} (h : FF vs fs) : ∀ {es : List Ed}, (∀ e, e ∈ es → e.1 ∈ vs → e.2 ∈ vs → e ∈ fs) → FO es vs := by
  induction h with
  | nil => intro es _; exact .nil
  | @iso v vs fs hv hf ih =>
    intro es h
    have no : ∀ w, w ∈ vs → tie v w ∉ es := fun w hw q => by
      have := h _ q
      have m : tie v w ∈ fs := by
        rcases tie_mem1 v w with ⟨a, b⟩ | ⟨a, b⟩ <;> (rw [a, b] at this; exact this (by simp [hw]) (by simp [hw]))
      have := hf.mem _ m
      rcases tie_mem1 v w with ⟨a, b⟩ | ⟨a, b⟩ <;> (rw [a, b] at this; exact hv (by simp [this]))
    exact .cons hv (fun w hw u hu q _ => absurd q (no w hw)) (ih fun e he h1 h2 => h e he (by simp [h1]) (by simp [h2]))
  | @leaf v x vs fs hv hx hf ih =>
    intro es h
    have only : ∀ w, w ∈ vs → tie v w ∈ es → w = x := fun w hw q => by
      have := h _ q
      have m : tie v w ∈ tie v x :: fs := by
        rcases tie_mem1 v w with ⟨a, b⟩ | ⟨a, b⟩ <;> (rw [a, b] at this; exact this (by simp [hw]) (by simp [hw]))
      rcases List.mem_cons.mp m with z | z
      · exact tie_inj_left z
      · have := hf.mem _ z
        rcases tie_mem1 v w with ⟨a, b⟩ | ⟨a, b⟩ <;> (rw [a, b] at this; exact absurd (by simp [this]) hv)
    refine .cons hv (fun w hw u hu q q' => (only w hw q).trans (only u hu q').symm) (ih fun e he h1 h2 => ?_)
    rcases List.mem_cons.mp (h e he (by simp [h1]) (by simp [h2])) with z | z
    · exfalso
      subst z
      rcases tie_mem1 v x with ⟨a, b⟩ | ⟨a, b⟩ <;> (rw [a] at h1; rw [b] at h2; first | exact hv h1 | exact hv h2)
    · exact z
theorem lk_some {es : List Ed} {v w : Nat} {L : List Nat} (h : lk es v L = some w) : w ∈ L ∧ tie v w ∈ es := by
  refine ⟨List.mem_of_find?_eq_some h, ?_⟩
  have := List.find?_some h
  simpa using this
theorem lk_none {es : List Ed} {v : Nat} {L : List Nat} (h : lk es v L = none) : ∀ w ∈ L, tie v w ∉ es := by
  intro w hw
  have := List.find?_eq_none.mp h w hw
  simpa using this
theorem lk_of {es : List Ed} {v w : Nat} {L : List Nat} (hw : w ∈ L) (ht : tie v w ∈ es) (hu : ∀ w ∈ L, ∀ u ∈ L, tie v w ∈ es → tie v u ∈ es → w = u) : lk es v L = some w := by
  cases e : lk es v L with
  | none => exact absurd ht (lk_none e w hw)
  | some x => have := lk_some e; rw [hu x this.1 w hw this.2 ht]
theorem lk_eq_none {es : List Ed} {v : Nat} {L : List Nat} (h : ∀ w ∈ L, tie v w ∉ es) : lk es v L = none := by
  cases e : lk es v L with
  | none => rfl
  | some x => have := lk_some e; exact absurd this.2 (h x this.1)
theorem pth_congr {es : List Ed} : ∀ {L : List Nat} {b b' : Cap}, (∀ v ∈ L, b v = b' v) → pth es L b = pth es L b'
  | [], _, _, _ => rfl
  | v :: L, b, b', h => by
    simp only [pth]
    split
    · rfl
    · cases e : lk es v L with
      | none => rfl
      | some w =>
        have hw := (lk_some e).1
        have := pth_congr (es := es) (L := L) (b := dec b w) (b' := dec b' w) fun u hu => by simp only [dec, h u (by simp [hu])]
        simp only [h v (by simp), h w (by simp [hw]), this]
theorem Zc_congr {es : List Ed} : ∀ {L : List Nat} {b b' : Cap}, (∀ v ∈ L, b v = b' v) → ∀ k, Zc es L b k = Zc es L b' k
  | [], _, _, _, _ => rfl
  | v :: L, b, b', h, k => by
    have ih := fun k => Zc_congr (es := es) (L := L) (b := b) (b' := b') (fun u hu => h u (by simp [hu])) k
    simp only [Zc]
    cases e : lk es v L with
    | none => cases k <;> simp [ih, sft]
    | some w =>
      have hw := (lk_some e).1
      have := fun k => Zc_congr (es := es) (L := L) (b := dec b w) (b' := dec b' w) (fun u hu => by simp only [dec, h u (by simp [hu])]) k
      simp only [h v (by simp), h w (by simp [hw]), this]
      cases k <;> simp [ih, sft]
theorem Zc_zero {es : List Ed} : ∀ {L : List Nat} {b : Cap}, L ≠ [] → Zc es L b 0 = 0
  | [], _, h => absurd rfl h
  | v :: L, b, _ => by
    simp only [Zc, sft, Nat.zero_add]
    cases e : lk es v L with
    | none => rfl
    | some w =>
      have : L ≠ [] := List.ne_nil_of_mem (lk_some e).1
      simp only [Zc_zero (b := dec b w) this]; split <;> rfl
/-- all ways to part a list in two -/
def splits : List Nat → List (List Nat × List Nat)
  | [] => [([], [])]
  | v :: L => (splits L).map (fun q => (v :: q.1, q.2)) ++ (splits L).map fun q => (q.1, v :: q.2)
theorem splits_sub {L : List Nat} : ∀ {q : List Nat × List Nat}, q ∈ splits L → q.1.Sublist L ∧ q.2.Sublist L ∧ ∀ w ∈ L, (w ∈ q.1 ∨ w ∈ q.2) := by
  induction L with
  | nil => intro q h; simp [splits] at h; subst h; simp
  | cons v L ih =>
    intro q h
    simp only [splits, List.mem_append, List.mem_map] at h
    rcases h with ⟨r, hr, rfl⟩ | ⟨r, hr, rfl⟩
    · have := ih hr
      exact ⟨this.1.cons_cons v, this.2.1.cons v, fun w hw => by
        rcases List.mem_cons.mp hw with z | z
        · simp [z]
        · rcases this.2.2 w z with y | y <;> simp [y]⟩
    · have := ih hr
      exact ⟨this.1.cons v, this.2.1.cons_cons v, fun w hw => by
        rcases List.mem_cons.mp hw with z | z
        · simp [z]
        · rcases this.2.2 w z with y | y <;> simp [y]⟩
theorem splits_dj {L : List Nat} (nd : L.Nodup) : ∀ {q : List Nat × List Nat}, q ∈ splits L → ∀ w, w ∈ q.1 → w ∉ q.2 := by
  induction L with
  | nil => intro q h; simp [splits] at h; subst h; simp
  | cons v L ih =>
    obtain ⟨h1, h2⟩ := List.nodup_cons.mp nd
    intro q h
    simp only [splits, List.mem_append, List.mem_map] at h
    rcases h with ⟨r, hr, rfl⟩ | ⟨r, hr, rfl⟩
    · have i := ih h2 hr
      have s := splits_sub hr
      intro w hw z
      rcases List.mem_cons.mp hw with y | y
      · exact h1 (s.2.1.subset (y ▸ z))
      · exact i w y z
    · have i := ih h2 hr
      have s := splits_sub hr
      intro w hw z
      rcases List.mem_cons.mp z with y | y
      · exact h1 (s.1.subset (y ▸ hw))
      · exact i w hw y
def sumL {α : Type} (l : List α) (f : α → Nat) : Nat := (l.map f).sum
theorem sumL_append {α : Type} (l m : List α) (f : α → Nat) : sumL (l ++ m) f = sumL l f + sumL m f := by simp [sumL]
theorem sumL_map {α β : Type} (l : List α) (g : α → β) (f : β → Nat) : sumL (l.map g) f = sumL l (fun x => f (g x)) := by simp [sumL, List.map_map, Function.comp_def]
theorem sumL_congr {α : Type} {l : List α} {f g : α → Nat} (h : ∀ x ∈ l, f x = g x) : sumL l f = sumL l g := by
  simp only [sumL]; rw [List.map_congr_left h]
theorem sumL_add {α : Type} : ∀ (l : List α) (f g : α → Nat), sumL l (fun x => f x + g x) = sumL l f + sumL l g
  | [], _, _ => rfl
  | x :: l, f, g => by
    have := sumL_add l f g
    simp only [sumL, List.map_cons, List.sum_cons] at this ⊢
    omega
theorem sumL_zero {α : Type} {l : List α} {f : α → Nat} (h : ∀ x ∈ l, f x = 0) : sumL l f = 0 := by
  rw [sumL_congr h]
  induction l with
  | nil => rfl
  | cons x l ih => simp only [sumL, List.map_cons, List.sum_cons] at ih ⊢; rw [ih fun y hy => h y (by simp [hy])]
theorem sumL_perm {α : Type} {l m : List α} (p : l.Perm m) (f : α → Nat) : sumL l f = sumL m f := (p.map f).sum_nat
theorem sumL_filter {α : Type} (p : α → Bool) (f : α → Nat) : ∀ l : List α, sumL (l.filter p) f = sumL l fun x => if p x = true then f x else 0
  | [] => rfl
  | x :: l => by
    have := sumL_filter p f l
    rw [List.filter_cons]
    simp only [sumL, List.map_cons, List.sum_cons] at this ⊢
    split <;> simp [this]
theorem sum_nil (f : List Nat → List Nat → Nat) : ∀ L : List Nat, sumL (splits L) (fun q => if q.1 = [] then f q.1 q.2 else 0) = f [] L
  | [] => by simp [splits, sumL]
  | v :: L => by
    have := sum_nil (fun C D => f C (v :: D)) L
    simp only [splits, sumL_append, sumL_map]
    rw [this, sumL_zero]; · omega
    intro q _; simp
/-- the parts that hold u -/
def Ssum (es : List Ed) (L : List Nat) (u : Nat) (b : Cap) (k : Nat) : Nat := sumL (splits L) fun q => if u ∈ q.1 then pth es q.1 b * Zc es q.2 b k else 0
theorem pth_cons {es : List Ed} {v : Nat} {C : List Nat} {b : Cap} : pth es (v :: C) b = (if C = [] then 1 else 0) + match lk es v C with
    | some w => if 0 < b v ∧ 0 < b w then pth es C (dec b w) else 0
    | none => 0 := by
  simp only [pth]
  by_cases h : C = []
  · subst h; simp [lk]
  · simp only [if_neg h, Nat.zero_add]
theorem lk_sub {es : List Ed} {v : Nat} {L C : List Nat} (s : C.Sublist L) (hu : ∀ w ∈ L, ∀ u ∈ L, tie v w ∈ es → tie v u ∈ es → w = u) : lk es v C = match lk es v L with | some w => if w ∈ C then some w else none | none => none := by
  cases e : lk es v L with
  | none => exact lk_eq_none fun w hw => lk_none e w (s.subset hw)
  | some w =>
    have := lk_some e
    simp only []
    split
    · rename_i h
      exact lk_of h this.2 fun x hx y hy => hu x (s.subset hx) y (s.subset hy)
    · rename_i h
      refine lk_eq_none fun x hx q => h ?_
      rw [hu w this.1 x (s.subset hx) this.2 q]; exact hx
theorem Zc_any {es : List Ed} {L : List Nat} (h : FO es L) : ∀ {u : Nat} {b : Cap} {k : Nat}, u ∈ L → Zc es L b (k + 1) = Ssum es L u b k := by
  induction h with
  | nil => intro u b k hu; simp at hu
  | @cons v L hv huq hF ih =>
    intro u b k hu
    have nd := hF.nodup
    -- the sums' terms, by whether v lies in the part
    have split : Ssum es (v :: L) u b k = sumL (splits L) (fun q => if u ∈ v :: q.1 then pth es (v :: q.1) b * Zc es q.2 b k else 0) + sumL (splits L) (fun q => if u ∈ q.1 then pth es q.1 b * Zc es (v :: q.2) b k else 0) := by
      simp only [Ssum, splits, sumL_append, sumL_map]
    rw [split]
    have lkC : ∀ q ∈ splits L, lk es v q.1 = match lk es v L with | some w => if w ∈ q.1 then some w else none | none => none := fun q hq => lk_sub (splits_sub hq).1 huq
    have lkD : ∀ q ∈ splits L, lk es v q.2 = match lk es v L with | some w => if w ∈ q.2 then some w else none | none => none := fun q hq => lk_sub (splits_sub hq).2.1 huq
    by_cases uv : u = v
    · subst uv
      have z2 : sumL (splits L) (fun q => if u ∈ q.1 then pth es q.1 b * Zc es (u :: q.2) b k else 0) = 0 := sumL_zero fun q hq => if_neg fun z => hv ((splits_sub hq).1.subset z)
      have z1 : sumL (splits L) (fun q => if u ∈ u :: q.1 then pth es (u :: q.1) b * Zc es q.2 b k else 0) = sumL (splits L) (fun q => (if q.1 = [] then Zc es q.2 b k else 0) + (match lk es u L with | some w => if w ∈ q.1 then (if 0 < b u ∧ 0 < b w then pth es q.1 (dec b w) * Zc es q.2 (dec b w) k else 0) else 0 | none => 0)) := by
        refine sumL_congr fun q hq => ?_
        rw [if_pos (by simp), pth_cons, lkC q hq, Nat.add_mul]
        congr 1
        · split <;> simp
        · cases e : lk es u L with
          | none => simp
          | some w =>
            simp only []
            by_cases hw : w ∈ q.1
            · have nw := splits_dj nd hq w hw
              have zc : Zc es q.2 b k = Zc es q.2 (dec b w) k := Zc_congr (fun x hx => by
                have : x ≠ w := fun z => nw (z ▸ hx)
                simp [dec, this]) k
              simp only [if_pos hw]
              split
              · rw [zc]
              · simp
            · simp [hw]
      rw [z2, z1, Nat.add_zero, sumL_add, sum_nil (fun _ D => Zc es D b k)]
      have key : (match lk es u L with | some w => if 0 < b u ∧ 0 < b w then Zc es L (dec b w) (k + 1) else 0 | none => 0) = sumL (splits L) (fun q => match lk es u L with | some w => if w ∈ q.1 then (if 0 < b u ∧ 0 < b w then pth es q.1 (dec b w) * Zc es q.2 (dec b w) k else 0) else 0 | none => 0) := by
        cases e : lk es u L with
        | none => simp only []; rw [sumL_zero]; intro _ _; rfl
        | some w =>
          have hw := (lk_some e).1
          simp only []
          split
          · rename_i ok
            rw [ih hw, Ssum]
          · rw [sumL_zero]; intro q _; split <;> rfl
      rw [← key]
      simp only [Zc, sft, Nat.add_zero]
    · have huL : u ∈ L := by rcases List.mem_cons.mp hu with z | z; exact absurd z uv; exact z
      have z1 : sumL (splits L) (fun q => if u ∈ v :: q.1 then pth es (v :: q.1) b * Zc es q.2 b k else 0) = sumL (splits L) (fun q => if u ∈ q.1 then (match lk es v L with | some w => if w ∈ q.1 then (if 0 < b v ∧ 0 < b w then pth es q.1 (dec b w) * Zc es q.2 (dec b w) k else 0) else 0 | none => 0) else 0) := by
        refine sumL_congr fun q hq => ?_
        have : u ∈ v :: q.1 ↔ u ∈ q.1 := by simp [uv]
        simp only [this]
        split
        · rename_i uq
          have ne : q.1 ≠ [] := List.ne_nil_of_mem uq
          rw [pth_cons, if_neg ne, Nat.zero_add, lkC q hq]
          cases e : lk es v L with
          | none => simp
          | some w =>
            simp only []
            by_cases hw : w ∈ q.1
            · have nw := splits_dj nd hq w hw
              have zc : Zc es q.2 b k = Zc es q.2 (dec b w) k := Zc_congr (fun x hx => by
                have : x ≠ w := fun z => nw (z ▸ hx)
                simp [dec, this]) k
              simp only [if_pos hw]
              split
              · rw [zc]
              · simp
            · simp [hw]
        · rfl
      have z2 : sumL (splits L) (fun q => if u ∈ q.1 then pth es q.1 b * Zc es (v :: q.2) b k else 0) = sumL (splits L) (fun q => (if u ∈ q.1 then pth es q.1 b * sft (Zc es q.2 b) k else 0) + (if u ∈ q.1 then (match lk es v L with | some w => if w ∈ q.1 then 0 else (if 0 < b v ∧ 0 < b w then pth es q.1 (dec b w) * Zc es q.2 (dec b w) k else 0) | none => 0) else 0)) := by
        refine sumL_congr fun q hq => ?_
        split
        · rename_i uq
          simp only [Zc]
          rw [Nat.mul_add]
          congr 1
          rw [lkD q hq]
          cases e : lk es v L with
          | none => simp
          | some w =>
            have hw := (lk_some e).1
            simp only []
            by_cases wq : w ∈ q.2
            · have nw : w ∉ q.1 := fun z => splits_dj nd hq w z wq
              have pc : pth es q.1 b = pth es q.1 (dec b w) := pth_congr fun x hx => by
                have : x ≠ w := fun z => nw (z ▸ hx)
                simp [dec, this]
              simp only [if_pos wq, if_neg nw]
              split
              · rw [pc]
              · simp
            · have wq1 : w ∈ q.1 := by rcases (splits_sub hq).2.2 w hw with z | z; exact z; exact absurd z wq
              simp [wq, wq1]
        · rfl
      rw [z1, z2, sumL_add]
      have mid : sumL (splits L) (fun q => if u ∈ q.1 then pth es q.1 b * sft (Zc es q.2 b) k else 0) = Zc es L b k := by
        cases k with
        | zero =>
          rw [Zc_zero (List.ne_nil_of_mem huL), sumL_zero]; intro q _; simp [sft]
        | succ k => rw [ih huL, Ssum]; rfl
      rw [mid]
      simp only [Zc, sft]
      have rest : (match lk es v L with | some w => if 0 < b v ∧ 0 < b w then Zc es L (dec b w) (k + 1) else 0 | none => 0) = sumL (splits L) (fun q => if u ∈ q.1 then (match lk es v L with | some w => if w ∈ q.1 then (if 0 < b v ∧ 0 < b w then pth es q.1 (dec b w) * Zc es q.2 (dec b w) k else 0) else 0 | none => 0) else 0) + sumL (splits L) (fun q => if u ∈ q.1 then (match lk es v L with | some w => if w ∈ q.1 then 0 else (if 0 < b v ∧ 0 < b w then pth es q.1 (dec b w) * Zc es q.2 (dec b w) k else 0) | none => 0) else 0) := by
        rw [← sumL_add]
        cases e : lk es v L with
        | none => simp only []; rw [sumL_zero]; intro q _; simp
        | some w =>
          simp only []
          split
          · rename_i ok
            rw [ih huL, Ssum]
            refine sumL_congr fun q _ => ?_
            split
            · split <;> simp
            · rfl
          · rw [sumL_zero]; intro q _; simp
      rw [rest]; omega
end G37
namespace G37
theorem Mc_zero_ge {es : List Ed} {b : Cap} {j : Nat} (h : es.length < j) : Mc es b j = 0 := Mc_above (Nat.lt_of_le_of_lt (nu_le es b) h)
theorem Mc_congr : ∀ {es : List Ed} {b b' : Cap}, (∀ e ∈ es, b e.1 = b' e.1 ∧ b e.2 = b' e.2) → ∀ j, Mc es b j = Mc es b' j
  | [], _, _, _, _ => rfl
  | e :: es, b, b', h, j => by
    have h0 := h e (by simp)
    have ok : okE e b ↔ okE e b' := by simp only [okE, h0.1, h0.2]
    have h1 : ∀ f ∈ es, b f.1 = b' f.1 ∧ b f.2 = b' f.2 := fun f hf => h f (by simp [hf])
    have h2 : ∀ f ∈ es, tk e b f.1 = tk e b' f.1 ∧ tk e b f.2 = tk e b' f.2 := fun f hf => by
      have := h1 f hf
      simp only [tk, dec]; grind
    simp only [Mc, Mc_congr h1, Mc_congr h2, ok]
theorem Mc_cons_succ (e : Ed) (es : List Ed) (b : Cap) (j : Nat) : Mc (e :: es) b (j + 1) = Mc es b (j + 1) + (if okE e b then Mc es (tk e b) j else 0) := rfl
theorem Mc_cons_zero (e : Ed) (es : List Ed) (b : Cap) : Mc (e :: es) b 0 = Mc es b 0 := by simp [Mc]
theorem Zc_Mc {es : List Ed} {vs : List Nat} {fs : List Ed} (h : FF vs fs) : (∀ e, e ∈ es → e.1 ∈ vs → e.2 ∈ vs → e ∈ fs) → (∀ e ∈ fs, e ∈ es) → ∀ (b : Cap) (k : Nat), Zc es vs b k = if k ≤ vs.length then Mc fs b (vs.length - k) else 0 := by
  induction h with
  | nil =>
    intro _ _ b k
    simp only [Zc, Mc, List.length_nil]
    by_cases q : k = 0
    · simp [q]
    · rw [if_neg q, if_neg (by omega)]
  | @iso v vs fs hv hf ih =>
    intro h1 h2 b k
    have ih := ih (fun e he a c => h1 e he (by simp [a]) (by simp [c])) h2
    have no : lk es v vs = none := lk_eq_none fun w hw q => by
      have m : tie v w ∈ fs := by
        have := h1 _ q
        rcases tie_mem1 v w with ⟨a, c⟩ | ⟨a, c⟩ <;> (rw [a, c] at this; exact this (by simp [hw]) (by simp [hw]))
      have := hf.mem _ m
      rcases tie_mem1 v w with ⟨a, c⟩ | ⟨a, c⟩ <;> (rw [a, c] at this; exact hv (by simp [this]))
    have le : fs.length ≤ vs.length := by
      by_cases q : vs = []
      · subst q; cases hf; simp
      · have := hf.few q; omega
    simp only [Zc, no, Nat.add_zero, List.length_cons]
    cases k with
    | zero => simp only [sft]; rw [if_pos (by omega), Mc_zero_ge (by omega)]
    | succ k => simp only [sft, ih]; rw [show vs.length + 1 - (k + 1) = vs.length - k by omega]; simp
  | @leaf v w vs fs hv hw hf ih =>
    intro h1 h2 b k
    have ih := ih (fun e he a c => by
      rcases List.mem_cons.mp (h1 e he (by simp [a]) (by simp [c])) with z | z
      · exfalso
        subst z
        rcases tie_mem1 v w with ⟨p, q⟩ | ⟨p, q⟩
        · rw [p] at a; exact hv a
        · rw [q] at c; exact hv c
      · exact z) (fun e he => h2 e (by simp [he]))
    have lkw : lk es v vs = some w := lk_of hw (h2 _ (by simp)) fun x hx y hy qx qy => by
      have only : ∀ z, z ∈ vs → tie v z ∈ es → z = w := fun z hz q => by
        have := h1 _ q
        have m : tie v z ∈ tie v w :: fs := by
          rcases tie_mem1 v z with ⟨a, c⟩ | ⟨a, c⟩ <;> (rw [a, c] at this; exact this (by simp [hz]) (by simp [hz]))
        rcases List.mem_cons.mp m with y | y
        · exact tie_inj_left y
        · have := hf.mem _ y
          rcases tie_mem1 v z with ⟨a, c⟩ | ⟨a, c⟩ <;> (rw [a, c] at this; exact absurd (by simp [this]) hv)
      exact (only x hx qx).trans (only y hy qy).symm
    have le := hf.few (List.ne_nil_of_mem hw)
    have ne : v ≠ w := fun z => hv (z ▸ hw)
    have ok : okE (tie v w) b ↔ 0 < b v ∧ 0 < b w := by
      simp only [okE]
      rcases tie_mem1 v w with ⟨a, c⟩ | ⟨a, c⟩ <;> (rw [a, c]; constructor)
      · exact fun h => h.2
      · exact fun h => ⟨ne, h⟩
      · exact fun h => ⟨h.2.2, h.2.1⟩
      · exact fun h => ⟨Ne.symm ne, h.2, h.1⟩
    have tkc : ∀ j, Mc fs (tk (tie v w) b) j = Mc fs (dec b w) j := Mc_congr fun e he => by
      have m := hf.mem e he
      have n1 : e.1 ≠ v := fun z => hv (z ▸ m.1)
      have n2 : e.2 ≠ v := fun z => hv (z ▸ m.2.1)
      simp only [tk]
      rcases tie_mem1 v w with ⟨a, c⟩ | ⟨a, c⟩ <;> (rw [a, c]; simp only [dec]; simp [n1, n2])
    simp only [Zc, lkw, List.length_cons]
    by_cases okb : 0 < b v ∧ 0 < b w
    · rw [if_pos okb, ih (dec b w) k]
      cases k with
      | zero =>
        simp only [sft]
        rw [if_pos (by omega), if_pos (by omega), Nat.sub_zero, Nat.sub_zero, Mc_cons_succ, if_pos (ok.mpr okb), tkc, Mc_zero_ge (es := fs) (j := vs.length + 1) (by omega)]
      | succ k =>
        simp only [sft, ih b k]
        by_cases q : k + 1 ≤ vs.length
        · rw [if_pos (show k ≤ vs.length by omega), if_pos q, if_pos (by omega)]
          obtain ⟨j, hj⟩ : ∃ j, vs.length - k = j + 1 := ⟨vs.length - k - 1, by omega⟩
          rw [show vs.length + 1 - (k + 1) = j + 1 by omega, show vs.length - (k + 1) = j by omega, hj, Mc_cons_succ, if_pos (ok.mpr okb), tkc]
        · rw [if_neg q]
          by_cases q2 : k = vs.length
          · subst q2
            rw [if_pos (Nat.le_refl _), if_pos (Nat.le_refl _), Nat.sub_self, Nat.sub_self, Mc_cons_zero]; rfl
          · rw [if_neg (by omega), if_neg (by omega)]
    · rw [if_neg okb]
      have c : ∀ j, Mc (tie v w :: fs) b j = Mc fs b j := fun j => by
        simp only [Mc]; rw [if_neg (fun z => okb (ok.mp z))]; rfl
      cases k with
      | zero => simp only [sft]; rw [if_pos (by omega), c, Mc_zero_ge (by omega)]
      | succ k => simp only [sft, ih b k, c]; rw [show vs.length + 1 - (k + 1) = vs.length - k by omega]; simp
/-! ### ways, by their ends -/
theorem pth_le {es : List Ed} : ∀ (L : List Nat) (b : Cap), pth es L b ≤ 1
  | [], _ => by simp [pth]
  | v :: L, b => by
    simp only [pth]
    split
    · omega
    · cases lk es v L with
      | none => simp
      | some w => simp only []; have := pth_le (es := es) L (dec b w); split <;> omega
theorem pth_dead {es : List Ed} {L : List Nat} (h : FO es L) : ∀ {e : Nat} {b : Cap}, 2 ≤ L.length → e ∈ L → b e = 0 → pth es L b = 0 := by
  induction h with
  | nil => intro e b h; simp at h
  | @cons v L hv hu hF ih =>
    intro e b h he hb
    have ne : L ≠ [] := fun z => by subst z; simp at h
    rw [pth_cons, if_neg ne, Nat.zero_add]
    cases k : lk es v L with
    | none => rfl
    | some w =>
      simp only []
      split
      · rename_i ok
        rcases List.mem_cons.mp he with z | z
        · subst z; omega
        · by_cases l : 2 ≤ L.length
          · exact ih l z (by simp only [dec]; split <;> omega)
          · have : L = [e] := by
              match L, ne, z with
              | [x], _, z => simp at z; rw [z]
              | x :: y :: r, _, _ => simp at l
            have := (lk_some k).1
            rw [‹L = [e]›] at this
            have : w = e := by simpa using this
            subst this; omega
      · rfl
theorem adj_one {es : List Ed} {v : Nat} : ∀ {L : List Nat}, L.Nodup → (∀ w ∈ L, ∀ u ∈ L, tie v w ∈ es → tie v u ∈ es → w = u) → (L.filter fun u => es.contains (tie v u)) = match lk es v L with | some w => [w] | none => []
  | [], _, _ => rfl
  | x :: L, nd, hu => by
    obtain ⟨n1, n2⟩ := List.nodup_cons.mp nd
    have ih := adj_one (es := es) (v := v) n2 fun w hw u hu' => hu w (by simp [hw]) u (by simp [hu'])
    rw [List.filter_cons]
    by_cases q : tie v x ∈ es
    · have e : lk es v (x :: L) = some x := by simp [lk, q]
      rw [if_pos (by simpa using q), e]
      have : (L.filter fun u => es.contains (tie v u)) = [] := List.filter_eq_nil_iff.mpr fun u hu' z => by
        have := hu x (by simp) u (by simp [hu']) q (by simpa using z)
        exact n1 (this ▸ hu')
      rw [this]
    · have e : lk es v (x :: L) = lk es v L := by simp [lk, q]
      rw [if_neg (by simpa using q), e, ih]
theorem cond_swap (p a c d : Nat) : (if 0 < c then (if 0 < a ∧ 0 < d then p else 0) else 0) = if 0 < a ∧ 0 < d then (if 0 < c then p else 0) else 0 := by
  (repeat' split) <;> first | rfl | omega
theorem cond_swap1 (p a x : Nat) : (if 0 < x then (if 0 < a ∧ 0 < x - 1 then p else 0) else 0) = if 0 < a ∧ 0 < x then (if 0 < x - 1 then p else 0) else 0 := by
  (repeat' split) <;> first | rfl | omega
theorem pth_end {es : List Ed} (loop : ∀ x, tie x x ∉ es) {L : List Nat} (h : FO es L) : ∀ {e : Nat} {b : Cap}, 2 ≤ L.length → e ∈ L → b e = 1 →
    pth es L b = sumL (L.filter fun u => es.contains (tie e u)) fun u => if 0 < b u then pth es (L.filter fun x => decide (x ≠ e)) (dec b u) else 0 := by
  induction h with
  | nil => intro e b h; simp at h
  | @cons v L hv hu hF ih =>
    intro e b h he hb
    have ne : L ≠ [] := fun z => by subst z; simp at h
    have nd := hF.nodup
    by_cases ev : e = v
    · subst ev
      have f1 : ((e :: L).filter fun x => decide (x ≠ e)) = L := by
        rw [List.filter_cons, if_neg (by simp)]
        exact List.filter_eq_self.mpr fun x hx => by
          have : x ≠ e := fun z => hv (z ▸ hx)
          simpa using this
      have f2 : ((e :: L).filter fun u => es.contains (tie e u)) = L.filter fun u => es.contains (tie e u) := by
        rw [List.filter_cons, if_neg (by simpa using loop e)]
      rw [f1, f2, adj_one nd hu, pth_cons, if_neg ne, Nat.zero_add]
      cases k : lk es e L with
      | none => simp [sumL]
      | some w => simp only [sumL, List.map_cons, List.map_nil, List.sum_cons, List.sum_nil, Nat.add_zero]; simp [hb]
    · have hL : e ∈ L := by rcases List.mem_cons.mp he with z | z; exact absurd z ev; exact z
      have f1 : ((v :: L).filter fun x => decide (x ≠ e)) = v :: L.filter fun x => decide (x ≠ e) := by
        rw [List.filter_cons, if_pos (by simpa using Ne.symm ev)]
      have sub : (L.filter fun x => decide (x ≠ e)).Sublist L := List.filter_sublist
      have memL' : ∀ u, u ∈ L.filter (fun x => decide (x ≠ e)) ↔ u ∈ L ∧ u ≠ e := fun u => by rw [List.mem_filter]; simp
      have lk' := lk_sub (v := v) sub hu
      have uin : ∀ u ∈ L.filter (fun u => es.contains (tie e u)), u ∈ L ∧ tie e u ∈ es ∧ u ≠ e := fun u hu' => by
        obtain ⟨a, c⟩ := List.mem_filter.mp hu'
        have c : tie e u ∈ es := by simpa using c
        exact ⟨a, c, fun z => loop e (by rw [z] at c; exact c)⟩
      rw [f1, List.filter_cons, pth_cons, if_neg ne, Nat.zero_add]
      cases k : lk es v L with
      | none =>
        have nv : tie e v ∉ es := by rw [tie_comm]; exact lk_none k e hL
        rw [if_neg (by simpa using nv)]
        simp only []
        rw [sumL_zero]
        intro u hu'
        have := uin u hu'
        have ne' : (L.filter fun x => decide (x ≠ e)) ≠ [] := List.ne_nil_of_mem ((memL' u).mpr ⟨this.1, this.2.2⟩)
        rw [pth_cons, if_neg ne', lk', k]; simp
      | some w =>
        have lw := lk_some k
        rw [k] at lk'
        by_cases we : w = e
        · subst we
          have av : tie w v ∈ es := by rw [tie_comm]; exact lw.2
          have nw : w ∉ L.filter fun x => decide (x ≠ w) := fun z => ((memL' w).mp z).2 rfl
          simp only [if_neg nw] at lk'
          rw [if_pos (by simpa using av)]
          have rest : sumL (L.filter fun u => es.contains (tie w u)) (fun u => if 0 < b u then pth es (v :: L.filter fun x => decide (x ≠ w)) (dec b u) else 0) = 0 := sumL_zero fun u hu' => by
            have := uin u hu'
            have ne' : (L.filter fun x => decide (x ≠ w)) ≠ [] := List.ne_nil_of_mem ((memL' u).mpr ⟨this.1, this.2.2⟩)
            rw [pth_cons, if_neg ne', lk']; simp
          have hd : ∀ l, sumL (v :: l) (fun u => if 0 < b u then pth es (v :: L.filter fun x => decide (x ≠ w)) (dec b u) else 0) = (if 0 < b v then pth es (v :: L.filter fun x => decide (x ≠ w)) (dec b v) else 0) + sumL l (fun u => if 0 < b u then pth es (v :: L.filter fun x => decide (x ≠ w)) (dec b u) else 0) := fun l => by simp [sumL]
          rw [hd, rest, Nat.add_zero, pth_cons, lk']
          simp only [hb, Nat.add_zero]
          have eL : (L.filter fun x => decide (x ≠ w)) = [] ↔ L = [w] := by
            constructor
            · intro z
              match L, ne, hL, nd with
              | x :: r, _, hL, nd =>
                have all : ∀ y ∈ x :: r, y = w := fun y hy => Classical.byContradiction fun q => by
                  have : y ∈ (x :: r).filter fun x => decide (x ≠ w) := List.mem_filter.mpr ⟨hy, by simpa using q⟩
                  rw [z] at this; simp at this
                have xw := all x (by simp)
                match r, nd, all with
                | [], _, _ => rw [xw]
                | y :: s, nd, all =>
                  have := all y (by simp)
                  rw [xw, this] at nd; simp at nd
            · intro z; rw [z]; simp
          by_cases l1 : L = [w]
          · rw [if_pos (eL.mpr l1), l1]
            simp [pth]
          · rw [if_neg (fun z => l1 (eL.mp z))]
            have l2 : 2 ≤ L.length := by
              match L, ne, hL, l1 with
              | [x], _, hL, l1 => simp at hL; exact absurd (by rw [hL]) l1
              | _ :: _ :: _, _, _, _ => simp
            rw [pth_dead hF l2 hL (by simp [dec, hb])]; simp
        · have nv : tie e v ∉ es := fun z => we (hu w lw.1 e hL lw.2 (by rw [tie_comm]; exact z))
          have wm : w ∈ L.filter fun x => decide (x ≠ e) := (memL' w).mpr ⟨lw.1, we⟩
          simp only [if_pos wm] at lk'
          rw [if_neg (by simpa using nv)]
          have l2 : 2 ≤ L.length := by
            match L, lw.1, hL with
            | [x], a, c => simp at a c; exact absurd (a.trans c.symm) we
            | _ :: _ :: _, _, _ => simp
          have be : dec b w e = 1 := by simp only [dec, if_neg (Ne.symm we), hb]
          simp only []
          rw [ih l2 hL be]
          have ne' : (L.filter fun x => decide (x ≠ e)) ≠ [] := List.ne_nil_of_mem wm
          have term : ∀ u ∈ L.filter (fun u => es.contains (tie e u)), (if 0 < b u then pth es (v :: L.filter fun x => decide (x ≠ e)) (dec b u) else 0) = if 0 < b v ∧ 0 < b w then (if 0 < dec b w u then pth es (L.filter fun x => decide (x ≠ e)) (dec (dec b w) u) else 0) else 0 := fun u hu' => by
            have := uin u hu'
            have uv : v ≠ u := fun z => hv (z ▸ this.1)
            rw [pth_cons, if_neg ne', Nat.zero_add, lk']
            simp only [dec_comm b u w]
            have e1 : dec b u v = b v := by simp only [dec, if_neg uv]
            rw [e1]
            by_cases uw : u = w
            · subst uw
              have d1 : dec b u u = b u - 1 := by simp [dec]
              rw [d1]; exact cond_swap1 _ _ _
            · have e2 : dec b u w = b w := by simp only [dec, if_neg (Ne.symm uw)]
              have e3 : dec b w u = b u := by simp only [dec, if_neg uw]
              rw [e2, e3]; exact cond_swap _ _ _ _
          rw [sumL_congr term]
          by_cases ok : 0 < b v ∧ 0 < b w
          · simp only [if_pos ok]
          · simp only [if_neg ok]; rw [sumL_zero]; intro _ _; rfl
theorem pth_two {es : List Ed} {L : List Nat} (h : FO es L) : ∀ {b : Cap}, (∀ v ∈ L, b v ≤ 2) → L ≠ [] → (1 ≤ sumL L (fun e => 2 - b e) ∨ 2 ≤ L.length) →
    sumL L (fun e => if 0 < b e then pth es L (dec b e) else 0) + sumL L (fun e => 2 - b e) * pth es L b = 2 * pth es L b := by
  induction h with
  | nil => intro b _ h; exact absurd rfl h
  | @cons v L hv hu hF ih =>
    intro b hb _ hs
    have nd := hF.nodup
    have hd : ∀ f : Nat → Nat, sumL (v :: L) f = f v + sumL L f := fun f => by simp [sumL]
    by_cases ne : L = []
    · subst ne
      have : b v ≤ 2 := hb v (by simp)
      have s1 : 1 ≤ 2 - b v := by
        rcases hs with z | z
        · simpa [sumL] using z
        · simp at z
      simp only [sumL, List.map_cons, List.map_nil, List.sum_cons, List.sum_nil, pth, if_true, Nat.add_zero, Nat.mul_one]
      split <;> omega
    · have bv := hb v (by simp)
      cases k : lk es v L with
      | none =>
        have z : ∀ c, pth es (v :: L) c = 0 := fun c => by rw [pth_cons, if_neg ne, k]; rfl
        simp only [z, Nat.mul_zero, Nat.add_zero]
        rw [sumL_zero]; intro e _; simp
      | some w =>
        have lw := lk_some k
        have vw : v ≠ w := fun z => hv (z ▸ lw.1)
        have bw := hb w (by simp [lw.1])
        have pc : ∀ c : Cap, pth es (v :: L) c = if 0 < c v ∧ 0 < c w then pth es L (dec c w) else 0 := fun c => by rw [pth_cons, if_neg ne, Nat.zero_add, k]
        rw [hd, hd]
        have first : pth es (v :: L) (dec b v) = if 0 < b v - 1 ∧ 0 < b w then pth es L (dec b w) else 0 := by
          rw [pc]
          have a1 : dec b v v = b v - 1 := by simp [dec]
          have a2 : dec b v w = b w := by simp only [dec, if_neg (Ne.symm vw)]
          have a3 : pth es L (dec (dec b v) w) = pth es L (dec b w) := pth_congr fun x hx => by
            have : x ≠ v := fun z => hv (z ▸ hx)
            simp only [dec, if_neg this]
          rw [a1, a2, a3]
        have second : sumL L (fun e => if 0 < b e then pth es (v :: L) (dec b e) else 0) = if 0 < b v ∧ 0 < b w then sumL L (fun e => if 0 < dec b w e then pth es L (dec (dec b w) e) else 0) else 0 := by
          have term : ∀ e ∈ L, (if 0 < b e then pth es (v :: L) (dec b e) else 0) = if 0 < b v ∧ 0 < b w then (if 0 < dec b w e then pth es L (dec (dec b w) e) else 0) else 0 := fun e he => by
            have ve : v ≠ e := fun z => hv (z ▸ he)
            rw [pc, dec_comm b e w]
            have e1 : dec b e v = b v := by simp only [dec, if_neg ve]
            rw [e1]
            by_cases ew : e = w
            · subst ew
              have d1 : dec b e e = b e - 1 := by simp [dec]
              rw [d1]; exact cond_swap1 _ _ _
            · have e2 : dec b e w = b w := by simp only [dec, if_neg (Ne.symm ew)]
              have e3 : dec b w e = b e := by simp only [dec, if_neg ew]
              rw [e2, e3]; exact cond_swap _ _ _ _
          rw [sumL_congr term]
          split
          · rfl
          · rw [sumL_zero]; intro _ _; rfl
        rw [first, second, pc b]
        by_cases w0 : 0 < b w
        · have sL : sumL L (fun e => 2 - dec b w e) = sumL L (fun e => 2 - b e) + 1 := by
            have key : ∀ {l : List Nat}, l.Nodup → w ∈ l → sumL l (fun e => 2 - dec b w e) = sumL l (fun e => 2 - b e) + 1 := by
              intro l
              induction l with
              | nil => intro _ h; simp at h
              | cons x l ih =>
                intro nd h
                obtain ⟨n1, n2⟩ := List.nodup_cons.mp nd
                have hd : ∀ f : Nat → Nat, sumL (x :: l) f = f x + sumL l f := fun f => by simp [sumL]
                rw [hd, hd]
                by_cases xw : x = w
                · subst xw
                  have : sumL l (fun e => 2 - dec b x e) = sumL l (fun e => 2 - b e) := sumL_congr fun e he => by
                    have : e ≠ x := fun z => n1 (z ▸ he)
                    simp only [dec, if_neg this]
                  rw [this]; simp only [dec, if_pos]; omega
                · have hw : w ∈ l := by rcases List.mem_cons.mp h with z | z; exact absurd z.symm xw; exact z
                  rw [ih n2 hw]; simp only [dec, if_neg xw]; omega
            exact key nd lw.1
          have i := ih (b := dec b w) (fun x hx => Nat.le_trans (dec_le _ _ _) (hb x (by simp [hx]))) ne (Or.inl (by omega))
          rw [sL] at i
          generalize sumL L (fun e => if 0 < dec b w e then pth es L (dec (dec b w) e) else 0) = q at *
          generalize pth es L (dec b w) = p at *
          generalize sumL L (fun e => 2 - b e) = s at *
          simp only [w0, and_true]
          rcases (show b v = 0 ∨ b v = 1 ∨ b v = 2 by omega) with z | z | z
          · rw [z]; simp
          · rw [z]
            simp only [Nat.lt_irrefl, if_true, if_false, Nat.sub_self, Nat.zero_lt_one]
            rw [Nat.zero_add, show 2 - 1 + s = s + 1 by omega]; simpa using i
          · rw [z]
            simp only [show (0 < 2) = True by simp, show (0 < 2 - 1) = True by simp, if_true, Nat.sub_self, Nat.zero_add]
            rw [← i, Nat.add_mul]; omega
        · have n1 : ¬ (0 < b v ∧ 0 < b w) := fun z => w0 z.2
          have n2 : ¬ (0 < b v - 1 ∧ 0 < b w) := fun z => w0 z.2
          simp [n1, n2]
end G37
namespace G37
/-- an order of the places for the trial -/
structure TO (n : Nat) (es : List Ed) (vs : List Nat) : Prop where
  fo : FO es vs
  pv : vs.Perm (List.range n)
  loop : ∀ x, tie x x ∉ es
  adj : ∀ u v, tie u v ∈ es → u < n ∧ v < n ∧ u ≠ v
  top : ∀ k, k ≤ n → Zc es vs cap2 (n - nu es cap2) = cnt es cap2
theorem Fo.to {n : Nat} {es : List Ed} (f : Fo n es) : ∃ vs, TO n es vs := by
  obtain ⟨vs, fs, hf, pv, pe⟩ := f.ex
  have h1 : ∀ e, e ∈ es → e.1 ∈ vs → e.2 ∈ vs → e ∈ fs := fun e he _ _ => pe.mem_iff.mpr he
  refine ⟨vs, hf.fo h1, pv, fun x q => ?_, fun u v q => f.adj q, fun k hk => ?_⟩
  · exact (f.adj q).2.2 rfl
  · have l := pv.length_eq
    rw [List.length_range] at l
    have le := f.nu_le cap2
    rw [Zc_Mc hf h1 (fun e he => pe.mem_iff.mp he), if_pos (by omega), show vs.length - (n - nu es cap2) = nu es cap2 by omega, ← nu_perm pe, Mc_top]
    simp only [cnt, M_perm pe]
def LX (vs : List Nat) (X : Nat) : List Nat := vs.filter X.testBit
def Wv (es : List Ed) (vs : List Nat) (X e : Nat) : Nat := pth es (LX vs X) (dec cap2 e)
def kn (es : List Ed) (vs : List Nat) (X : Nat) : Nat := pth es (LX vs X) cap2
def ct (es : List Ed) (vs : List Nat) (X k : Nat) : Nat := Zc es (LX vs X) cap2 k
section
variable {n : Nat} {es : List Ed} {vs : List Nat}
theorem TO.mem (t : TO n es vs) {X v : Nat} : v ∈ LX vs X ↔ v < n ∧ X.testBit v = true := by
  rw [LX, List.mem_filter, t.pv.mem_iff, List.mem_range]
theorem TO.nd (t : TO n es vs) (X : Nat) : (LX vs X).Nodup := List.Nodup.sublist List.filter_sublist t.fo.nodup
theorem TO.foX (t : TO n es vs) (X : Nat) : FO es (LX vs X) := t.fo.sub List.filter_sublist
theorem TO.one (t : TO n es vs) {X e : Nat} (hX : X < 2 ^ n) (he : X.testBit e = true) : X - 2 ^ e = 0 ↔ LX vs X = [e] := by
  have bs := bit_sub he
  have em : e ∈ LX vs X := t.mem.mpr ⟨bit_lt hX he, he⟩
  constructor
  · intro z
    have only : ∀ x ∈ LX vs X, x = e := fun x hx => Classical.byContradiction fun q => by
      have := bs x
      rw [z, Nat.zero_testBit, (t.mem.mp hx).2] at this
      simp [q] at this
    have nd := t.nd X
    match LX vs X, em, only, nd with
    | [x], _, only, _ => rw [only x (by simp)]
    | x :: y :: r, _, only, nd =>
      have a := only x (by simp)
      have b := only y (by simp)
      rw [a, b] at nd; simp at nd
  · intro z
    apply Nat.eq_of_testBit_eq
    intro i
    rw [Nat.zero_testBit, bs]
    by_cases q : i = e
    · simp [q]
    · cases h : X.testBit i with
      | false => simp
      | true =>
        have : i ∈ LX vs X := t.mem.mpr ⟨bit_lt hX h, h⟩
        rw [z] at this; simp at this; exact absurd this q
theorem TO.ways (t : TO n es vs) {X e : Nat} (hX : X < 2 ^ n) (he : X.testBit e = true) : (if X - 2 ^ e = 0 then 1 else 0) + sumL ((nb n es e).filter (X - 2 ^ e).testBit) (fun u => Wv es vs (X - 2 ^ e) u) = Wv es vs X e := by
  have bs := bit_sub he
  have em : e ∈ LX vs X := t.mem.mpr ⟨bit_lt hX he, he⟩
  by_cases z : X - 2 ^ e = 0
  · have l := (t.one hX he).mp z
    rw [if_pos z, z, Wv, l]
    have : ((nb n es e).filter (0 : Nat).testBit) = [] := List.filter_eq_nil_iff.mpr fun x _ => by simp
    rw [this]
    simp [sumL, pth]
  · have l2 : 2 ≤ (LX vs X).length := by
      have ne : LX vs X ≠ [e] := fun q => z ((t.one hX he).mpr q)
      match LX vs X, em, ne with
      | [x], em, ne => simp at em; exact absurd (by rw [em]) ne
      | _ :: _ :: _, _, _ => simp
    have d1 : dec cap2 e e = 1 := by simp [dec, cap2]
    have flt : ((LX vs X).filter fun x => decide (x ≠ e)) = LX vs (X - 2 ^ e) := by
      simp only [LX, List.filter_filter]
      refine List.filter_congr fun x _ => ?_
      rw [bs]
    rw [if_neg z, Nat.zero_add, Wv, pth_end t.loop (t.foX X) l2 em d1, flt]
    have p : ((LX vs X).filter fun u => es.contains (tie e u)).Perm ((nb n es e).filter (X - 2 ^ e).testBit) := by
      refine (List.perm_ext_iff_of_nodup (List.Nodup.sublist List.filter_sublist (t.nd X)) (List.Nodup.sublist List.filter_sublist (nb_nodup n es e))).mpr fun x => ?_
      rw [List.mem_filter, List.mem_filter, t.mem, mem_nb, bs]
      simp only [List.contains_eq_mem, decide_eq_true_eq, Bool.and_eq_true]
      constructor
      · rintro ⟨⟨a, b⟩, c⟩
        exact ⟨⟨a, c⟩, fun q => t.loop e (by rw [q] at c; exact c), b⟩
      · rintro ⟨⟨a, c⟩, _, b⟩
        exact ⟨⟨a, b⟩, c⟩
    rw [sumL_perm p]
    refine sumL_congr fun u hu => ?_
    obtain ⟨_, h2⟩ := List.mem_filter.mp hu
    rw [bs] at h2
    have ue : u ≠ e := by
      have := (Bool.and_eq_true _ _ ▸ h2).1
      simpa using this
    have : dec cap2 e u = 2 := by simp only [dec, if_neg ue, cap2]
    rw [if_pos (by omega), Wv]
    refine (pth_congr fun x hx => ?_).symm
    have xe : x ≠ e := fun q => by
      have := (t.mem.mp hx).2
      rw [bs, q] at this; simp at this
    simp only [dec, if_neg xe, cap2]
theorem TO.through (t : TO n es vs) {X : Nat} (h0 : X ≠ 0) (hX : X < 2 ^ n) : (X &&& (X - 1) = 0 → sumL ((List.range n).filter X.testBit) (Wv es vs X) = kn es vs X) ∧ (X &&& (X - 1) ≠ 0 → sumL ((List.range n).filter X.testBit) (Wv es vs X) / 2 = kn es vs X) := by
  obtain ⟨v, hv, e⟩ := low_bit X (by omega)
  have p : ((List.range n).filter X.testBit).Perm (LX vs X) := t.pv.symm.filter _
  rw [sumL_perm p, e]
  constructor
  · intro z
    have l := (t.one hX hv).mp z
    have w1 : Wv es vs X v = 1 := by simp only [Wv, l]; simp [pth]
    rw [l]
    simp only [kn, l, sumL, List.map_cons, List.map_nil, List.sum_cons, List.sum_nil, w1]
    simp [pth]
  · intro z
    have vm : v ∈ LX vs X := t.mem.mpr ⟨bit_lt hX hv, hv⟩
    have l2 : 2 ≤ (LX vs X).length := by
      have ne : LX vs X ≠ [v] := fun q => z ((t.one hX hv).mpr q)
      match LX vs X, vm, ne with
      | [x], em, ne => simp at em; exact absurd (by rw [em]) ne
      | _ :: _ :: _, _, _ => simp
    have two := pth_two (t.foX X) (b := cap2) (fun _ _ => by simp [cap2]) (List.ne_nil_of_mem vm) (Or.inr l2)
    have s0 : sumL (LX vs X) (fun e => 2 - cap2 e) = 0 := sumL_zero fun x _ => by simp [cap2]
    have s1 : sumL (LX vs X) (fun e => if 0 < cap2 e then pth es (LX vs X) (dec cap2 e) else 0) = sumL (LX vs X) (Wv es vs X) := sumL_congr fun x _ => by simp [cap2, Wv]
    rw [s0, s1, Nat.zero_mul, Nat.add_zero] at two
    rw [two]; simp [kn]
theorem kn_le (X : Nat) : kn es vs X ≤ 1 := pth_le _ _
theorem mask_ex : ∀ (n : Nat) (p : Nat → Bool), ∃ s, s < 2 ^ n ∧ ∀ u, s.testBit u = (decide (u < n) && p u)
  | 0, _ => ⟨0, by simp, fun u => by simp⟩
  | n + 1, p => by
    obtain ⟨s, hs, h⟩ := mask_ex n p
    have sn : s.testBit n = false := by rw [h]; simp
    cases q : p n with
    | false =>
      refine ⟨s, by rw [Nat.pow_succ]; omega, fun u => ?_⟩
      rw [h]
      by_cases e : u = n
      · subst e; simp [q]
      · have : decide (u < n + 1) = decide (u < n) := by
          by_cases l : u < n
          · simp [l]; omega
          · simp [l]; omega
        rw [this]
    | true =>
      refine ⟨s + 2 ^ n, by rw [Nat.pow_succ]; omega, fun u => ?_⟩
      rw [bit_add sn, h]
      by_cases e : u = n
      · subst e; simp [q]
      · have : decide (u < n + 1) = decide (u < n) := by
          by_cases l : u < n
          · simp [l]; omega
          · simp [l]; omega
        rw [this]; simp [e]
theorem subm_sub : ∀ {s r : Nat}, subm s r → ∀ u, (r - s).testBit u = (r.testBit u && !s.testBit u) := by
  intro s
  induction s using Nat.strongRecOn with
  | ind s ih =>
    intro r h u
    by_cases s0 : s = 0
    · subst s0; simp
    · have hb := subm_iff.mp h
      have h2 : subm (s / 2) (r / 2) := subm_iff.mpr fun i hi => by
        rw [← bit_succ] at hi ⊢; exact hb _ hi
      have l2 := subm_le h2
      have m0 : s % 2 ≤ r % 2 := by
        have := hb 0
        rw [bit_zero, bit_zero] at this
        simp only [decide_eq_true_eq] at this
        omega
      cases u with
      | zero =>
        rw [bit_zero, bit_zero, bit_zero]
        rcases (show s % 2 = 0 ∨ s % 2 = 1 by omega) with z | z <;> rcases (show r % 2 = 0 ∨ r % 2 = 1 by omega) with y | y <;> (simp [z, y]; omega)
      | succ u =>
        rw [bit_succ, bit_succ, bit_succ, ← ih (s / 2) (by omega) h2 u]
        congr 1; omega
theorem splits_nodup : ∀ {L : List Nat}, L.Nodup → (splits L).Nodup
  | [], _ => by simp [splits]
  | v :: L, nd => by
    obtain ⟨n1, n2⟩ := List.nodup_cons.mp nd
    have ih := splits_nodup n2
    have inj : ∀ (f : List Nat × List Nat → List Nat × List Nat), (∀ a b, f a = f b → a = b) → ∀ {l : List (List Nat × List Nat)}, l.Nodup → (l.map f).Nodup := by
      intro f hf l
      induction l with
      | nil => intro _; simp
      | cons a l ih =>
        intro h
        obtain ⟨m1, m2⟩ := List.nodup_cons.mp h
        rw [List.map_cons]
        refine List.nodup_cons.mpr ⟨fun q => ?_, ih m2⟩
        obtain ⟨b, hb, e⟩ := List.mem_map.mp q
        exact m1 (hf _ _ e ▸ hb)
    simp only [splits]
    rw [List.nodup_append]
    refine ⟨inj _ (fun a b e => ?_) ih, inj _ (fun a b e => ?_) ih, fun a ha b hb e => ?_⟩
    · obtain ⟨a1, a2⟩ := a; obtain ⟨b1, b2⟩ := b; simp at e; simp [e]
    · obtain ⟨a1, a2⟩ := a; obtain ⟨b1, b2⟩ := b; simp at e; simp [e]
    · obtain ⟨x, hx, rfl⟩ := List.mem_map.mp ha
      obtain ⟨y, hy, rfl⟩ := List.mem_map.mp hb
      have : v ∈ y.1 := by
        have := congrArg Prod.fst e
        simp at this
        rw [← this]; simp
      exact n1 ((splits_sub hy).1.subset this)
theorem splits_filter : ∀ (L : List Nat) (p : Nat → Bool), (L.filter p, L.filter fun x => !p x) ∈ splits L
  | [], _ => by simp [splits]
  | v :: L, p => by
    have ih := splits_filter L p
    simp only [splits, List.mem_append, List.mem_map, List.filter_cons]
    cases q : p v with
    | true => exact Or.inl ⟨_, ih, by simp⟩
    | false => exact Or.inr ⟨_, ih, by simp⟩
theorem splits_ex {L : List Nat} (nd : L.Nodup) : ∀ {q : List Nat × List Nat}, q ∈ splits L → q = (L.filter (fun x => q.1.contains x), L.filter fun x => !q.1.contains x) := by
  induction L with
  | nil => intro q h; simp [splits] at h; subst h; simp
  | cons v L ih =>
    obtain ⟨n1, n2⟩ := List.nodup_cons.mp nd
    intro q h
    simp only [splits, List.mem_append, List.mem_map] at h
    have cg : ∀ (r : List Nat × List Nat), L.filter (fun x => (v :: r.1).contains x) = L.filter fun x => r.1.contains x := fun r => List.filter_congr fun x hx => by
      have : x ≠ v := fun z => n1 (z ▸ hx)
      simp [this]
    have cg2 : ∀ (r : List Nat × List Nat), L.filter (fun x => !(v :: r.1).contains x) = L.filter fun x => !r.1.contains x := fun r => List.filter_congr fun x hx => by
      have : x ≠ v := fun z => n1 (z ▸ hx)
      simp [this]
    rcases h with ⟨r, hr, rfl⟩ | ⟨r, hr, rfl⟩
    · have i := ih n2 hr
      simp only [List.filter_cons]
      rw [cg, cg2]
      have a1 : r.1 = L.filter fun x => r.1.contains x := congrArg Prod.fst i
      have a2 : r.2 = L.filter fun x => !r.1.contains x := congrArg Prod.snd i
      rw [← a1, ← a2]; simp
    · have i := ih n2 hr
      have nv : v ∉ r.1 := fun z => n1 ((splits_sub hr).1.subset z)
      have a1 : r.1 = L.filter fun x => r.1.contains x := congrArg Prod.fst i
      have a2 : r.2 = L.filter fun x => !r.1.contains x := congrArg Prod.snd i
      simp only [List.filter_cons]
      rw [← a1, ← a2]; simp [nv]
theorem TO.counted (t : TO n es vs) {X v : Nat} (hX : X < 2 ^ n) (hv : X.testBit v = true) {found : List Nat} (nd : found.Nodup) (hm : ∀ s, s ∈ found ↔ subm s (X - 2 ^ v)) (k : Nat) : ct es vs X (k + 1) = sumL found fun s => kn es vs (2 ^ v + s) * ct es vs (X - 2 ^ v - s) k := by
  have bs := bit_sub hv
  have vm : v ∈ LX vs X := t.mem.mpr ⟨bit_lt hX hv, hv⟩
  -- the part told by s, and the rest
  have sv : ∀ s, subm s (X - 2 ^ v) → s.testBit v = false := fun s hs => by
    cases q : s.testBit v with
    | false => rfl
    | true => have := subm_iff.mp hs v q; rw [bs] at this; simp at this
  have b1 : ∀ s, subm s (X - 2 ^ v) → ∀ u, (2 ^ v + s).testBit u = (decide (u = v) || s.testBit u) := fun s hs u => by
    rw [Nat.add_comm]; exact bit_add (sv s hs) u
  have c1 : ∀ s, subm s (X - 2 ^ v) → LX vs (2 ^ v + s) = (LX vs X).filter (2 ^ v + s).testBit := fun s hs => by
    simp only [LX, List.filter_filter]
    refine List.filter_congr fun x _ => ?_
    rw [b1 s hs]
    by_cases q : x = v
    · subst q; simp [hv]
    · cases r : s.testBit x with
      | false => simp [q]
      | true => have := subm_iff.mp hs x r; rw [bs] at this; simp [q] at this; simp [q, this]
  have c2 : ∀ s, subm s (X - 2 ^ v) → LX vs (X - 2 ^ v - s) = (LX vs X).filter fun x => !(2 ^ v + s).testBit x := fun s hs => by
    simp only [LX, List.filter_filter]
    refine List.filter_congr fun x _ => ?_
    rw [subm_sub hs, bs, b1 s hs]
    by_cases q : x = v
    · subst q; simp
    · simp [q, Bool.and_comm]
  have inj : ∀ s s', subm s (X - 2 ^ v) → subm s' (X - 2 ^ v) → LX vs (2 ^ v + s) = LX vs (2 ^ v + s') → s = s' := fun s s' hs hs' e => by
    apply Nat.eq_of_testBit_eq
    intro i
    by_cases q : i = v
    · rw [q, sv s hs, sv s' hs']
    · have m : ∀ s, subm s (X - 2 ^ v) → (s.testBit i = true ↔ i ∈ LX vs (2 ^ v + s)) := fun s hs => by
        rw [t.mem, b1 s hs]
        simp only [q, decide_false, Bool.false_or]
        refine ⟨fun h => ⟨?_, h⟩, fun h => h.2⟩
        have := subm_iff.mp hs i h
        rw [bs] at this
        exact bit_lt hX (Bool.and_eq_true _ _ ▸ this).2
      have := (m s hs).trans ((by rw [e]) : i ∈ LX vs (2 ^ v + s) ↔ i ∈ LX vs (2 ^ v + s')) |>.trans (m s' hs').symm
      cases a : s.testBit i <;> cases b : s'.testBit i <;> simp_all
  have p : (found.map fun s => (LX vs (2 ^ v + s), LX vs (X - 2 ^ v - s))).Perm ((splits (LX vs X)).filter fun q => q.1.contains v) := by
    refine (List.perm_ext_iff_of_nodup ?_ (List.Nodup.sublist List.filter_sublist (splits_nodup (t.nd X)))).mpr fun q => ?_
    · have : ∀ {l : List Nat}, (∀ s ∈ l, subm s (X - 2 ^ v)) → l.Nodup → (l.map fun s => (LX vs (2 ^ v + s), LX vs (X - 2 ^ v - s))).Nodup := by
        intro l
        induction l with
        | nil => intro _ _; simp
        | cons a l ih =>
          intro h nd
          obtain ⟨m1, m2⟩ := List.nodup_cons.mp nd
          rw [List.map_cons]
          refine List.nodup_cons.mpr ⟨fun q => ?_, ih (fun s hs => h s (by simp [hs])) m2⟩
          obtain ⟨b, hb, e⟩ := List.mem_map.mp q
          exact m1 (inj b a (h b (by simp [hb])) (h a (by simp)) (congrArg Prod.fst e) ▸ hb)
      exact this (fun s hs => (hm s).mp hs) nd
    · rw [List.mem_map, List.mem_filter]
      constructor
      · rintro ⟨s, hs, rfl⟩
        have hs := (hm s).mp hs
        refine ⟨?_, ?_⟩
        · rw [c1 s hs, c2 s hs]; exact splits_filter _ _
        · have : v ∈ LX vs (2 ^ v + s) := t.mem.mpr ⟨bit_lt hX hv, by rw [b1 s hs]; simp⟩
          simpa using this
      · rintro ⟨h1, h2⟩
        have h2 : v ∈ q.1 := by simpa using h2
        have e := splits_ex (t.nd X) h1
        obtain ⟨s, hs, hb⟩ := mask_ex n fun u => decide (u ≠ v) && (X.testBit u && q.1.contains u)
        have ss : subm s (X - 2 ^ v) := subm_iff.mpr fun i hi => by
          rw [hb] at hi
          rw [bs]
          simp only [Bool.and_eq_true] at hi ⊢
          exact ⟨hi.2.1, hi.2.2.1⟩
        have key : ∀ x ∈ LX vs X, (2 ^ v + s).testBit x = q.1.contains x := fun x hx => by
          rw [b1 s ss, hb]
          have xm := t.mem.mp hx
          by_cases z : x = v
          · subst z; simp [h2]
          · simp [z, xm]
        refine ⟨s, (hm s).mpr ss, ?_⟩
        rw [c1 s ss, c2 s ss, e]
        simp only [Prod.mk.injEq]
        exact ⟨List.filter_congr fun x hx => key x hx, List.filter_congr fun x hx => by rw [key x hx]⟩
  have z := Zc_any (t.foX X) (b := cap2) (k := k) vm
  rw [ct, z, Ssum]
  have f := sumL_filter (fun q : List Nat × List Nat => q.1.contains v) (fun q => pth es q.1 cap2 * Zc es q.2 cap2 k) (splits (LX vs X))
  have : sumL (splits (LX vs X)) (fun q => if v ∈ q.1 then pth es q.1 cap2 * Zc es q.2 cap2 k else 0) = sumL ((splits (LX vs X)).filter fun q => q.1.contains v) fun q => pth es q.1 cap2 * Zc es q.2 cap2 k := by
    rw [f]
    refine sumL_congr fun q _ => ?_
    simp
  rw [this, ← sumL_perm p, sumL_map]; rfl
theorem TO.ct_zero (t : TO n es vs) {X : Nat} (h0 : X ≠ 0) (hX : X < 2 ^ n) : ct es vs X 0 = 0 := by
  obtain ⟨v, hv, _⟩ := low_bit X (by omega)
  exact Zc_zero (List.ne_nil_of_mem (t.mem.mpr ⟨bit_lt hX hv, hv⟩))
theorem ct_none (k : Nat) : ct es vs 0 k = if k = 0 then 1 else 0 := by
  have : LX vs 0 = [] := List.filter_eq_nil_iff.mpr fun x _ => by simp
  rw [ct, this]; rfl
theorem TO.full (t : TO n es vs) : ct es vs (2 ^ n - 1) (n - nu es cap2) = cnt es cap2 := by
  have : LX vs (2 ^ n - 1) = vs := List.filter_eq_self.mpr fun x hx => by
    rw [bit_full]; simpa using List.mem_range.mp (t.pv.mem_iff.mp hx)
  rw [ct, this]; exact t.top n (Nat.le_refl _)
end
end G37
namespace G37
/-! ### the forest that the law makes -/
theorem gen_start {order : List Nat} (h : 0 < order.length) : FF (order.take 1).reverse [] := by
  match order, h with
  | a :: r, _ => simp; exact .iso (by simp) .nil
theorem gen_skip {order : List Nat} (nd : order.Nodup) {p : Nat} (hp : p < order.length) {ts : List Ed} (h : FF (order.take p).reverse ts.reverse) : FF (order.take (p + 1)).reverse ts.reverse := by
  rw [List.take_succ_eq_append_getElem hp, List.reverse_append]
  refine .iso (fun q => ?_) h
  have m := List.mem_reverse.mp q
  obtain ⟨i, hi, e⟩ := List.mem_iff_getElem.mp m
  rw [List.length_take] at hi
  rw [List.getElem_take] at e
  have := (List.getElem_inj nd).mp e
  omega
theorem gen_tie {order : List Nat} (nd : order.Nodup) {p o : Nat} (hp : p < order.length) (ho : o < p) {ts : List Ed} (h : FF (order.take p).reverse ts.reverse) {e : Ed} (he : e = tie (order[o]'(by omega)) order[p]) : FF (order.take (p + 1)).reverse (ts ++ [e]).reverse := by
  rw [List.take_succ_eq_append_getElem hp, List.reverse_append, List.reverse_append, he, tie_comm]
  refine .leaf (fun q => ?_) ?_ h
  · have m := List.mem_reverse.mp q
    obtain ⟨i, hi, e⟩ := List.mem_iff_getElem.mp m
    rw [List.length_take] at hi
    rw [List.getElem_take] at e
    have := (List.getElem_inj nd).mp e
    omega
  · show order[o]'(by omega) ∈ (order.take p).reverse
    rw [List.mem_reverse, List.mem_iff_getElem]
    exact ⟨o, by rw [List.length_take]; omega, by rw [List.getElem_take]⟩
theorem gen_done {n : Nat} {order : List Nat} (pm : order.Perm (List.range n)) {ts : List Ed} (h : FF (order.take n).reverse ts.reverse) : Fo n ts := by
  have l := pm.length_eq
  rw [List.length_range] at l
  rw [List.take_of_length_le (by omega)] at h
  exact ⟨_, _, h, (List.reverse_perm _).trans pm, List.reverse_perm _⟩
theorem sorted_web {n : Nat} {ts es : List Ed} (f : Fo n ts) (hn : n ≤ 60) (p : es.Perm ts) (s : es.Pairwise fun e g => ¬ ltE g e) : Web n es := by
  have fe := f.perm p.symm
  refine ⟨hn, fe, ?_⟩
  have nd := fe.edup
  clear fe p f
  induction es with
  | nil => exact .nil
  | cons e es ih =>
    obtain ⟨h1, h2⟩ := List.pairwise_cons.mp s
    obtain ⟨n1, n2⟩ := List.nodup_cons.mp nd
    refine List.pairwise_cons.mpr ⟨fun g hg => ?_, ih h2 n2⟩
    have a := h1 g hg
    have ne : e ≠ g := fun z => n1 (z ▸ hg)
    obtain ⟨e1, e2⟩ := e
    obtain ⟨g1, g2⟩ := g
    simp only [ltE] at a ⊢
    have : ¬ (e1 = g1 ∧ e2 = g2) := fun z => ne (by rw [z.1, z.2])
    omega
end G37
set_option linter.all false
set_option maxRecDepth 100000
set_option maxHeartbeats 4000000
/-! the walk: words of our own over the hand layer -/
namespace W37
open PySem PySem.Spec PyProof.Rows L2
open Evl (Ex)
open G37 (Ed nb tie)
def top (i : Nat) : Stmt := PySem.Challenge.pw_fewways_k37_whole_forests.main.body.getD i (.Pass ⟨0, 0, 0, 0⟩)
/-- a def as the top left it -/
def Df (K : PySem.W.Frag) (mg : Str → Option Value) (x : Str) (st : Stmt) (ps : List Str) : Prop :=
  ∃ f fd, Fun K x x st f fd ∧ mg x = some (.ref f) ∧ Binds K fd ps []
/-- a def that keeps its promise -/
def Kp (P : Program) (w : World) (K : PySem.W.Frag) (mg : Str → Option Value) (base : Heap) (x : Str) (k : Nat) (ps : List Str) (sp : Sp) : Prop :=
  ∃ f fd, FnOk P w K mg base CX0 k f fd ps sp ∧ mg x = some (.ref f) ∧ PySem.W.keepIn K (.ref f) = true ∧ Binds K fd ps []
theorem Df.kp {P : Program} {w : World} {K : PySem.W.Frag} {mg : Str → Option Value} {base : Heap} {x : Str} {st : Stmt} {ps N : List Str} {k : Nat} {sp : Sp} (D : Df K mg x st ps) (S : FnScope N ps (defScope st)) (len : ∀ vs H Q E, sp vs H Q E → vs.length = ps.length)
    (hbody : ∀ (f : Addr) (cdv : Value) (A : Around) (outer : List Env) (s : Shared) (H : Hp) (vs : List V) (Q : VK) (E : XK), Room k (A.deeper (envOfC x (defScope st) s.heap.objs.size f cdv)) → sp vs H Q E →
      ∃ t, PSs (cxOf CX0 P w K mg base N x (defScope st) f cdv A outer s H E).nox (defBody st) t ∧ t { nx := fun _ H' => Q .non H', rt := Q } (start N vs) H) : Kp P w K mg base x (k + 1) ps sp := by
  obtain ⟨f, fd, F, g, b⟩ := D
  exact ⟨f, fd, F.ok S len (hbody f), g, F.kp, b⟩
/-! ### heaps -/
theorem ex_new {H : Hp} {p : Addr} {o : HO} (h : H p = none) : Ex H (upd H p o) := Evl.Ex.new h
theorem ex_r (H : Hp) : Ex H H := Evl.Ex.refl H
/-- an object that H does not know may change -/
theorem ex_mut {H H' : Hp} {p : Addr} {o : HO} (e : Ex H H') (h : H p = none) : Ex H (upd H' p o) := Evl.Ex.mut e h
theorem ex_free {H H' : Hp} {p : Addr} (e : Ex H H') (h : H' p = none) : H p = none := Evl.fresh_back e h
def del (H : Hp) (D : Addr) : Hp := fun a => if a = D then none else H a
theorem del_same {H : Hp} {D : Addr} : del H D D = none := by simp [del]
theorem del_ne {H : Hp} {D a : Addr} (h : a ≠ D) : del H D a = H a := by simp [del, h]
theorem del_ex {H : Hp} {D : Addr} : Ex (del H D) H := fun a o h => by
  simp only [del] at h
  split at h
  · cases h
  · exact h
theorem del_mono {H H' : Hp} {D : Addr} (e : Ex H H') : Ex (del H D) (del H' D) := fun a o h => by
  simp only [del] at h ⊢
  split at h
  · cases h
  · rename_i q; rw [if_neg q]; exact e a o h
theorem del_upd {H : Hp} {D : Addr} {o : HO} : del (upd H D o) D = del H D := by
  funext a; simp only [del, upd]; split <;> rfl
theorem ex_del {H H' : Hp} {D : Addr} (e : Ex H H') (h : H D = none) : Ex H (del H' D) := fun a o q => by
  rw [del_ne (ne_of_none q h)]; exact e a o q
theorem upd_ex {H H' : Hp} {p : Addr} {o u : HO} (h : H p = some o) (e : Ex (upd H p u) H') : H' p = some u := e p u upd_same
/-! ### data -/
mutual
theorem dp_up {K : PySem.W.Frag} {H H' : Hp} (e : Ex H H') : ∀ {d : PyData} {v : V}, Dp K H v d → Dp K H' v d
  | .none, _, h => by cases h; exact .non
  | .bool b, _, h => by cases h; exact .bl b
  | .int i, _, h => by cases h; exact .int i
  | .str x, _, h => by cases h; exact .str x
  | .list ds, _, h => by
    cases h with
    | lst hs ha => exact .lst (Evl.ex_l e hs) (dps_up e ha)
  | .tuple ds, _, h => by
    cases h with
    | tup hs ha => exact .tup (Evl.ex_t e hs) (dps_up e ha)
  | .dict _, _, h => by cases h
theorem dps_up {K : PySem.W.Frag} {H H' : Hp} (e : Ex H H') : ∀ {ds : List PyData} {vs : List V}, DpAll K H vs ds → DpAll K H' vs ds
  | [], _, h => by cases h; exact .nil
  | d :: ds, _, h => by
    cases h with
    | cons h1 h2 => exact .cons (dp_up e h1) (dps_up e h2)
end
mutual
def noL : PyData → Bool
  | .none | .bool _ | .int _ | .str _ => true
  | .list _ => false
  | .tuple ds => noLs ds
  | .dict _ => false
def noLs : List PyData → Bool
  | [] => true
  | d :: ds => noL d && noLs ds
end
theorem sqT_del {K : PySem.W.Frag} {H : Hp} {D a : Addr} {xs ys : List V} (hD : H D = some (.lst ys)) (h : SqT K H a xs) : SqT K (del H D) a xs := by
  rcases h with (h | ⟨o, h⟩) | h
  · exact .inl (.inl (by rw [del_ne (ne_of h hD (by intro z; cases z))]; exact h))
  · exact .inl (.inr ⟨o, by rw [del_ne (ne_of h hD (by intro z; cases z))]; exact h⟩)
  · exact .inr h
mutual
theorem dp_del {K : PySem.W.Frag} {H : Hp} {D : Addr} {ys : List V} (hD : H D = some (.lst ys)) : ∀ {d : PyData} {v : V}, noL d = true → Dp K H v d → Dp K (del H D) v d
  | .none, _, _, h => by cases h; exact .non
  | .bool b, _, _, h => by cases h; exact .bl b
  | .int i, _, _, h => by cases h; exact .int i
  | .str x, _, _, h => by cases h; exact .str x
  | .list ds, _, n, _ => by simp [noL] at n
  | .tuple ds, _, n, h => by
    cases h with
    | tup hs ha => exact .tup (sqT_del hD hs) (dps_del hD (by simpa [noL] using n) ha)
  | .dict _, _, _, h => by cases h
theorem dps_del {K : PySem.W.Frag} {H : Hp} {D : Addr} {ys : List V} (hD : H D = some (.lst ys)) : ∀ {ds : List PyData} {vs : List V}, noLs ds = true → DpAll K H vs ds → DpAll K (del H D) vs ds
  | [], _, _, h => by cases h; exact .nil
  | d :: ds, _, n, h => by
    simp only [noLs, Bool.and_eq_true] at n
    cases h with
    | cons h1 h2 => exact .cons (dp_del hD n.1 h1) (dps_del hD n.2 h2)
end
section
variable {K : PySem.W.Frag} {H : Hp}
theorem _root_.L2.Dp.int_v {v : V} {i : Int} (h : Dp K H v (.int i)) : v = .int i := by cases h; rfl
theorem _root_.L2.Dp.bl_v {v : V} {b : Bool} (h : Dp K H v (.bool b)) : v = .bl b := by cases h; rfl
theorem _root_.L2.Dp.non_v {v : V} (h : Dp K H v .none) : v = .non := by cases h; rfl
theorem _root_.L2.Dp.tup_v {v : V} {ds : List PyData} (h : Dp K H v (.tuple ds)) : ∃ a xs, v = .ref a ∧ SqT K H a xs ∧ DpAll K H xs ds := by
  cases h with
  | tup hs ha => exact ⟨_, _, rfl, hs, ha⟩
theorem _root_.L2.Dp.lst_v {v : V} {ds : List PyData} (h : Dp K H v (.list ds)) : ∃ a xs, v = .ref a ∧ SqL K H a xs ∧ DpAll K H xs ds := by
  cases h with
  | lst hs ha => exact ⟨_, _, rfl, hs, ha⟩
theorem dps_len : ∀ {xs : List V} {ds : List PyData}, DpAll K H xs ds → xs.length = ds.length
  | _, _, .nil => rfl
  | _, _, .cons _ h => by simp [dps_len h]
theorem dps_get : ∀ {xs : List V} {ds : List PyData} {i : Nat} {x : V}, DpAll K H xs ds → xs[i]? = some x → ∃ d, ds[i]? = some d ∧ Dp K H x d
  | _, _, _, _, .nil, h => by simp at h
  | _, _, 0, x, .cons h1 _, h => by simp at h; subst h; exact ⟨_, rfl, h1⟩
  | _, _, i + 1, x, .cons _ h2, h => by
    obtain ⟨d, a, b⟩ := dps_get (i := i) h2 (by simpa using h)
    exact ⟨d, by simpa using a, b⟩
theorem _root_.L2.DpAll.len {xs : List V} {ds : List PyData} (h : DpAll K H xs ds) : xs.length = ds.length := dps_len h
theorem _root_.L2.DpAll.get {xs : List V} {ds : List PyData} {i : Nat} {x : V} (h : DpAll K H xs ds) (k : xs[i]? = some x) : ∃ d, ds[i]? = some d ∧ Dp K H x d := dps_get h k
theorem _root_.L2.DpAll.at_ {xs : List V} {ds : List PyData} {i : Nat} {d : PyData} (h : DpAll K H xs ds) (hd : ds[i]? = some d) : ∃ x, xs[i]? = some x ∧ Dp K H x d := by
  have hi : i < xs.length := by rw [h.len]; exact (List.getElem?_eq_some_iff.mp hd).1
  obtain ⟨d', a, b⟩ := h.get (List.getElem?_eq_getElem hi)
  rw [hd] at a; cases a
  exact ⟨_, List.getElem?_eq_getElem hi, b⟩
theorem dps_app : ∀ {xs ys : List V} {ds es : List PyData}, DpAll K H xs ds → DpAll K H ys es → DpAll K H (xs ++ ys) (ds ++ es)
  | _, _, _, _, .nil, h => h
  | _, _, _, _, .cons h1 h2, h => .cons h1 (dps_app h2 h)
theorem _root_.L2.DpAll.app {xs ys : List V} {ds es : List PyData} (h : DpAll K H xs ds) (k : DpAll K H ys es) : DpAll K H (xs ++ ys) (ds ++ es) := dps_app h k
theorem _root_.L2.DpAll.one {v : V} {d : PyData} (h : Dp K H v d) : DpAll K H [v] [d] := .cons h .nil
end
abbrev vN (n : Nat) : V := .int (n : Int)
abbrev dI (n : Nat) : PyData := .int (n : Int)
abbrev dNs (ns : List Nat) : List PyData := ns.map dI
abbrev dE (e : Ed) : PyData := .tuple [dI e.1, dI e.2]
abbrev dEs (es : List Ed) : PyData := .tuple (es.map dE)
abbrev dWeb (n : Nat) (es : List Ed) : PyData := .tuple [dI n, dEs es]
abbrev dT (ns : List Nat) : PyData := .tuple (dNs ns)
abbrev dL (ns : List Nat) : PyData := .list (dNs ns)
abbrev dBes (bs : List (List Nat)) : PyData := .list (bs.map dL)
section
variable {K : PySem.W.Frag} {H : Hp}
theorem all_ints : ∀ {ns : List Nat} {xs : List V}, DpAll K H xs (dNs ns) → xs = ns.map vN
  | [], _, h => by cases h; rfl
  | n :: ns, _, h => by
    cases h with
    | cons h1 h2 => rw [h1.int_v, all_ints h2]; rfl
theorem ints_all : ∀ (ns : List Nat), DpAll K H (ns.map vN) (dNs ns)
  | [] => .nil
  | n :: ns => .cons (.int _) (ints_all ns)
theorem all_bools : ∀ {bs : List Bool} {xs : List V}, DpAll K H xs (bs.map PyData.bool) → xs = bs.map V.bl
  | [], _, h => by cases h; rfl
  | b :: bs, _, h => by
    cases h with
    | cons h1 h2 => rw [h1.bl_v, all_bools h2]; rfl
theorem dT_v {v : V} {ns : List Nat} (h : Dp K H v (dT ns)) : ∃ a, v = .ref a ∧ SqT K H a (ns.map vN) := by
  obtain ⟨a, xs, e, hs, ha⟩ := h.tup_v
  exact ⟨a, e, by rw [← all_ints ha]; exact hs⟩
theorem dL_v {v : V} {ns : List Nat} (h : Dp K H v (dL ns)) : ∃ a, v = .ref a ∧ SqL K H a (ns.map vN) := by
  obtain ⟨a, xs, e, hs, ha⟩ := h.lst_v
  exact ⟨a, e, by rw [← all_ints ha]; exact hs⟩
theorem v_dT {a : Addr} {ns : List Nat} (h : SqT K H a (ns.map vN)) : Dp K H (.ref a) (dT ns) := .tup h (ints_all ns)
theorem v_dL {a : Addr} {ns : List Nat} (h : SqL K H a (ns.map vN)) : Dp K H (.ref a) (dL ns) := .lst h (ints_all ns)
theorem dE_v {v : V} {e : Ed} (h : Dp K H v (dE e)) : ∃ a, v = .ref a ∧ SqT K H a [vN e.1, vN e.2] := by
  obtain ⟨a, xs, q, hs, ha⟩ := h.tup_v
  cases ha with
  | cons h1 h2 =>
    cases h2 with
    | cons h2 h3 =>
      cases h3
      exact ⟨a, q, by rw [h1.int_v, h2.int_v] at hs; exact hs⟩
theorem v_dE {a : Addr} {e : Ed} (h : SqT K H a [vN e.1, vN e.2]) : Dp K H (.ref a) (dE e) := .tup h (.cons (.int _) (.cons (.int _) .nil))
theorem web_v {v : V} {n : Nat} {es : List Ed} (h : Dp K H v (dWeb n es)) : ∃ a t xs, v = .ref a ∧ SqT K H a [vN n, .ref t] ∧ SqT K H t xs ∧ DpAll K H xs (es.map dE) := by
  obtain ⟨a, xs, q, hs, ha⟩ := h.tup_v
  cases ha with
  | cons h1 h2 =>
    cases h2 with
    | cons h2 h3 =>
      cases h3
      obtain ⟨t, ys, q2, ht, hy⟩ := h2.tup_v
      exact ⟨a, t, ys, q, by rw [h1.int_v, q2] at hs; exact hs, ht, hy⟩
theorem v_web {a t : Addr} {xs : List V} {n : Nat} {es : List Ed} (h : SqT K H a [vN n, .ref t]) (ht : SqT K H t xs) (hx : DpAll K H xs (es.map dE)) : Dp K H (.ref a) (dWeb n es) :=
  .tup h (.cons (.int _) (.cons (.tup ht hx) .nil))
theorem st_of {a : Addr} {xs : List V} (h : H a = some (.tup xs)) : SqT K H a xs := Evl.st_of h
theorem sq_of {a : Addr} {xs : List V} (h : H a = some (.lst xs)) : SqL K H a xs := Evl.sq_of h
theorem sqT_up {H' : Hp} {a : Addr} {xs : List V} (e : Ex H H') (h : SqT K H a xs) : SqT K H' a xs := Evl.ex_t e h
theorem sqL_up {H' : Hp} {a : Addr} {xs : List V} (e : Ex H H') (h : SqL K H a xs) : SqL K H' a xs := Evl.ex_l e h
/-- a tuple's type -/
theorem tupTy {a : Addr} {xs : List V} (h : SqT K H a xs) : TyX K H (.ref a) (.type "tuple") := by
  rcases h with (h | ⟨o, h⟩) | ⟨o, its, n, h1, h2, _⟩
  · exact .base (.tup h)
  · exact .fTuple h
  · exact .kTuple h1 h2
theorem intTy {i : Int} : TyX K H (.int i) (.type "int") := .base (.int i)
theorem sz100 {n : Nat} (h : n ≤ 100000) : n ≤ sizeLine := Evl.sz_of h
theorem szlt {n : Nat} (h : n < 100000) : n < sizeLine := Evl.sz_lt h
end
theorem noLs_map {α : Type} {f : α → PyData} (h : ∀ a, noL (f a) = true) : ∀ l : List α, noLs (l.map f) = true
  | [] => rfl
  | a :: l => by simp [noLs, h a, noLs_map h l]
theorem noL_T (ns : List Nat) : noL (dT ns) = true := by simp only [noL]; exact noLs_map (fun _ => rfl) ns
theorem noL_E (e : Ed) : noL (dE e) = true := rfl
/-! ### comprehensions whose items are data without lists -/
section
variable {K : PySem.W.Frag} {J : It} {n : Nat} {G : Hp → Prop} {Y : Nat → Hp → V → Hp → Prop}
theorem lc_data (w : Walk J n G Y) {g : TG} {tt : TT} {te : TE} {vs : List Nat} {σ : L2.St} {H1 : Hp} {D : Addr} {Qd : Hp → Prop} (hD : H1 D = none) (dat : Nat → Option PyData) (hno : ∀ i d, dat i = some d → noL d = true) (hn : n ≤ 50000)
    (hG : ∀ H, Ex H1 H → G H)
    (hs : ∀ i x H H' (KT : V → Hp → Prop) (KF : Hp → Prop), i < n → Ex H1 H → Y i H x H' → (∀ y H4 d, Ex H H4 → dat i = some d → Dp K H4 y d → KT y H4) → (∀ H3, Ex H H3 → dat i = none → KF H3) →
      g x (wipe σ vs) H' fun σ2 H2 => wipe σ2 vs = wipe σ vs ∧ tt σ2 H2 fun b H3 => if b = true then te σ2 H3 KT else KF H3)
    (hd : ∀ H xs, Ex H1 H → H D = some (.lst xs) → DpAll K (del H D) xs ((List.range n).filterMap dat) → Qd H) :
    ∃ W : Nat → Nat → Hp → Prop, (∃ m, W 0 m (upd H1 D (.lst []))) ∧ ∀ i m H, W i m H →
      (J.stop i H ∧ Qd H) ∨ (J.go i H ∧ ∃ Nx : Hp → Prop, (∀ H', Nx H' → ∃ m', m' < m ∧ W (i + 1) m' H') ∧ ∀ x H', J.yld i H x H' → g x (wipe σ vs) H' fun σ2 H2 => wipe σ2 vs = wipe σ vs ∧ tt σ2 H2 fun b H3 =>
        if b = true then te σ2 H3 fun y H4 => ∃ acc, H4 D = some (.lst acc) ∧ acc.length < sizeLine ∧ Nx (upd H4 D (.lst (acc ++ [y]))) else Nx H3) := by
  refine lc_it w (fun i H => Ex H1 H ∧ ∃ xs, H D = some (.lst xs) ∧ DpAll K (del H D) xs ((List.range i).filterMap dat)) ⟨ex_mut (ex_r _) hD, [], upd_same, .nil⟩ (fun i H _ p => hG H p.1) (fun i x H H' hi p y => ?_) fun H p => ?_
  · obtain ⟨e, xs, hx, ha⟩ := p
    refine hs i x H H' _ _ hi e y (fun v H4 d e4 hdat hv => ?_) fun H3 e3 hdat => ?_
    · have hx4 := e4 D _ hx
      have l := ha.len
      have l2 := List.length_filterMap_le dat (List.range i)
      rw [List.length_range] at l2
      refine ⟨xs, hx4, szlt (by omega), ex_mut (e.trans e4) hD, xs ++ [v], upd_same, ?_⟩
      rw [del_upd, List.range_succ, List.filterMap_append]
      refine DpAll.app (dps_up (del_mono e4) ha) ?_
      have : [i].filterMap dat = [d] := by simp [hdat]
      rw [this]
      exact .one (dp_del hx4 (hno i d hdat) hv)
    · refine ⟨e.trans e3, xs, e3 D _ hx, ?_⟩
      rw [List.range_succ, List.filterMap_append]
      have : [i].filterMap dat = [] := by simp [hdat]
      rw [this, List.append_nil]
      exact dps_up (del_mono e3) ha
  · obtain ⟨e, xs, hx, ha⟩ := p
    exact hd H xs e hx ha
end
/-! ### the first defs -/
abbrev s_is_number : Stmt := top 9
abbrev s_is_pair : Stmt := top 10
abbrev s_rises : Stmt := top 11
section
variable {P : Program} {w : World} {K : PySem.W.Frag} {mg : Str → Option Value} {base : Heap}
def sp_is_number (K : PySem.W.Frag) : Sp := fun vs H Q _ => ∃ (i a b : Int), vs = [.int i, .int a, .int b] ∧ Q (.bl (decide (a ≤ i) && decide (i < b))) H
theorem sc_is_number : FnScope ["thing", "least", "below"] ["thing", "least", "below"] (defScope s_is_number) := ⟨rfl, rfl, rfl, by decide +kernel, rfl, by decide +kernel, by decide +kernel⟩
/-- the built-in names that the module leaves as they are -/
structure Bare (mg : Str → Option Value) : Prop where
  isinstance : mg "isinstance" = none
  int : mg "int" = none
  bool : mg "bool" = none
  tuple : mg "tuple" = none
  len : mg "len" = none
  all : mg "all" = none
  range : mg "range" = none
  sorted : mg "sorted" = none
  dict : mg "dict" = none
  min : mg "min" = none
  max : mg "max" = none
  set : mg "set" = none
  list : mg "list" = none
  reversed : mg "reversed" = none
  sum : mg "sum" = none
  enumerate : mg "enumerate" = none
theorem kp_is_number (D : Df K mg "is_number" s_is_number ["thing", "least", "below"]) (B : Bare mg) : Kp P w K mg base "is_number" 1 ["thing", "least", "below"] (sp_is_number K) := by
  refine D.kp sc_is_number (fun vs H Q E h => ?_) (fun f cdv A outer s H vs Q E hr h => ?_)
  · obtain ⟨i, a, b, rfl, _⟩ := h; rfl
  · obtain ⟨i, a, b, rfl, q⟩ := h
    refine ⟨_, pss_one (ps_ret (pe_and (pe_callB call_isi (by rfl) B.isinstance (by decide +kernel) (pa_cons (pv 0) (pa_cons (pe_bltn (v := .ty "int") (by rfl) B.int (by decide +kernel) rfl) pa_nil)))
      (pe_and (pe_not (pe_callB call_isi (by rfl) B.isinstance (by decide +kernel) (pa_cons (pv 0) (pa_cons (pe_bltn (v := .ty "bool") (by rfl) B.bool (by decide +kernel) rfl) pa_nil))))
      (pe_one (pe_chain op_le op_lt (pv 1) (pv 0) (pv 2)))))), ?_⟩
    refine ⟨_, rfl, _, _, _, _, true, rfl, .ty "int", intTy, kit_ty (by decide +kernel), true, rfl, ?_⟩
    refine iteT ⟨_, rfl, _, _, _, _, false, rfl, .ty "bool", intTy, kit_ty (by decide +kernel), false, rfl, true, rfl, ?_⟩
    refine iteT ⟨_, rfl, _, rfl, _, _, rfl, rfl, _, rfl, ?_⟩
    by_cases c : a ≤ i
    · simp only [c, decide_true, if_true] at q ⊢
      exact ⟨_, rfl, _, _, rfl, rfl, by simpa using q⟩
    · simp only [c, decide_false] at q ⊢
      simpa using q
end
end W37
/-! rules of our own, over the library's -/
namespace W37
open PySem PySem.Spec PyProof.Rows L2
open Evl (Ex)
/-! ### xs.extend(a tuple) -/
theorem ext_tup (l : Addr) (items : Array Value) (n : Nat) (b : Addr) (items2 : Array Value) (n2 : Nat) (d2 : Option Addr) (sl2 : Array (Option Value)) (hs0 : ¬(!items.isEmpty && Builtin.List.listTooLong (items.size + items2.size)) = true) (hs1 : items.size ≤ sizeLine) (hs2 : items.size + items2.size ≤ sizeLine + 1) :
    Meets (Builtin.«list.extend» ⟨[.ref l, .ref b], []⟩) (fun _ R s => s.heap.get? l = some { cls := .type "list", dict := none, data := .seq items n, slots := #[] } ∧ s.heap.get? b = some { cls := .type "tuple", dict := d2, data := .seq items2 n2, slots := sl2 } ∧ R (.ok (.ret Value.none)) { s with heap := s.heap.update l (Obj.mapSeq fun x => x ++ items2), toks := s.toks }) :=
  .of_wp fun prog w A R s h => by
    obtain ⟨hp, g, d, tk, os⟩ := s; obtain ⟨hl, hb, h⟩ := h;
    have hz' : (items ++ items2).size ≤ sizeLine + 1 := by rw [Array.size_append]; exact hs2
    wp_walk using (wpAny_updateSeq hl rfl (hz := hs1) (_hz' := hz')), wpAny_loadPart' hl, wpAny_loadPart' hb; exact ⟨_, rfl, h⟩
section
variable {X : Cx}
def rExtT (K : PySem.W.Frag) : V → List V → Hp → VK → Prop := fun x vs H Q => ∃ l b xs zs, x = .ref l ∧ vs = [.ref b] ∧ H l = some (.lst xs) ∧ SqT K H b zs ∧ xs.length + zs.length ≤ sizeLine ∧ Q .non (upd H l (.lst (xs ++ zs)))
theorem mt_extT : MtM X "list.extend" (rExtT X.K) := by
  intro pins s σ H x vs v us Q I rx rv h
  obtain ⟨l, b, xs, zs, rfl, rfl, hH, hB, hz, q⟩ := h
  cases rx
  obtain ⟨u, rfl, ru⟩ := rv.one
  cases ru
  obtain ⟨z, its, n, r, hl, e⟩ := I.lstM hH
  obtain ⟨its2, r2, ⟨o, ho, hc, n2, hd⟩, hz2⟩ := I.tuple hB
  obtain ⟨oc, od, dt, sl⟩ := o
  simp only at hc hd
  subst hc hd
  have hl2 := r2.length
  have hsz : its.toArray.size + its2.toArray.size ≤ sizeLine := by rw [List.size_toArray, List.size_toArray]; omega
  have hlong : ¬ (!its.toArray.isEmpty && Builtin.List.listTooLong (its.toArray.size + its2.toArray.size)) = true := by
    rw [notLongL hsz, Bool.and_false]
    exact Bool.false_ne_true
  refine call_meets PySem.F.slot_list_extend ⟨_, e, rfl⟩ PySem.F.entry_list_extend (PySem.F.args_list_extend_2 _ _)
    (ext_tup l its.toArray n b its2.toArray n2 od sl hlong (by rw [List.size_toArray]; omega) (by omega)) ⟨e, ho, ?_⟩
  refine ⟨.non, _, I.lset (its' := its ++ its2) hH e (by simp) (r.append r2) ?_, rfl, q⟩
  rw [List.length_append]
  omega
/-! ### x in a tuple of data -/
def rInT (K : PySem.W.Frag) : R2 := fun x y H Q => ∃ d ds, Dp K H x d ∧ Dp K H y (.tuple ds) ∧ d.plain = true ∧ PyData.plainAll ds = true ∧ d.depth ≤ 8 ∧ Q (.bl (ds.any fun z => PyData.eqv z d)) H
theorem op_inT (hu : X.A.units + 64 < cLine) : OpR X (compareOp .In) (rInT X.K) := by
  intro pins s σ H x y v u Q I rx ry h
  obtain ⟨d, ds, hd, he, pd, pe, hz, q⟩ := h
  obtain ⟨as, r1⟩ := Dp.reads I d x v hd rx
  obtain ⟨bs, r2⟩ := Dp.reads I (.tuple ds) y u he ry
  refine SeqAt.in_tuple_data r2 r1 pe pd ?_ ⟨.bl _, H, I, rfl, q⟩
  have := Nat.min_le_right (PyData.depthAll ds) d.depth
  omega
end
/-! ### sorted(a list of alike data): the same values, arranged -/
section
variable {prog : Program} {w : World} {A : Around} {E : Value → Shared → Prop} {s : Shared}
theorem each_of {K : PySem.W.Frag} {X : Cx} {pins : List (Addr × Obj)} {σ : L2.St} {H : Hp} (I : Inv X pins σ H s) : ∀ {bs : List (V × PyData)} {its : List Value}, Vals (bs.map (·.1)) its → (∀ b ∈ bs, Dp X.K H b.1 b.2) →
    PySem.W.EachIs (fun v (b : V × PyData) => RelV b.1 v) its bs ∧ PySem.W.EachIs (fun v (b : V × PyData) => ∃ as, Reads s.heap v b.2 as) its bs
  | [], _, .nil, _ => ⟨.nil, .nil⟩
  | b :: bs, _, .cons r t, h => by
    obtain ⟨e1, e2⟩ := each_of (K := K) I t fun c hc => h c (by simp [hc])
    exact ⟨.cons r e1, .cons (Dp.reads I _ _ _ (h b (by simp)) r) e2⟩
theorem vals_each : ∀ {bs : List (V × PyData)} {its : List Value}, PySem.W.EachIs (fun v (b : V × PyData) => RelV b.1 v) its bs → Vals (bs.map (·.1)) its
  | _, _, .nil => .nil
  | _, _, .cons r t => .cons r (vals_each t)
end
section
variable {X : Cx}
abbrev srtD (bs : List (V × PyData)) : List (V × PyData) := bs.mergeSort (PySem.W.dataLe false fun b : V × PyData => b.2)
def rSortD (K : PySem.W.Frag) : List V → Hp → VK → Prop := fun vs H Q => ∃ (a : Addr) (bs : List (V × PyData)), vs = [V.ref a] ∧ SqL K H a (bs.map (·.1)) ∧ (∀ b ∈ bs, Dp K H b.1 b.2) ∧
  PySem.W.AllAlike (bs.map (·.2)) ∧ PySem.W.Sortable (bs.map (·.2)) ∧ (∀ b ∈ bs, b.2.depth ≤ 8) ∧ ∀ p, H p = none → Q (.ref p) (upd H p (.lst ((srtD bs).map (·.1))))
theorem cr_sortD (hu : X.A.units + 64 < cLine) : CallR X (.builtin "sorted") (rSortD X.K) := by
  intro pins s σ H vs us Q I r h
  obtain ⟨a, bs, rfl, hs, hd, hal, hk, hdp, q⟩ := h
  obtain ⟨its, rv, hl, hz⟩ := I.list hs
  rw [Vals.ref1 r]
  obtain ⟨e1, e2⟩ := each_of (K := X.K) I rv hd
  rw [List.length_map] at hz
  refine PySem.W.sorted_data (β := V × PyData) (enc := fun b => b.2) (R := fun v b => RelV b.1 v) hl.isList e1 e2 hal hk hz (fun b hb => by have := hdp b hb; omega) fun out ho eo => ?_
  obtain ⟨ep, he'⟩ := PyProof.Rows.sortedAll_at s.heap its out.toArray
  have hlen : ((srtD bs).map (·.1)).length ≤ sizeLine := by
    rw [List.length_map, List.length_mergeSort]; exact hz
  exact ⟨.ref _, upd H (s.heap.objs.size + 1) (.lst ((srtD bs).map (·.1))), I.laid (t' := s.toks) (fun _ _ => PyProof.Rows.sortedAll_old) (Nat.le_succ _) ⟨hlen, out, ep, vals_each eo, he'⟩, rfl, q _ (I.hok.fresh (Nat.le_succ _))⟩
end
/-! ### min and max of two -/
end W37
namespace PySem.W
open PySem
section
variable {prog : Program} {w : World} {A : Around} {E : Value → Shared → Prop} {s : Shared}
theorem min_two_data {a b : Value} {x y : PyData} {as bs : List Addr} {Q : Value → Shared → Prop} (hh : A.handled = none) (ra : Reads s.heap a x as) (rb : Reads s.heap b y bs) (hal : AlikeAll [x, y]) (hu : A.units + 1 + PyData.depthAll [x, y] < cLine)
    (h : ∀ h' tk, (∀ c o, s.heap.get? c = some o → h'.get? c = some o) → Q (if dataLt y x = true then b else a) { s with heap := h', toks := tk }) : wpAny (model prog w) A (call (.builtin "min") [a, b]) Q E s := by
  have hname : (toString "min" ++ toString ".loop" : String) = "min.loop" := by decide
  refine call_function_tree F.kind_min F.plain_min F.entry_min (F.args_min2 _ _) ?_
  show wpAny _ A.in1 (Builtin.Builtins.bindParams "min" ["key", "default"] 0 ⟨[], []⟩ >>= _) _ _ s
  refine wpAny_bind (wpAny_of_eq (show Builtin.Builtins.bindParams "min" ["key", "default"] 0 ⟨[], []⟩ = pure [none, none] from rfl) ?_)
  show wpAny _ A.in1 (newTuple [a, b] >>= _) _ _ s
  refine wpAny_bind (wpAny_newObj_type ?_)
  have kp : ∀ c o, s.heap.get? c = some o → (s.heap.push { cls := .type "tuple", data := .seq #[a, b] }).get? c = some o := fun c o e => Heap.get?_push_of_some _ e
  have hr : ReadsAll (s.heap.push { cls := .type "tuple", data := .seq #[a, b] }) (#[a, b] : Array Value).toList [x, y] (as ++ (bs ++ [])) := .cons (reads_keeps kp ra) (.cons (reads_keeps kp rb) .nil)
  have ht : Heap.IsTuple (s.heap.push { cls := .type "tuple", data := .seq #[a, b] }) s.heap.objs.size #[a, b] := ⟨_, Heap.get?_push_size _ rfl, rfl, _, rfl⟩
  refine wpAny_bind (iter_tupleW (A := A.in1) (s := { s with heap := s.heap.push { cls := .type "tuple", data := .seq #[a, b] } }) hh ht fun s₂ e W st hfp hw hk => ?_)
  refine wpAny_bind (wpAny_newObj_type ?_)
  have hSf : s₂.heap.objs.size ∉ [(s.heap.push { cls := .type "tuple", data := .seq #[a, b] }).objs.size, s.heap.objs.size] := fun hm => Nat.lt_irrefl _ (hfp _ hm)
  rw [hname]
  refine wpAny_pure ⟨plainId_quiet F.plain_min_loop _, codeAny_min_loop_firstH W (s.heap.push { cls := .type "tuple", data := .seq #[a, b] }) hw _ (cmpIn_lt (A := A.in1) (s := { s with heap := s.heap.push { cls := .type "tuple", data := .seq #[a, b] } }) hr hal (by show A.units + 1 + _ < _; exact hu)) s₂.heap.objs.size hSf (fresh_in hk) _ (by show 0 < 2; decide) (fun b o e => Heap.get?_push_of_some _ (hk b o e)) (W.frame 0 s₂ _ s₂.toks st (Nat.le_refl _) fun b _ o e => Heap.get?_push_of_some _ e) (Heap.get?_push_size _ rfl) fun v s' hP hm => ?_⟩
  obtain ⟨h', tk, rfl, hk'⟩ := moved_old e rfl (Moved.drop_new (tk := s₂.toks) hm (Nat.le_refl _))
  have ev : v = if dataLt y x = true then b else a := by
    have q : argBest (fun i j => dataLt (([x, y] : List PyData).getD i .none) (([x, y] : List PyData).getD j .none)) 1 = if dataLt y x = true then 1 else 0 := rfl
    rw [show (#[a, b] : Array Value).size - 1 = 1 from rfl, q] at hP
    cases hb : dataLt y x with
    | true =>
      rw [hb] at hP
      simp at hP
      rw [if_pos rfl, hP]
    | false =>
      rw [hb] at hP
      simp at hP
      rw [if_neg Bool.false_ne_true, hP]
  rw [ev]
  exact h h' tk fun c o ec => hk' c o (kp c o ec)
theorem max_two_data {a b : Value} {x y : PyData} {as bs : List Addr} {Q : Value → Shared → Prop} (hh : A.handled = none) (ra : Reads s.heap a x as) (rb : Reads s.heap b y bs) (hal : AlikeAll [x, y]) (hu : A.units + 1 + PyData.depthAll [x, y] < cLine)
    (h : ∀ h' tk, (∀ c o, s.heap.get? c = some o → h'.get? c = some o) → Q (if dataLt x y = true then b else a) { s with heap := h', toks := tk }) : wpAny (model prog w) A (call (.builtin "max") [a, b]) Q E s := by
  have hname : (toString "max" ++ toString ".loop" : String) = "max.loop" := by decide
  refine call_function_tree F.kind_max F.plain_max F.entry_max (F.args_max2 _ _) ?_
  show wpAny _ A.in1 (Builtin.Builtins.bindParams "max" ["key", "default"] 0 ⟨[], []⟩ >>= _) _ _ s
  refine wpAny_bind (wpAny_of_eq (show Builtin.Builtins.bindParams "max" ["key", "default"] 0 ⟨[], []⟩ = pure [none, none] from rfl) ?_)
  show wpAny _ A.in1 (newTuple [a, b] >>= _) _ _ s
  refine wpAny_bind (wpAny_newObj_type ?_)
  have kp : ∀ c o, s.heap.get? c = some o → (s.heap.push { cls := .type "tuple", data := .seq #[a, b] }).get? c = some o := fun c o e => Heap.get?_push_of_some _ e
  have hr : ReadsAll (s.heap.push { cls := .type "tuple", data := .seq #[a, b] }) (#[a, b] : Array Value).toList [x, y] (as ++ (bs ++ [])) := .cons (reads_keeps kp ra) (.cons (reads_keeps kp rb) .nil)
  have ht : Heap.IsTuple (s.heap.push { cls := .type "tuple", data := .seq #[a, b] }) s.heap.objs.size #[a, b] := ⟨_, Heap.get?_push_size _ rfl, rfl, _, rfl⟩
  refine wpAny_bind (iter_tupleW (A := A.in1) (s := { s with heap := s.heap.push { cls := .type "tuple", data := .seq #[a, b] } }) hh ht fun s₂ e W st hfp hw hk => ?_)
  refine wpAny_bind (wpAny_newObj_type ?_)
  have hSf : s₂.heap.objs.size ∉ [(s.heap.push { cls := .type "tuple", data := .seq #[a, b] }).objs.size, s.heap.objs.size] := fun hm => Nat.lt_irrefl _ (hfp _ hm)
  rw [hname]
  refine wpAny_pure ⟨plainId_quiet F.plain_max_loop _, codeAny_max_loop_firstH W (s.heap.push { cls := .type "tuple", data := .seq #[a, b] }) hw _ (cmpIn_gt (A := A.in1) (s := { s with heap := s.heap.push { cls := .type "tuple", data := .seq #[a, b] } }) hr hal (by show A.units + 1 + _ < _; exact hu)) s₂.heap.objs.size hSf (fresh_in hk) _ (by show 0 < 2; decide) (fun b o e => Heap.get?_push_of_some _ (hk b o e)) (W.frame 0 s₂ _ s₂.toks st (Nat.le_refl _) fun b _ o e => Heap.get?_push_of_some _ e) (Heap.get?_push_size _ rfl) fun v s' hP hm => ?_⟩
  obtain ⟨h', tk, rfl, hk'⟩ := moved_old e rfl (Moved.drop_new (tk := s₂.toks) hm (Nat.le_refl _))
  have ev : v = if dataLt x y = true then b else a := by
    have q : argBest (fun i j => dataLt (([x, y] : List PyData).getD j .none) (([x, y] : List PyData).getD i .none)) 1 = if dataLt x y = true then 1 else 0 := rfl
    rw [show (#[a, b] : Array Value).size - 1 = 1 from rfl, q] at hP
    cases hb : dataLt x y with
    | true =>
      rw [hb] at hP
      simp at hP
      rw [if_pos rfl, hP]
    | false =>
      rw [hb] at hP
      simp at hP
      rw [if_neg Bool.false_ne_true, hP]
  rw [ev]
  exact h h' tk fun c o ec => hk' c o (kp c o ec)
end
end PySem.W
namespace W37
open PySem PySem.Spec PyProof.Rows L2
open Evl (Ex)
section
variable {X : Cx}
def rTwoD (K : PySem.W.Frag) (mx : Bool) : List V → Hp → VK → Prop := fun vs H Q => ∃ (x y : V) (d e : PyData), vs = [x, y] ∧ Dp K H x d ∧ Dp K H y e ∧ PySem.W.AlikeAll [d, e] ∧ PyData.depthAll [d, e] ≤ 8 ∧
  Q (if (if mx = true then PySem.W.dataLt d e else PySem.W.dataLt e d) = true then y else x) H
theorem cr_min2D (hu : X.A.units + 64 < cLine) (hc : X.calm = true) : CallR X (.builtin "min") (rTwoD X.K false) := by
  intro pins s σ H vs us Q I r h
  obtain ⟨x, y, d, e, rfl, hd, he, hal, hz, q⟩ := h
  obtain ⟨u, v, rfl, r1, r2⟩ := vals2 r
  obtain ⟨as, ra⟩ := Dp.reads I _ _ _ hd r1
  obtain ⟨bs, rb⟩ := Dp.reads I _ _ _ he r2
  refine PySem.W.min_two_data (I.ok.hd hc) ra rb hal (by omega) fun h' tk k => ?_
  refine ⟨_, H, I.kept (t' := tk) k, ?_, q⟩
  simp only [Bool.false_eq_true, if_false]
  split
  · exact r2
  · exact r1
theorem cr_max2D (hu : X.A.units + 64 < cLine) (hc : X.calm = true) : CallR X (.builtin "max") (rTwoD X.K true) := by
  intro pins s σ H vs us Q I r h
  obtain ⟨x, y, d, e, rfl, hd, he, hal, hz, q⟩ := h
  obtain ⟨u, v, rfl, r1, r2⟩ := vals2 r
  obtain ⟨as, ra⟩ := Dp.reads I _ _ _ hd r1
  obtain ⟨bs, rb⟩ := Dp.reads I _ _ _ he r2
  refine PySem.W.max_two_data (I.ok.hd hc) ra rb hal (by omega) fun h' tk k => ?_
  refine ⟨_, H, I.kept (t' := tk) k, ?_, q⟩
  simp only [if_true]
  split
  · exact r2
  · exact r1
end
/-! ### t[::-1] of a tuple -/
end W37
namespace HT
open PySem PySem.Spec PyProof.Rows
section
variable {prog : Program} {w : World} {A : Around} {E : Value → Shared → Prop} {s : Shared}
theorem adjust_back (n : Nat) : Builtin.Slice.sliceAdjust none none (-1) (n : Int) = ((n : Int) - 1, -1) := by
  unfold Builtin.Slice.sliceAdjust
  simp
theorem places_back (n : Nat) : Builtin.Slice.slicePlaces ((n : Int) - 1) (-1) (-1) = n := by
  unfold Builtin.Slice.slicePlaces
  rw [if_neg (by decide)]
  simp only [Int.neg_neg, Int.ediv_one]
  split <;> omega
theorem fm_congr {α β : Type} {f g : α → Option β} : ∀ {l : List α}, (∀ x ∈ l, f x = g x) → l.filterMap f = l.filterMap g
  | [], _ => rfl
  | x :: l, h => by rw [List.filterMap_cons, List.filterMap_cons, h x (by simp), fm_congr (l := l) fun y hy => h y (by simp [hy])]
theorem pick_back (xs : List Value) : ((List.range xs.length).filterMap fun (m : Nat) => xs.toArray[(((xs.length : Int) - 1) + (m : Int) * (-1)).toNat]?).toArray = xs.reverse.toArray := by
  congr 1
  have e : (List.range xs.length).filterMap (fun (m : Nat) => xs.toArray[(((xs.length : Int) - 1) + (m : Int) * (-1)).toNat]?) = (List.range xs.length).filterMap fun m => xs.reverse[m]? := by
    refine fm_congr fun m hm => ?_
    have hm := List.mem_range.mp hm
    have e1 : (((xs.length : Int) - 1) + (m : Int) * (-1)).toNat = xs.length - 1 - m := by omega
    rw [e1, List.getElem?_toArray, List.getElem?_reverse hm]
  rw [e]
  have : ∀ (l : List Value), (List.range l.length).filterMap (fun m => l[m]?) = l := by
    intro l
    induction l with
    | nil => rfl
    | cons a l ih =>
      rw [List.length_cons, List.range_succ_eq_map, List.filterMap_cons]
      simp only [List.getElem?_cons_zero, List.filterMap_map]
      have : ((fun m => (a :: l)[m]?) ∘ Nat.succ) = fun m => l[m]? := by funext m; simp
      rw [this, ih]
  have q := this xs.reverse
  rw [List.length_reverse] at q
  exact q
theorem sliceApplied_back {sl : Addr} {n : Nat} {Q : Int × Int × Nat → Shared → Prop} {t : Tok} (hs : s.heap.IsSliceOf sl .none .none (.int (-1) t))
    (h : Q ((n : Int) - 1, -1, n) s) : wpAny (model prog w) A (Builtin.Slice.sliceApplied (.ref sl) (pure (n : Int))) Q E s := by
  obtain ⟨os, hos, hcs, hds⟩ := id hs
  unfold Builtin.Slice.sliceApplied Builtin.Slice.sliceFields
  refine wpAny_bind (wpAny_bind (wpAny_field hos hds (x := .none) rfl (wpAny_bind (wpAny_field hos hds (x := .none) rfl (wpAny_bind (wpAny_field hos hds (x := .int (-1) t) rfl (wpAny_pure ?_)))))))
  refine wpAny_bind (slicePart_int ?_)
  show wpAny _ _ (if ((-1 : Int) == 0) = true then _ else _) _ _ s
  rw [if_neg (by decide)]
  refine wpAny_bind (slicePart_none (wpAny_bind (slicePart_none (wpAny_bind (wpAny_pure ?_)))))
  show wpAny _ _ (match Builtin.Slice.sliceAdjust none none (-1) (n : Int) with | (lo, hi) => pure (lo, (-1 : Int), Builtin.Slice.slicePlaces lo hi (-1))) _ _ s
  rw [adjust_back n]
  show wpAny _ _ (pure ((n : Int) - 1, (-1 : Int), Builtin.Slice.slicePlaces ((n : Int) - 1) (-1) (-1))) _ _ s
  rw [places_back]
  exact wpAny_pure h
theorem getItem_tuple_back {t sl : Addr} {items : List Value} {tk : Tok} {Q : Value → Shared → Prop} (ht : IsTup s.heap t items.toArray) (hs : s.heap.IsSliceOf sl .none .none (.int (-1) tk))
    (h : Q (.ref s.heap.objs.size) { s with heap := s.heap.push { cls := .type "tuple", data := .seq items.reverse.toArray } })
    (hsz : items.length ≤ sizeLine) : wpAny (model prog w) A (getItem (.ref t) (.ref sl)) Q E s := by
  have htake : sizeOk (.seq items.reverse.toArray) := by
    show items.reverse.toArray.size ≤ sizeLine
    rw [List.size_toArray, List.length_reverse]
    exact hsz
  obtain ⟨os, hos, hcs, hds⟩ := id hs
  have hTs : s.TypeIs (.ref sl) "slice" := ⟨os, hos, hcs⟩
  unfold getItem
  try with_reducible refine wpAny_holding ?_
  first | refine wpAny_bind (wpAny_pure ?_) | skip
  refine wpAny_bind (wpAny_sequenceKey ht.typeIs (by decide) ?_)
  refine wpAny_bind (wpAny_callSpecial?_slot (name := Str.ofString "__getitem__") ht.typeIs PyProof.Rows.slot_tuple_getitem
    (wpAny_call_entry PyProof.Rows.slot_tuple_getitem ht.typeIs entry_tuple_getitem ?_ (args_tuple_getitem _ _)))
  show wpAny _ _ (Builtin.Tuple.tupleItemsOf (.ref t) >>= _) _ _ s
  refine wpAny_bind (tupleItemsOf_ ht ?_)
  refine wpAny_bind (wpAny_typeOf hTs ?_)
  rw [if_pos (by decide)]
  refine wpAny_bind (sliceApplied_back hs ?_)
  have hno : ¬ ((((items.toArray.size : Int) - 1) == 0 && (-1 : Int) == 1 && items.toArray.size == items.toArray.size) = true) := by
    intro q
    rw [Bool.and_eq_true, Bool.and_eq_true] at q
    exact absurd (eq_of_beq q.1.2) (by decide)
  show wpAny _ _ (if (((items.toArray.size : Int) - 1) == 0 && (-1 : Int) == 1 && items.toArray.size == items.toArray.size) = true then _ else _) _ _ s
  rw [if_neg hno, List.size_toArray, pick_back]
  first
    | exact wpAny_bind (m := Builtin.Tuple.tupleExact _) (wpAny_newObj_type (wpAny_pure ⟨_, rfl, wpAny_pure h⟩) htake)
    | exact wpAny_bind (m := Builtin.Tuple.tupleExact _) (wpAny_newObj_type (wpAny_bind (wpAny_pure (wpAny_pure ⟨_, rfl, wpAny_pure h⟩))) htake)
    | exact wpAny_bind (wpAny_bind (m := Builtin.Tuple.tupleExact _) (wpAny_newObj_type (wpAny_pure (wpAny_pure ⟨_, rfl, wpAny_pure h⟩)) htake))
    | exact wpAny_bind (wpAny_bind (m := Builtin.Tuple.tupleExact _) (wpAny_newObj_type (wpAny_pure ⟨_, rfl, wpAny_pure h⟩) htake))
end
end HT
namespace W37
open PySem PySem.Spec PyProof.Rows L2
open Evl (Ex)
section
variable {X : Cx}
def tRevT (K : PySem.W.Frag) (te : TE) : TE := fun σ H Q => te σ H fun x H1 => ∃ a xs, x = .ref a ∧ SqT K H1 a xs ∧ ∀ p, H1 p = none → Q (.ref p) (upd H1 p (.tup xs.reverse))
theorem pe_revT {e : Expr} {te : TE} {k : Nat} {p1 p2 p3 pos : Pos} (he : PE X e te) : PE X (.Subscript e (.Slice none none (some (.UnaryOp .USub (.Constant (.int 1) k p1) p2)) p3) pos) (tRevT X.K te) := by
  refine ⟨fun pins s σ H Q I h => ?_⟩
  refine Subscript_ (thn (he.run pins s σ H _ I h) fun v s1 ⟨x, H1, I1, r1, q1⟩ => ?_)
  obtain ⟨a, xs, ex, hx, q⟩ := q1
  subst ex
  cases r1
  have hst : PO X (some (.UnaryOp .USub (.Constant (.int 1) k p1) p2)) (tPart (tUn (rU fun i => .int (-i)) (tC (.int 1)))) := po_some (pe_un un_neg pe_int)
  refine wpAny_Slice (thn (po_none.run pins s1 σ H1 (fun o H2 => o = none ∧ H2 = H1) I1 ⟨rfl, rfl⟩) fun vl s2 ⟨l, H2, I2, pl, el, e2⟩ => ?_)
  subst el e2
  refine thn (po_none.run pins s2 σ H2 (fun o H3 => o = none ∧ H3 = H2) I2 ⟨rfl, rfl⟩) fun vu s3 ⟨u, H3, I3, pu, eu, e3⟩ => ?_
  subst eu e3
  refine thn (hst.run pins s3 σ H3 (fun o H4 => o = some (-1) ∧ H4 = H3) I3 ⟨1, rfl, -1, rfl, rfl, rfl⟩) fun vs s4 ⟨o, H4, I4, ps, eo, e4⟩ => ?_
  subst eo e4
  cases pl
  cases pu
  cases ps
  rename_i tk _
  have I5 : Inv X pins σ H4 { s4 with heap := s4.heap.push { cls := .type "slice", data := .fields #[.none, .none, .int (-1) tk] } } := I4.kept (t' := s4.toks) fun b ob q => Heap.get?_push_of_some _ q
  obtain ⟨its, r, ht, hz⟩ := I5.tuple hx
  have hlen := r.length
  show wpAny (model X.prog X.w) X.A (subscriptTail e (.Slice none none (some (.UnaryOp .USub (.Constant (.int 1) k p1) p2)) p3) (.ref a) (.ref s4.heap.objs.size)) (EP X pins σ Q) X.xe { s4 with heap := s4.heap.push { cls := .type "slice", data := .fields #[.none, .none, .int (-1) tk] } }
  refine tail_any (ops := [.ref a, .ref s4.heap.objs.size]) ht.typeIs (PyProof.Rows.slot_tuple_getitem.lookup) ?_ (by with_unfolding_all rfl)
  refine HT.getItem_tuple_back ht (Heap.IsSliceOf.new _ _ _ _) ?_ (by omega)
  refine ⟨.ref _, _, I5.laid (t' := s4.toks) (o := .tup xs.reverse) (fun b ob q => Heap.get?_push_of_some _ q) (Nat.le_refl _) ?_, rfl, q _ (I5.hok.fresh (Nat.le_refl _))⟩
  exact ⟨by rw [List.length_reverse]; exact hz, _, r.reverse, IsTup.new _ _⟩
/-! ### len(set(a tuple of ints)), none twice -/
def tLenSetT (K : PySem.W.Frag) (ta : TE) : TE := fun σ H Q => ta σ H fun x H1 => ∃ (l : Addr) (ns : List Int), x = .ref l ∧ SqT K H1 l (ns.map V.int) ∧ ns.Nodup ∧ ns.length ≤ 4000 ∧ Q (.int (ns.length : Nat)) H1
theorem pe_lenSetT {a : Expr} {ta : TE} {p p2 q pos : Pos} (hg : Gl X "len") (hm : X.mg "len" = none) (hg2 : Gl X "set") (hm2 : X.mg "set" = none) (ha : PE X a ta) (hc : X.calm = true := by rfl)
    (na : starEach [a] X.env = (false, eval a X.env) :: starEach [] X.env := by rfl) : PE X (.Call (.Name "len" p) [.Call (.Name "set" p2) [a] [] q] [] pos) (tLenSetT X.K ta) := by
  refine ⟨fun pins s σ H Q I h => ?_⟩
  refine Call_ (ld_blt I hg hm boot_len ?_)
  refine PyProof.Rows.callWith_builtin1 (PyProof.Rows.args_cons ?_ rfl) rfl rfl
  refine Call_ (ld_blt I hg2 hm2 boot_set ?_)
  refine PyProof.Rows.callWith_type1 (PyProof.Rows.args_cons (thn (ha.run pins s σ H _ I h) fun v s1 ⟨x, H1, I1, r1, q1⟩ => PyProof.Rows.args_nil ?_) na) na rfl
  obtain ⟨l, ns, rfl, hq, hnd, hl, q1⟩ := q1
  cases r1
  obtain ⟨its, r, pt, hz⟩ := I1.tuple hq
  have hi : IntsAre its.toArray.toList ns := ints_of_vals r
  have hd := I1.ok.hd hc
  refine call_set_tupI ns hd (show s1.heap.IsTuple l its.toArray from pt) hi (by unfold scanBound; omega) fun h' tk c R1 hcn k => ?_
  refine PyProof.Rows.args_nil ?_
  obtain ⟨o, es, ep, t, ho, hex, hdt, g, nd, hm3, hb, hf, hn, hr, hl2⟩ := R1
  have I2 : Inv X pins σ H1 { s1 with heap := h', toks := tk } := I1.kept k
  have ec : es.size = ns.length := by
    have pm : (es.toList.map keyOf).Perm ns := (List.perm_ext_iff_of_nodup nd hnd).mpr fun j => by rw [← hm3 j, decide_eq_true_eq]
    have := pm.length_eq
    simpa using this
  exact call_len_set ho hex hdt hf (by rw [ec]; omega) ⟨.int ns.length, H1, I2.tok _, ⟨_, by rw [ec]⟩, q1⟩
end
end W37
/-! expressions that give data; promises told by data -/
namespace W37
open PySem PySem.Spec PyProof.Rows L2
open Evl (Ex Ev EvT EvA EvL)
def EvP (K : PySem.W.Frag) (te : TE) (σ : L2.St) (H : Hp) (R : PyData → Prop) : Prop := ∀ H1, Ex H H1 → ∀ Q : VK, (∀ v H2 d, Ex H1 H2 → R d → Dp K H2 v d → Q v H2) → te σ H1 Q
abbrev EvD (K : PySem.W.Frag) (te : TE) (σ : L2.St) (H : Hp) (d : PyData) : Prop := EvP K te σ H (fun r => r = d)
def EvPA (K : PySem.W.Frag) (ta : TA) (σ : L2.St) (H : Hp) (R : List PyData → Prop) : Prop := ∀ H1, Ex H H1 → ∀ Q : List V → Hp → Prop, (∀ vs H2 ds, Ex H1 H2 → R ds → DpAll K H2 vs ds → Q vs H2) → ta σ H1 Q
abbrev EvDA (K : PySem.W.Frag) (ta : TA) (σ : L2.St) (H : Hp) (ds : List PyData) : Prop := EvPA K ta σ H (fun r => r = ds)
/-- a promise told by data -/
def spD {ι : Type} (K : PySem.W.Frag) (ar : ι → List PyData) (pre : ι → Prop) (post : ι → PyData → Prop) : Sp := fun vs H Q _ => ∃ i, DpAll K H vs (ar i) ∧ pre i ∧ ∀ v H' r, Ex H H' → post i r → Dp K H' v r → Q v H'
theorem spD_len {ι : Type} {K : PySem.W.Frag} {ar : ι → List PyData} {pre : ι → Prop} {post : ι → PyData → Prop} {n : Nat} (h : ∀ i, (ar i).length = n) : ∀ vs H Q E, spD K ar pre post vs H Q E → vs.length = n := by
  rintro vs H Q E ⟨i, a, _⟩
  rw [a.len, h]
section
variable {K : PySem.W.Frag} {σ : L2.St} {H H' : Hp} {ta tb tc te tl : TE} {R R' : PyData → Prop} {d d1 d2 : PyData} {v x : V}
theorem _root_.L2.DpAll.up {H H' : Hp} {vs : List V} {ds : List PyData} (h : DpAll K H vs ds) (e : Ex H H') : DpAll K H' vs ds := dps_up e h
theorem _root_.L2.Dp.up {H H' : Hp} {v : V} {d : PyData} (h : Dp K H v d) (e : Ex H H') : Dp K H' v d := dp_up e h
theorem EvP.mono (h : EvP K te σ H R) (e : Ex H H') : EvP K te σ H' R := fun H1 a Q q => h H1 (e.trans a) Q q
theorem EvP.imp (h : EvP K te σ H R) (f : ∀ d, R d → R' d) : EvP K te σ H R' := fun H1 a Q q => h H1 a Q fun v H2 d e r p => q v H2 d e (f d r) p
theorem ed_ev (h : Ev te σ H v) (hd : Dp K H v d) : EvD K te σ H d := fun H1 e Q q => h H1 e Q fun H2 e2 => q v H2 d e2 rfl (hd.up (e.trans e2))
theorem ed_var {i : Nat} (h : σ[i]? = some (some v)) (hd : Dp K H v d) : EvD K (tVar i) σ H d := ed_ev (Evl.ev_var h) hd
theorem ed_varv {i : Nat} (h : σ[i]? = some (some v)) (hd : Dp K H v d) : EvD K (tVar i) σ H d ∧ Ev (tVar i) σ H v := ⟨ed_var h hd, Evl.ev_var h⟩
theorem ed_int {i : Int} (h : Ev te σ H (.int i)) : EvD K te σ H (.int i) := ed_ev h (.int i)
theorem ed_bl {b : Bool} (h : Ev te σ H (.bl b)) : EvD K te σ H (.bool b) := ed_ev h (.bl b)
theorem ed_non (h : Ev te σ H .non) : EvD K te σ H .none := ed_ev h .non
theorem ei_of {i : Int} (h : EvD K te σ H (.int i)) : Ev te σ H (.int i) := fun H1 e Q q => h H1 e Q fun v H2 d e2 r p => by subst r; rw [p.int_v]; exact q H2 e2
theorem eb_of {b : Bool} (h : EvD K te σ H (.bool b)) : Ev te σ H (.bl b) := fun H1 e Q q => h H1 e Q fun v H2 d e2 r p => by subst r; rw [p.bl_v]; exact q H2 e2
theorem eda_nil : EvDA K tNil σ H [] := fun H1 _ _ q => q [] H1 [] (Ex.refl H1) rfl .nil
theorem eda_cons {tr : TA} {ds : List PyData} (h : EvD K te σ H d) (hr : EvDA K tr σ H ds) : EvDA K (tCons te tr) σ H (d :: ds) := fun H1 e Q q =>
  h H1 e _ fun v H2 d' e2 r p => hr H2 (e.trans e2) _ fun vs H3 ds' e3 r2 p2 => by
    subst r r2
    exact q (v :: vs) H3 _ (e2.trans e3) rfl (.cons (p.up e3) p2)
theorem epa_one (h : EvP K te σ H R) : EvPA K (tCons te tNil) σ H (fun ds => ∃ d, ds = [d] ∧ R d) := fun H1 e Q q =>
  h H1 e _ fun v H2 d e2 r p => q [v] H2 [d] e2 ⟨d, rfl, r⟩ (.one p)
/-- the first plain, the second told -/
theorem epa_two (h : EvD K ta σ H d) (h2 : EvP K tb σ H R) : EvPA K (tCons ta (tCons tb tNil)) σ H (fun ds => ∃ d', ds = [d, d'] ∧ R d') := fun H1 e Q q =>
  h H1 e _ fun v H2 d' e2 r p => h2 H2 (e.trans e2) _ fun v2 H3 d2 e3 r2 p2 => by
    subst r
    exact q [v, v2] H3 _ (e2.trans e3) ⟨d2, rfl, r2⟩ (.cons (p.up e3) (.one p2))
theorem ep_call {ι : Type} {ar : ι → List PyData} {pre : ι → Prop} {post : ι → PyData → Prop} {t : TA} {E : XK} {S : List PyData → Prop} (h : EvPA K t σ H S) (hp : ∀ ds, S ds → ∃ i, ds = ar i ∧ pre i ∧ ∀ r, post i r → R r) : EvP K (tCall (spD K ar pre post) [] E t) σ H R := fun H1 e Q q =>
  h H1 e _ fun vs H2 ds e2 s p => by
    obtain ⟨i, rfl, hi, hr⟩ := hp ds s
    rw [List.append_nil]
    exact ⟨i, p, hi, fun v H' r e3 c pv => q v H' r (e2.trans e3) (hr r c) pv⟩
theorem ed_call {ι : Type} {ar : ι → List PyData} {pre : ι → Prop} {post : ι → PyData → Prop} {t : TA} {E : XK} (i : ι) (h : EvDA K t σ H (ar i)) (hp : pre i) : EvP K (tCall (spD K ar pre post) [] E t) σ H (post i) :=
  ep_call h fun ds s => ⟨i, s, hp, fun r c => c⟩
/-! #### built-in forms -/
theorem ed_tup {t : TA} {ds : List PyData} (h : EvDA K t σ H ds) (hl : ds.length ≤ 100000) : EvD K (tTup t) σ H (.tuple ds) := fun H1 e Q q =>
  h H1 e _ fun vs H2 ds' e2 r p => by
    subst r
    exact ⟨by rw [p.len]; exact sz100 hl, fun a ha => q (.ref a) _ _ (e2.trans (ex_new ha)) rfl (.tup (st_of upd_same) (p.up (ex_new ha)))⟩
theorem ed_lst {t : TA} {ds : List PyData} (h : EvDA K t σ H ds) (hl : ds.length ≤ 100000) : EvD K (tLst t) σ H (.list ds) := fun H1 e Q q =>
  h H1 e _ fun vs H2 ds' e2 r p => by
    subst r
    exact ⟨by rw [p.len]; exact sz100 hl, fun a ha => q (.ref a) _ _ (e2.trans (ex_new ha)) rfl (.lst (sq_of upd_same) (p.up (ex_new ha)))⟩
theorem atI_up {α β : Type} {xs : List α} {ys : List β} {i : Int} {y : β} (hl : xs.length = ys.length) (h : atI ys i = some y) : ∃ j, j < ys.length ∧ ys[j]? = some y ∧ ∀ x, xs[j]? = some x → atI xs i = some x := by
  unfold atI at h ⊢
  rw [hl]
  cases q : ixN ys.length i with
  | none => rw [q] at h; cases h
  | some j =>
    rw [q] at h
    have h2 : ys[j]? = some y := h
    exact ⟨j, (List.getElem?_eq_some_iff.mp h2).1, h2, fun x hx => hx⟩
/-- an item of a tuple or of a list -/
theorem ep_ix {ds : List PyData} {i : Int} (h : EvD K ta σ H (.tuple ds)) (hi : Ev tb σ H (.int i)) (ha : atI ds i = some d) : EvD K (tOp (rIx K) ta tb) σ H d := fun H1 e Q q =>
  h H1 e _ fun v H2 d' e2 r p => hi H2 (e.trans e2) _ fun H3 e3 => by
    subst r
    obtain ⟨a, xs, rfl, hs, hd⟩ := p.tup_v
    obtain ⟨j, hj, hy, hx⟩ := atI_up hd.len ha
    obtain ⟨x, hx1, px⟩ := hd.at_ hy
    exact .inr (.inl ⟨a, xs, i, x, rfl, rfl, sqT_up e3 hs, hx x hx1, q x H3 d (e2.trans e3) rfl (px.up e3)⟩)
theorem ep_ixL {ds : List PyData} {i : Int} (h : EvD K ta σ H (.list ds)) (hi : Ev tb σ H (.int i)) (ha : atI ds i = some d) : EvD K (tOp (rIx K) ta tb) σ H d := fun H1 e Q q =>
  h H1 e _ fun v H2 d' e2 r p => hi H2 (e.trans e2) _ fun H3 e3 => by
    subst r
    obtain ⟨a, xs, rfl, hs, hd⟩ := p.lst_v
    obtain ⟨j, hj, hy, hx⟩ := atI_up hd.len ha
    obtain ⟨x, hx1, px⟩ := hd.at_ hy
    exact .inl ⟨a, xs, i, x, rfl, rfl, sqL_up e3 hs, hx x hx1, q x H3 d (e2.trans e3) rfl (px.up e3)⟩
/-- a part of a tuple told by a property -/
theorem ep_ixP {i : Int} {S : PyData → Prop} (h : EvP K ta σ H S) (hi : Ev tb σ H (.int i)) (ha : ∀ d, S d → ∃ ds d1, d = .tuple ds ∧ atI ds i = some d1 ∧ R d1) : EvP K (tOp (rIx K) ta tb) σ H R := fun H1 e Q q =>
  h H1 e _ fun v H2 d' e2 r p => hi H2 (e.trans e2) _ fun H3 e3 => by
    obtain ⟨ds, d, rfl, ha, hr⟩ := ha d' r
    obtain ⟨a, xs, rfl, hs, hd⟩ := p.tup_v
    obtain ⟨j, hj, hy, hx⟩ := atI_up hd.len ha
    obtain ⟨x, hx1, px⟩ := hd.at_ hy
    exact .inr (.inl ⟨a, xs, i, x, rfl, rfl, sqT_up e3 hs, hx x hx1, q x H3 d (e2.trans e3) hr (px.up e3)⟩)
def rLn (K : PySem.W.Frag) : List V → Hp → VK → Prop := fun xs H Q => ∃ p ys, xs = [.ref p] ∧ (SqL K H p ys ∨ SqT K H p ys) ∧ Q (.int ys.length) H
theorem cr_len {X : Cx} : CallR X (.builtin "len") (rLn X.K) := call_len_seq
theorem ev_lenT {ds : List PyData} (h : EvD K ta σ H (.tuple ds)) : Ev (tCB (rLn K) (tCons ta tNil)) σ H (.int (ds.length : Int)) := fun H1 e Q q =>
  h H1 e _ fun v H2 d' e2 r p => by
    subst r
    obtain ⟨a, xs, rfl, hs, hd⟩ := p.tup_v
    exact ⟨a, xs, rfl, .inr hs, by rw [hd.len]; exact q H2 e2⟩
theorem ev_lenL {ds : List PyData} (h : EvD K ta σ H (.list ds)) : Ev (tCB (rLn K) (tCons ta tNil)) σ H (.int (ds.length : Int)) := fun H1 e Q q =>
  h H1 e _ fun v H2 d' e2 r p => by
    subst r
    obtain ⟨a, xs, rfl, hs, hd⟩ := p.lst_v
    exact ⟨a, xs, rfl, .inl hs, by rw [hd.len]; exact q H2 e2⟩
/-- the length of what is told by a property -/
theorem ep_lenP {S : PyData → Prop} (h : EvP K ta σ H S) (hs : ∀ d, S d → ∃ ds, (d = .tuple ds ∨ d = .list ds) ∧ R (.int ds.length)) : EvP K (tCB (rLn K) (tCons ta tNil)) σ H R := fun H1 e Q q =>
  h H1 e _ fun v H2 d' e2 r p => by
    obtain ⟨ds, hd, hr⟩ := hs d' r
    rcases hd with rfl | rfl
    · obtain ⟨a, xs, rfl, hs, hd⟩ := p.tup_v
      exact ⟨a, xs, rfl, .inr hs, by rw [hd.len]; exact q _ H2 _ e2 hr (.int _)⟩
    · obtain ⟨a, xs, rfl, hs, hd⟩ := p.lst_v
      exact ⟨a, xs, rfl, .inl hs, by rw [hd.len]; exact q _ H2 _ e2 hr (.int _)⟩
/-! ints -/
theorem ei_op0 {g : Int → Int → Int} {i j : Int} (ha : Ev ta σ H (.int i)) (hb : Ev tb σ H (.int j)) : Ev (tOp (rI0 fun i j => .int (g i j)) ta tb) σ H (.int (g i j)) := Evl.ev_op ha hb fun H1 e Q q => ⟨i, j, rfl, rfl, q H1 (Ex.refl _)⟩
theorem eb_op0 {g : Int → Int → Bool} {i j : Int} (ha : Ev ta σ H (.int i)) (hb : Ev tb σ H (.int j)) : Ev (tOp (rI0 fun i j => .bl (g i j)) ta tb) σ H (.bl (g i j)) := Evl.ev_op ha hb fun H1 e Q q => ⟨i, j, rfl, rfl, q H1 (Ex.refl _)⟩
theorem ei_op {C : Int → Int → Prop} {g : Int → Int → Int} {i j : Int} (ha : Ev ta σ H (.int i)) (hb : Ev tb σ H (.int j)) (hc : C i j) : Ev (tOp (rI C fun i j => .int (g i j)) ta tb) σ H (.int (g i j)) := Evl.ev_op ha hb fun H1 e Q q => ⟨i, j, rfl, rfl, hc, q H1 (Ex.refl _)⟩
theorem eb_eqI {i j : Int} (ha : Ev ta σ H (.int i)) (hb : Ev tb σ H (.int j)) : Ev (tOp rEq ta tb) σ H (.bl (decide (i = j))) := Evl.ev_op ha hb fun H1 e Q q => ⟨rfl, by
  have : decide (V.int i = V.int j) = decide (i = j) := by simp
  rw [this]; exact q H1 (Ex.refl _)⟩
theorem eb_neI {i j : Int} (ha : Ev ta σ H (.int i)) (hb : Ev tb σ H (.int j)) : Ev (tOp rNe ta tb) σ H (.bl (!decide (i = j))) := Evl.ev_op ha hb fun H1 e Q q => ⟨rfl, by
  have : decide (V.int i = V.int j) = decide (i = j) := by simp
  rw [this]; exact q H1 (Ex.refl _)⟩
/-- x == y of data -/
theorem eb_eqD (ha : EvD K ta σ H d1) (hb : EvD K tb σ H d2) (s1 : SeqAt.shaped d1 = true) (s2 : SeqAt.shaped d2 = true) : Ev (tOp (rEqD K) ta tb) σ H (.bl (PyData.eqv d1 d2)) := fun H1 e Q q =>
  ha H1 e _ fun v H2 d' e2 r p => hb H2 (e.trans e2) _ fun v2 H3 d2' e3 r2 p2 => by
    subst r r2
    exact ⟨_, _, p.up e3, p2, s1, s2, q H3 (e2.trans e3)⟩
theorem eb_neD (ha : EvD K ta σ H d1) (hb : EvD K tb σ H d2) (s1 : SeqAt.shaped d1 = true) (s2 : SeqAt.shaped d2 = true) : Ev (tOp (rNeD K) ta tb) σ H (.bl (!PyData.eqv d1 d2)) := fun H1 e Q q =>
  ha H1 e _ fun v H2 d' e2 r p => hb H2 (e.trans e2) _ fun v2 H3 d2' e3 r2 p2 => by
    subst r r2
    exact ⟨_, _, p.up e3, p2, s1, s2, q H3 (e2.trans e3)⟩
/-- a number in ints -/
theorem inV_ints (n : Nat) (ns : List Nat) : inV (vN n) (ns.map vN) = decide (n ∈ ns) := by
  unfold inV
  induction ns with
  | nil => simp
  | cons a ns ih =>
    rw [List.map_cons, List.any_cons, ih]
    have : eqV (vN a) (vN n) = decide (n = a) := by
      show ((a : Int) == (n : Int)) = decide (n = a)
      rw [Bool.eq_iff_iff]
      simp only [beq_iff_eq, decide_eq_true_eq]
      omega
    rw [this]
    simp only [List.mem_cons]
    rw [Bool.eq_iff_iff]
    simp
theorem flat_ints (ns : List Nat) : (ns.map vN).all flatV = true := by
  rw [List.all_eq_true]
  intro x hx
  obtain ⟨n, _, rfl⟩ := List.mem_map.mp hx
  rfl
theorem eb_in {n : Nat} {ns : List Nat} {neg : Bool} (ha : Ev ta σ H (vN n)) (hb : EvP K tb σ H (fun r => r = dT ns ∨ r = dL ns)) : Ev (tOp (rIn K neg) ta tb) σ H (.bl (if neg then !decide (n ∈ ns) else decide (n ∈ ns))) := fun H1 e Q q =>
  ha H1 e _ fun H2 e2 => hb H2 (e.trans e2) _ fun v2 H3 d2' e3 r2 p2 => by
    rcases r2 with rfl | rfl
    · obtain ⟨a, rfl, hs⟩ := dT_v p2
      exact ⟨a, _, rfl, .inr hs, rfl, flat_ints ns, by rw [inV_ints]; exact q H3 (e2.trans e3)⟩
    · obtain ⟨a, rfl, hs⟩ := dL_v p2
      exact ⟨a, _, rfl, .inl hs, rfl, flat_ints ns, by rw [inV_ints]; exact q H3 (e2.trans e3)⟩
theorem eb_inT {n : Nat} {ns : List Nat} {neg : Bool} (ha : Ev ta σ H (vN n)) (hb : EvD K tb σ H (dT ns)) : Ev (tOp (rIn K neg) ta tb) σ H (.bl (if neg then !decide (n ∈ ns) else decide (n ∈ ns))) := eb_in ha (hb.imp fun _ h => .inl h)
theorem eb_inL {n : Nat} {ns : List Nat} {neg : Bool} (ha : Ev ta σ H (vN n)) (hb : EvD K tb σ H (dL ns)) : Ev (tOp (rIn K neg) ta tb) σ H (.bl (if neg then !decide (n ∈ ns) else decide (n ∈ ns))) := eb_in ha (hb.imp fun _ h => .inr h)
/-! bools, tests -/
theorem ev_bif {b c : Bool} (h1 : Ev ta σ H (.bl b)) (h2 : b = true → Ev tb σ H (.bl c)) : Ev (tAndV ta tb) σ H (.bl (b && c)) := Evl.ev_andV h1 h2
/-- tuple(..), list(..) of a list -/
def rTupOf (K : PySem.W.Frag) : List V → Hp → VK → Prop := fun xs H Q => ∃ p ys, xs = [.ref p] ∧ ((SqL K H p ys ∧ ∀ l, H l = none → Q (.ref l) (upd H l (.tup ys))) ∨ (SqT K H p ys ∧ Q (.ref p) H))
theorem cr_tupOf {X : Cx} : CallR X (.type "tuple") (rTupOf X.K) := call_tuple_of
theorem ep_tupOf {S : PyData → Prop} (h : EvP K ta σ H S) (hs : ∀ d, S d → ∃ ds, d = .list ds ∧ R (.tuple ds)) : EvP K (tCB (rTupOf K) (tCons ta tNil)) σ H R := fun H1 e Q q =>
  h H1 e _ fun v H2 d' e2 r p => by
    obtain ⟨ds, rfl, hr⟩ := hs d' r
    obtain ⟨a, xs, rfl, hs, hd⟩ := p.lst_v
    exact ⟨a, xs, rfl, .inl ⟨hs, fun l hl => q _ _ _ (e2.trans (ex_new hl)) hr (.tup (st_of upd_same) (hd.up (ex_new hl)))⟩⟩
theorem ed_tupOf {ds : List PyData} (h : EvD K ta σ H (.list ds)) : EvD K (tCB (rTupOf K) (tCons ta tNil)) σ H (.tuple ds) := ep_tupOf h fun d r => ⟨ds, r, rfl⟩
def rLstOf (K : PySem.W.Frag) : List V → Hp → VK → Prop := fun xs H Q => ∃ p ys, xs = [.ref p] ∧ (SqL K H p ys ∨ SqT K H p ys) ∧ ∀ l, H l = none → Q (.ref l) (upd H l (.lst ys))
theorem cr_lstOf {X : Cx} : CallR X (.type "list") (rLstOf X.K) := call_list_of
theorem ed_lstOf {ds : List PyData} (h : EvD K ta σ H (.tuple ds)) : EvD K (tCB (rLstOf K) (tCons ta tNil)) σ H (.list ds) := fun H1 e Q q =>
  h H1 e _ fun v H2 d' e2 r p => by
    subst r
    obtain ⟨a, xs, rfl, hs, hd⟩ := p.tup_v
    exact ⟨a, xs, rfl, .inr hs, fun l hl => q _ _ _ (e2.trans (ex_new hl)) rfl (.lst (sq_of upd_same) (hd.up (ex_new hl)))⟩
/-- sorted(ints) -/
def sortN (ns : List Nat) : List Nat := ns.mergeSort fun a b => decide (a ≤ b)
theorem sortN_perm (ns : List Nat) : (sortN ns).Perm ns := List.mergeSort_perm _ _
theorem sortN_le (ns : List Nat) : (sortN ns).Pairwise (· ≤ ·) := by
  have := List.pairwise_mergeSort (le := fun a b : Nat => decide (a ≤ b)) (by intro a b c; simp; omega) (by intro a b; simp; omega) ns
  exact this.imp fun h => by simpa using h
end
section
variable {K : PySem.W.Frag} {σ : L2.St} {H H' : Hp} {ta tb tc te tl : TE} {R R' : PyData → Prop} {d d1 d2 : PyData} {v x : V} {D : Ends} {tu tw : TS}
/-! ### statements -/
theorem sd_asg {i : Nat} (h : EvP K te σ H R) (k : ∀ v H1 r, Ex H H1 → R r → Dp K H1 v r → D.nx (σ.set i (some v)) H1) : tAsg te (gName i) D σ H := h H (Ex.refl H) _ fun v H1 d e r p => k v H1 d e r p
theorem sd_ret (h : EvP K te σ H R) (k : ∀ v H1 r, Ex H H1 → R r → Dp K H1 v r → D.rt v H1) : tRet te D σ H := h H (Ex.refl H) _ fun v H1 d e r p => k v H1 d e r p
theorem sd_drop (h : EvP K te σ H R) (k : ∀ H1, Ex H H1 → D.nx σ H1) : tDrop te D σ H := h H (Ex.refl H) _ fun v H1 d e r p => k H1 e
/-! ### comprehensions over data -/
theorem lc_walk {α : Type} (l : List α) (p : α → Bool) (ee : α → PyData) {J : It} {G : Hp → Prop} {Y : Nat → Hp → V → Hp → Prop} (w : Walk J l.length G Y) {g : TG} {tt : TT} {te : TE} {vs : List Nat} {H1 : Hp} {D : Addr} {Q : VK} (hD : H1 D = none) (hn : l.length ≤ 50000) (hno : ∀ a, noL (ee a) = true)
    (hG : ∀ H, Ex H1 H → G H)
    (hs : ∀ i a x H H', l[i]? = some a → Ex H1 H → Y i H x H' → Ex H H' ∧ g x (wipe σ vs) H' fun σ2 H2 => H2 = H' ∧ wipe σ2 vs = wipe σ vs ∧ EvT tt σ2 H2 (p a) ∧ (p a = true → EvD K te σ2 H2 (ee a)))
    (hg : ∀ x σ' H' (k k' : L2.St → Hp → Prop), (∀ σ2 H2, k σ2 H2 → k' σ2 H2) → g x σ' H' k → g x σ' H' k')
    (hd : ∀ H d, Ex H1 H → d = .list ((l.filter p).map ee) → Dp K H (.ref D) d → Q (.ref D) H) :
    ∃ W : Nat → Nat → Hp → Prop, (∃ m, W 0 m (upd H1 D (.lst []))) ∧ ∀ i m H, W i m H →
      (J.stop i H ∧ Q (.ref D) H) ∨ (J.go i H ∧ ∃ Nx : Hp → Prop, (∀ H', Nx H' → ∃ m', m' < m ∧ W (i + 1) m' H') ∧ ∀ x H', J.yld i H x H' → g x (wipe σ vs) H' fun σ2 H2 => wipe σ2 vs = wipe σ vs ∧ tt σ2 H2 fun b H3 =>
        if b = true then te σ2 H3 fun y H4 => ∃ acc, H4 D = some (.lst acc) ∧ acc.length < sizeLine ∧ Nx (upd H4 D (.lst (acc ++ [y]))) else Nx H3) := by
  refine lc_data (K := K) (Qd := fun H => Q (.ref D) H) w hD (fun i => (l[i]?).bind fun a => if p a = true then some (ee a) else none) ?_ hn hG ?_ ?_
  · intro i d h
    cases q : l[i]? with
    | none => rw [q] at h; cases h
    | some a =>
      rw [q] at h
      by_cases c : p a = true
      · simp only [Option.bind_some, c, if_true] at h
        cases h
        exact hno a
      · simp [c] at h
  · intro i x H H' KT KF hi e y hT hF
    obtain ⟨e', q⟩ := hs i l[i] x H H' (List.getElem?_eq_getElem hi) e y
    refine hg _ _ _ _ _ (fun σ2 H2 r => ?_) q
    obtain ⟨rfl, r1, r2, r3⟩ := r
    refine ⟨r1, r2 H2 (Ex.refl _) _ fun H3 e3 => ?_⟩
    by_cases c : p l[i] = true
    · rw [if_pos c]
      refine r3 c H3 e3 _ fun v H4 d e4 rd pv => ?_
      subst rd
      exact hT v H4 _ ((e'.trans e3).trans e4) (by simp [List.getElem?_eq_getElem hi, c]) pv
    · rw [if_neg c]
      exact hF H3 (e'.trans e3) (by simp [List.getElem?_eq_getElem hi, c])
  · intro H xs e hx ha
    refine hd H _ e rfl (.lst (sq_of hx) ?_)
    have : (List.range l.length).filterMap (fun i => (l[i]?).bind fun a => if p a = true then some (ee a) else none) = (l.filter p).map ee := by
      clear hd ha hs hG w hn
      induction l with
      | nil => rfl
      | cons a l ih =>
        rw [List.length_cons, List.range_succ_eq_map, List.filterMap_cons]
        simp only [List.getElem?_cons_zero, Option.bind_some, List.filterMap_map]
        have e2 : ((fun i => ((a :: l)[i]?).bind fun a => if p a = true then some (ee a) else none) ∘ Nat.succ) = fun i => (l[i]?).bind fun a => if p a = true then some (ee a) else none := by funext i; simp
        rw [e2, ih, List.filter_cons]
        by_cases c : p a = true <;> simp [c]
    rw [this] at ha
    exact dps_up del_ex ha
theorem lc_walk2 {α : Type} (l : List α) (p : α → Bool) (ee : α → PyData) {J : It} {G : Hp → Prop} {Y : Nat → Hp → V → Hp → Prop} (w : Walk J l.length G Y) {g : TG} {tt : TT} {te : TE} {vs : List Nat} {H1 : Hp} {D : Addr} {Q : VK} (hD : H1 D = none) (hn : l.length ≤ 50000) (hno : ∀ a, noL (ee a) = true)
    (hG : ∀ H, Ex H1 H → G H)
    (hs : ∀ i a x H H', l[i]? = some a → Ex H1 H → Y i H x H' → Ex H H' ∧ g x (wipe σ vs) H' fun σ2 H2 => H2 = H' ∧ wipe σ2 vs = wipe σ vs ∧ EvT tt σ2 H2 (p a) ∧ (p a = true → EvD K te σ2 H2 (ee a)))
    (hg : ∀ x σ' H' (k k' : L2.St → Hp → Prop), (∀ σ2 H2, k σ2 H2 → k' σ2 H2) → g x σ' H' k → g x σ' H' k')
    (hd : ∀ H xs, Ex H1 H → H D = some (.lst xs) → DpAll K H xs ((l.filter p).map ee) → Q (.ref D) H) :
    ∃ W : Nat → Nat → Hp → Prop, (∃ m, W 0 m (upd H1 D (.lst []))) ∧ ∀ i m H, W i m H →
      (J.stop i H ∧ Q (.ref D) H) ∨ (J.go i H ∧ ∃ Nx : Hp → Prop, (∀ H', Nx H' → ∃ m', m' < m ∧ W (i + 1) m' H') ∧ ∀ x H', J.yld i H x H' → g x (wipe σ vs) H' fun σ2 H2 => wipe σ2 vs = wipe σ vs ∧ tt σ2 H2 fun b H3 =>
        if b = true then te σ2 H3 fun y H4 => ∃ acc, H4 D = some (.lst acc) ∧ acc.length < sizeLine ∧ Nx (upd H4 D (.lst (acc ++ [y]))) else Nx H3) := by
  refine lc_data (K := K) (Qd := fun H => Q (.ref D) H) w hD (fun i => (l[i]?).bind fun a => if p a = true then some (ee a) else none) ?_ hn hG ?_ ?_
  · intro i d h
    cases q : l[i]? with
    | none => rw [q] at h; cases h
    | some a =>
      rw [q] at h
      by_cases c : p a = true
      · simp only [Option.bind_some, c, if_true] at h
        cases h
        exact hno a
      · simp [c] at h
  · intro i x H H' KT KF hi e y hT hF
    obtain ⟨e', q⟩ := hs i l[i] x H H' (List.getElem?_eq_getElem hi) e y
    refine hg _ _ _ _ _ (fun σ2 H2 r => ?_) q
    obtain ⟨rfl, r1, r2, r3⟩ := r
    refine ⟨r1, r2 H2 (Ex.refl _) _ fun H3 e3 => ?_⟩
    by_cases c : p l[i] = true
    · rw [if_pos c]
      refine r3 c H3 e3 _ fun v H4 d e4 rd pv => ?_
      subst rd
      exact hT v H4 _ ((e'.trans e3).trans e4) (by simp [List.getElem?_eq_getElem hi, c]) pv
    · rw [if_neg c]
      exact hF H3 (e'.trans e3) (by simp [List.getElem?_eq_getElem hi, c])
  · intro H xs e hx ha
    refine hd H xs e hx ?_
    have : (List.range l.length).filterMap (fun i => (l[i]?).bind fun a => if p a = true then some (ee a) else none) = (l.filter p).map ee := by
      clear hd ha hs hG w hn
      induction l with
      | nil => rfl
      | cons a l ih =>
        rw [List.length_cons, List.range_succ_eq_map, List.filterMap_cons]
        simp only [List.getElem?_cons_zero, Option.bind_some, List.filterMap_map]
        have e2 : ((fun i => ((a :: l)[i]?).bind fun a => if p a = true then some (ee a) else none) ∘ Nat.succ) = fun i => (l[i]?).bind fun a => if p a = true then some (ee a) else none := by funext i; simp
        rw [e2, ih, List.filter_cons]
        by_cases c : p a = true <;> simp [c]
    rw [this] at ha
    exact dps_up del_ex ha
def goodG (g : TG) : Prop := ∀ x σ' H' (k k' : L2.St → Hp → Prop), (∀ σ2 H2, k σ2 H2 → k' σ2 H2) → g x σ' H' k → g x σ' H' k'
theorem good_name {i : Nat} : goodG (gName i) := fun x σ' H' k k' h q => h _ _ q
theorem good_pair {K : PySem.W.Frag} {i j : Nat} : goodG (gTup K 2 (gCons (gName i) (gCons (gName j) gNil))) := fun x σ' H' k k' h q => by
  obtain ⟨a, xs, r, s, l, v, rr, e, v2, r2, e2, e3, q⟩ := q
  exact ⟨a, xs, r, s, l, v, rr, e, v2, r2, e2, e3, h _ _ q⟩
/-- [.. for a name in a tuple] -/
theorem ed_lcT {α : Type} (l : List α) (enc : α → PyData) (p : α → Bool) (ee : α → PyData) {g : TG} {tt : TT} {vs : List Nat} (hg : goodG g) (h : EvD K tl σ H (.tuple (l.map enc))) (hn : l.length ≤ 50000) (hno : ∀ a, noL (ee a) = true)
    (hs : ∀ a x H1, a ∈ l → Ex H H1 → Dp K H1 x (enc a) → g x (wipe σ vs) H1 fun σ2 H2 => H2 = H1 ∧ wipe σ2 vs = wipe σ vs ∧ EvT tt σ2 H2 (p a) ∧ (p a = true → EvD K te σ2 H2 (ee a))) :
    EvD K (tLc (iTup K tl) g tt te vs) σ H (.list ((l.filter p).map ee)) := fun H1 e Q q =>
  h H1 e _ fun v H2 d e2 r pv => by
    subst r
    obtain ⟨a, xs, rfl, hx, hd⟩ := pv.tup_v
    refine ⟨a, rfl, ⟨xs, hx⟩, fun D hD => ?_⟩
    have hl : xs.length = l.length := by rw [hd.len, List.length_map]
    have w := walk_tup (K := K) (a := a) (xs := xs)
    rw [hl] at w
    refine lc_walk l p ee w hD hn hno (fun H' e' => sqT_up e' hx) (fun i b x H3 H4 hi e3 y => ?_) hg fun H' d e' rd pd => q _ H' d (e2.trans e') rd pd
    obtain ⟨rfl, hxi⟩ := y
    obtain ⟨d', h1, h2⟩ := hd.get hxi
    rw [List.getElem?_map, hi] at h1
    cases h1
    exact ⟨Ex.refl _, hs b x H4 (List.mem_of_getElem? hi) ((e.trans e2).trans e3) (h2.up e3)⟩
theorem ed_lcL {α : Type} (l : List α) (enc : α → PyData) (p : α → Bool) (ee : α → PyData) {g : TG} {tt : TT} {vs : List Nat} (hg : goodG g) (h : EvD K tl σ H (.list (l.map enc))) (hn : l.length ≤ 50000) (hno : ∀ a, noL (ee a) = true)
    (hs : ∀ a x H1, a ∈ l → Ex H H1 → Dp K H1 x (enc a) → g x (wipe σ vs) H1 fun σ2 H2 => H2 = H1 ∧ wipe σ2 vs = wipe σ vs ∧ EvT tt σ2 H2 (p a) ∧ (p a = true → EvD K te σ2 H2 (ee a))) :
    EvD K (tLc (iList K tl) g tt te vs) σ H (.list ((l.filter p).map ee)) := fun H1 e Q q =>
  h H1 e _ fun v H2 d e2 r pv => by
    subst r
    obtain ⟨a, xs, rfl, hx, hd⟩ := pv.lst_v
    refine ⟨a, rfl, ⟨xs, hx⟩, fun D hD => ?_⟩
    have hl : xs.length = l.length := by rw [hd.len, List.length_map]
    have w := walk_list (K := K) (a := a) (xs := xs)
    rw [hl] at w
    refine lc_walk l p ee w hD hn hno (fun H' e' => sqL_up e' hx) (fun i b x H3 H4 hi e3 y => ?_) hg fun H' d e' rd pd => q _ H' d (e2.trans e') rd pd
    obtain ⟨rfl, hxi⟩ := y
    obtain ⟨d', h1, h2⟩ := hd.get hxi
    rw [List.getElem?_map, hi] at h1
    cases h1
    exact ⟨Ex.refl _, hs b x H4 (List.mem_of_getElem? hi) ((e.trans e2).trans e3) (h2.up e3)⟩
theorem ea_int1 {i : Int} (h : Ev te σ H (.int i)) : EvA (tCons te tNil) σ H [.int i] := Evl.ea_cons h Evl.ea_nil
/-- [.. for a name in range(n)] -/
theorem ed_lcR {n : Nat} (p : Nat → Bool) (ee : Nat → PyData) {g : TG} {tt : TT} {vs : List Nat} {ta : TA} {j : Int} (hg : goodG g) (h : EvA ta σ H [.int j]) (hj : j.toNat = n) (hj1 : -100000 ≤ j) (hn : n ≤ 50000) (hno : ∀ a, noL (ee a) = true)
    (hs : ∀ i H1, i < n → Ex H H1 → g (vN i) (wipe σ vs) H1 fun σ2 H2 => H2 = H1 ∧ wipe σ2 vs = wipe σ vs ∧ EvT tt σ2 H2 (p i) ∧ (p i = true → EvD K te σ2 H2 (ee i))) :
    EvD K (tLc (iRng1 ta) g tt te vs) σ H (.list (((List.range n).filter p).map ee)) := fun H1 e Q q =>
  h H1 e _ fun H2 e2 => by
    refine ⟨j, rfl, by omega, by omega, fun D hD => ?_⟩
    have w := walk_range (lo := 0) (n := j.toNat)
    have hn' : j.toNat = (List.range n).length := by simp [hj]
    rw [hn'] at w
    rw [hn']
    refine lc_walk (List.range n) p ee w hD (by simpa using hn) hno (fun _ _ => trivial) (fun i b x H3 H4 hi e3 y => ?_) hg fun H' d e' rd pd => q _ H' d (e2.trans e') rd pd
    obtain ⟨rfl, rfl⟩ := y
    obtain ⟨hi1, hi2⟩ := List.getElem?_eq_some_iff.mp hi
    rw [List.getElem_range] at hi2
    subst hi2
    rw [List.length_range] at hi1
    refine ⟨Ex.refl _, ?_⟩
    show g (.int (0 + (i : Int))) _ _ _
    rw [Int.zero_add]
    exact hs i H4 hi1 ((e.trans e2).trans e3)
theorem et_yes : EvT tYes σ H true := fun H1 e Q q => q H1 (Ex.refl _)
end
end W37
namespace W37
open PySem PySem.Spec PyProof.Rows L2
open Evl (Ex Ev EvT EvA EvL)
section
variable {X : Cx}
/-- sorted(numbers) -/
def rSortN (K : PySem.W.Frag) : List V → Hp → VK → Prop := fun vs H Q => ∃ (a : Addr) (ns : List Nat), vs = [V.ref a] ∧ SqL K H a (ns.map vN) ∧ ∀ p, H p = none → Q (.ref p) (upd H p (.lst ((sortN ns).map vN)))
theorem cr_sortN : CallR X (.builtin "sorted") (rSortN X.K) := by
  intro pins s σ H vs us Q I r h
  obtain ⟨a, ns, rfl, hs, q⟩ := h
  refine cr_sortedI pins s σ H _ us Q I r ⟨a, ns.map fun n : Nat => (n : Int), rfl, by rw [List.map_map]; exact hs, fun ns' p hp hw hf => ?_⟩
  have h1 : ns'.Perm ((sortN ns).map fun n : Nat => (n : Int)) := hp.trans ((sortN_perm ns).map _).symm
  have h2 : ((sortN ns).map fun n : Nat => (n : Int)).Pairwise (· ≤ ·) := by
    rw [List.pairwise_map]
    exact (sortN_le ns).imp fun h => by omega
  have e : ns' = (sortN ns).map fun n : Nat => (n : Int) := h1.eq_of_pairwise (fun a b _ _ x y => by omega) hw h2
  rw [e, List.map_map]
  exact q p hf
def rDictP (K : PySem.W.Frag) : List V → Hp → VK → Prop := fun xs H Q => ∃ (a : Addr) (ps : List Addr) (kvs : List (Key × V)), xs = [.ref a] ∧ SqL K H a (ps.map V.ref) ∧ Paired (fun p kv => SqT K H p [kV kv.1, kv.2]) ps kvs ∧ ∀ p, H p = none → Q (.ref p) (upd H p (.dK (mergeK [] kvs)))
theorem cr_dictP (hc : X.calm = true) : CallR X (.type "dict") (rDictP X.K) := call_dictP hc
end
end W37
/-! statements and loops over data; tables of lists -/
namespace W37
open PySem PySem.Spec PyProof.Rows L2
open Evl (Ex Ev EvT EvA EvL)
/-! ### xs.extend(a list) -/
theorem ext_lst (l : Addr) (items : Array Value) (n : Nat) (b : Addr) (items2 : Array Value) (n2 : Nat) (sl2 : Array (Option Value)) (hs0 : ¬(!items.isEmpty && Builtin.List.listTooLong (items.size + items2.size)) = true) (hs1 : items.size ≤ sizeLine) (hs2 : items.size + items2.size ≤ sizeLine + 1) :
    Meets (Builtin.«list.extend» ⟨[.ref l, .ref b], []⟩) (fun _ R s => s.heap.get? l = some { cls := .type "list", dict := none, data := .seq items n, slots := #[] } ∧ s.heap.get? b = some { cls := .type "list", dict := none, data := .seq items2 n2, slots := sl2 } ∧ R (.ok (.ret Value.none)) { s with heap := s.heap.update l (Obj.mapSeq fun x => x ++ items2), toks := s.toks }) :=
  .of_wp fun prog w A R s h => by
    obtain ⟨hp, g, d, tk, os⟩ := s; obtain ⟨hl, hb, h⟩ := h;
    have hz' : (items ++ items2).size ≤ sizeLine + 1 := by rw [Array.size_append]; exact hs2
    wp_walk using (wpAny_updateSeq hl rfl (hz := hs1) (_hz' := hz')), wpAny_loadPart' hl, wpAny_loadPart' hb; exact ⟨_, rfl, h⟩
section
variable {X : Cx}
def rExtL (K : PySem.W.Frag) : V → List V → Hp → VK → Prop := fun x vs H Q => ∃ l b xs zs, x = .ref l ∧ vs = [.ref b] ∧ H l = some (.lst xs) ∧ SqL K H b zs ∧ xs.length + zs.length ≤ sizeLine ∧ Q .non (upd H l (.lst (xs ++ zs)))
theorem mt_extL : MtM X "list.extend" (rExtL X.K) := by
  intro pins s σ H x vs v us Q I rx rv h
  obtain ⟨l, b, xs, zs, rfl, rfl, hH, hB, hz, q⟩ := h
  cases rx
  obtain ⟨u, rfl, ru⟩ := rv.one
  cases ru
  obtain ⟨z, its, n, r, hl, e⟩ := I.lstM hH
  obtain ⟨its2, r2, ⟨o, n2, ho, hc, hdd, hd⟩, hz2⟩ := I.list hB
  obtain ⟨oc, od, dt, sl⟩ := o
  simp only at hc hd hdd
  subst hc hd hdd
  have hl2 := r2.length
  have hsz : its.toArray.size + its2.toArray.size ≤ sizeLine := by rw [List.size_toArray, List.size_toArray]; omega
  have hlong : ¬ (!its.toArray.isEmpty && Builtin.List.listTooLong (its.toArray.size + its2.toArray.size)) = true := by
    rw [notLongL hsz, Bool.and_false]
    exact Bool.false_ne_true
  refine call_meets PySem.F.slot_list_extend ⟨_, e, rfl⟩ PySem.F.entry_list_extend (PySem.F.args_list_extend_2 _ _)
    (ext_lst l its.toArray n b its2.toArray n2 sl hlong (by rw [List.size_toArray]; omega) (by omega)) ⟨e, ho, ?_⟩
  refine ⟨.non, _, I.lset (its' := its ++ its2) hH e (by simp) (r.append r2) ?_, rfl, q⟩
  rw [List.length_append]
  omega
end
/-! ### what stays -/
def Tx (K : PySem.W.Frag) (H H' : Hp) : Prop := ∀ a xs, SqT K H a xs → SqT K H' a xs
def Lx (K : PySem.W.Frag) (H H' : Hp) : Prop := Tx K H H' ∧ ∀ a xs, SqL K H a xs → SqL K H' a xs
section
variable {K : PySem.W.Frag} {H H' H'' : Hp}
theorem Tx.refl (H : Hp) : Tx K H H := fun _ _ h => h
theorem Tx.trans (a : Tx K H H') (b : Tx K H' H'') : Tx K H H'' := fun x xs h => b x xs (a x xs h)
theorem tx_ex (e : Ex H H') : Tx K H H' := fun _ _ h => sqT_up e h
theorem tx_upd {l : Addr} {ys : List V} {o : HO} (h : H l = some (.lst ys)) : Tx K H (upd H l o) := fun a xs q => by
  rcases q with (q | ⟨o', q⟩) | q
  · exact .inl (.inl (by rw [upd_ne (ne_of q h (by intro z; cases z))]; exact q))
  · exact .inl (.inr ⟨o', by rw [upd_ne (ne_of q h (by intro z; cases z))]; exact q⟩)
  · exact .inr q
theorem tx_updK {l : Addr} {ys : List (Key × V)} {o : HO} (h : H l = some (.dK ys)) : Tx K H (upd H l o) := fun a xs q => by
  rcases q with (q | ⟨o', q⟩) | q
  · exact .inl (.inl (by rw [upd_ne (ne_of q h (by intro z; cases z))]; exact q))
  · exact .inl (.inr ⟨o', by rw [upd_ne (ne_of q h (by intro z; cases z))]; exact q⟩)
  · exact .inr q
theorem Lx.refl (H : Hp) : Lx K H H := ⟨Tx.refl H, fun _ _ h => h⟩
theorem Lx.trans (a : Lx K H H') (b : Lx K H' H'') : Lx K H H'' := ⟨a.1.trans b.1, fun x xs h => b.2 x xs (a.2 x xs h)⟩
theorem lx_ex (e : Ex H H') : Lx K H H' := ⟨tx_ex e, fun _ _ h => sqL_up e h⟩
theorem lx_updK {l : Addr} {ys : List (Key × V)} {o : HO} (h : H l = some (.dK ys)) : Lx K H (upd H l o) := ⟨tx_updK h, fun a xs q => by
  rcases q with (q | ⟨o', q⟩) | q
  · exact .inl (.inl (by rw [upd_ne (ne_of q h (by intro z; cases z))]; exact q))
  · exact .inl (.inr ⟨o', by rw [upd_ne (ne_of q h (by intro z; cases z))]; exact q⟩)
  · exact .inr q⟩
mutual
theorem dp_tx (t : Tx K H H') : ∀ {d : PyData} {v : V}, noL d = true → Dp K H v d → Dp K H' v d
  | .none, _, _, h => by cases h; exact .non
  | .bool b, _, _, h => by cases h; exact .bl b
  | .int i, _, _, h => by cases h; exact .int i
  | .str x, _, _, h => by cases h; exact .str x
  | .list ds, _, n, _ => by simp [noL] at n
  | .tuple ds, _, n, h => by
    cases h with
    | tup hs ha => exact .tup (t _ _ hs) (dps_tx t (by simpa [noL] using n) ha)
  | .dict _, _, _, h => by cases h
theorem dps_tx (t : Tx K H H') : ∀ {ds : List PyData} {vs : List V}, noLs ds = true → DpAll K H vs ds → DpAll K H' vs ds
  | [], _, _, h => by cases h; exact .nil
  | d :: ds, _, n, h => by
    simp only [noLs, Bool.and_eq_true] at n
    cases h with
    | cons h1 h2 => exact .cons (dp_tx t n.1 h1) (dps_tx t n.2 h2)
end
mutual
theorem dp_lx (t : Lx K H H') : ∀ {d : PyData} {v : V}, Dp K H v d → Dp K H' v d
  | .none, _, h => by cases h; exact .non
  | .bool b, _, h => by cases h; exact .bl b
  | .int i, _, h => by cases h; exact .int i
  | .str x, _, h => by cases h; exact .str x
  | .list ds, _, h => by
    cases h with
    | lst hs ha => exact .lst (t.2 _ _ hs) (dps_lx t ha)
  | .tuple ds, _, h => by
    cases h with
    | tup hs ha => exact .tup (t.1 _ _ hs) (dps_lx t ha)
  | .dict _, _, h => by cases h
theorem dps_lx (t : Lx K H H') : ∀ {ds : List PyData} {vs : List V}, DpAll K H vs ds → DpAll K H' vs ds
  | [], _, h => by cases h; exact .nil
  | d :: ds, _, h => by
    cases h with
    | cons h1 h2 => exact .cons (dp_lx t h1) (dps_lx t h2)
end
theorem noL_W (n : Nat) (es : List G37.Ed) : noL (dWeb n es) = true := by
  show (true && (noLs (es.map dE) && true)) = true
  rw [noLs_map noL_E]; rfl
end
/-! ### statements -/
section
variable {K : PySem.W.Frag} {σ : L2.St} {H H' : Hp} {ta tb tc te tl : TE} {R R' : PyData → Prop} {d d1 d2 : PyData} {v x : V} {D : Ends} {tu tw : TS}
theorem sd_ifno {t : TT} (h : EvT t σ H false) (k : ∀ H1, Ex H H1 → D.nx σ H1) : tIfS t tu tNext D σ H := Evl.s_if h (fun c => by cases c) fun _ H1 e => k H1 e
theorem sd_ifyes {t : TT} (h : EvT t σ H true) (k : ∀ H1, Ex H H1 → tu D σ H1) : tIfS t tu tw D σ H := Evl.s_if h (fun _ H1 e => k H1 e) (fun c => by cases c)
theorem sd_asgQ {i : Nat} (h : te σ H fun x H1 => D.nx (σ.set i (some x)) H1) : tAsg te (gName i) D σ H := h
theorem sd_asg2 {i j : Nat} {a b : PyData} (h : EvD K te σ H (.tuple [a, b])) (k : ∀ x y H1, Ex H H1 → Dp K H1 x a → Dp K H1 y b → D.nx ((σ.set i (some x)).set j (some y)) H1) : tAsg te (gTup K 2 (gCons (gName i) (gCons (gName j) gNil))) D σ H := h H (Ex.refl H) _ fun v H1 d e r p => by
  subst r
  obtain ⟨t, xs, rfl, hs, ha⟩ := p.tup_v
  cases ha with | cons h1 ha => cases ha with | cons h2 ha =>
  cases ha
  exact ⟨t, _, rfl, hs, rfl, _, _, rfl, _, _, rfl, rfl, k _ _ H1 e h1 h2⟩
theorem sd_asg3 {i j l : Nat} {a b c : PyData} (h : EvD K te σ H (.tuple [a, b, c])) (k : ∀ x y z H1, Ex H H1 → Dp K H1 x a → Dp K H1 y b → Dp K H1 z c → D.nx (((σ.set i (some x)).set j (some y)).set l (some z)) H1) : tAsg te (gTup K 3 (gCons (gName i) (gCons (gName j) (gCons (gName l) gNil)))) D σ H := h H (Ex.refl H) _ fun v H1 d e r p => by
  subst r
  obtain ⟨t, xs, rfl, hs, ha⟩ := p.tup_v
  cases ha with | cons h1 ha => cases ha with | cons h2 ha => cases ha with | cons h3 ha =>
  cases ha
  exact ⟨t, _, rfl, hs, rfl, _, _, rfl, _, _, rfl, _, _, rfl, rfl, k _ _ _ H1 e h1 h2 h3⟩
/-- l.append(v) -/
theorem sd_app {l : Addr} {xs : List V} (ha : Ev ta σ H (.ref l)) (hl : H l = some (.lst xs)) (h : EvP K te σ H R) (hz : xs.length < 100000) (k : ∀ v H1 r, Ex H H1 → R r → Dp K H1 v r → H1 l = some (.lst xs) → D.nx σ (upd H1 l (.lst (xs ++ [v])))) :
    tDrop (tBM K "list" rAppend ta (tCons te tNil)) D σ H := ha H (Ex.refl H) _ fun H1 e1 =>
  ⟨Or.inl ⟨rfl, xs, sq_of (e1 l _ hl)⟩, h H1 e1 _ fun v H2 r e2 hr hv => ⟨l, xs, v, rfl, rfl, e2 l _ (e1 l _ hl), szlt hz, k v H2 r (e1.trans e2) hr hv (e2 l _ (e1 l _ hl))⟩⟩
/-- l.extend(a list) -/
theorem sd_extL {l : Addr} {xs : List V} {ds : List PyData} (ha : Ev ta σ H (.ref l)) (hl : H l = some (.lst xs)) (h : EvD K te σ H (.list ds)) (hz : xs.length + ds.length ≤ 100000) (k : ∀ vs H1, Ex H H1 → DpAll K H1 vs ds → H1 l = some (.lst xs) → D.nx σ (upd H1 l (.lst (xs ++ vs)))) :
    tDrop (tBM K "list" (rExtL K) ta (tCons te tNil)) D σ H := ha H (Ex.refl H) _ fun H1 e1 =>
  ⟨Or.inl ⟨rfl, xs, sq_of (e1 l _ hl)⟩, h H1 e1 _ fun v H2 r e2 hr hv => by
    subst hr
    obtain ⟨a, ys, rfl, hs, hd⟩ := hv.lst_v
    exact ⟨l, a, xs, ys, rfl, rfl, e2 l _ (e1 l _ hl), hs, by rw [hd.len]; exact sz100 hz, k ys H2 (e1.trans e2) hd (e2 l _ (e1 l _ hl))⟩⟩
theorem sd_extT {l : Addr} {xs : List V} {ds : List PyData} (ha : Ev ta σ H (.ref l)) (hl : H l = some (.lst xs)) (h : EvD K te σ H (.tuple ds)) (hz : xs.length + ds.length ≤ 100000) (k : ∀ vs H1, Ex H H1 → DpAll K H1 vs ds → H1 l = some (.lst xs) → D.nx σ (upd H1 l (.lst (xs ++ vs)))) :
    tDrop (tBM K "list" (rExtT K) ta (tCons te tNil)) D σ H := ha H (Ex.refl H) _ fun H1 e1 =>
  ⟨Or.inl ⟨rfl, xs, sq_of (e1 l _ hl)⟩, h H1 e1 _ fun v H2 r e2 hr hv => by
    subst hr
    obtain ⟨a, ys, rfl, hs, hd⟩ := hv.tup_v
    exact ⟨l, a, xs, ys, rfl, rfl, e2 l _ (e1 l _ hl), hs, by rw [hd.len]; exact sz100 hz, k ys H2 (e1.trans e2) hd (e2 l _ (e1 l _ hl))⟩⟩
/-! ### for loops over data without lists -/
theorem sd_forT {α : Type} (l : List α) (enc : α → PyData) {g : TG} (hno : ∀ a, noL (enc a) = true) (h : EvD K tl σ H (.tuple (l.map enc))) (Pv : Hp → Nat → L2.St → Hp → Prop) (h0 : ∀ H1, Ex H H1 → Pv H1 0 σ H1) (ht : ∀ H1 i σ' H', Ex H H1 → Pv H1 i σ' H' → Tx K H1 H')
    (hs : ∀ H1 i a x σ' H', Ex H H1 → l[i]? = some a → Pv H1 i σ' H' → Dp K H' x (enc a) → g x σ' H' fun σ2 H2 => tu { D with nx := Pv H1 (i + 1), ct := Pv H1 (i + 1), bk := D.nx } σ2 H2) (hd : ∀ H1 σ' H', Ex H H1 → Pv H1 l.length σ' H' → D.nx σ' H') :
    tFor (iTup K tl) g tu D σ H := h H (Ex.refl H) _ fun v H1 d e r p => by
  subst r
  obtain ⟨a, xs, rfl, hx, hda⟩ := p.tup_v
  have hl : xs.length = l.length := by rw [hda.len, List.length_map]
  refine ⟨a, rfl, ⟨xs, hx⟩, ?_⟩
  refine for_tup (xs := xs) (Pv H1) (h0 H1 e) (fun i σ' H' _ pv => ht H1 i σ' H' e pv a xs hx) (fun i x σ' H' hi pv => ?_) (fun σ' H' pv => hd H1 σ' H' e (by rw [← hl]; exact pv))
  obtain ⟨d', hd1, hd2⟩ := hda.get hi
  rw [List.getElem?_map] at hd1
  obtain ⟨b, hb, rfl⟩ := Option.map_eq_some_iff.mp hd1
  exact hs H1 i b x σ' H' e hb pv (dp_tx (ht H1 i σ' H' e pv) (hno b) hd2)
theorem sd_forL {α : Type} (l : List α) (enc : α → PyData) {g : TG} (hno : ∀ a, noL (enc a) = true) (h : EvD K tl σ H (.list (l.map enc))) (Pv : Hp → Nat → L2.St → Hp → Prop) (h0 : ∀ H1, Ex H H1 → Pv H1 0 σ H1) (ht : ∀ H1 i σ' H', Ex H H1 → Pv H1 i σ' H' → Tx K H1 H')
    (hli : ∀ H1 i σ' H' a xs, Ex H H1 → SqL K H1 a xs → DpAll K H1 xs (l.map enc) → Pv H1 i σ' H' → SqL K H' a xs)
    (hs : ∀ H1 i a x σ' H', Ex H H1 → l[i]? = some a → Pv H1 i σ' H' → Dp K H' x (enc a) → g x σ' H' fun σ2 H2 => tu { D with nx := Pv H1 (i + 1), ct := Pv H1 (i + 1), bk := D.nx } σ2 H2) (hd : ∀ H1 σ' H', Ex H H1 → Pv H1 l.length σ' H' → D.nx σ' H') :
    tFor (iList K tl) g tu D σ H := h H (Ex.refl H) _ fun v H1 d e r p => by
  subst r
  obtain ⟨a, xs, rfl, hx, hda⟩ := p.lst_v
  have hl : xs.length = l.length := by rw [hda.len, List.length_map]
  refine ⟨a, rfl, ⟨xs, hx⟩, ?_⟩
  refine for_list (xs := xs) (Pv H1) (h0 H1 e) (fun i σ' H' _ pv => hli H1 i σ' H' a xs e hx hda pv) (fun i x σ' H' hi pv => ?_) (fun σ' H' pv => hd H1 σ' H' e (by rw [← hl]; exact pv))
  obtain ⟨d', hd1, hd2⟩ := hda.get hi
  rw [List.getElem?_map] at hd1
  obtain ⟨b, hb, rfl⟩ := Option.map_eq_some_iff.mp hd1
  exact hs H1 i b x σ' H' e hb pv (dp_tx (ht H1 i σ' H' e pv) (hno b) hd2)
/-- a pair's two names -/
theorem g2 {i j : Nat} {a b : PyData} {k : L2.St → Hp → Prop} (p : Dp K H v (.tuple [a, b])) (q : ∀ x y, Dp K H x a → Dp K H y b → k ((σ.set i (some x)).set j (some y)) H) : gTup K 2 (gCons (gName i) (gCons (gName j) gNil)) v σ H k := by
  obtain ⟨t, xs, rfl, hs, ha⟩ := p.tup_v
  cases ha with | cons h1 ha => cases ha with | cons h2 ha =>
  cases ha
  exact ⟨t, _, rfl, hs, rfl, _, _, rfl, _, _, rfl, rfl, q _ _ h1 h2⟩
theorem g2E {i j : Nat} {e : G37.Ed} {k : L2.St → Hp → Prop} (p : Dp K H v (dE e)) (q : k ((σ.set i (some (vN e.1))).set j (some (vN e.2))) H) : gTup K 2 (gCons (gName i) (gCons (gName j) gNil)) v σ H k :=
  g2 p fun x y hx hy => by rw [hx.int_v, hy.int_v]; exact q
end
/-! ### a table of lists of numbers -/
theorem nodup_ix {α : Type} {l : List α} (nd : l.Nodup) {i j : Nat} {q : α} (hi : l[i]? = some q) (hj : l[j]? = some q) : i = j := by
  obtain ⟨a1, a2⟩ := List.getElem?_eq_some_iff.mp hi
  obtain ⟨b1, b2⟩ := List.getElem?_eq_some_iff.mp hj
  rcases Nat.lt_trichotomy i j with c | c | c
  · exact absurd (a2.trans b2.symm) (List.pairwise_iff_getElem.mp nd i j a1 b1 c)
  · exact c
  · exact absurd (b2.trans a2.symm) (List.pairwise_iff_getElem.mp nd j i b1 a1 c)
structure Tab (B H : Hp) (p : Addr) (ps : List Addr) (f : Nat → List Nat) : Prop where
  hp : H p = some (.lst (ps.map V.ref))
  nd : ps.Nodup
  np : p ∉ ps
  it : ∀ i q, ps[i]? = some q → H q = some (.lst ((f i).map vN))
  fr : ∀ q ∈ ps, B q = none
  frp : B p = none
  ex : Ex B H
theorem Tab.up {B H H' : Hp} {p : Addr} {ps : List Addr} {f : Nat → List Nat} (t : Tab B H p ps f) (e : Ex H H') : Tab B H' p ps f :=
  ⟨e p _ t.hp, t.nd, t.np, fun i q h => e q _ (t.it i q h), t.fr, t.frp, t.ex.trans e⟩
theorem Tab.push {B H : Hp} {p : Addr} {ps : List Addr} {f : Nat → List Nat} (t : Tab B H p ps f) {i x : Nat} {q : Addr} (hq : ps[i]? = some q) : Tab B (upd H q (.lst ((f i).map vN ++ [vN x]))) p ps (G37.push f i x) := by
  have mq := List.mem_of_getElem? hq
  refine ⟨by rw [upd_ne (fun z => t.np (by rw [z]; exact mq))]; exact t.hp, t.nd, t.np, fun j r hr => ?_, t.fr, t.frp, ex_mut t.ex (t.fr q mq)⟩
  by_cases c : j = i
  · subst c
    rw [hq] at hr; cases hr
    rw [upd_same]
    simp [G37.push]
  · have : r ≠ q := fun z => by
      subst z
      exact c (nodup_ix t.nd hr hq)
    rw [upd_ne this, t.it j r hr]
    simp [G37.push, c]
section
variable {K : PySem.W.Frag} {σ : L2.St} {H H' : Hp} {ta tb tc te tl : TE} {D : Ends}
/-- t[i].append(x) -/
theorem sd_tabapp {B : Hp} {p : Addr} {ps : List Addr} {f : Nat → List Nat} {i x : Nat} (t : Tab B H p ps f) (ha : Ev ta σ H (.ref p)) (hb : Ev tb σ H (vN i)) (he : Ev te σ H (vN x)) (hi : i < ps.length) (hz : ∀ j, (f j).length < 90000) (k : ∀ H1, Tx K H H1 → Tab B H1 p ps (G37.push f i x) → D.nx σ H1) :
    tDrop (tBM K "list" rAppend (tOp (rIx K) ta tb) (tCons te tNil)) D σ H := ha H (Ex.refl H) _ fun H1 e1 => hb H1 e1 _ fun H2 e2 => by
  have t2 := t.up (e1.trans e2)
  have hq : ps[i]? = some ps[i] := List.getElem?_eq_getElem hi
  refine .inl ⟨p, _, (i : Int), .ref ps[i], rfl, rfl, sq_of t2.hp, atI_nat (by rw [List.getElem?_map, hq]; rfl), .inl ⟨rfl, _, sq_of (t2.it i _ hq)⟩, he H2 (e1.trans e2) _ fun H3 e3 => ?_⟩
  have t3 := t2.up e3
  refine ⟨ps[i], _, vN x, rfl, rfl, t3.it i _ hq, szlt (by rw [List.length_map]; have := hz i; omega), k _ ((tx_ex ((e1.trans e2).trans e3)).trans (tx_upd (t3.it i _ hq))) (t3.push hq)⟩
end
section
variable {K : PySem.W.Frag} {σ : L2.St} {H H' : Hp} {ta tb tc te tl : TE} {D : Ends}
theorem yes_ {k : Bool → Hp → Prop} (h : k true H) : tYes σ H k := h
theorem tl_nil {Q : VK} : tLst tNil σ H Q = ((0 : Nat) ≤ sizeLine ∧ ∀ p, H p = none → Q (.ref p) (upd H p (.lst []))) := rfl
/-- [[] for .. in range(n)] -/
theorem lc_tab {n : Nat} {ta : TA} {j : Nat} {vs : List Nat} (h : EvA ta σ H [.int (n : Int)]) (hn : n ≤ 50000) (hw : ∀ x, wipe ((wipe σ vs).set j (some x)) vs = wipe σ vs) {Q : VK} (q : ∀ p ps H1, Ex H H1 → Tab H H1 p ps (fun _ => []) → ps.length = n → Q (.ref p) H1) : tLc (iRng1 ta) (gName j) tYes (tLst tNil) vs σ H Q := h H (Ex.refl H) _ fun H1 e => by
  refine ⟨(n : Int), rfl, by omega, by omega, fun D hD => ?_⟩
  have hn' : (n : Int).toNat = n := by omega
  rw [hn']
  refine lc_it (walk_range (lo := 0) (n := n)) (fun i H2 => Ex H1 H2 ∧ ∃ ps, Tab H1 H2 D ps (fun _ => []) ∧ ps.length = i) ⟨ex_mut (ex_r _) hD, [], ⟨upd_same, by simp, by simp, by simp, by simp, hD, ex_mut (ex_r _) hD⟩, rfl⟩ (fun _ _ _ _ => trivial) (fun i x H3 H4 hi p y => ?_) fun H2 p => ?_
  · obtain ⟨rfl, rfl⟩ := y
    obtain ⟨e3, ps, t, hl⟩ := p
    refine ⟨hw _, yes_ (iteT ?_)⟩
    refine ⟨Nat.zero_le _, fun q hq => ⟨ps.map V.ref, by rw [upd_ne (ne_of_none t.hp hq)]; exact t.hp, szlt (by rw [List.length_map]; omega), ?_⟩⟩
    have hqD : q ≠ D := fun z => by rw [z, t.hp] at hq; cases hq
    have e5 : Ex H1 (upd (upd H4 q (.lst [])) D (.lst (ps.map V.ref ++ [.ref q]))) := ex_mut (e3.trans (ex_new hq)) hD
    refine ⟨e5, ps ++ [q], ⟨by rw [upd_same]; simp, ?_, ?_, ?_, ?_, hD, e5⟩, by simp [hl]⟩
    · refine List.nodup_append.mpr ⟨t.nd, by simp, fun a ha b hb => ?_⟩
      rw [List.mem_singleton.mp hb]
      intro z
      subst z
      obtain ⟨i, hi⟩ := List.getElem?_of_mem ha
      rw [t.it i _ hi] at hq; cases hq
    · intro z
      rcases List.mem_append.mp z with z | z
      · exact t.np z
      · exact hqD (List.mem_singleton.mp z).symm
    · intro i r hr
      have mr := List.mem_of_getElem? hr
      have hrD : r ≠ D := fun z => by
        subst z
        rcases List.mem_append.mp mr with z | z
        · exact t.np z
        · exact hqD (List.mem_singleton.mp z).symm
      rw [upd_ne hrD]
      by_cases c : r = q
      · rw [c, upd_same]; rfl
      · rw [upd_ne c]
        rw [List.getElem?_append] at hr
        split at hr
        · exact t.it i r hr
        · exfalso
          have := List.mem_of_getElem? hr
          exact c (List.mem_singleton.mp this)
    · intro r hr
      rcases List.mem_append.mp hr with z | z
      · exact t.fr r z
      · rw [List.mem_singleton.mp z]; exact ex_free e3 hq
  · obtain ⟨e3, ps, t, hl⟩ := p
    exact q D ps H2 (e.trans e3) ⟨t.hp, t.nd, t.np, t.it, fun r hr => ex_free e (t.fr r hr), ex_free e t.frp, e.trans t.ex⟩ hl
/-- [sorted(x) for x in the table] -/
theorem ed_lcSort {B : Hp} {p : Addr} {ps : List Addr} {f : Nat → List Nat} {j : Nat} {vs : List Nat} (t : Tab B H p ps f) (ha : Ev tl σ H (.ref p)) (hn : ps.length ≤ 50000) (hw : ∀ x, wipe ((wipe σ vs).set j (some x)) vs = wipe σ vs) (hj : ∀ x, ((wipe σ vs).set j (some x))[j]? = some (some x)) :
    EvD K (tLc (iList K tl) (gName j) tYes (tCB (rSortN K) (tCons (tVar j) tNil)) vs) σ H (dBes ((List.range ps.length).map fun i => sortN (f i))) := fun H1 e Q q => ha H1 e _ fun H2 e2 => by
  have t2 := t.up (e.trans e2)
  refine ⟨p, rfl, ⟨_, sq_of t2.hp⟩, fun D hD => ?_⟩
  refine lc_it (walk_list (K := K) (a := p) (xs := ps.map V.ref)) (fun i H3 => Ex H2 H3 ∧ ∃ xs, H3 D = some (.lst xs) ∧ DpAll K (del H3 D) xs (((List.range i).map fun i => sortN (f i)).map dL)) ⟨ex_mut (ex_r _) hD, [], upd_same, .nil⟩ (fun i H3 _ p => sqL_up p.1 (sq_of t2.hp)) (fun i x H3 H4 hi pv y => ?_) fun H3 pv => ?_
  · obtain ⟨rfl, hx⟩ := y
    obtain ⟨e3, xs, hxD, hd⟩ := pv
    rw [List.getElem?_map] at hx
    obtain ⟨r, hr, rfl⟩ := Option.map_eq_some_iff.mp hx
    refine ⟨hw _, yes_ (iteT ?_)⟩
    refine ⟨.ref r, hj _, r, f i, rfl, sq_of (e3 r _ (t2.it i r hr)), fun s hs => ⟨xs, by rw [upd_ne (ne_of_none hxD hs)]; exact hxD, ?_, ?_⟩⟩
    · have := hd.len
      simp at this hi
      exact szlt (by omega)
    · have hsD : s ≠ D := fun z => by rw [z, hxD] at hs; cases hs
      refine ⟨ex_mut (e3.trans (ex_new hs)) hD, _, upd_same, ?_⟩
      rw [del_upd, List.range_succ, List.map_append, List.map_append]
      refine DpAll.app (dps_up (del_mono (ex_new hs)) hd) (.one (v_dL (sq_of ?_)))
      rw [del_ne hsD, upd_same]
  · obtain ⟨e3, xs, hxD, hd⟩ := pv
    rw [List.length_map] at hd
    exact q _ H3 _ (e2.trans e3) rfl (.lst (sq_of hxD) (dps_up del_ex hd))
end
end W37
/-! new lists, dicts of pairs, enumerate -/
namespace W37
open PySem PySem.Spec PyProof.Rows L2
open Evl (Ex Ev EvT EvA EvL)
section
variable {K : PySem.W.Frag} {σ : L2.St} {H H' : Hp} {ta tb tc te tl : TE} {R R' : PyData → Prop} {d d1 d2 : PyData} {v x : V} {D : Ends} {tu tw : TS}
theorem sd_while {t : TT} (W : Nat → L2.St → Hp → Prop) (h0 : ∃ m, W m σ H) (hs : ∀ m σ' H', W m σ' H' → ∃ b, EvT t σ' H' b ∧ (b = true → ∀ H1, Ex H' H1 → tu { D with nx := fun σ2 H2 => ∃ m', m' < m ∧ W m' σ2 H2, ct := fun σ2 H2 => ∃ m', m' < m ∧ W m' σ2 H2, bk := D.nx } σ' H1) ∧ (b = false → ∀ H1, Ex H' H1 → D.nx σ' H1)) : tWhile t tu D σ H := by
  obtain ⟨m0, h0⟩ := h0
  refine Evl.s_while W m0 h0 fun m σ' H' w => ?_
  obtain ⟨b, h1, h2, h3⟩ := hs m σ' H' w
  exact ⟨b, h1, fun c H1 e => ⟨_, fun σ2 H2 h => h, h2 c H1 e⟩, h3⟩
theorem sd_new0 {i : Nat} (k : ∀ p, H p = none → D.nx (σ.set i (some (.ref p))) (upd H p (.lst []))) : tAsg (tLst tNil) (gName i) D σ H := ⟨Nat.zero_le _, k⟩
theorem sd_new1 {i : Nat} (h : Ev te σ H v) (k : ∀ p H1, Ex H H1 → H1 p = none → D.nx (σ.set i (some (.ref p))) (upd H1 p (.lst [v]))) : tAsg (tLst (tCons te tNil)) (gName i) D σ H := h H (Ex.refl H) _ fun H1 e => ⟨Evl.sz_of (by simp), fun p hp => k p H1 e hp⟩
theorem sd_new1D {i : Nat} (h : EvP K te σ H R) (k : ∀ p v r H1, Ex H H1 → R r → Dp K H1 v r → H1 p = none → D.nx (σ.set i (some (.ref p))) (upd H1 p (.lst [v]))) : tAsg (tLst (tCons te tNil)) (gName i) D σ H := h H (Ex.refl H) _ fun v H1 r e hr hv => ⟨Evl.sz_of (by simp), fun p hp => k p v r H1 e hr hv hp⟩
theorem sd_asgV {i : Nat} (h : Ev te σ H v) (k : ∀ H1, Ex H H1 → D.nx (σ.set i (some v)) H1) : tAsg te (gName i) D σ H := h H (Ex.refl H) _ fun H1 e => k H1 e
theorem ev_lenV {p : Addr} {xs : List V} (ha : Ev ta σ H (.ref p)) (h : SqL K H p xs) : Ev (tCB (rLn K) (tCons ta tNil)) σ H (.int (xs.length : Int)) := fun H1 e Q q => ha H1 e _ fun H2 e2 => ⟨p, xs, rfl, .inl (sqL_up (e.trans e2) h), q H2 e2⟩
theorem ev_ixV {p : Addr} {xs : List V} {i : Int} {y : V} (ha : Ev ta σ H (.ref p)) (h : SqL K H p xs) (hb : Ev tb σ H (.int i)) (hx : atI xs i = some y) : Ev (tOp (rIx K) ta tb) σ H y := fun H1 e Q q => ha H1 e _ fun H2 e2 => hb H2 (e.trans e2) _ fun H3 e3 => .inl ⟨p, xs, i, y, rfl, rfl, sqL_up ((e.trans e2).trans e3) h, hx, q H3 (e2.trans e3)⟩
theorem ed_sortN {ns : List Nat} (h : EvD K ta σ H (dL ns)) : EvD K (tCB (rSortN K) (tCons ta tNil)) σ H (dL (sortN ns)) := fun H1 e Q q => h H1 e _ fun v H2 r e2 hr p => by
  subst hr
  obtain ⟨a, rfl, hs⟩ := dL_v p
  exact ⟨a, ns, rfl, hs, fun b hb => q _ _ _ (e2.trans (ex_new hb)) rfl (v_dL (sq_of upd_same))⟩
theorem ev_neg {i : Int} (h : Ev ta σ H (.int i)) : Ev (tUn (rU fun i => .int (-i)) ta) σ H (.int (-i)) := Evl.ev_un h fun H1 e Q q => ⟨i, rfl, q H1 (Ex.refl _)⟩
theorem pg_tupK {X : Cx} {pos : Pos} {K : PySem.W.Frag} {es : List Expr} {k : Nat} {t : TGs} {n : Nat} (hK : X.K = K) (hc : X.calm = true) (h : PGs X es t) (hn : (assignEach es X.env).length = n := by rfl) (hst : (assignEach es X.env).findIdx? (·.1) = none := by rfl) : PG X (.Tuple es k pos) (gTup K n t) := by
  subst hK
  exact pg_tup hc h hn hst
/-! ### dicts by numbers -/
theorem valV_merge : ∀ (more acc : List (Key × V)) (k : Key), (more.map (·.1)).Nodup → valV (mergeK acc more) k = match valV more k with | some v => some v | none => valV acc k
  | [], acc, k, _ => rfl
  | p :: r, acc, k, nd => by
    rw [List.map_cons] at nd
    obtain ⟨n1, n2⟩ := List.nodup_cons.mp nd
    show valV (mergeK (putK acc p.1 p.2) r) k = _
    rw [valV_merge r _ k n2, valV_put]
    by_cases c : k = p.1
    · subst c
      have : valV r p.1 = none := by
        have a := valV_any p.1 r
        cases q : valV r p.1 with
        | none => rfl
        | some v =>
          rw [q] at a
          obtain ⟨x, hx, e⟩ := List.any_eq_true.mp a
          exact absurd (List.mem_map.mpr ⟨x, hx, by simpa using e⟩) n1
      rw [this, valV_pos rfl]
      simp
    · rw [if_neg c, valV_neg (fun z => c z.symm)]
/-- by numbers -/
def DKat (H : Hp) (d : Addr) (g : Nat → Option V) : Prop := ∃ kvs, H d = some (.dK kvs) ∧ kvs.length ≤ 40000 ∧ ∀ k : Nat, valV kvs (.inl (k : Int)) = g k
theorem DKat.up {d : Addr} {g : Nat → Option V} (h : DKat H d g) (e : Ex H H') : DKat H' d g := by
  obtain ⟨kvs, a, b⟩ := h
  exact ⟨kvs, e d _ a, b⟩
theorem DKat.get {d : Addr} {g : Nat → Option V} {k : Nat} (h : DKat H d g) : DGet H d (vN k) (g k) := by
  obtain ⟨kvs, a, _, b⟩ := h
  rw [← b k]
  exact DGet.k (k := .inl (k : Int)) a
/-- d[k], known -/
theorem ev_dget {d : Addr} {g : Nat → Option V} {k : Nat} (ha : Ev ta σ H (.ref d)) (hb : Ev tb σ H (vN k)) (h : DKat H d g) (hg : g k = some v) : Ev (tDGet ta tb) σ H v := fun H1 e Q q => ha H1 e _ fun H2 e2 => hb H2 (e.trans e2) _ fun H3 e3 =>
  ⟨d, v, rfl, hg ▸ (h.up ((e.trans e2).trans e3)).get, q H3 (e2.trans e3)⟩
theorem eb_din {d : Addr} {g : Nat → Option V} {k : Nat} (hb : Ev tb σ H (vN k)) (ha : Ev ta σ H (.ref d)) (h : DKat H d g) : Ev (tDIn tb ta) σ H (.bl (g k).isSome) := fun H1 e Q q => hb H1 e _ fun H2 e2 => ha H2 (e.trans e2) _ fun H3 e3 =>
  ⟨d, _, rfl, (h.up ((e.trans e2).trans e3)).get, q H3 (e2.trans e3)⟩
theorem eb_dnotin {d : Addr} {g : Nat → Option V} {k : Nat} (hb : Ev tb σ H (vN k)) (ha : Ev ta σ H (.ref d)) (h : DKat H d g) : Ev (tDNotIn tb ta) σ H (.bl (!(g k).isSome)) := fun H1 e Q q => hb H1 e _ fun H2 e2 => ha H2 (e.trans e2) _ fun H3 e3 =>
  ⟨d, _, rfl, (h.up ((e.trans e2).trans e3)).get, q H3 (e2.trans e3)⟩
theorem pairs_paired : ∀ {kvs : List (Nat × Nat)} {xs : List V}, DpAll K H xs (kvs.map fun kv => dT [kv.1, kv.2]) → ∃ ps : List Addr, xs = ps.map V.ref ∧ Paired (fun p (kv : Key × V) => SqT K H p [kV kv.1, kv.2]) ps (kvs.map fun kv => (.inl (kv.1 : Int), vN kv.2))
  | [], _, h => by cases h; exact ⟨[], rfl, .nil⟩
  | kv :: kvs, _, h => by
    cases h with
    | cons h1 h2 =>
      obtain ⟨ps, rfl, hp⟩ := pairs_paired h2
      obtain ⟨a, rfl, ha⟩ := dT_v h1
      exact ⟨a :: ps, rfl, .cons ha hp⟩
/-- i = dict([..pairs of numbers..]) -/
theorem sd_asgDict {i : Nat} {kvs : List (Nat × Nat)} (h : EvD K te σ H (.list (kvs.map fun kv => dT [kv.1, kv.2]))) (nd : (kvs.map (·.1)).Nodup) (hl : kvs.length ≤ 40000) (k : ∀ p H1, Ex H H1 → DKat H1 p (fun j => (kvs.find? fun kv => decide (kv.1 = j)).map fun kv => vN kv.2) → D.nx (σ.set i (some (.ref p))) H1) : tAsg (tCB (rDictP K) (tCons te tNil)) (gName i) D σ H := h H (Ex.refl H) _ fun v H1 r e hr p => by
  subst hr
  obtain ⟨a, xs, rfl, hs, hd⟩ := p.lst_v
  obtain ⟨ps, rfl, hp⟩ := pairs_paired hd
  refine ⟨a, ps, _, rfl, hs, hp, fun q hq => k q _ (e.trans (ex_new hq)) ⟨_, upd_same, ?_, fun j => ?_⟩⟩
  · have := length_mergeK (kvs.map fun kv => ((.inl (kv.1 : Int) : Key), vN kv.2)) []
    simp at this ⊢
    omega
  · rw [valV_merge]
    · have : ∀ l : List (Nat × Nat), valV (l.map fun kv => ((.inl (kv.1 : Int) : Key), vN kv.2)) (.inl (j : Int)) = (l.find? fun kv => decide (kv.1 = j)).map fun kv => vN kv.2 := by
        intro l
        induction l with
        | nil => rfl
        | cons x l ih =>
          rw [List.map_cons, List.find?_cons]
          by_cases c : x.1 = j
          · rw [valV_pos (by simp [c])]
            simp [c]
          · rw [valV_neg (by intro z; simp at z; omega), ih]
            simp [c]
      rw [this]
      dsimp only
      cases kvs.find? fun kv => decide (kv.1 = j) <;> rfl
    · rw [List.map_map]
      rw [show ((fun kv : Key × V => kv.1) ∘ fun kv : Nat × Nat => ((.inl (kv.1 : Int) : Key), vN kv.2)) = (fun k : Nat => (.inl (k : Int) : Key)) ∘ (·.1) from rfl, ← List.map_map]
      refine List.Pairwise.map _ (fun a b ne z => ne ?_) nd
      simp at z
      omega
/-- [.. for k, x in enumerate(a list)] -/
theorem ed_lcEnum {α : Type} (l : List α) (enc : α → PyData) (ee : Nat × α → PyData) {g : TG} {vs : List Nat} (hg : goodG g) (h : EvD K tl σ H (.list (l.map enc))) (hn : l.length ≤ 50000) (hno : ∀ a, noL (ee a) = true)
    (hs : ∀ i a x H1, l[i]? = some a → Ex H H1 → Dp K H1 x (.tuple [dI i, enc a]) → g x (wipe σ vs) H1 fun σ2 H2 => H2 = H1 ∧ wipe σ2 vs = wipe σ vs ∧ EvD K te σ2 H2 (ee (i, a))) :
    EvD K (tLc (iEnum K (tCons tl tNil)) g tYes te vs) σ H (.list ((List.range l.length).filterMap fun i => (l[i]?).map fun a => ee (i, a))) := fun H1 e Q q =>
  h H1 e _ fun v H2 d e2 r pv => by
    subst r
    obtain ⟨a, xs, rfl, hx, hd⟩ := pv.lst_v
    refine ⟨a, xs, rfl, hx, fun D hD => ?_⟩
    have hl : xs.length = l.length := by rw [hd.len, List.length_map]
    have w := walk_enum (K := K) (a := a) (xs := xs)
    rw [hl] at w
    refine lc_data (K := K) (Qd := fun H => Q (.ref D) H) w hD (fun i => (l[i]?).map fun a => ee (i, a)) ?_ hn (fun H' e' => sqL_up e' hx) ?_ ?_
    · intro i d h
      obtain ⟨b, _, rfl⟩ := Option.map_eq_some_iff.mp h
      exact hno _
    · intro i x H3 H4 KT KF hi e3 y hT hF
      obtain ⟨T, z, u, rfl, hT0, rfl, hz, hu⟩ := y
      cases hz
      obtain ⟨d', h1, h2⟩ := hd.get hu
      rw [List.getElem?_map] at h1
      obtain ⟨b, hb, rfl⟩ := Option.map_eq_some_iff.mp h1
      have e5 := e3.trans (ex_new (o := .tup [.int (i : Nat), u]) hT0)
      have s := hs i b (.ref T) _ hb ((e.trans e2).trans e5) (.tup (st_of upd_same) (.cons (.int _) (.one (h2.up e5))))
      refine hg _ _ _ _ _ (fun σ2 H2' r => ?_) s
      obtain ⟨rfl, r1, r2⟩ := r
      refine ⟨r1, yes_ (iteT ?_)⟩
      refine r2 _ (Ex.refl _) _ fun v H6 d e6 rd pv => ?_
      subst rd
      exact hT v H6 _ ((ex_new hT0).trans e6) (by rw [hb]; rfl) pv
    · intro H3 xs' e3 hx3 ha
      exact q _ H3 _ (e2.trans e3) rfl (.lst (sq_of hx3) (dps_up del_ex ha))
end
end W37
/-! the webs' defs -/
namespace W37
open PySem PySem.Spec PyProof.Rows L2
open Evl (Ex Ev EvT EvA EvL et_test et_B et_and et_or et_not ev_var ev_c ea_nil ea_cons ev_andV ev_orV ev_notV s_if)
open G37 (Ed nb tie ltE Web)
section
variable {K : PySem.W.Frag} {σ : L2.St} {H H' : Hp} {ta tb tc te tl : TE} {d d1 d2 : PyData} {b : Bool}
theorem ev_isnum {t : TA} {E : XK} {i x y : Int} (h : EvA t σ H [.int i, .int x, .int y]) : Ev (tCall (sp_is_number K) [] E t) σ H (.bl (decide (x ≤ i) && decide (i < y))) := Evl.ev_call h fun H1 e Q q E => ⟨i, x, y, rfl, q H1 (Ex.refl _)⟩
theorem ea3 {x y z : V} (h1 : Ev ta σ H x) (h2 : Ev tb σ H y) (h3 : Ev tc σ H z) : EvA (tCons ta (tCons tb (tCons tc tNil))) σ H [x, y, z] := ea_cons h1 (ea_cons h2 (ea_cons h3 ea_nil))
theorem ea2 {x y : V} (h1 : Ev ta σ H x) (h2 : Ev tb σ H y) : EvA (tCons ta (tCons tb tNil)) σ H [x, y] := ea_cons h1 (ea_cons h2 ea_nil)
theorem ev_isTup {ds : List PyData} (h : EvD K ta σ H (.tuple ds)) : Ev (tCB (rIsi K) (tCons ta (tCons (tC (.ty "tuple")) tNil))) σ H (.bl true) := fun H1 e Q q => h H1 e _ fun v H2 d e2 r p => by
  subst r
  obtain ⟨a, xs, rfl, hs, _⟩ := p.tup_v
  exact ⟨_, _, _, _, true, rfl, .ty "tuple", tupTy hs, kit_ty (by decide +kernel), q H2 e2⟩
theorem ev_all {bs : List Bool} (h : EvD K ta σ H (.list (bs.map PyData.bool))) : Ev (tCB (rAll K) (tCons ta tNil)) σ H (.bl (bs.all id)) := fun H1 e Q q => h H1 e _ fun v H2 d e2 r p => by
  subst r
  obtain ⟨a, xs, rfl, hs, ha⟩ := p.lst_v
  rw [all_bools ha] at hs
  exact ⟨a, bs, rfl, hs, q H2 e2⟩
/-- all(..) of a comprehension of one answer -/
theorem ev_all1 {α : Type} {l : List α} (h : EvD K ta σ H (.list ((l.filter fun _ => true).map fun _ => PyData.bool true))) : Ev (tCB (rAll K) (tCons ta tNil)) σ H (.bl true) := by
  have e : (l.filter fun _ => true).map (fun _ => PyData.bool true) = (l.map fun _ => true).map PyData.bool := by
    rw [List.filter_eq_self.mpr (by simp)]; simp
  rw [e] at h
  have := ev_all h
  have e2 : (l.map fun _ => true).all id = true := by simp
  rwa [e2] at this
theorem ev_eq {v w : V} (h : Ev te σ H v) (e : v = w) : Ev te σ H w := e ▸ h
theorem ei_eq {i j : Int} (h : Ev te σ H (.int i)) (e : i = j) : Ev te σ H (.int j) := e ▸ h
theorem eb_eq {i j : Bool} (h : Ev te σ H (.bl i)) (e : i = j) : Ev te σ H (.bl j) := e ▸ h
theorem et_eq {t : TT} {i j : Bool} (h : EvT t σ H i) (e : i = j) : EvT t σ H j := e ▸ h
theorem eb_sp {R : PyData → Prop} {b : Bool} (h : EvP K te σ H R) (hr : ∀ d, R d → d = .bool b) : Ev te σ H (.bl b) := eb_of (h.imp hr)
theorem ei_sp {R : PyData → Prop} {b : Int} (h : EvP K te σ H R) (hr : ∀ d, R d → d = .int b) : Ev te σ H (.int b) := ei_of (h.imp hr)
/-- the items of a pair -/
theorem ev_fst {e : Ed} (h : EvD K ta σ H (dE e)) (hb : Ev tb σ H (.int 0)) : Ev (tOp (rIx K) ta tb) σ H (vN e.1) := ei_of (ep_ix h hb rfl)
theorem ev_snd {e : Ed} (h : EvD K ta σ H (dE e)) (hb : Ev tb σ H (.int 1)) : Ev (tOp (rIx K) ta tb) σ H (vN e.2) := ei_of (ep_ix h hb rfl)
/-- a web's -/
theorem ev_many {n : Nat} {es : List Ed} (h : EvD K ta σ H (dWeb n es)) (hb : Ev tb σ H (.int 0)) : Ev (tOp (rIx K) ta tb) σ H (vN n) := ei_of (ep_ix h hb rfl)
theorem ed_ties {n : Nat} {es : List Ed} (h : EvD K ta σ H (dWeb n es)) (hb : Ev tb σ H (.int 1)) : EvD K (tOp (rIx K) ta tb) σ H (dEs es) := ep_ix h hb rfl
def ltD (a b : PyData) : Prop := (∃ i j : Int, a = .int i ∧ b = .int j ∧ i < j) ∨ ∃ e f : Ed, a = dE e ∧ b = dE f ∧ ltE e f
theorem lex_ltE {e f : Ed} (h : ltE e f) : HT.lexLt [(e.1 : Int), (e.2 : Int)] [(f.1 : Int), (f.2 : Int)] = true := by
  rw [HT.lexLt_cons, HT.lexLt_cons]
  unfold ltE at h
  split
  · split
    · omega
    · simp; omega
  · simp; omega
theorem ev_ltD (ha : EvD K ta σ H d1) (hb : EvD K tb σ H d2) (h : ltD d1 d2) : Ev (tOp (fun x y H Q => rI0 (fun i j => .bl (decide (i < j))) x y H Q ∨ rLtT K x y H Q) ta tb) σ H (.bl true) := fun H1 e Q q =>
  ha H1 e _ fun v H2 d' e2 r p => hb H2 (e.trans e2) _ fun v2 H3 d2' e3 r2 p2 => by
    subst r r2
    rcases h with ⟨i, j, rfl, rfl, h⟩ | ⟨x, y, rfl, rfl, h⟩
    · rw [p.int_v, p2.int_v]
      exact .inl ⟨i, j, rfl, rfl, by show Q (.bl (decide (i < j))) H3; rw [decide_eq_true h]; exact q H3 (e2.trans e3)⟩
    · obtain ⟨a, rfl, ha⟩ := dE_v p
      obtain ⟨b, rfl, hb⟩ := dE_v p2
      exact .inr ⟨a, b, [(x.1 : Int), (x.2 : Int)], [(y.1 : Int), (y.2 : Int)], rfl, rfl, sqT_up e3 ha, hb, by rw [lex_ltE h]; exact q H3 (e2.trans e3)⟩
def RisesD (ds : List PyData) : Prop := ds.length ≤ 40000 ∧ ∀ k a b, ds[k]? = some a → ds[k + 1]? = some b → ltD a b
theorem risesE {es : List Ed} (hl : es.length ≤ 40000) (h : es.Pairwise ltE) : RisesD (es.map dE) := by
  refine ⟨by simpa using hl, fun k a b ha hb => .inr ?_⟩
  rw [List.getElem?_map] at ha hb
  obtain ⟨e, he, rfl⟩ := Option.map_eq_some_iff.mp ha
  obtain ⟨f, hf, rfl⟩ := Option.map_eq_some_iff.mp hb
  refine ⟨e, f, rfl, rfl, ?_⟩
  obtain ⟨h1, rfl⟩ := List.getElem?_eq_some_iff.mp he
  obtain ⟨h2, rfl⟩ := List.getElem?_eq_some_iff.mp hf
  exact List.pairwise_iff_getElem.mp h k (k + 1) h1 h2 (by omega)
theorem risesN {ns : List Nat} (hl : ns.length ≤ 40000) (h : ns.Pairwise (· < ·)) : RisesD (dNs ns) := by
  refine ⟨by simpa using hl, fun k a b ha hb => .inl ?_⟩
  rw [List.getElem?_map] at ha hb
  obtain ⟨e, he, rfl⟩ := Option.map_eq_some_iff.mp ha
  obtain ⟨f, hf, rfl⟩ := Option.map_eq_some_iff.mp hb
  refine ⟨(e : Int), (f : Int), rfl, rfl, ?_⟩
  obtain ⟨h1, rfl⟩ := List.getElem?_eq_some_iff.mp he
  obtain ⟨h2, rfl⟩ := List.getElem?_eq_some_iff.mp hf
  have := List.pairwise_iff_getElem.mp h k (k + 1) h1 h2 (by omega)
  omega
theorem atI_n {ds : List PyData} {k : Nat} {d : PyData} (h : ds[k]? = some d) : atI ds (k : Int) = some d := atI_nat h
end
abbrev sp_is_pair (K : PySem.W.Frag) : Sp := spD K (fun i : Nat × Ed => [dI i.1, dE i.2]) (fun i => i.2.1 < i.1 ∧ i.2.2 < i.1) (fun _ r => r = .bool true)
abbrev sp_rises (K : PySem.W.Frag) : Sp := spD K (fun ds : List PyData => [.tuple ds]) RisesD (fun _ r => r = .bool true)
abbrev sp_is_web (K : PySem.W.Frag) : Sp := spD K (fun i : Nat × List Ed => [dWeb i.1 i.2]) (fun i => Web i.1 i.2) (fun _ r => r = .bool true)
abbrev sp_need_web (K : PySem.W.Frag) : Sp := spD K (fun i : Nat × List Ed => [dWeb i.1 i.2]) (fun i => Web i.1 i.2) (fun _ r => r = .none)
def Places (n : Nat) (S : List Nat) : Prop := S.length ≤ 10000 ∧ S.Pairwise (· < ·) ∧ ∀ v ∈ S, v < n
abbrev sp_is_places (K : PySem.W.Frag) : Sp := spD K (fun i : (Nat × List Ed) × List Nat => [dWeb i.1.1 i.1.2, dT i.2]) (fun i => Places i.1.1 i.2) (fun _ r => r = .bool true)
abbrev sp_need_places (K : PySem.W.Frag) : Sp := spD K (fun i : (Nat × List Ed) × List Nat => [dWeb i.1.1 i.1.2, dT i.2]) (fun i => Places i.1.1 i.2) (fun _ r => r = .none)
section
variable {P : Program} {w : World} {K : PySem.W.Frag} {mg : Str → Option Value} {base : Heap}
theorem sc_is_pair : FnScope ["many", "thing"] ["many", "thing"] (defScope s_is_pair) := ⟨rfl, rfl, rfl, by decide +kernel, rfl, by decide +kernel, by decide +kernel⟩
theorem kp_is_pair (D : Df K mg "is_pair" s_is_pair ["many", "thing"]) (B : Bare mg) (h_is_number : Kp P w K mg base "is_number" 1 ["thing", "least", "below"] (sp_is_number K)) : Kp P w K mg base "is_pair" 2 ["many", "thing"] (sp_is_pair K) := by
  obtain ⟨f_is_number, fd_is_number, F_is_number, g_is_number, k_is_number, b_is_number⟩ := h_is_number
  refine D.kp sc_is_pair (spD_len (fun _ => rfl)) (fun f cdv A outer s H vs Q E hr h => ?_)
  refine ⟨_, (pss_cons (ps_if ((pw_or (pt_not (pt_val (pe_callB (r := rIsi K) call_isi (by rfl) B.isinstance (by decide +kernel) (pa_cons (pv 1) (pa_cons (pe_bltn (v := .ty "tuple") (by rfl) B.tuple (by decide +kernel) rfl) pa_nil))))) (pw_or1 (pt_cmpR op_ne (pe_callB (r := rLn K) cr_len (by rfl) B.len (by decide +kernel) (pa_cons (pv 1) pa_nil)) pe_int (by rfl))))).pt
  (pss_one (ps_ret pe_bl))
  pss_nil)
  (pss_one (ps_ret (pe_and (pe_call F_is_number (hr.mono (by decide)) (by rfl) g_is_number k_is_number b_is_number .nil pass0 (pa_cons (pe_ix (r := rIx K) ix_seq (pv 1) pe_int (fun _ _ => rfl)) (pa_cons pe_int (pa_cons (pv 0) pa_nil)))) (pe_one (pe_call F_is_number (hr.mono (by decide)) (by rfl) g_is_number k_is_number b_is_number .nil pass0 (pa_cons (pe_ix (r := rIx K) ix_seq (pv 1) pe_int (fun _ _ => rfl)) (pa_cons pe_int (pa_cons (pv 0) pa_nil))))))))), ?_⟩
  obtain ⟨i, hd, ⟨h1, h2⟩, q⟩ := h
  obtain ⟨n, x, y⟩ := i
  cases hd with | cons p1 hd => cases hd with | cons p2 hd =>
  cases hd
  have v0 := p1.int_v
  subst v0
  rename_i t
  have e1 : ∀ {i : Nat}, True := fun {i} => trivial
  have E1 : EvD K (tVar 1) (start ["many", "thing"] [vN n, t]) H (dE (x, y)) := ed_var rfl p2
  have E0 : Ev (tVar 0) (start ["many", "thing"] [vN n, t]) H (vN n) := ev_var rfl
  refine sd_ifno (et_eq (et_or (b := false) (et_not (et_B (ev_isTup E1))) fun _ => et_test (eb_eq (eb_neI (ev_lenT E1) ev_c) (by simp))) (by rfl)) fun H1 e => ?_
  refine sd_ret (K := K) (ed_bl (eb_eq (ev_andV (ev_isnum (ea3 (ev_fst (E1.mono e) ev_c) ev_c (E0.mono e))) fun _ => ev_isnum (ea3 (ev_snd (E1.mono e) ev_c) ev_c (E0.mono e))) (j := true) ?_)) fun v H2 r e2 hr hv => q v H2 r (e.trans e2) hr hv
  simp only at h1 h2
  simp
  omega
theorem sc_rises : FnScope ["row", "k"] ["row"] (defScope s_rises) := ⟨rfl, rfl, rfl, by decide +kernel, rfl, by decide +kernel, by decide +kernel⟩
theorem kp_rises (D : Df K mg "rises" s_rises ["row"]) (B : Bare mg) : Kp P w K mg base "rises" 1 ["row"] (sp_rises K) := by
  refine D.kp sc_rises (spD_len (fun _ => rfl)) (fun f cdv A outer s H vs Q E hr h => ?_)
  refine ⟨_, (pss_one (ps_ret (pe_callB (r := rAll K) (cr_all rfl) (by rfl) B.all (by decide +kernel) (pa_cons (pe_lc (own := [("k", 1)]) rfl sc_rises.nd (pi_range1 (by rfl) B.range (pa_cons (pe_op op_sub (pe_callB (r := rLn K) cr_len (by rfl) B.len (by decide +kernel) (pa_cons (pv 0) pa_nil)) pe_int) pa_nil)) (blkOk_by (N := ["row", "k"]) (sc := (defScope s_rises)) (by decide +kernel)) (fun _ _ _ _ _ => (pg_name (i := 1) sc_rises.nd (by rfl) (by first | exact Or.inl rfl | exact Or.inr rfl))) (fun _ _ _ _ _ => pts_nil) (fun _ _ _ _ _ => (pe_cmpR (r := fun x y H Q => rI0 (fun i j => .bl (decide (i < j))) x y H Q ∨ rLtT K x y H Q) (op_lt.or (op_ltT hr.units0)) (pe_ix (r := rIx K) ix_seq (pv 0) (pv 1) (fun _ _ => rfl)) (pe_ix (r := rIx K) ix_seq (pv 0) (pe_op op_add (pv 1) pe_int) (fun _ _ => rfl)) (by rfl)))) pa_nil)))), ?_⟩
  obtain ⟨ds, hd, ⟨hl, hp⟩, q⟩ := h
  cases hd with | cons p1 hd =>
  cases hd
  rename_i t
  have E0 : ∀ {H1 x}, Ex H H1 → EvD K (tVar 0) [some t, x] H1 (.tuple ds) := fun e => ed_var rfl (p1.up e)
  refine sd_ret (K := K) (R := fun r => r = .bool true) (ed_bl (ev_all1 (ed_lcR (n := ds.length - 1) (fun _ => true) (fun _ => PyData.bool true) good_name (ea_cons (ei_op0 (ev_lenT (E0 (ex_r _))) ev_c) ea_nil) (by omega) (by omega) (by omega) (fun _ => rfl) fun i H1 hi e => ⟨rfl, rfl, et_yes, fun _ => ed_bl ?_⟩))) fun v H2 r e2 hr hv => q v H2 r e2 hr hv
  have h1 : i < ds.length := by omega
  have h2 : i + 1 < ds.length := by omega
  refine ev_ltD (ep_ix (E0 e) (ev_var rfl) (atI_n (List.getElem?_eq_getElem h1))) (ep_ix (E0 e) (ei_eq (ei_op0 (ev_var rfl) ev_c) (j := ((i + 1 : Nat) : Int)) (by simp)) (atI_n (List.getElem?_eq_getElem h2))) ?_
  exact hp i _ _ (List.getElem?_eq_getElem h1) (List.getElem?_eq_getElem h2)
abbrev s_is_web : Stmt := top 12
theorem sc_is_web : FnScope ["thing", "many", "ties", "tie"] ["thing"] (defScope s_is_web) := ⟨rfl, rfl, rfl, by decide +kernel, rfl, by decide +kernel, by decide +kernel⟩
theorem kp_is_web (D : Df K mg "is_web" s_is_web ["thing"]) (B : Bare mg) (h_rises : Kp P w K mg base "rises" 1 ["row"] (sp_rises K)) (h_is_number : Kp P w K mg base "is_number" 1 ["thing", "least", "below"] (sp_is_number K)) (h_is_pair : Kp P w K mg base "is_pair" 2 ["many", "thing"] (sp_is_pair K)) {tMP : Tok} (m_MP : mg "MOST_PLACES" = some (.int 60 tMP)) : Kp P w K mg base "is_web" 3 ["thing"] (sp_is_web K) := by
  obtain ⟨f_rises, fd_rises, F_rises, g_rises, k_rises, b_rises⟩ := h_rises
  obtain ⟨f_is_number, fd_is_number, F_is_number, g_is_number, k_is_number, b_is_number⟩ := h_is_number
  obtain ⟨f_is_pair, fd_is_pair, F_is_pair, g_is_pair, k_is_pair, b_is_pair⟩ := h_is_pair
  refine D.kp sc_is_web (spD_len (fun _ => rfl)) (fun f cdv A outer s H vs Q E hr h => ?_)
  refine ⟨_, (pss_cons (ps_if ((pw_or (pt_not (pt_val (pe_callB (r := rIsi K) call_isi (by rfl) B.isinstance (by decide +kernel) (pa_cons (pv 0) (pa_cons (pe_bltn (v := .ty "tuple") (by rfl) B.tuple (by decide +kernel) rfl) pa_nil))))) (pw_or (pt_cmpR op_ne (pe_callB (r := rLn K) cr_len (by rfl) B.len (by decide +kernel) (pa_cons (pv 0) pa_nil)) pe_int (by rfl)) (pw_or1 (pt_not (pt_val (pe_call F_is_number (hr.mono (by decide)) (by rfl) g_is_number k_is_number b_is_number .nil pass0 (pa_cons (pe_ix (r := rIx K) ix_seq (pv 0) pe_int (fun _ _ => rfl)) (pa_cons pe_int (pa_cons (pe_op op_add (pe_glob (v := .int 60) (by rfl) m_MP ⟨_, rfl⟩) pe_int) pa_nil)))))))))).pt
  (pss_one (ps_ret pe_bl))
  pss_nil)
  (pss_cons (ps_asg (pv 0) (pg_tupK (K := K) (n := 2) rfl rfl (pgs_cons (pg_name (i := 1) sc_is_web.nd (by rfl) (by first | exact Or.inl rfl | exact Or.inr rfl)) (pgs_cons (pg_name (i := 2) sc_is_web.nd (by rfl) (by first | exact Or.inl rfl | exact Or.inr rfl)) pgs_nil))))
  (pss_cons (ps_if ((pw_or (pt_not (pt_val (pe_callB (r := rIsi K) call_isi (by rfl) B.isinstance (by decide +kernel) (pa_cons (pv 2) (pa_cons (pe_bltn (v := .ty "tuple") (by rfl) B.tuple (by decide +kernel) rfl) pa_nil))))) (pw_or1 (pt_not (pt_val (pe_callB (r := rAll K) (cr_all rfl) (by rfl) B.all (by decide +kernel) (pa_cons (pe_lc (own := [("tie", 3)]) rfl sc_is_web.nd (pi_tup (pv 2)) (blkOk_by (N := ["thing", "many", "ties", "tie"]) (sc := (defScope s_is_web)) (by decide +kernel)) (fun _ _ _ _ _ => (pg_name (i := 3) sc_is_web.nd (by rfl) (by first | exact Or.inl rfl | exact Or.inr rfl))) (fun _ _ _ _ _ => pts_nil) (fun _ _ _ _ _ => (pe_and (pe_call F_is_pair (hr.mono (by decide)) (by rfl) g_is_pair k_is_pair b_is_pair .nil pass0 (pa_cons (pv 1) (pa_cons (pv 3) pa_nil))) (pe_one (pe_cmpR op_lt (pe_ix (r := rIx K) ix_seq (pv 3) pe_int (fun _ _ => rfl)) (pe_ix (r := rIx K) ix_seq (pv 3) pe_int (fun _ _ => rfl)) (by rfl)))))) pa_nil))))))).pt
  (pss_one (ps_ret pe_bl))
  pss_nil)
  (pss_one (ps_ret (pe_call F_rises (hr.mono (by decide)) (by rfl) g_rises k_rises b_rises .nil pass0 (pa_cons (pv 2) pa_nil))))))), ?_⟩
  obtain ⟨⟨n, es⟩, hd, hw, q⟩ := h
  cases hd with | cons p1 hd =>
  cases hd
  rename_i t
  have E0 : ∀ {H1 x y z}, Ex H H1 → EvD K (tVar 0) [some t, x, y, z] H1 (dWeb n es) := fun e => ed_var rfl (p1.up e)
  have hle := hw.le
  refine sd_ifno (et_eq (et_or (et_not (et_B (ev_isTup (E0 (ex_r _))))) fun _ => et_or (et_test (eb_neI (ev_lenT (E0 (ex_r _))) ev_c)) fun _ => et_not (et_B (ev_isnum (ea3 (ev_many (E0 (ex_r _)) ev_c) ev_c (ei_op0 ev_c ev_c))))) (by simp; omega)) fun H1 e1 => ?_
  refine sd_asg2 (E0 e1) fun x y H2 e2 hx hy => ?_
  have hx := hx.int_v
  subst hx
  have E1 : ∀ {H3 z}, Ex H2 H3 → Ev (tVar 1) [some t, some (vN n), some y, z] H3 (vN n) := fun e => ev_var rfl
  have E2 : ∀ {H3 z}, Ex H2 H3 → EvD K (tVar 2) [some t, some (vN n), some y, z] H3 (dEs es) := fun e => ed_var rfl (hy.up e)
  have hlen : es.length ≤ n := hw.fo.le
  refine sd_ifno (et_eq (et_or (et_not (et_B (ev_isTup (E2 (ex_r _))))) fun _ => et_not (et_B (ev_all1 (l := es) (ed_lcT es dE (fun _ => true) (fun _ => PyData.bool true) good_name (E2 (ex_r _)) (by omega) (fun _ => rfl) fun e x H3 he e3 hx => ⟨rfl, rfl, et_yes, fun _ => ed_bl (eb_eq (ev_andV (eb_sp (ed_call (n, e) (eda_cons (ed_int (E1 e3)) (eda_cons (ed_var rfl hx) eda_nil)) ⟨(hw.fo.mem e he).1, (hw.fo.mem e he).2.1⟩) fun _ h => h) fun _ => eb_op0 (ev_fst (ed_var rfl hx) ev_c) (ev_snd (ed_var rfl hx) ev_c)) ?_)⟩)))) (by simp)) fun H3 e3 => ?_
  · have := (hw.fo.mem e he).2.2
    simp; omega
  dsimp only
  refine sd_ret (K := K) (ed_call (es.map dE) (eda_cons (E2 e3) eda_nil) (risesE (by omega) hw.up)) fun v H4 r e4 hr hv => q v H4 r ((e1.trans e2).trans (e3.trans e4)) hr hv
abbrev s_need_web : Stmt := top 13
theorem sc_need_web : FnScope ["thing"] ["thing"] (defScope s_need_web) := ⟨rfl, rfl, rfl, by decide +kernel, rfl, by decide +kernel, by decide +kernel⟩
theorem kp_need_web (D : Df K mg "need_web" s_need_web ["thing"]) (B : Bare mg) (h_is_web : Kp P w K mg base "is_web" 3 ["thing"] (sp_is_web K)) : Kp P w K mg base "need_web" 4 ["thing"] (sp_need_web K) := by
  obtain ⟨f_is_web, fd_is_web, F_is_web, g_is_web, k_is_web, b_is_web⟩ := h_is_web
  refine D.kp sc_need_web (spD_len (fun _ => rfl)) (fun f cdv A outer s H vs Q E hr h => ?_)
  refine ⟨_, (pss_one (ps_if (pt_not (pt_val (pe_call F_is_web (hr.mono (by decide)) (by rfl) g_is_web k_is_web b_is_web .nil pass0 (pa_cons (pv 0) pa_nil))))
  (pss_one ps_never)
  pss_nil)), ?_⟩
  obtain ⟨⟨n, es⟩, hd, hw, q⟩ := h
  cases hd with | cons p1 hd =>
  cases hd
  refine sd_ifno (et_eq (et_not (et_B (eb_sp (ed_call (n, es) (eda_cons (ed_var rfl p1) eda_nil) hw) fun _ h => h))) (by rfl)) fun H1 e1 => q .non H1 .none e1 rfl .non
abbrev s_is_places : Stmt := top 14
theorem sc_is_places : FnScope ["web", "thing", "one"] ["web", "thing"] (defScope s_is_places) := ⟨rfl, rfl, rfl, by decide +kernel, rfl, by decide +kernel, by decide +kernel⟩
theorem kp_is_places (D : Df K mg "is_places" s_is_places ["web", "thing"]) (B : Bare mg) (h_rises : Kp P w K mg base "rises" 1 ["row"] (sp_rises K)) (h_is_number : Kp P w K mg base "is_number" 1 ["thing", "least", "below"] (sp_is_number K)) : Kp P w K mg base "is_places" 2 ["web", "thing"] (sp_is_places K) := by
  obtain ⟨f_rises, fd_rises, F_rises, g_rises, k_rises, b_rises⟩ := h_rises
  obtain ⟨f_is_number, fd_is_number, F_is_number, g_is_number, k_is_number, b_is_number⟩ := h_is_number
  refine D.kp sc_is_places (spD_len (fun _ => rfl)) (fun f cdv A outer s H vs Q E hr h => ?_)
  refine ⟨_, (pss_cons (ps_if ((pw_or (pt_not (pt_val (pe_callB (r := rIsi K) call_isi (by rfl) B.isinstance (by decide +kernel) (pa_cons (pv 1) (pa_cons (pe_bltn (v := .ty "tuple") (by rfl) B.tuple (by decide +kernel) rfl) pa_nil))))) (pw_or1 (pt_not (pt_val (pe_callB (r := rAll K) (cr_all rfl) (by rfl) B.all (by decide +kernel) (pa_cons (pe_lc (own := [("one", 2)]) rfl sc_is_places.nd (pi_tup (pv 1)) (blkOk_by (N := ["web", "thing", "one"]) (sc := (defScope s_is_places)) (by decide +kernel)) (fun _ _ _ _ _ => (pg_name (i := 2) sc_is_places.nd (by rfl) (by first | exact Or.inl rfl | exact Or.inr rfl))) (fun _ _ _ _ _ => pts_nil) (fun _ _ _ _ _ => (pe_call F_is_number (hr.mono (by decide)) (by rfl) g_is_number k_is_number b_is_number .nil pass0 (pa_cons (pv 2) (pa_cons pe_int (pa_cons (pe_ix (r := rIx K) ix_seq (pv 0) pe_int (fun _ _ => rfl)) pa_nil)))))) pa_nil))))))).pt
  (pss_one (ps_ret pe_bl))
  pss_nil)
  (pss_one (ps_ret (pe_call F_rises (hr.mono (by decide)) (by rfl) g_rises k_rises b_rises .nil pass0 (pa_cons (pv 1) pa_nil))))), ?_⟩
  obtain ⟨⟨⟨n, es⟩, S⟩, hd, ⟨h1, h2, h3⟩, q⟩ := h
  dsimp only at h1 h2 h3
  cases hd with | cons p1 hd => cases hd with | cons p2 hd =>
  cases hd
  rename_i t u
  have E0 : ∀ {H1 x}, Ex H H1 → EvD K (tVar 0) [some t, some u, x] H1 (dWeb n es) := fun e => ed_var rfl (p1.up e)
  have E1 : ∀ {H1 x}, Ex H H1 → EvD K (tVar 1) [some t, some u, x] H1 (dT S) := fun e => ed_var rfl (p2.up e)
  refine sd_ifno (et_eq (et_or (et_not (et_B (ev_isTup (E1 (ex_r _))))) fun _ => et_not (et_B (ev_all1 (l := S) (ed_lcT S dI (fun _ => true) (fun _ => PyData.bool true) good_name (E1 (ex_r _)) (by omega) (fun _ => rfl) fun e x H3 he e3 hx => ⟨rfl, rfl, et_yes, fun _ => ed_bl (eb_eq (ev_isnum (ea3 (ei_of (ed_var rfl hx)) ev_c (ev_many (E0 e3) ev_c))) ?_)⟩)))) (by simp)) fun H3 e3 => ?_
  · have := h3 e he
    simp only [Bool.and_eq_true, decide_eq_true_eq]
    omega
  dsimp only
  refine sd_ret (K := K) (ed_call (dNs S) (eda_cons (E1 e3) eda_nil) (risesN (by omega) h2)) fun v H4 r e4 hr hv => q v H4 r (e3.trans e4) hr hv
abbrev s_need_places : Stmt := top 15
theorem sc_need_places : FnScope ["web", "thing"] ["web", "thing"] (defScope s_need_places) := ⟨rfl, rfl, rfl, by decide +kernel, rfl, by decide +kernel, by decide +kernel⟩
theorem kp_need_places (D : Df K mg "need_places" s_need_places ["web", "thing"]) (B : Bare mg) (h_is_places : Kp P w K mg base "is_places" 2 ["web", "thing"] (sp_is_places K)) : Kp P w K mg base "need_places" 3 ["web", "thing"] (sp_need_places K) := by
  obtain ⟨f_is_places, fd_is_places, F_is_places, g_is_places, k_is_places, b_is_places⟩ := h_is_places
  refine D.kp sc_need_places (spD_len (fun _ => rfl)) (fun f cdv A outer s H vs Q E hr h => ?_)
  refine ⟨_, (pss_one (ps_if (pt_not (pt_val (pe_call F_is_places (hr.mono (by decide)) (by rfl) g_is_places k_is_places b_is_places .nil pass0 (pa_cons (pv 0) (pa_cons (pv 1) pa_nil)))))
  (pss_one ps_never)
  pss_nil)), ?_⟩
  obtain ⟨⟨⟨n, es⟩, S⟩, hd, hp, q⟩ := h
  cases hd with | cons p1 hd => cases hd with | cons p2 hd =>
  cases hd
  refine sd_ifno (et_eq (et_not (et_B (eb_sp (ed_call ((n, es), S) (eda_cons (ed_var rfl p1) (eda_cons (ed_var rfl p2) eda_nil)) hp) fun _ h => h))) (by rfl)) fun H1 e1 => q .non H1 .none e1 rfl .non
abbrev sp_near (K : PySem.W.Frag) : Sp := spD K (fun i : Nat × List Ed => [dWeb i.1 i.2]) (fun i => i.1 ≤ 1000 ∧ G37.Fo i.1 i.2) (fun i r => r = dBes ((List.range i.1).map (nb i.1 i.2)))
theorem push_adj (f : Nat → List Nat) (e : Ed) (ne : e.1 ≠ e.2) (es : List Ed) (h : f = G37.adjL es) : G37.push (G37.push f e.1 e.2) e.2 e.1 = G37.adjL (es ++ [e]) := by
  subst h
  funext v
  rw [G37.adjL_append]
  simp only [G37.push, G37.adjL, List.append_nil]
  by_cases c1 : v = e.2
  · subst c1
    have : ¬ e.1 = e.2 := ne
    simp [this, Ne.symm ne]
  · by_cases c2 : v = e.1
    · subst c2
      simp [c1]
    · simp [c1, c2, Ne.symm c1, Ne.symm c2]
theorem push_len {f : Nat → List Nat} {i x m : Nat} (h : ∀ j, (f j).length ≤ m) : ∀ j, (G37.push f i x j).length ≤ m + 1 := fun j => by
  have := h j
  simp only [G37.push]
  split
  · simp; omega
  · omega
theorem adj_len (es : List Ed) (v : Nat) : (G37.adjL es v).length ≤ es.length := by
  induction es with
  | nil => simp [G37.adjL]
  | cons e es ih =>
    simp only [G37.adjL, List.length_append, List.length_cons]
    split
    · simp; omega
    · split
      · simp; omega
      · simp; omega
theorem near_sort {n : Nat} {es : List Ed} (f : G37.Fo n es) (v : Nat) : sortN (G37.adjL es v) = nb n es v :=
  G37.near_eq (fun e he => ⟨(f.mem e he).2.2, (f.mem e he).2.1⟩) f.edup (sortN_perm _) (sortN_le _)
abbrev s_near : Stmt := top 16
theorem sc_near : FnScope ["web", "found", "one", "other", "place", "some"] ["web"] (defScope s_near) := ⟨rfl, rfl, rfl, by decide +kernel, rfl, by decide +kernel, by decide +kernel⟩
theorem kp_near (D : Df K mg "near" s_near ["web"]) (B : Bare mg) : Kp P w K mg base "near" 1 ["web"] (sp_near K) := by
  refine D.kp sc_near (spD_len (fun _ => rfl)) (fun f cdv A outer s H vs Q E hr h => ?_)
  refine ⟨_, (pss_cons (ps_setLc (i := 1) rfl sc_near.nd (by rfl) (by rfl) (by rfl) (pi_range1 (by rfl) B.range (pa_cons (pe_ix (r := rIx K) ix_seq (pv 0) pe_int (fun _ _ => rfl)) pa_nil)) (own := [("place", 4)]) (blkOk_by (N := ["web", "found", "one", "other", "place", "some"]) (sc := (defScope s_near)) (by decide +kernel)) (fun _ _ _ _ _ => (pg_name (i := 4) sc_near.nd (by rfl) (by first | exact Or.inl rfl | exact Or.inr rfl))) (fun _ _ _ _ _ => pts_nil) (fun _ _ _ _ _ => (pe_lst pa_nil)))
  (pss_cons (ps_for PassesOwn.never rfl (pi_tup (pe_ix (r := rIx K) ix_seq (pv 0) pe_int (fun _ _ => rfl))) (pg_tupK (K := K) (n := 2) rfl rfl (pgs_cons (pg_name (i := 2) sc_near.nd (by rfl) (by first | exact Or.inl rfl | exact Or.inr rfl)) (pgs_cons (pg_name (i := 3) sc_near.nd (by rfl) (by first | exact Or.inl rfl | exact Or.inr rfl)) pgs_nil)))
  (pss_cons (ps_expr (pe_bm PySem.F.plainAttrs_list PySem.F.slot_list_append PySem.F.type_list_append mt_append (pe_ix (r := rIx K) ix_seq (pv 1) (pv 2) (fun _ _ => rfl)) (pa_cons (pv 3) pa_nil)))
  (pss_one (ps_expr (pe_bm PySem.F.plainAttrs_list PySem.F.slot_list_append PySem.F.type_list_append mt_append (pe_ix (r := rIx K) ix_seq (pv 1) (pv 3) (fun _ _ => rfl)) (pa_cons (pv 2) pa_nil))))))
  (pss_one (ps_ret (pe_lc (own := [("some", 5)]) rfl sc_near.nd (pi_list (pv 1)) (blkOk_by (N := ["web", "found", "one", "other", "place", "some"]) (sc := (defScope s_near)) (by decide +kernel)) (fun _ _ _ _ _ => (pg_name (i := 5) sc_near.nd (by rfl) (by first | exact Or.inl rfl | exact Or.inr rfl))) (fun _ _ _ _ _ => pts_nil) (fun _ _ _ _ _ => (pe_callB (r := rSortN K) cr_sortN (by rfl) B.sorted (by decide +kernel) (pa_cons (pv 5) pa_nil)))))))), ?_⟩
  obtain ⟨⟨n, es⟩, hd, ⟨hn, hf⟩, q⟩ := h
  dsimp only at hn hf
  cases hd with | cons p1 hd =>
  cases hd
  rename_i t
  have hlen : es.length ≤ n := hf.le
  have E0 : ∀ {H1 a b c d e}, Ex H H1 → EvD K (tVar 0) [some t, a, b, c, d, e] H1 (dWeb n es) := fun e => ed_var rfl (p1.up e)
  refine sd_asgQ ?_
  refine lc_tab (n := n) (ea_cons (ev_many (E0 (ex_r _)) ev_c) ea_nil) (by omega) (fun _ => rfl) fun p ps H1 e1 T hps => ?_
  dsimp only
  refine sd_forT es dE noL_E (ed_ties (E0 e1) ev_c) (fun H2 i σ' H' => ∃ a b, σ' = [some t, some (.ref p), a, b, none, none] ∧ Tx K H2 H' ∧ Tab H H' p ps (G37.adjL (es.take i))) (fun H2 e2 => ⟨none, none, rfl, Tx.refl _, (T.up e2)⟩) (fun H2 i σ' H' _ pv => by obtain ⟨a, b, _, h, _⟩ := pv; exact h) (fun H2 i e x σ' H' e2 hi pv hx => ?_) (fun H2 σ' H' e2 pv => ?_)
  · obtain ⟨a, b, rfl, tx, T2⟩ := pv
    have he := hf.mem e (List.mem_of_getElem? hi)
    refine g2E hx ?_
    have hs : es.take (i + 1) = es.take i ++ [e] := by
      obtain ⟨h1, h2⟩ := List.getElem?_eq_some_iff.mp hi
      rw [List.take_succ, hi]; rfl
    have hl : ∀ j, (G37.adjL (es.take i) j).length ≤ 1000 := fun j => by
      have := adj_len (es.take i) j
      rw [List.length_take] at this
      omega
    refine sd_tabapp T2 (ev_var rfl) (ev_var rfl) (ev_var rfl) (by omega) (fun j => by have := hl j; omega) fun H3 tx3 T3 => ?_
    dsimp only
    refine sd_tabapp T3 (ev_var rfl) (ev_var rfl) (ev_var rfl) (by omega) (fun j => by have := push_len hl (i := e.1) (x := e.2) j; omega) fun H4 tx4 T4 => ?_
    dsimp only
    refine ⟨_, _, rfl, (tx.trans tx3).trans tx4, ?_⟩
    rw [push_adj _ e (by omega) _ rfl, ← hs] at T4
    exact T4
  · obtain ⟨a, b, rfl, tx, T2⟩ := pv
    rw [List.take_length] at T2
    dsimp only
    refine sd_ret (K := K) (ed_lcSort T2 (ev_var rfl) (by omega) (fun _ => rfl) (fun _ => rfl)) fun v H4 r e4 hr hv => q v H4 r (T2.ex.trans e4) ?_ hv
    rw [hr, hps]
    congr 2
    funext v
    exact near_sort hf v
abbrev dBesN (n : Nat) (es : List Ed) : PyData := dBes ((List.range n).map (nb n es))
abbrev dParts (bs : List (List Nat)) : PyData := .list (bs.map dT)
abbrev sp_come_to (K : PySem.W.Frag) : Sp := spD K (fun i : (Nat × List Ed) × Nat => [dBesN i.1.1 i.1.2, dI i.2]) (fun i => i.1.1 ≤ 1000 ∧ G37.Fo i.1.1 i.1.2 ∧ i.2 < i.1.1) (fun i r => r = dL (G37.comp i.1.1 i.1.2 i.2))
abbrev sp_parts_by (K : PySem.W.Frag) : Sp := spD K (fun i : Nat × List Ed => [dBesN i.1 i.2]) (fun i => i.1 ≤ 100 ∧ G37.Fo i.1 i.2) (fun i r => r = dParts ((G37.roots i.1 i.2).map (G37.comp i.1 i.2)))
abbrev sp_parts (K : PySem.W.Frag) : Sp := spD K (fun i : Nat × List Ed => [dWeb i.1 i.2]) (fun i => Web i.1 i.2) (fun i r => r = dParts ((G37.roots i.1 i.2).map (G37.comp i.1 i.2)))
theorem besN_at {n : Nat} {es : List Ed} {x : Nat} (h : x < n) : atI (((List.range n).map (nb n es)).map dL) (x : Int) = some (dL (nb n es x)) := atI_n (by simp [h])
theorem nb_len (n : Nat) (es : List Ed) (x : Nat) : (nb n es x).length ≤ n := Nat.le_trans (List.length_filter_le _ _) (by simp)
abbrev s_come_to : Stmt := top 17
theorem sc_come_to : FnScope ["beside", "place", "found", "at", "other"] ["beside", "place"] (defScope s_come_to) := ⟨rfl, rfl, rfl, by decide +kernel, rfl, by decide +kernel, by decide +kernel⟩
theorem kp_come_to (D : Df K mg "come_to" s_come_to ["beside", "place"]) (B : Bare mg) : Kp P w K mg base "come_to" 1 ["beside", "place"] (sp_come_to K) := by
  refine D.kp sc_come_to (spD_len (fun _ => rfl)) (fun f cdv A outer s H vs Q E hr h => ?_)
  refine ⟨_, (pss_cons (ps_set (i := 2) sc_come_to.nd (by rfl) (by first | exact Or.inl rfl | exact Or.inr rfl) (pe_lst (pa_cons (pv 1) pa_nil)))
  (pss_cons (ps_set (i := 3) sc_come_to.nd (by rfl) (by first | exact Or.inl rfl | exact Or.inr rfl) pe_int)
  (pss_cons (ps_while PassesOwn.never (pt_cmpR op_lt (pv 3) (pe_callB (r := rLn K) cr_len (by rfl) B.len (by decide +kernel) (pa_cons (pv 2) pa_nil)) (by rfl))
  (pss_cons (ps_expr (pe_bm (r := rExtL K) PySem.F.plainAttrs_list PySem.F.slot_list_extend PySem.F.type_list_extend mt_extL (pv 2) (pa_cons (pe_lc (own := [("other", 4)]) rfl sc_come_to.nd (pi_list (pe_ix (r := rIx K) ix_seq (pv 0) (pe_ix (r := rIx K) ix_seq (pv 2) (pv 3) (fun _ _ => rfl)) (fun _ _ => rfl))) (blkOk_by (N := ["beside", "place", "found", "at", "other"]) (sc := (defScope s_come_to)) (by decide +kernel)) (fun _ _ _ _ _ => (pg_name (i := 4) sc_come_to.nd (by rfl) (by first | exact Or.inl rfl | exact Or.inr rfl))) (fun _ _ _ _ _ => pts_one (pt_cmpR (r := rIn K true) op_notIn_seq (pv 4) (pv 2) (by rfl))) (fun _ _ _ _ _ => (pv 4))) pa_nil)))
  (pss_one (ps_set (i := 3) sc_come_to.nd (by rfl) (by first | exact Or.inl rfl | exact Or.inr rfl) (pe_op op_add (pv 3) pe_int)))))
  (pss_one (ps_ret (pe_callB (r := rSortN K) cr_sortN (by rfl) B.sorted (by decide +kernel) (pa_cons (pv 2) pa_nil))))))), ?_⟩
  obtain ⟨⟨⟨n, es⟩, u⟩, hd, ⟨hn, hf, hu⟩, q⟩ := h
  dsimp only at hn hf hu
  cases hd with | cons p1 hd => cases hd with | cons p2 hd =>
  cases hd
  have v0 := p2.int_v
  subst v0
  rename_i t
  have E0 : ∀ {H1 a b c d}, Ex H H1 → EvD K (tVar 0) [some t, a, b, c, d] H1 (dBesN n es) := fun e => ed_var rfl (p1.up e)
  refine sd_new1 (Evl.ev_var rfl) fun p H1 e1 hp => ?_
  dsimp only
  refine sd_asgV ev_c fun H2 e2 => ?_
  dsimp only
  refine sd_while (fun m (σ' : L2.St) H' => ∃ (fs : List Nat) (a : Nat), m = n - a ∧ σ' = [some t, some (vN u), some (.ref p), some (vN a), none] ∧ Ex H H' ∧ H' p = some (.lst (fs.map vN)) ∧ G37.BF n es u fs a) ⟨_, [u], 0, rfl, rfl, (ex_mut e1 (ex_free e1 hp)).trans e2, e2 p _ upd_same, G37.BF.start hu⟩ (fun m σ' H' pv => ?_)
  obtain ⟨fs, a, rfl, rfl, e3, hpf, bf⟩ := pv
  have hlf := bf.len
  have E2 : ∀ {H4 x}, Ex H' H4 → EvD K (tVar 2) [some t, some (vN u), some (.ref p), some (vN a), x] H4 (dL fs) := fun e => ed_var rfl (v_dL (sq_of (e p _ hpf)))
  refine ⟨_, et_test (eb_op0 (ev_var rfl) (ev_lenL (E2 (ex_r _)))), fun c H3 e4 => ?_, fun c H3 e4 => ?_⟩
  · have ha : a < fs.length := by
      simp at c; exact c
    have hx : fs[a]? = some fs[a] := List.getElem?_eq_getElem ha
    have hxn := bf.lt _ (List.mem_of_getElem? hx)
    have bs := bf.step (fun e he => ⟨(hf.mem e he).2.1, (hf.mem e he).2.2⟩) hx
    have hbl := bs.len
    refine sd_extL (ds := dNs ((nb n es fs[a]).filter fun u => !fs.contains u)) (xs := fs.map vN) (ev_var rfl) (e4 p _ hpf) (ed_lcL (nb n es fs[a]) dI (fun u => !fs.contains u) dI good_name (ep_ixL (E0 (e3.trans e4)) (ei_of (ep_ixL (E2 e4) (ev_var rfl) (atI_n (by rw [List.getElem?_map, hx]; rfl)))) (besN_at hxn)) (by have := nb_len n es fs[a]; omega) (fun _ => rfl) fun w x H5 hw e5 hx5 => ⟨rfl, rfl, et_eq (et_test (eb_inL (neg := true) (ei_of (ed_var rfl hx5)) (E2 (e4.trans e5)))) (by simp [List.contains_eq_mem]), fun _ => ed_var rfl hx5⟩) (by
        have h1 : ((nb n es fs[a]).filter fun u => !fs.contains u).length ≤ n := Nat.le_trans (List.length_filter_le _ _) (nb_len n es _)
        simp only [List.length_map]; omega) fun vs' H5 e5 hd5 hp5 => ?_
    dsimp only
    have hvs := all_ints hd5
    refine sd_asgV (ei_op0 (i := (a : Int)) (j := 1) (ev_var rfl) ev_c) fun H6 e6 => ?_
    dsimp only
    refine ⟨n - (a + 1), by omega, _, a + 1, rfl, rfl, ((ex_mut ((e3.trans e4).trans e5) (ex_free e1 hp)).trans e6), ?_, bs⟩
    rw [e6 p _ upd_same, hvs, List.map_append]
  · have ha : a = fs.length := by
      have := bf.le
      simp at c; omega
    subst ha
    refine sd_ret (K := K) (ed_sortN (E2 e4)) fun v H4 r e5 hr hv => q v H4 r ((e3.trans e4).trans e5) ?_ hv
    rw [hr, bf.done (sortN_perm _) (sortN_le _)]
theorem comp_len (n : Nat) (es : List Ed) (v : Nat) : (G37.comp n es v).length ≤ n := by
  exact Nat.le_trans (List.length_filter_le _ _) (by simp)
theorem flat_len {α : Type} {l : List α} {f : α → List Nat} {m : Nat} (h : ∀ a, (f a).length ≤ m) : (l.flatMap f).length ≤ l.length * m := by
  induction l with
  | nil => simp
  | cons a l ih =>
    rw [List.flatMap_cons, List.length_append, List.length_cons, Nat.succ_mul]
    have := h a
    omega
abbrev s_parts_by : Stmt := top 18
theorem sc_parts_by : FnScope ["beside", "found", "seen", "place"] ["beside"] (defScope s_parts_by) := ⟨rfl, rfl, rfl, by decide +kernel, rfl, by decide +kernel, by decide +kernel⟩
theorem kp_parts_by (D : Df K mg "parts_by" s_parts_by ["beside"]) (B : Bare mg) (h_come_to : Kp P w K mg base "come_to" 1 ["beside", "place"] (sp_come_to K)) : Kp P w K mg base "parts_by" 2 ["beside"] (sp_parts_by K) := by
  obtain ⟨f_come_to, fd_come_to, F_come_to, g_come_to, k_come_to, b_come_to⟩ := h_come_to
  refine D.kp sc_parts_by (spD_len (fun _ => rfl)) (fun f cdv A outer s H vs Q E hr h => ?_)
  refine ⟨_, (pss_cons (ps_set (i := 1) sc_parts_by.nd (by rfl) (by first | exact Or.inl rfl | exact Or.inr rfl) (pe_lst pa_nil))
  (pss_cons (ps_set (i := 2) sc_parts_by.nd (by rfl) (by first | exact Or.inl rfl | exact Or.inr rfl) (pe_lst pa_nil))
  (pss_cons (ps_for PassesOwn.never rfl (pi_range1 (by rfl) B.range (pa_cons (pe_callB (r := rLn K) cr_len (by rfl) B.len (by decide +kernel) (pa_cons (pv 0) pa_nil)) pa_nil)) (pg_name (i := 3) sc_parts_by.nd (by rfl) (by first | exact Or.inl rfl | exact Or.inr rfl))
  (pss_one (ps_if (pt_cmpR (r := rIn K true) op_notIn_seq (pv 3) (pv 2) (by rfl))
  (pss_cons (ps_expr (pe_bm PySem.F.plainAttrs_list PySem.F.slot_list_append PySem.F.type_list_append mt_append (pv 1) (pa_cons (pe_callTy (r := rTupOf K) cr_tupOf (by rfl) B.tuple (by decide +kernel) (pa_cons (pe_call F_come_to (hr.mono (by decide)) (by rfl) g_come_to k_come_to b_come_to .nil pass0 (pa_cons (pv 0) (pa_cons (pv 3) pa_nil))) pa_nil)) pa_nil)))
  (pss_one (ps_expr (pe_bm (r := rExtT K) PySem.F.plainAttrs_list PySem.F.slot_list_extend PySem.F.type_list_extend mt_extT (pv 2) (pa_cons (pe_ix (r := rIx K) ix_seq (pv 1) (pe_un un_neg pe_int) (fun _ _ => rfl)) pa_nil)))))
  pss_nil)))
  (pss_one (ps_ret (pv 1)))))), ?_⟩
  obtain ⟨⟨n, es⟩, hd, ⟨hn, hf⟩, q⟩ := h
  dsimp only at hn hf
  cases hd with | cons p1 hd =>
  cases hd
  rename_i t
  have E0 : ∀ {H1 a b c}, Ex H H1 → EvD K (tVar 0) [some t, a, b, c] H1 (dBesN n es) := fun e => ed_var rfl (p1.up e)
  refine sd_new0 fun p hp => ?_
  dsimp only
  refine sd_new0 fun s' hs => ?_
  dsimp only
  have hsp : s' ≠ p := fun z => by rw [z, upd_same] at hs; cases hs
  have hsH : H s' = none := by rw [upd_ne hsp] at hs; exact hs
  refine Evl.s_forR1 (n := (n : Int)) (ea_cons (ei_eq (ev_lenL (E0 ((ex_new hp).trans (ex_new hs)))) (by simp)) ea_nil) ⟨by omega, by omega⟩ (fun i (σ' : L2.St) H' => ∃ x xs, σ' = [some t, some (.ref p), some (.ref s'), x] ∧ Ex H H' ∧ H' p = some (.lst xs) ∧ DpAll K H' xs (((G37.rootsTo n es i).map (G37.comp n es)).map dT) ∧ H' s' = some (.lst (((G37.rootsTo n es i).flatMap (G37.comp n es)).map vN)))
    (fun H1 e => ⟨none, [], rfl, ((ex_new hp).trans (ex_new hs)).trans e, e p _ (by rw [upd_ne (Ne.symm hsp), upd_same]), by rw [G37.rootsTo_zero]; exact .nil, by rw [G37.rootsTo_zero]; exact e s' _ upd_same⟩) (fun i σ' H' hi pv => ?_) fun σ' H' pv => ?_
  · obtain ⟨x, xs, rfl, e1, hpx, hda, hsx⟩ := pv
    have hi : i < n := by omega
    have hrl : (G37.rootsTo n es i).length ≤ n := Nat.le_trans (List.length_filter_le _ _) (Nat.le_trans (List.length_filter_le _ _) (by simp))
    have hfl := flat_len (l := G37.rootsTo n es i) (comp_len n es)
    have hm : (G37.rootsTo n es i).length * n ≤ 100 * 100 := Nat.mul_le_mul (by omega) hn
    have hlx := hda.len
    simp only [List.length_map] at hlx
    have T := eb_inL (K := K) (H := H') (neg := true) (n := i) (ns := (G37.rootsTo n es i).flatMap (G37.comp n es)) (ta := tVar 3) (tb := tVar 2) (σ := [some t, some (.ref p), some (.ref s'), some (.int (i : Int))]) (ev_var rfl) (ed_var rfl (v_dL (sq_of hsx)))
    by_cases c : i ∈ G37.roots n es
    · have c2 : i ∉ (G37.rootsTo n es i).flatMap (G37.comp n es) := (G37.not_seen hi).mpr c
      refine sd_ifyes (et_eq (et_test T) (by rw [if_pos rfl]; simpa using c2)) fun H3 e3 => ?_
      refine sd_app (R := fun r => r = dT (G37.comp n es i)) (ev_var rfl) (e3 p _ hpx) (ep_tupOf (ed_call ((n, es), i) (eda_cons (E0 (e1.trans e3)) (eda_cons (ed_int (ev_var rfl)) eda_nil)) ⟨by dsimp only; omega, hf, hi⟩) fun d h => ⟨_, h, rfl⟩) (by omega) fun v H4 r e4 hr hv hp4 => ?_
      subst hr
      dsimp only
      have tx : Tx K H4 (upd H4 p (.lst (xs ++ [v]))) := tx_upd hp4
      refine sd_extT (xs := ((G37.rootsTo n es i).flatMap (G37.comp n es)).map vN) (ds := dNs (G37.comp n es i)) (ev_var rfl) (by rw [upd_ne hsp]; exact e4 s' _ (e3 s' _ hsx)) (ed_ev (ev_ixV (ev_var rfl) (sq_of upd_same) (ev_neg ev_c) (atI_last _ _)) (dp_tx tx (noL_T _) hv)) (by have := comp_len n es i; simp only [List.length_map]; omega) fun vs' H6 e6 hd6 hs6 => ?_
      have hvs := all_ints hd6
      dsimp only
      have ep := (e1.trans e3).trans e4
      refine ⟨_, xs ++ [v], rfl, ex_mut ((ex_mut ep hp).trans e6) hsH, by rw [upd_ne (Ne.symm hsp)]; exact e6 p _ upd_same, ?_, ?_⟩
      · rw [G37.rootsTo_succ hi, if_pos c, List.map_append, List.map_append]
        refine DpAll.app ?_ (.one ?_)
        · exact dps_tx (((tx_ex (e3.trans e4)).trans tx).trans ((tx_ex e6).trans (tx_upd hs6))) (by rw [noLs_map noL_T]) hda
        · exact dp_tx (tx.trans ((tx_ex e6).trans (tx_upd hs6))) (noL_T _) hv
      · rw [upd_same, hvs, G37.rootsTo_succ hi, if_pos c, List.flatMap_append, List.map_append]
        simp
    · have c2 : ¬ i ∉ (G37.rootsTo n es i).flatMap (G37.comp n es) := fun z => c ((G37.not_seen hi).mp z)
      refine sd_ifno (et_eq (et_test T) (by rw [if_pos rfl]; simpa using c2)) fun H3 e3 => ?_
      dsimp only
      refine ⟨_, xs, rfl, e1.trans e3, e3 p _ hpx, ?_, ?_⟩
      · rw [G37.rootsTo_succ hi, if_neg c, List.append_nil]; exact hda.up e3
      · rw [G37.rootsTo_succ hi, if_neg c, List.append_nil]; exact e3 s' _ hsx
  · obtain ⟨x, xs, rfl, e1, hpx, hda, hsx⟩ := pv
    rw [show (n : Int).toNat = n from by omega, G37.rootsTo_all] at hda
    refine sd_ret (K := K) (ed_var rfl (.lst (sq_of hpx) hda)) fun v H4 r e4 hr hv => q v H4 r (e1.trans e4) hr hv
abbrev s_parts : Stmt := top 19
theorem sc_parts : FnScope ["web"] ["web"] (defScope s_parts) := ⟨rfl, rfl, rfl, by decide +kernel, rfl, by decide +kernel, by decide +kernel⟩
theorem kp_parts (D : Df K mg "parts" s_parts ["web"]) (B : Bare mg) (h_need_web : Kp P w K mg base "need_web" 4 ["thing"] (sp_need_web K)) (h_parts_by : Kp P w K mg base "parts_by" 2 ["beside"] (sp_parts_by K)) (h_near : Kp P w K mg base "near" 1 ["web"] (sp_near K)) : Kp P w K mg base "parts" 5 ["web"] (sp_parts K) := by
  obtain ⟨f_need_web, fd_need_web, F_need_web, g_need_web, k_need_web, b_need_web⟩ := h_need_web
  obtain ⟨f_parts_by, fd_parts_by, F_parts_by, g_parts_by, k_parts_by, b_parts_by⟩ := h_parts_by
  obtain ⟨f_near, fd_near, F_near, g_near, k_near, b_near⟩ := h_near
  refine D.kp sc_parts (spD_len (fun _ => rfl)) (fun f cdv A outer s H vs Q E hr h => ?_)
  refine ⟨_, (pss_cons (ps_expr (pe_call F_need_web (hr.mono (by decide)) (by rfl) g_need_web k_need_web b_need_web .nil pass0 (pa_cons (pv 0) pa_nil)))
  (pss_one (ps_ret (pe_call F_parts_by (hr.mono (by decide)) (by rfl) g_parts_by k_parts_by b_parts_by .nil pass0 (pa_cons (pe_call F_near (hr.mono (by decide)) (by rfl) g_near k_near b_near .nil pass0 (pa_cons (pv 0) pa_nil)) pa_nil))))), ?_⟩
  obtain ⟨⟨n, es⟩, hd, hw, q⟩ := h
  cases hd with | cons p1 hd =>
  cases hd
  refine sd_drop (ed_call (n, es) (eda_cons (ed_var rfl p1) eda_nil) hw) fun H1 e1 => ?_
  dsimp only
  have hn : n ≤ 60 := hw.le
  have hf : G37.Fo n es := hw.fo
  refine sd_ret (K := K) (ed_call (n, es) (eda_cons (ed_call (n, es) (eda_cons (ed_var rfl (p1.up e1)) eda_nil) ⟨by dsimp only; omega, hf⟩) eda_nil) ⟨by dsimp only; omega, hf⟩) fun v H4 r e4 hr hv => q v H4 r (e1.trans e4) hr hv
abbrev sp_left_over (K : PySem.W.Frag) : Sp := spD K (fun i : (Nat × List Ed) × List Nat => [dWeb i.1.1 i.1.2, dT i.2]) (fun i => i.1.1 ≤ 1000 ∧ G37.Fo i.1.1 i.1.2) (fun i r => r = dWeb (G37.keptL i.1.1 i.2).length (G37.leftE i.1.1 i.2 i.1.2))
abbrev sp_without (K : PySem.W.Frag) : Sp := spD K (fun i : (Nat × List Ed) × List Nat => [dWeb i.1.1 i.1.2, dT i.2]) (fun i => Web i.1.1 i.1.2 ∧ Places i.1.1 i.2) (fun i r => r = dWeb (G37.keptL i.1.1 i.2).length (G37.leftE i.1.1 i.2 i.1.2))
theorem fm_zip {α β : Type} (f : Nat → α → β) : ∀ (l : List α) (k : Nat), (List.range l.length).filterMap (fun i => (l[i]?).map fun a => f (i + k) a) = (l.zipIdx k).map fun p => f p.2 p.1
  | [], _ => rfl
  | a :: l, k => by
    rw [List.length_cons, List.range_succ_eq_map, List.filterMap_cons]
    simp only [List.getElem?_cons_zero, Option.map_some, List.filterMap_map, List.zipIdx_cons, List.map_cons, Nat.zero_add]
    rw [← fm_zip f l (k + 1)]
    congr 2
    funext i
    simp [Nat.add_assoc, Nat.add_comm 1 k]
theorem find_zip {j : Nat} : ∀ (l : List Nat) (k : Nat), ((l.zipIdx k).find? fun kv => decide (kv.1 = j)) = if j ∈ l then some (j, l.idxOf j + k) else none
  | [], _ => by simp
  | a :: l, k => by
    rw [List.zipIdx_cons, List.find?_cons, find_zip l (k + 1)]
    by_cases c : a = j
    · simp [c, List.idxOf_cons]
    · have : ¬ j = a := fun z => c z.symm
      simp only [c, decide_false, List.mem_cons, this, false_or]
      split
      · have cb : (a == j) = false := by simpa using c
        simp [List.idxOf_cons, cb]; omega
      · rfl
theorem zip_keys : ∀ (l : List Nat) (k : Nat), (l.zipIdx k).map (·.1) = l
  | [], _ => rfl
  | a :: l, k => by rw [List.zipIdx_cons, List.map_cons, zip_keys l (k + 1)]
abbrev s_left_over : Stmt := top 20
theorem sc_left_over : FnScope ["web", "places", "kept", "number", "ties", "place", "one", "other", "k"] ["web", "places"] (defScope s_left_over) := ⟨rfl, rfl, rfl, by decide +kernel, rfl, by decide +kernel, by decide +kernel⟩
theorem kp_left_over (D : Df K mg "left_over" s_left_over ["web", "places"]) (B : Bare mg) : Kp P w K mg base "left_over" 1 ["web", "places"] (sp_left_over K) := by
  refine D.kp sc_left_over (spD_len (fun _ => rfl)) (fun f cdv A outer s H vs Q E hr h => ?_)
  refine ⟨_, (pss_cons (ps_setLc (i := 2) rfl sc_left_over.nd (by rfl) (by rfl) (by rfl) (pi_range1 (by rfl) B.range (pa_cons (pe_ix (r := rIx K) ix_seq (pv 0) pe_int (fun _ _ => rfl)) pa_nil)) (own := [("place", 5)]) (blkOk_by (N := ["web", "places", "kept", "number", "ties", "place", "one", "other", "k"]) (sc := (defScope s_left_over)) (by decide +kernel)) (fun _ _ _ _ _ => (pg_name (i := 5) sc_left_over.nd (by rfl) (by first | exact Or.inl rfl | exact Or.inr rfl))) (fun _ _ _ _ _ => pts_one (pt_cmpR (r := rIn K true) op_notIn_seq (pv 5) (pv 1) (by rfl))) (fun _ _ _ _ _ => (pv 5)))
  (pss_cons (ps_set (i := 3) sc_left_over.nd (by rfl) (by first | exact Or.inl rfl | exact Or.inr rfl) (pe_callTy (r := rDictP K) (cr_dictP rfl) (by rfl) B.dict (by decide +kernel) (pa_cons (pe_lc (own := [("k", 8), ("place", 5)]) rfl sc_left_over.nd (pi_enum (by rfl) B.enumerate (pa_cons (pv 2) pa_nil)) (blkOk_by (N := ["web", "places", "kept", "number", "ties", "place", "one", "other", "k"]) (sc := (defScope s_left_over)) (by decide +kernel)) (fun _ _ _ _ _ => (pg_tupK (K := K) (n := 2) rfl rfl (pgs_cons (pg_name (i := 8) sc_left_over.nd (by rfl) (by first | exact Or.inl rfl | exact Or.inr rfl)) (pgs_cons (pg_name (i := 5) sc_left_over.nd (by rfl) (by first | exact Or.inl rfl | exact Or.inr rfl)) pgs_nil)))) (fun _ _ _ _ _ => pts_nil) (fun _ _ _ _ _ => (pe_tup (pa_cons (pv 5) (pa_cons (pv 8) pa_nil))))) pa_nil)))
  (pss_cons (ps_setLc (i := 4) rfl sc_left_over.nd (by rfl) (by rfl) (by rfl) (pi_tup (pe_ix (r := rIx K) ix_seq (pv 0) pe_int (fun _ _ => rfl))) (own := [("one", 6), ("other", 7)]) (blkOk_by (N := ["web", "places", "kept", "number", "ties", "place", "one", "other", "k"]) (sc := (defScope s_left_over)) (by decide +kernel)) (fun _ _ _ _ _ => (pg_tupK (K := K) (n := 2) rfl rfl (pgs_cons (pg_name (i := 6) sc_left_over.nd (by rfl) (by first | exact Or.inl rfl | exact Or.inr rfl)) (pgs_cons (pg_name (i := 7) sc_left_over.nd (by rfl) (by first | exact Or.inl rfl | exact Or.inr rfl)) pgs_nil)))) (fun _ _ _ _ _ => pts_one ((pw_and (pt_cmp (pc_din (hu_of hr) (pv 6) (pv 3))) (pw_and1 (pt_cmp (pc_din (hu_of hr) (pv 7) (pv 3)))))).pt) (fun _ _ _ _ _ => (pe_tup (pa_cons (pe_dget (hu_of hr) (pv 3) (pv 6) (by intro _ _; rfl)) (pa_cons (pe_dget (hu_of hr) (pv 3) (pv 7) (by intro _ _; rfl)) pa_nil)))))
  (pss_one (ps_ret (pe_tup (pa_cons (pe_callB (r := rLn K) cr_len (by rfl) B.len (by decide +kernel) (pa_cons (pv 2) pa_nil)) (pa_cons (pe_callTy (r := rTupOf K) cr_tupOf (by rfl) B.tuple (by decide +kernel) (pa_cons (pv 4) pa_nil)) pa_nil)))))))), ?_⟩
  obtain ⟨⟨⟨n, es⟩, S⟩, hd, ⟨hn, hf⟩, q⟩ := h
  dsimp only at hn hf
  cases hd with | cons p1 hd => cases hd with | cons p2 hd =>
  cases hd
  rename_i t u
  have hlen : es.length ≤ n := hf.le
  have hkl : (G37.keptL n S).length ≤ n := Nat.le_trans (List.length_filter_le _ _) (by simp)
  have E0 : ∀ {H1 a b c d e f g}, Ex H H1 → EvD K (tVar 0) [some t, some u, a, b, c, d, e, f, g] H1 (dWeb n es) := fun e => ed_var rfl (p1.up e)
  have E1 : ∀ {H1 a b c d e f g}, Ex H H1 → EvD K (tVar 1) [some t, some u, a, b, c, d, e, f, g] H1 (dT S) := fun e => ed_var rfl (p2.up e)
  refine sd_asg (K := K) (ed_lcR (n := n) (G37.offP S) dI good_name (ea_cons (ev_many (E0 (ex_r _)) ev_c) ea_nil) (by simp) (by omega) (by omega) (fun _ => rfl) fun i H1 hi e => ⟨rfl, rfl, et_eq (et_test (eb_inT (neg := true) (n := i) (ev_var rfl) (E1 e))) (by simp [G37.offP]), fun _ => ed_int (ev_var rfl)⟩) fun v H1 r e1 hr hv => ?_
  dsimp only
  have hk : Dp K H1 v (dL (G37.keptL n S)) := by subst hr; exact hv
  have E2 : ∀ {H2 b c d e f g}, Ex H1 H2 → EvD K (tVar 2) [some t, some u, some v, b, c, d, e, f, g] H2 (dL (G37.keptL n S)) := fun e => ed_var rfl (hk.up e)
  refine sd_asgDict (K := K) (kvs := (G37.keptL n S).zipIdx) ((ed_lcEnum (G37.keptL n S) dI (fun x => dT [x.2, x.1]) good_pair (E2 (ex_r _)) (by omega) (fun _ => noL_T _) fun i a x H2 hi e2 hx => g2 hx fun y z hy hz => ?_).imp fun d h => ?_) ?_ (by simp; omega) fun nd H2 e2 hdk => ?_
  · rw [hy.int_v, hz.int_v]
    exact ⟨rfl, rfl, ed_tup (eda_cons (ed_int (ev_var rfl)) (eda_cons (ed_int (ev_var rfl)) eda_nil)) (by simp)⟩
  · rw [h, ← fm_zip (fun i a => dT [a, i]) (G37.keptL n S) 0]
    rfl
  · rw [zip_keys]; exact G37.keptL_nodup n S
  dsimp only
  have hg : ∀ j, j ∈ G37.keptL n S → (((G37.keptL n S).zipIdx).find? fun kv => decide (kv.1 = j)).map (fun kv => vN kv.2) = some (vN (G37.idx n S j)) := fun j hj => by
    rw [find_zip, if_pos hj]; rfl
  have hg2 : ∀ j, ((((G37.keptL n S).zipIdx).find? fun kv => decide (kv.1 = j)).map (fun kv => vN kv.2)).isSome = decide (j ∈ G37.keptL n S) := fun j => by
    rw [find_zip]
    split
    · rename_i h; simp [h]
    · rename_i h; simp [h]
  have hin : ∀ j, j < n → decide (j ∈ G37.keptL n S) = G37.offP S j := fun j hj => by
    rw [Bool.eq_iff_iff, decide_eq_true_eq, G37.mem_keptL]
    simp [G37.offP, hj]
  refine sd_asg (K := K) (ed_lcT es dE (G37.inS (G37.offP S)) (fun e => dE (G37.idx n S e.1, G37.idx n S e.2)) good_pair (ed_ties (E0 (e1.trans e2)) ev_c) (by omega) (fun _ => rfl) fun e x H3 he e3 hx => g2E hx ?_) fun v3 H3 r3 e3 hr3 hv3 => ?_
  · have hm := hf.mem e he
    have D3 := hdk.up e3
    refine ⟨rfl, rfl, et_eq (et_and (et_B (eb_din (k := e.1) (ev_var rfl) (ev_var rfl) D3)) fun _ => et_B (eb_din (k := e.2) (ev_var rfl) (ev_var rfl) D3)) ?_, fun hp => ?_⟩
    · rw [hg2, hg2, hin _ hm.1, hin _ hm.2.1]; rfl
    · have hp2 : G37.offP S e.1 = true ∧ G37.offP S e.2 = true := by simpa [G37.inS] using hp
      have h1 : e.1 ∈ G37.keptL n S := by have := hin _ hm.1; rw [hp2.1] at this; simpa using this
      have h2 : e.2 ∈ G37.keptL n S := by have := hin _ hm.2.1; rw [hp2.2] at this; simpa using this
      exact ed_tup (eda_cons (ed_int (ev_dget (k := e.1) (ev_var rfl) (ev_var rfl) D3 (hg _ h1))) (eda_cons (ed_int (ev_dget (k := e.2) (ev_var rfl) (ev_var rfl) D3 (hg _ h2))) eda_nil)) (by simp)
  · dsimp only
    have h3 : Dp K H3 v3 (.list ((G37.leftE n S es).map dE)) := by
      subst hr3
      rw [show (G37.leftE n S es).map dE = (es.filter (G37.inS (G37.offP S))).map (fun e => dE (G37.idx n S e.1, G37.idx n S e.2)) from by
        unfold G37.leftE; rw [List.map_map]; rfl]
      exact hv3
    refine sd_ret (K := K) (ed_tup (eda_cons (ed_int (ei_eq (ev_lenL (E2 (e2.trans e3))) (j := ((G37.keptL n S).length : Int)) (by simp))) (eda_cons (ed_tupOf (ed_var rfl h3)) eda_nil)) (by simp)) fun v4 H4 r4 e4 hr4 hv4 => q v4 H4 r4 (((e1.trans e2).trans e3).trans e4) hr4 hv4
abbrev s_without : Stmt := top 21
theorem sc_without : FnScope ["web", "places"] ["web", "places"] (defScope s_without) := ⟨rfl, rfl, rfl, by decide +kernel, rfl, by decide +kernel, by decide +kernel⟩
theorem kp_without (D : Df K mg "without" s_without ["web", "places"]) (B : Bare mg) (h_need_web : Kp P w K mg base "need_web" 4 ["thing"] (sp_need_web K)) (h_need_places : Kp P w K mg base "need_places" 3 ["web", "thing"] (sp_need_places K)) (h_left_over : Kp P w K mg base "left_over" 1 ["web", "places"] (sp_left_over K)) : Kp P w K mg base "without" 5 ["web", "places"] (sp_without K) := by
  obtain ⟨f_need_web, fd_need_web, F_need_web, g_need_web, k_need_web, b_need_web⟩ := h_need_web
  obtain ⟨f_need_places, fd_need_places, F_need_places, g_need_places, k_need_places, b_need_places⟩ := h_need_places
  obtain ⟨f_left_over, fd_left_over, F_left_over, g_left_over, k_left_over, b_left_over⟩ := h_left_over
  refine D.kp sc_without (spD_len (fun _ => rfl)) (fun f cdv A outer s H vs Q E hr h => ?_)
  refine ⟨_, (pss_cons (ps_expr (pe_call F_need_web (hr.mono (by decide)) (by rfl) g_need_web k_need_web b_need_web .nil pass0 (pa_cons (pv 0) pa_nil)))
  (pss_cons (ps_expr (pe_call F_need_places (hr.mono (by decide)) (by rfl) g_need_places k_need_places b_need_places .nil pass0 (pa_cons (pv 0) (pa_cons (pv 1) pa_nil))))
  (pss_one (ps_ret (pe_call F_left_over (hr.mono (by decide)) (by rfl) g_left_over k_left_over b_left_over .nil pass0 (pa_cons (pv 0) (pa_cons (pv 1) pa_nil))))))), ?_⟩
  obtain ⟨⟨⟨n, es⟩, S⟩, hd, ⟨hw, hp⟩, q⟩ := h
  cases hd with | cons p1 hd => cases hd with | cons p2 hd =>
  cases hd
  have hn : n ≤ 60 := hw.le
  refine sd_drop (ed_call (n, es) (eda_cons (ed_var rfl p1) eda_nil) hw) fun H1 e1 => ?_
  dsimp only
  refine sd_drop (ed_call ((n, es), S) (eda_cons (ed_var rfl (p1.up e1)) (eda_cons (ed_var rfl (p2.up e1)) eda_nil)) hp) fun H2 e2 => ?_
  dsimp only
  refine sd_ret (K := K) (ed_call ((n, es), S) (eda_cons (ed_var rfl (p1.up (e1.trans e2))) (eda_cons (ed_var rfl (p2.up (e1.trans e2))) eda_nil)) ⟨by dsimp only; omega, hw.fo⟩) fun v H3 r e3 hr hv => q v H3 r ((e1.trans e2).trans e3) hr hv
end
end W37
/-! lists at hand, sorting, lesser and greater, comparing -/
namespace W37
open PySem PySem.Spec PyProof.Rows L2
open Evl (Ex Ev EvT EvA EvL)
open G37 (Ed ltE tie)
/-- a list at hand -/
def EvX (K : PySem.W.Frag) (te : TE) (σ : L2.St) (H : Hp) (ds : List PyData) : Prop := ∀ H1, Ex H H1 → ∀ Q : VK, (∀ p xs H2, Ex H1 H2 → H2 p = some (.lst xs) → DpAll K H2 xs ds → Q (.ref p) H2) → te σ H1 Q
section
variable {K : PySem.W.Frag} {σ : L2.St} {H H' : Hp} {ta tb tc te tl : TE} {R R' : PyData → Prop} {d d1 d2 : PyData} {v x : V} {D : Ends} {tu tw : TS}
theorem EvX.ed {ds : List PyData} (h : EvX K te σ H ds) : EvD K te σ H (.list ds) := fun H1 e Q q => h H1 e Q fun p xs H2 e2 hp hd => q _ H2 _ e2 rfl (.lst (sq_of hp) hd)
theorem ex_lst {t : TA} {ds : List PyData} (h : EvDA K t σ H ds) (hl : ds.length ≤ 100000) : EvX K (tLst t) σ H ds := fun H1 e Q q =>
  h H1 e _ fun vs H2 ds' e2 r p => by
    subst r
    exact ⟨by rw [p.len]; exact sz100 hl, fun a ha => q a _ _ (e2.trans (ex_new ha)) upd_same (p.up (ex_new ha))⟩
theorem ex_lstOf {ds : List PyData} (h : EvD K ta σ H (.tuple ds)) : EvX K (tCB (rLstOf K) (tCons ta tNil)) σ H ds := fun H1 e Q q =>
  h H1 e _ fun v H2 d' e2 r p => by
    subst r
    obtain ⟨a, xs, rfl, hs, hd⟩ := p.tup_v
    exact ⟨a, xs, rfl, .inr hs, fun l hl => q l _ _ (e2.trans (ex_new hl)) upd_same (hd.up (ex_new hl))⟩
theorem ex_cat {ds es : List PyData} (ha : EvX K ta σ H ds) (hb : EvX K tb σ H es) (hl : ds.length + es.length ≤ 100000) : EvX K (tOp rCat ta tb) σ H (ds ++ es) := fun H1 e Q q =>
  ha H1 e _ fun p xs H2 e2 hp hd => hb H2 (e.trans e2) _ fun r ys H3 e3 hr hd2 =>
    ⟨p, r, xs, ys, rfl, rfl, e3 p _ hp, hr, by rw [hd.len, hd2.len]; exact sz100 hl, fun s hs => q s _ _ ((e2.trans e3).trans (ex_new hs)) upd_same (((hd.up e3).app hd2).up (ex_new hs))⟩
/-- [.. for a name in a list], the list at hand -/
theorem ex_lcL {α : Type} (l : List α) (enc : α → PyData) (p : α → Bool) (ee : α → PyData) {g : TG} {tt : TT} {vs : List Nat} (hg : goodG g) (h : EvD K tl σ H (.list (l.map enc))) (hn : l.length ≤ 50000) (hno : ∀ a, noL (ee a) = true)
    (hs : ∀ a x H1, a ∈ l → Ex H H1 → Dp K H1 x (enc a) → g x (wipe σ vs) H1 fun σ2 H2 => H2 = H1 ∧ wipe σ2 vs = wipe σ vs ∧ EvT tt σ2 H2 (p a) ∧ (p a = true → EvD K te σ2 H2 (ee a))) :
    EvX K (tLc (iList K tl) g tt te vs) σ H ((l.filter p).map ee) := fun H1 e Q q =>
  h H1 e _ fun v H2 d e2 r pv => by
    subst r
    obtain ⟨a, xs, rfl, hx, hd⟩ := pv.lst_v
    refine ⟨a, rfl, ⟨xs, hx⟩, fun D hD => ?_⟩
    have hl : xs.length = l.length := by rw [hd.len, List.length_map]
    have w := walk_list (K := K) (a := a) (xs := xs)
    rw [hl] at w
    refine lc_walk2 l p ee w hD hn hno (fun H' e' => sqL_up e' hx) (fun i b x H3 H4 hi e3 y => ?_) hg fun H' xs' e' rd pd => q D xs' H' (e2.trans e') rd pd
    obtain ⟨rfl, hxi⟩ := y
    obtain ⟨d', h1, h2⟩ := hd.get hxi
    rw [List.getElem?_map, hi] at h1
    cases h1
    exact ⟨Ex.refl _, hs b x H4 (List.mem_of_getElem? hi) ((e.trans e2).trans e3) (h2.up e3)⟩
/-! ### sorted, of data -/
theorem perm_map_ex {α β : Type} {f : α → β} {l m : List β} (h : l.Perm m) : ∀ ws : List α, m = ws.map f → ∃ ws' : List α, ws'.Perm ws ∧ l = ws'.map f := by
  induction h with
  | nil => intro ws e; exact ⟨[], by cases ws with | nil => exact .refl _ | cons => simp at e, rfl⟩
  | cons x _ ih =>
    intro ws e
    cases ws with
    | nil => simp at e
    | cons w ws =>
      simp only [List.map_cons, List.cons.injEq] at e
      obtain ⟨ws', p, q⟩ := ih ws e.2
      exact ⟨w :: ws', p.cons w, by rw [q, e.1]; rfl⟩
  | swap x y l =>
    intro ws e
    cases ws with
    | nil => simp at e
    | cons w ws =>
      cases ws with
      | nil => simp at e
      | cons w2 ws =>
        simp only [List.map_cons, List.cons.injEq] at e
        exact ⟨w2 :: w :: ws, .swap _ _ _, by rw [e.1, e.2.1, e.2.2]; rfl⟩
  | trans _ _ ih1 ih2 =>
    intro ws e
    obtain ⟨w2, p2, q2⟩ := ih2 ws e
    obtain ⟨w1, p1, q1⟩ := ih1 w2 q2
    exact ⟨w1, p1.trans p2, q1⟩
theorem dp_zip : ∀ {xs : List V} {ds : List PyData}, DpAll K H xs ds → ∃ bs : List (V × PyData), bs.map (·.1) = xs ∧ bs.map (·.2) = ds ∧ ∀ b ∈ bs, Dp K H b.1 b.2
  | _, _, .nil => ⟨[], rfl, rfl, by simp⟩
  | _, _, .cons (v := v) (d := d) h t => by
    obtain ⟨bs, h1, h2, h3⟩ := dp_zip t
    refine ⟨(v, d) :: bs, by simp [h1], by simp [h2], fun b hb => ?_⟩
    rcases List.mem_cons.mp hb with q | q
    · rw [q]; exact h
    · exact h3 b q
theorem dp_unzip : ∀ {bs : List (V × PyData)}, (∀ b ∈ bs, Dp K H b.1 b.2) → DpAll K H (bs.map (·.1)) (bs.map (·.2))
  | [], _ => .nil
  | b :: bs, h => .cons (h b (by simp)) (dp_unzip fun c hc => h c (by simp [hc]))
/-- sorted(a list of alike tuples) -/
theorem ep_sortD {α : Type} (ws : List α) (enc : α → PyData) (h : EvD K ta σ H (.list (ws.map enc))) (al : ∀ a ∈ ws, ∀ b ∈ ws, PySem.W.alike (enc a) (enc b) = true) (ne : ∀ a ∈ ws, ∃ x r, enc a = .tuple (x :: r)) (dd : ∀ a ∈ ws, (enc a).depth ≤ 8) :
    EvP K (tCB (rSortD K) (tCons ta tNil)) σ H (fun r => ∃ ws' : List α, ws'.Perm ws ∧ ws'.Pairwise (fun a b => PySem.W.dataLt (enc b) (enc a) = false) ∧ r = .list (ws'.map enc)) := fun H1 e Q q => h H1 e _ fun v H2 r e2 hr p => by
  subst hr
  obtain ⟨a, xs, rfl, hs, hd⟩ := p.lst_v
  obtain ⟨bs, rfl, hb2, hb3⟩ := dp_zip hd
  have hmem : ∀ b ∈ bs, ∃ w ∈ ws, b.2 = enc w := fun b hb => by
    have : b.2 ∈ bs.map (·.2) := List.mem_map.mpr ⟨b, hb, rfl⟩
    rw [hb2] at this
    obtain ⟨w, hw, e⟩ := List.mem_map.mp this
    exact ⟨w, hw, e.symm⟩
  have pm : (srtD bs).Perm bs := List.mergeSort_perm _ _
  obtain ⟨ws', p1, p2⟩ := perm_map_ex (f := enc) (pm.map (·.2)) ws hb2
  refine ⟨a, bs, rfl, hs, hb3, ?_, ?_, ?_, fun s hs => q (.ref s) _ _ (e2.trans (ex_new hs)) ⟨ws', p1, ?_, rfl⟩ ?_⟩
  · rw [hb2]
    intro d hd d' hd'
    obtain ⟨w, hw, rfl⟩ := List.mem_map.mp hd
    obtain ⟨w', hw', rfl⟩ := List.mem_map.mp hd'
    exact al w hw w' hw'
  · rw [hb2]
    refine .inl fun d hd => ?_
    obtain ⟨w, hw, rfl⟩ := List.mem_map.mp hd
    exact ne w hw
  · intro b hb
    obtain ⟨w, hw, e⟩ := hmem b hb
    rw [e]; exact dd w hw
  · have sp := PySem.W.sort_pairwise (PySem.W.sortLe_total (listOrd itemOrd) false fun b : V × PyData => PySem.W.keyToks b.2) bs
    have sp2 : ((srtD bs).map (·.2)).Pairwise (fun a b => PySem.W.dataLt b a = false) := by
      rw [List.pairwise_map]
      refine List.Pairwise.imp (fun {a b} h => ?_) sp
      have h : (!PySem.W.dataLt b.2 a.2) = true := h
      simpa using h
    rw [p2, List.pairwise_map] at sp2
    exact sp2
  · rw [← p2]
    exact .lst (sq_of upd_same) (dps_up (ex_new hs) (dp_unzip fun b hb => hb3 b (pm.mem_iff.mp hb)))
theorem alike_ints : ∀ (a b : List Nat), PySem.W.alike (dT a) (dT b) = true
  | [], b => by cases b <;> rfl
  | x :: a, [] => rfl
  | x :: a, y :: b => by
    have := alike_ints a b
    exact this
theorem depth_ints : ∀ (a : List Nat), PyData.depthAll (dNs a) = 0
  | [] => rfl
  | x :: a => by
    show max 0 (PyData.depthAll (dNs a)) = 0
    rw [depth_ints a]; rfl
theorem depth_T (a : List Nat) : (dT a).depth = 1 := by
  show PyData.depthAll (dNs a) + 1 = 1
  rw [depth_ints]
theorem lt_dE (e f : Ed) : PySem.W.dataLt (dE e) (dE f) = true ↔ ltE e f := by
  have : PySem.W.dataLt (dE e) (dE f) = (decide ((e.1 : Int) < f.1) || (!decide ((f.1 : Int) < e.1) && (decide ((e.2 : Int) < f.2)))) := by
    show PyProof.Rows.lexLt itemOrd [.inl 1, .inl (e.1 : Int), .inl 1, .inl (e.2 : Int), .inl 0] [.inl 1, .inl (f.1 : Int), .inl 1, .inl (f.2 : Int), .inl 0] = _
    simp [PyProof.Rows.lexLt, PyProof.Rows.itemLt]
  rw [this]
  unfold ltE
  simp
  omega
/-! ### lesser and greater -/
def rMin2 : List V → Hp → VK → Prop := fun xs H Q => ∃ i j, xs = [.int i, .int j] ∧ Q (.int (if j < i then j else i)) H
def rMax2 : List V → Hp → VK → Prop := fun xs H Q => ∃ i j, xs = [.int i, .int j] ∧ Q (.int (if j > i then j else i)) H
theorem cr_min2 {X : Cx} (hc : X.calm = true) : CallR X (.builtin "min") rMin2 := call_min2 hc
theorem cr_max2 {X : Cx} (hc : X.calm = true) : CallR X (.builtin "max") rMax2 := call_max2 hc
theorem ev_min2 {i j : Int} (ha : Ev ta σ H (.int i)) (hb : Ev tb σ H (.int j)) : Ev (tCB rMin2 (tCons ta (tCons tb tNil))) σ H (.int (min i j)) := Evl.ev_cb (Evl.ea_cons ha (Evl.ea_cons hb Evl.ea_nil)) fun H1 e Q q => ⟨i, j, rfl, by
  rw [show (if j < i then j else i) = min i j from by split <;> omega]; exact q H1 (Ex.refl _)⟩
theorem ev_max2 {i j : Int} (ha : Ev ta σ H (.int i)) (hb : Ev tb σ H (.int j)) : Ev (tCB rMax2 (tCons ta (tCons tb tNil))) σ H (.int (max i j)) := Evl.ev_cb (Evl.ea_cons ha (Evl.ea_cons hb Evl.ea_nil)) fun H1 e Q q => ⟨i, j, rfl, by
  rw [show (if j > i then j else i) = max i j from by split <;> omega]; exact q H1 (Ex.refl _)⟩
/-- (min(i, j), max(i, j)) -/
theorem ed_tie {u w : Nat} {ta' tb' : TE} (ha : Ev ta σ H (vN u)) (hb : Ev tb σ H (vN w)) (ha' : Ev ta' σ H (vN u)) (hb' : Ev tb' σ H (vN w)) : EvD K (tTup (tCons (tCB rMin2 (tCons ta (tCons tb tNil))) (tCons (tCB rMax2 (tCons ta' (tCons tb' tNil))) tNil))) σ H (dE (tie u w)) := by
  have h := ed_tup (K := K) (eda_cons (K := K) (ed_int (ev_min2 ha hb)) (eda_cons (ed_int (ev_max2 ha' hb')) eda_nil)) (by simp)
  have e1 : min (u : Int) (w : Int) = ((min u w : Nat) : Int) := by omega
  have e2 : max (u : Int) (w : Int) = ((max u w : Nat) : Int) := by omega
  rw [e1, e2] at h
  exact h
/-- not: the greatest of numbers of at most m is greater than m -/
theorem et_max {ns : List Nat} {m : Nat} (h : EvD K ta σ H (dL ns)) (ne : ns ≠ []) (hm : ∀ y ∈ ns, y ≤ m) (hb : Ev tb σ H (vN m)) : EvT (tTest (tOp (rI0 fun i j => .bl (decide (j < i))) (tCB (rMax K) (tCons ta tNil)) tb)) σ H false := fun H1 e Q q => h H1 e _ fun v H2 r e2 hr p => by
  subst hr
  obtain ⟨a, rfl, hs⟩ := dL_v p
  refine ⟨a, ns.map fun n : Nat => (n : Int), rfl, by rw [List.map_map]; exact hs, by rw [List.length_map]; exact List.length_pos_iff.mpr ne, fun x hx _ => hb H2 (e.trans e2) _ fun H3 e3 => ?_⟩
  obtain ⟨y, hy, rfl⟩ := List.mem_map.mp hx
  have := hm y hy
  exact ⟨_, _, rfl, rfl, false, by show V.bl (decide ((m : Int) < (y : Int))) = V.bl false; rw [decide_eq_false (by omega)], q H3 (e2.trans e3)⟩
/-! ### equal data -/
theorem eqv_ints : ∀ (a b : List Nat), PyData.eqvAll (dNs a) (dNs b) = decide (a = b)
  | [], [] => by simp [PyData.eqvAll]
  | [], y :: b => by simp [PyData.eqvAll]
  | x :: a, [] => by simp [PyData.eqvAll]
  | x :: a, y :: b => by
    show ((x : Int) == (y : Int) && PyData.eqvAll (dNs a) (dNs b)) = _
    rw [eqv_ints a b, Bool.eq_iff_iff]
    simp only [Bool.and_eq_true, beq_iff_eq, decide_eq_true_eq, List.cons.injEq]
    exact ⟨fun h => ⟨by have := h.1; omega, h.2⟩, fun h => ⟨by have := h.1; omega, h.2⟩⟩
theorem lay_ints : ∀ (a : List Nat), PyData.canLayAll0 (dNs a) = true
  | [] => rfl
  | x :: a => by
    show (true && PyData.canLayAll0 (dNs a)) = true
    rw [lay_ints a]; rfl
theorem shaped_T (a : List Nat) : SeqAt.shaped (dT a) = true := by
  unfold SeqAt.shaped
  rw [depth_T]
  show (PyData.canLayAll0 (dNs a) && _) = true
  rw [lay_ints]; rfl
theorem shaped_L (a : List Nat) : SeqAt.shaped (dL a) = true := by
  unfold SeqAt.shaped
  have : (dL a).depth = 1 := depth_T a
  rw [this]
  show (PyData.canLayAll0 (dNs a) && _) = true
  rw [lay_ints]; rfl
theorem eqv_T (a b : List Nat) : PyData.eqv (dT a) (dT b) = decide (a = b) := eqv_ints a b
theorem eqv_L (a b : List Nat) : PyData.eqv (dL a) (dL b) = decide (a = b) := eqv_ints a b
theorem eqv_dE (e f : Ed) : PyData.eqv (dE e) (dE f) = decide (e = f) := by
  show ((e.1 : Int) == (f.1 : Int) && ((e.2 : Int) == (f.2 : Int) && true)) = _
  rw [Bool.eq_iff_iff]
  simp only [Bool.and_true, Bool.and_eq_true, beq_iff_eq, decide_eq_true_eq, Prod.ext_iff]
  omega
/-- a tie in a tuple of ties -/
theorem eb_inE {e : Ed} {es : List Ed} (ha : EvD K ta σ H (dE e)) (hb : EvD K tb σ H (dEs es)) : Ev (tOp (rInT K) ta tb) σ H (.bl (es.contains e)) := fun H1 e1 Q q => ha H1 e1 _ fun v H2 r e2 hr p => hb H2 (e1.trans e2) _ fun v2 H3 r2 e3 hr2 p2 => by
  subst hr hr2
  refine ⟨dE e, es.map dE, p.up e3, p2, rfl, ?_, by rw [show (dE e).depth = 1 from rfl]; omega, ?_⟩
  · induction es with
    | nil => rfl
    | cons f es ih =>
      clear ih
      have : ∀ l : List Ed, PyData.plainAll (l.map dE) = true := fun l => by
        induction l with
        | nil => rfl
        | cons a l ih => show (true && PyData.plainAll (l.map dE)) = true; rw [ih]; rfl
      exact this _
  · have : (es.map dE).any (fun z => PyData.eqv z (dE e)) = es.contains e := by
      rw [List.any_map, Bool.eq_iff_iff]
      simp only [List.any_eq_true, Function.comp, eqv_dE, decide_eq_true_eq, List.contains_iff_mem]
      exact ⟨fun ⟨x, h1, h2⟩ => h2 ▸ h1, fun h => ⟨e, h, rfl⟩⟩
    rw [this]
    exact q H3 (e2.trans e3)
/-- list(range(n)) -/
theorem ed_lstRg {n : Nat} (h : Ev te σ H (vN n)) (hn : n ≤ 50000) : EvD K (tLstRg (tRg1 te)) σ H (dL (List.range n)) := fun H1 e Q q => h H1 e _ fun H2 e2 => by
  refine ⟨n, rfl, ?_, fun r hr => ?_⟩
  · refine ⟨?_, ?_, ?_, ?_, ?_⟩ <;> first | omega | skip
  · have : rgV 0 (n : Int) = (List.range n).map vN := by
      unfold rgV
      simp
    rw [this]
    exact q _ _ _ (e2.trans (ex_new hr)) rfl (v_dL (sq_of upd_same))
end
end W37
/-! the ways' defs -/
namespace W37
open PySem PySem.Spec PyProof.Rows L2
open Evl (Ex Ev EvT EvA EvL et_test et_B et_and et_or et_not ev_var ev_c ea_nil ea_cons ev_andV ev_orV ev_notV s_if)
open G37 (Ed nb tie ltE Web)
/-- the lesser of a way and its turning -/
def lesserN (w : List Nat) : List Nat := if PySem.W.dataLt (dT w.reverse) (dT w) = true then w.reverse else w
theorem lesserN_or (w : List Nat) : lesserN w = w ∨ lesserN w = w.reverse := by
  unfold lesserN
  split
  · exact .inr rfl
  · exact .inl rfl
theorem ne_len : ∀ {ws : List (List Nat)}, (∀ w ∈ ws, w ≠ []) → ws.length ≤ ws.flatten.length
  | [], _ => Nat.le_refl _
  | a :: ws, h => by
    have ih := ne_len (ws := ws) fun w hw => h w (by simp [hw])
    have h0 : 0 < a.length := List.length_pos_iff.mpr (h a (by simp))
    rw [List.flatten_cons, List.length_append, List.length_cons]; omega
theorem flat_take : ∀ {ws : List (List Nat)} {i : Nat} {a : List Nat}, ws[i]? = some a → (ws.take i).flatten.length + a.length ≤ ws.flatten.length
  | [], _, _, h => by simp at h
  | b :: ws, 0, a, h => by
    simp at h; subst h
    rw [List.flatten_cons, List.length_append]; simp
  | b :: ws, i + 1, a, h => by
    have ih := flat_take (ws := ws) (i := i) (a := a) (by simpa using h)
    rw [List.take_succ_cons, List.flatten_cons, List.flatten_cons, List.length_append, List.length_append]; omega
/-- a way of the web -/
structure Goes (n : Nat) (es : List Ed) (w : List Nat) : Prop where
  ne : w ≠ []
  nd : w.Nodup
  lt : ∀ v ∈ w, v < n
  ch : ∀ e ∈ G37.wayE w, e ∈ es
  le : w.length ≤ 1000
abbrev sp_tie_of (K : PySem.W.Frag) : Sp := spD K (fun i : Nat × Nat => [dI i.1, dI i.2]) (fun _ => True) (fun i r => r = dE (tie i.1 i.2))
abbrev sp_lesser (K : PySem.W.Frag) : Sp := spD K (fun w : List Nat => [dT w]) (fun _ => True) (fun w r => r = dT (lesserN w))
abbrev sp_goes (K : PySem.W.Frag) : Sp := spD K (fun i : (Nat × List Ed) × List Nat => [dWeb i.1.1 i.1.2, dT i.2]) (fun i => Goes i.1.1 i.1.2 i.2) (fun _ r => r = .bool true)
abbrev sp_parts_all (K : PySem.W.Frag) : Sp := spD K (fun i : (Nat × List Ed) × List (List Nat) => [dWeb i.1.1 i.1.2, .tuple (i.2.map dT)]) (fun i => i.1.1 ≤ 1000 ∧ (∀ w ∈ i.2, Goes i.1.1 i.1.2 w) ∧ i.2.flatten.Perm (List.range i.1.1)) (fun _ r => r = .bool true)
abbrev sp_plain_form (K : PySem.W.Frag) : Sp := spD K (fun ws : List (List Nat) => [.list (ws.map dT)]) (fun ws => (∀ w ∈ ws, w ≠ []) ∧ ws.length ≤ 1000) (fun ws r => ∃ Q : List (List Nat), Q.Perm (ws.map lesserN) ∧ r = .tuple (Q.map dT))
abbrev sp_joined_by (K : PySem.W.Frag) : Sp := spD K (fun i : Nat × List Ed => [dI i.1, dEs i.2]) (fun i => i.1 ≤ 100 ∧ G37.Fo i.1 i.2 ∧ ∀ v, v < i.1 → (nb i.1 i.2 v).length ≤ 2) (fun i r => ∃ Q, G37.Prt i.1 i.2 Q ∧ r = .tuple (Q.map dT))
section
variable {P : Program} {w : World} {K : PySem.W.Frag} {mg : Str → Option Value} {base : Heap}
abbrev s_tie_of : Stmt := top 24
theorem sc_tie_of : FnScope ["one", "other"] ["one", "other"] (defScope s_tie_of) := ⟨rfl, rfl, rfl, by decide +kernel, rfl, by decide +kernel, by decide +kernel⟩
theorem kp_tie_of (D : Df K mg "tie_of" s_tie_of ["one", "other"]) (B : Bare mg) : Kp P w K mg base "tie_of" 1 ["one", "other"] (sp_tie_of K) := by
  refine D.kp sc_tie_of (spD_len (fun _ => rfl)) (fun f cdv A outer s H vs Q E hr h => ?_)
  refine ⟨_, (pss_one (ps_ret (pe_tup (pa_cons (pe_callB (r := rMin2) (cr_min2 rfl) (by rfl) B.min (by decide +kernel) (pa_cons (pv 0) (pa_cons (pv 1) pa_nil))) (pa_cons (pe_callB (r := rMax2) (cr_max2 rfl) (by rfl) B.max (by decide +kernel) (pa_cons (pv 0) (pa_cons (pv 1) pa_nil))) pa_nil))))), ?_⟩
  obtain ⟨⟨a, b⟩, hd, _, q⟩ := h
  cases hd with | cons p1 hd => cases hd with | cons p2 hd =>
  cases hd
  have v1 := p1.int_v
  have v2 := p2.int_v
  subst v1 v2
  exact sd_ret (K := K) (ed_tie (ev_var rfl) (ev_var rfl) (ev_var rfl) (ev_var rfl)) fun v H1 r e hr hv => q v H1 r e hr hv
abbrev s_lesser : Stmt := top 25
theorem sc_lesser : FnScope ["way"] ["way"] (defScope s_lesser) := ⟨rfl, rfl, rfl, by decide +kernel, rfl, by decide +kernel, by decide +kernel⟩
theorem kp_lesser (D : Df K mg "lesser" s_lesser ["way"]) (B : Bare mg) : Kp P w K mg base "lesser" 1 ["way"] (sp_lesser K) := by
  refine D.kp sc_lesser (spD_len (fun _ => rfl)) (fun f cdv A outer s H vs Q E hr h => ?_)
  refine ⟨_, (pss_one (ps_ret (pe_callB (r := rTwoD K false) (cr_min2D hr.units rfl) (by rfl) B.min (by decide +kernel) (pa_cons (pv 0) (pa_cons (pe_revT (pv 0)) pa_nil))))), ?_⟩
  obtain ⟨ws, hd, _, q⟩ := h
  cases hd with | cons p1 hd =>
  cases hd
  rename_i t
  refine sd_ret (K := K) (R := fun r => r = dT (lesserN ws)) (fun H1 e1 Q' q' => ⟨t, rfl, t, rfl, ?_⟩) fun v H1 r e hr hv => q v H1 r e hr hv
  obtain ⟨a, rfl, hs⟩ := dT_v (p1.up e1)
  refine ⟨a, _, rfl, hs, fun p hp => ?_⟩
  have e2 := ex_new (o := .tup (ws.map vN).reverse) hp
  have d1 : Dp K (upd H1 p (.tup (ws.map vN).reverse)) (.ref a) (dT ws) := v_dT (sqT_up e2 hs)
  have d2 : Dp K (upd H1 p (.tup (ws.map vN).reverse)) (.ref p) (dT ws.reverse) := v_dT (st_of (by rw [upd_same, List.map_reverse]))
  refine ⟨_, _, _, _, rfl, d1, d2, ⟨?_, ?_⟩, ?_, ?_⟩
  · intro x hx y hy
    have hx : x = dT ws ∨ x = dT ws.reverse := by simpa using hx
    have hy : y = dT ws ∨ y = dT ws.reverse := by simpa using hy
    rcases hx with rfl | rfl <;> rcases hy with rfl | rfl <;> exact alike_ints _ _
  · intro x hx
    have hx : x = dT ws ∨ x = dT ws.reverse := by simpa using hx
    rcases hx with rfl | rfl <;> (intro z; cases z)
  · show max (dT ws).depth (max (dT ws.reverse).depth 0) ≤ 8
    rw [depth_T, depth_T]; decide
  · simp only [Bool.false_eq_true, if_false]
    unfold lesserN at q'
    split
    · rename_i c
      rw [if_pos c] at q'
      exact q' _ _ _ e2 rfl d2
    · rename_i c
      rw [if_neg c] at q'
      exact q' _ _ _ e2 rfl d1
abbrev s_goes : Stmt := top 23
theorem sc_goes : FnScope ["web", "thing", "k", "one"] ["web", "thing"] (defScope s_goes) := ⟨rfl, rfl, rfl, by decide +kernel, rfl, by decide +kernel, by decide +kernel⟩
theorem kp_goes (D : Df K mg "goes" s_goes ["web", "thing"]) (B : Bare mg) (h_tie_of : Kp P w K mg base "tie_of" 1 ["one", "other"] (sp_tie_of K)) (h_is_number : Kp P w K mg base "is_number" 1 ["thing", "least", "below"] (sp_is_number K)) : Kp P w K mg base "goes" 2 ["web", "thing"] (sp_goes K) := by
  obtain ⟨f_tie_of, fd_tie_of, F_tie_of, g_tie_of, k_tie_of, b_tie_of⟩ := h_tie_of
  obtain ⟨f_is_number, fd_is_number, F_is_number, g_is_number, k_is_number, b_is_number⟩ := h_is_number
  refine D.kp sc_goes (spD_len (fun _ => rfl)) (fun f cdv A outer s H vs Q E hr h => ?_)
  refine ⟨_, (pss_cons (ps_if ((pw_or (pt_not (pt_val (pe_callB (r := rIsi K) call_isi (by rfl) B.isinstance (by decide +kernel) (pa_cons (pv 1) (pa_cons (pe_bltn (v := .ty "tuple") (by rfl) B.tuple (by decide +kernel) rfl) pa_nil))))) (pw_or (pt_cmpR (r := rEqD K) (op_eqD hr.units) (pv 1) (pe_tup pa_nil) (by rfl)) (pw_or1 (pt_not (pt_val (pe_callB (r := rAll K) (cr_all rfl) (by rfl) B.all (by decide +kernel) (pa_cons (pe_lc (own := [("one", 3)]) rfl sc_goes.nd (pi_tup (pv 1)) (blkOk_by (N := ["web", "thing", "k", "one"]) (sc := (defScope s_goes)) (by decide +kernel)) (fun _ _ _ _ _ => (pg_name (i := 3) sc_goes.nd (by rfl) (by first | exact Or.inl rfl | exact Or.inr rfl))) (fun _ _ _ _ _ => pts_nil) (fun _ _ _ _ _ => (pe_call F_is_number (hr.mono (by decide)) (by rfl) g_is_number k_is_number b_is_number .nil pass0 (pa_cons (pv 3) (pa_cons pe_int (pa_cons (pe_ix (r := rIx K) ix_seq (pv 0) pe_int (fun _ _ => rfl)) pa_nil)))))) pa_nil)))))))).pt
  (pss_one (ps_ret pe_bl))
  pss_nil)
  (pss_cons (ps_if (pt_cmpR op_ne (pe_lenSetT (by rfl) B.len (by rfl) B.set (pv 1)) (pe_callB (r := rLn K) cr_len (by rfl) B.len (by decide +kernel) (pa_cons (pv 1) pa_nil)) (by rfl))
  (pss_one (ps_ret pe_bl))
  pss_nil)
  (pss_one (ps_ret (pe_callB (r := rAll K) (cr_all rfl) (by rfl) B.all (by decide +kernel) (pa_cons (pe_lc (own := [("k", 2)]) rfl sc_goes.nd (pi_range1 (by rfl) B.range (pa_cons (pe_op op_sub (pe_callB (r := rLn K) cr_len (by rfl) B.len (by decide +kernel) (pa_cons (pv 1) pa_nil)) pe_int) pa_nil)) (blkOk_by (N := ["web", "thing", "k", "one"]) (sc := (defScope s_goes)) (by decide +kernel)) (fun _ _ _ _ _ => (pg_name (i := 2) sc_goes.nd (by rfl) (by first | exact Or.inl rfl | exact Or.inr rfl))) (fun _ _ _ _ _ => pts_nil) (fun _ _ _ _ _ => (pe_cmpR (r := rInT K) (op_inT hr.units) (pe_call F_tie_of (hr.mono (by decide)) (by rfl) g_tie_of k_tie_of b_tie_of .nil pass0 (pa_cons (pe_ix (r := rIx K) ix_seq (pv 1) (pv 2) (fun _ _ => rfl)) (pa_cons (pe_ix (r := rIx K) ix_seq (pv 1) (pe_op op_add (pv 2) pe_int) (fun _ _ => rfl)) pa_nil))) (pe_ix (r := rIx K) ix_seq (pv 0) pe_int (fun _ _ => rfl)) (by rfl)))) pa_nil)))))), ?_⟩
  obtain ⟨⟨⟨n, es⟩, ws⟩, hd, hg, q⟩ := h
  obtain ⟨h1, h2, h3, h4, h5⟩ := hg
  dsimp only at h1 h2 h3 h4 h5
  cases hd with | cons p1 hd => cases hd with | cons p2 hd =>
  cases hd
  rename_i t u
  have E0 : ∀ {H1 x y}, Ex H H1 → EvD K (tVar 0) [some t, some u, x, y] H1 (dWeb n es) := fun e => ed_var rfl (p1.up e)
  have E1 : ∀ {H1 x y}, Ex H H1 → EvD K (tVar 1) [some t, some u, x, y] H1 (dT ws) := fun e => ed_var rfl (p2.up e)
  refine sd_ifno (et_eq (et_or (et_not (et_B (ev_isTup (E1 (ex_r _))))) fun _ => et_or (et_test (eb_eqD (E1 (ex_r _)) (d2 := dT []) (ed_tup eda_nil (by simp)) (shaped_T _) (shaped_T _))) fun _ => et_not (et_B (ev_all1 (l := ws) (ed_lcT ws dI (fun _ => true) (fun _ => PyData.bool true) good_name (E1 (ex_r _)) (by omega) (fun _ => rfl) fun e x H3 he e3 hx => ⟨rfl, rfl, et_yes, fun _ => ed_bl (eb_eq (ev_isnum (ea3 (ei_of (ed_var rfl hx)) ev_c (ev_many (E0 e3) ev_c))) ?_)⟩)))) (by rw [eqv_T]; simp [h1])) fun H1 e1 => ?_
  · have := h3 e he
    simp only [Bool.and_eq_true, decide_eq_true_eq]
    omega
  dsimp only
  refine sd_ifno (et_eq (et_test (eb_neI (i := (ws.length : Int)) (j := (ws.length : Int)) ?_ (ei_eq (ev_lenT (E1 e1)) (by simp)))) (by simp)) fun H2 e2 => ?_
  · intro H2 e2 Q' q'
    refine ⟨u, rfl, ?_⟩
    obtain ⟨a, rfl, hs⟩ := dT_v (p2.up (e1.trans e2))
    refine ⟨a, ws.map fun n : Nat => (n : Int), rfl, by rw [List.map_map]; exact hs, ?_, by rw [List.length_map]; omega, by rw [List.length_map]; exact q' _ (ex_r _)⟩
    exact List.Pairwise.map _ (fun a b ne z => ne (by omega)) h2
  dsimp only
  refine sd_ret (K := K) (R := fun r => r = .bool true) (ed_bl (ev_all1 (ed_lcR (n := ws.length - 1) (fun _ => true) (fun _ => PyData.bool true) good_name (ea_cons (ei_op0 (ei_eq (ev_lenT (E1 (e1.trans e2))) (j := (ws.length : Int)) (by simp)) ev_c) ea_nil) (by omega) (by omega) (by omega) (fun _ => rfl) fun i H3 hi e3 => ⟨rfl, rfl, et_yes, fun _ => ed_bl ?_⟩))) fun v H4 r e4 hr hv => q v H4 r ((e1.trans e2).trans e4) hr hv
  have g1 : ws[i]? = some (ws[i]'(by omega)) := List.getElem?_eq_getElem _
  have g2 : ws[i + 1]? = some (ws[i + 1]'(by omega)) := List.getElem?_eq_getElem _
  have e5 := (e1.trans e2).trans e3
  refine eb_eq (eb_inE ((ed_call (ws[i]'(by omega), ws[i + 1]'(by omega)) (eda_cons (ep_ix (E1 e5) (ev_var rfl) (atI_n (by rw [List.getElem?_map, g1]; rfl))) (eda_cons (ep_ix (E1 e5) (ei_eq (ei_op0 (ev_var rfl) ev_c) (j := ((i + 1 : Nat) : Int)) (by simp)) (atI_n (by rw [List.getElem?_map, g2]; rfl))) eda_nil)) trivial)) (ed_ties (E0 e5) ev_c)) ?_
  rw [List.contains_iff_mem]
  exact h4 _ (G37.wayE_get ws i _ _ g1 g2)
abbrev s_parts_all : Stmt := top 26
theorem sc_parts_all : FnScope ["web", "thing", "places", "way"] ["web", "thing"] (defScope s_parts_all) := ⟨rfl, rfl, rfl, by decide +kernel, rfl, by decide +kernel, by decide +kernel⟩
theorem kp_parts_all (D : Df K mg "parts_all" s_parts_all ["web", "thing"]) (B : Bare mg) (h_goes : Kp P w K mg base "goes" 2 ["web", "thing"] (sp_goes K)) : Kp P w K mg base "parts_all" 3 ["web", "thing"] (sp_parts_all K) := by
  obtain ⟨f_goes, fd_goes, F_goes, g_goes, k_goes, b_goes⟩ := h_goes
  refine D.kp sc_parts_all (spD_len (fun _ => rfl)) (fun f cdv A outer s H vs Q E hr h => ?_)
  refine ⟨_, (pss_cons (ps_if ((pw_or (pt_not (pt_val (pe_callB (r := rIsi K) call_isi (by rfl) B.isinstance (by decide +kernel) (pa_cons (pv 1) (pa_cons (pe_bltn (v := .ty "tuple") (by rfl) B.tuple (by decide +kernel) rfl) pa_nil))))) (pw_or1 (pt_not (pt_val (pe_callB (r := rAll K) (cr_all rfl) (by rfl) B.all (by decide +kernel) (pa_cons (pe_lc (own := [("way", 3)]) rfl sc_parts_all.nd (pi_tup (pv 1)) (blkOk_by (N := ["web", "thing", "places", "way"]) (sc := (defScope s_parts_all)) (by decide +kernel)) (fun _ _ _ _ _ => (pg_name (i := 3) sc_parts_all.nd (by rfl) (by first | exact Or.inl rfl | exact Or.inr rfl))) (fun _ _ _ _ _ => pts_nil) (fun _ _ _ _ _ => (pe_call F_goes (hr.mono (by decide)) (by rfl) g_goes k_goes b_goes .nil pass0 (pa_cons (pv 0) (pa_cons (pv 3) pa_nil))))) pa_nil))))))).pt
  (pss_one (ps_ret pe_bl))
  pss_nil)
  (pss_cons (ps_set (i := 2) sc_parts_all.nd (by rfl) (by first | exact Or.inl rfl | exact Or.inr rfl) (pe_lst pa_nil))
  (pss_cons (ps_for PassesOwn.never rfl (pi_tup (pv 1)) (pg_name (i := 3) sc_parts_all.nd (by rfl) (by first | exact Or.inl rfl | exact Or.inr rfl))
  (pss_one (ps_expr (pe_bm (r := rExtT K) PySem.F.plainAttrs_list PySem.F.slot_list_extend PySem.F.type_list_extend mt_extT (pv 2) (pa_cons (pv 3) pa_nil)))))
  (pss_one (ps_ret (pe_cmpR (r := rEqD K) (op_eqD hr.units) (pe_callB (r := rSortN K) cr_sortN (by rfl) B.sorted (by decide +kernel) (pa_cons (pv 2) pa_nil)) (pe_listRg rfl (by rfl) B.list (prg_1 (by rfl) B.range (pe_ix (r := rIx K) ix_seq (pv 0) pe_int (fun _ _ => rfl)))) (by rfl))))))), ?_⟩
  obtain ⟨⟨⟨n, es⟩, ws⟩, hd, ⟨hn, hg, hp⟩, q⟩ := h
  dsimp only at hn hg hp
  cases hd with | cons p1 hd => cases hd with | cons p2 hd =>
  cases hd
  rename_i t u
  have E0 : ∀ {H1 x y}, Ex H H1 → EvD K (tVar 0) [some t, some u, x, y] H1 (dWeb n es) := fun e => ed_var rfl (p1.up e)
  have E1 : ∀ {H1 x y}, Ex H H1 → EvD K (tVar 1) [some t, some u, x, y] H1 (.tuple (ws.map dT)) := fun e => ed_var rfl (p2.up e)
  have hfl : ws.flatten.length = n := by rw [hp.length_eq]; simp
  have hwl : ws.length ≤ n := by
    rw [← hfl]
    exact ne_len fun w hw => (hg w hw).ne
  refine sd_ifno (et_eq (et_or (et_not (et_B (ev_isTup (E1 (ex_r _))))) fun _ => et_not (et_B (ev_all1 (l := ws) (ed_lcT ws dT (fun _ => true) (fun _ => PyData.bool true) good_name (E1 (ex_r _)) (by omega) (fun _ => rfl) fun e x H3 he e3 hx => ⟨rfl, rfl, et_yes, fun _ => (ed_call ((n, es), e) (eda_cons (E0 e3) (eda_cons (ed_var rfl hx) eda_nil)) (hg e he))⟩)))) (by simp)) fun H1 e1 => ?_
  dsimp only
  refine sd_new0 fun p hpn => ?_
  dsimp only
  refine sd_forT (K := K) ws dT noL_T (E1 (e1.trans (ex_new hpn))) (fun H2 i σ' H' => ∃ x, σ' = [some t, some u, some (.ref p), x] ∧ Ex H1 H' ∧ Tx K H2 H' ∧ H' p = some (.lst ((ws.take i).flatten.map vN))) (fun H2 e2 => ⟨none, rfl, (ex_new hpn).trans e2, Tx.refl _, e2 p _ upd_same⟩) (fun H2 i σ' H' _ pv => by obtain ⟨x, _, _, h, _⟩ := pv; exact h) (fun H2 i a x σ' H' e2 hi pv hx => ?_) (fun H2 σ' H' e2 pv => ?_)
  · obtain ⟨y, rfl, e3, tx, hpp⟩ := pv
    have hs : ws.take (i + 1) = ws.take i ++ [a] := by rw [List.take_succ, hi]; rfl
    have hlt : (ws.take i).flatten.length + a.length ≤ n := by rw [← hfl]; exact flat_take hi
    refine sd_extT (K := K) (xs := (ws.take i).flatten.map vN) (ds := dNs a) (ev_var rfl) hpp (ed_var rfl hx) (by simp only [List.length_map]; omega) fun vs' H4 e4 hd4 hp4 => ?_
    dsimp only
    refine ⟨_, rfl, ex_mut (e3.trans e4) hpn, (tx.trans (tx_ex e4)).trans (tx_upd hp4), ?_⟩
    rw [upd_same, all_ints hd4, hs]
    simp
  · obtain ⟨y, rfl, e3, tx, hpp⟩ := pv
    rw [List.take_length] at hpp
    dsimp only
    refine sd_ret (K := K) (R := fun r => r = .bool true) (ed_bl (eb_eq (eb_eqD (ed_sortN (ed_var rfl (v_dL (sq_of hpp)))) (ed_lstRg (ev_many (E0 (e1.trans e3)) ev_c) (by omega)) (shaped_L _) (shaped_L _)) ?_)) fun v H4 r e4 hr hv => q v H4 r ((e1.trans e3).trans e4) hr hv
    rw [eqv_L, decide_eq_true_eq]
    exact List.Perm.eq_of_pairwise (fun a b _ _ x y => Nat.le_antisymm x y) (sortN_le _) (List.pairwise_lt_range.imp fun h => Nat.le_of_lt h) ((sortN_perm _).trans hp)
abbrev s_plain_form : Stmt := top 27
theorem sc_plain_form : FnScope ["parting", "way"] ["parting"] (defScope s_plain_form) := ⟨rfl, rfl, rfl, by decide +kernel, rfl, by decide +kernel, by decide +kernel⟩
theorem kp_plain_form (D : Df K mg "plain_form" s_plain_form ["parting"]) (B : Bare mg) (h_lesser : Kp P w K mg base "lesser" 1 ["way"] (sp_lesser K)) : Kp P w K mg base "plain_form" 2 ["parting"] (sp_plain_form K) := by
  obtain ⟨f_lesser, fd_lesser, F_lesser, g_lesser, k_lesser, b_lesser⟩ := h_lesser
  refine D.kp sc_plain_form (spD_len (fun _ => rfl)) (fun f cdv A outer s H vs Q E hr h => ?_)
  refine ⟨_, (pss_one (ps_ret (pe_callTy (r := rTupOf K) cr_tupOf (by rfl) B.tuple (by decide +kernel) (pa_cons (pe_callB (r := rSortD K) (cr_sortD hr.units) (by rfl) B.sorted (by decide +kernel) (pa_cons (pe_lc (own := [("way", 1)]) rfl sc_plain_form.nd (pi_list (pv 0)) (blkOk_by (N := ["parting", "way"]) (sc := (defScope s_plain_form)) (by decide +kernel)) (fun _ _ _ _ _ => (pg_name (i := 1) sc_plain_form.nd (by rfl) (by first | exact Or.inl rfl | exact Or.inr rfl))) (fun _ _ _ _ _ => pts_nil) (fun _ _ _ _ _ => (pe_call F_lesser (hr.mono (by decide)) (by rfl) g_lesser k_lesser b_lesser .nil pass0 (pa_cons (pv 1) pa_nil)))) pa_nil)) pa_nil)))), ?_⟩
  obtain ⟨ws, hd, ⟨hne, hl⟩, q⟩ := h
  cases hd with | cons p1 hd =>
  cases hd
  refine sd_ret (K := K) (ep_tupOf (R := fun r => ∃ Q : List (List Nat), Q.Perm (ws.map lesserN) ∧ r = .tuple (Q.map dT)) (ep_sortD (ws.map lesserN) dT ((ed_lcL ws dT (fun _ => true) (fun w => dT (lesserN w)) good_name (ed_var rfl p1) (by omega) (fun _ => noL_T _) fun e x H3 he e3 hx => ⟨rfl, rfl, et_yes, fun _ => (ed_call e (eda_cons (ed_var rfl hx) eda_nil) trivial)⟩).imp fun d h => ?_) (fun a _ b _ => alike_ints a b) (fun a ha => ?_) (fun a _ => by rw [depth_T]; decide)) fun d h => ?_) fun v H1 r e hr hv => q v H1 r e hr hv
  · rw [h, List.filter_eq_self.mpr (by simp), List.map_map]; rfl
  · obtain ⟨b, hb, rfl⟩ := List.mem_map.mp ha
    have : lesserN b ≠ [] := by
      rcases lesserN_or b with h | h <;> rw [h]
      · exact hne b hb
      · simpa using hne b hb
    cases hh : lesserN b with
    | nil => exact absurd hh this
    | cons x r => exact ⟨dI x, dNs r, rfl⟩
  · obtain ⟨ws', h1, _, rfl⟩ := h
    exact ⟨_, rfl, ws', h1, rfl⟩
end
end W37
/-! joined_by -/
namespace W37
open PySem PySem.Spec PyProof.Rows L2
open Evl (Ex Ev EvT EvA EvL et_test et_B et_and et_or et_not ev_var ev_c ea_nil ea_cons ev_andV ev_orV ev_notV s_if)
open G37 (Ed nb tie ltE Web)
theorem nodup_lt_len {l : List Nat} {n : Nat} (nd : l.Nodup) (h : ∀ x ∈ l, x < n) : l.length ≤ n := by
  have := List.Nodup.length_le_of_subset (l₁ := l) (l₂ := List.range n) nd (fun x hx => List.mem_range.mpr (h x hx))
  simpa using this
section
variable {P : Program} {w : World} {K : PySem.W.Frag} {mg : Str → Option Value} {base : Heap}
abbrev s_joined_by : Stmt := top 28
theorem sc_joined_by : FnScope ["many", "ties", "beside", "found", "seen", "place", "way", "more", "some", "other"] ["many", "ties"] (defScope s_joined_by) := ⟨rfl, rfl, rfl, by decide +kernel, rfl, by decide +kernel, by decide +kernel⟩
theorem kp_joined_by (D : Df K mg "joined_by" s_joined_by ["many", "ties"]) (B : Bare mg) (h_near : Kp P w K mg base "near" 1 ["web"] (sp_near K)) (h_plain_form : Kp P w K mg base "plain_form" 2 ["parting"] (sp_plain_form K)) : Kp P w K mg base "joined_by" 3 ["many", "ties"] (sp_joined_by K) := by
  obtain ⟨f_near, fd_near, F_near, g_near, k_near, b_near⟩ := h_near
  obtain ⟨f_plain_form, fd_plain_form, F_plain_form, g_plain_form, k_plain_form, b_plain_form⟩ := h_plain_form
  refine D.kp sc_joined_by (spD_len (fun _ => rfl)) (fun f cdv A outer s H vs Q E hr h => ?_)
  refine ⟨_, (pss_cons (ps_set (i := 2) sc_joined_by.nd (by rfl) (by first | exact Or.inl rfl | exact Or.inr rfl) (pe_call F_near (hr.mono (by decide)) (by rfl) g_near k_near b_near .nil pass0 (pa_cons (pe_tup (pa_cons (pv 0) (pa_cons (pv 1) pa_nil))) pa_nil)))
  (pss_cons (ps_if (pt_cmpR op_gt (pe_callB (r := rMax K) (cr_max rfl) (by rfl) B.max (by decide +kernel) (pa_cons (pe_op op_cat (pe_lst (pa_cons pe_int pa_nil)) (pe_lc (own := [("some", 8)]) rfl sc_joined_by.nd (pi_list (pv 2)) (blkOk_by (N := ["many", "ties", "beside", "found", "seen", "place", "way", "more", "some", "other"]) (sc := (defScope s_joined_by)) (by decide +kernel)) (fun _ _ _ _ _ => (pg_name (i := 8) sc_joined_by.nd (by rfl) (by first | exact Or.inl rfl | exact Or.inr rfl))) (fun _ _ _ _ _ => pts_nil) (fun _ _ _ _ _ => (pe_callB (r := rLn K) cr_len (by rfl) B.len (by decide +kernel) (pa_cons (pv 8) pa_nil))))) pa_nil)) pe_int (by rfl))
  (pss_one (ps_ret pe_non))
  pss_nil)
  (pss_cons (ps_set (i := 3) sc_joined_by.nd (by rfl) (by first | exact Or.inl rfl | exact Or.inr rfl) (pe_lst pa_nil))
  (pss_cons (ps_set (i := 4) sc_joined_by.nd (by rfl) (by first | exact Or.inl rfl | exact Or.inr rfl) (pe_lst pa_nil))
  (pss_cons (ps_for PassesOwn.never rfl (pi_range1 (by rfl) B.range (pa_cons (pv 0) pa_nil)) (pg_name (i := 5) sc_joined_by.nd (by rfl) (by first | exact Or.inl rfl | exact Or.inr rfl))
  (pss_one (ps_if ((pw_and (pt_cmpR (r := rIn K true) op_notIn_seq (pv 5) (pv 4) (by rfl)) (pw_and1 (pt_cmpR op_lt (pe_callB (r := rLn K) cr_len (by rfl) B.len (by decide +kernel) (pa_cons (pe_ix (r := rIx K) ix_seq (pv 2) (pv 5) (fun _ _ => rfl)) pa_nil)) pe_int (by rfl))))).pt
  (pss_cons (ps_set (i := 6) sc_joined_by.nd (by rfl) (by first | exact Or.inl rfl | exact Or.inr rfl) (pe_lst (pa_cons (pv 5) pa_nil)))
  (pss_cons (ps_set (i := 7) sc_joined_by.nd (by rfl) (by first | exact Or.inl rfl | exact Or.inr rfl) (pe_ix (r := rIx K) ix_seq (pv 2) (pv 5) (fun _ _ => rfl)))
  (pss_cons (ps_while PassesOwn.never (pt_cmpR (r := rNeD K) (op_neD hr.units) (pv 7) (pe_lst pa_nil) (by rfl))
  (pss_cons (ps_expr (pe_bm PySem.F.plainAttrs_list PySem.F.slot_list_append PySem.F.type_list_append mt_append (pv 6) (pa_cons (pe_ix (r := rIx K) ix_seq (pv 7) pe_int (fun _ _ => rfl)) pa_nil)))
  (pss_one (ps_setLc (i := 7) rfl sc_joined_by.nd (by rfl) (by rfl) (by rfl) (pi_list (pe_ix (r := rIx K) ix_seq (pv 2) (pe_ix (r := rIx K) ix_seq (pv 6) (pe_un un_neg pe_int) (fun _ _ => rfl)) (fun _ _ => rfl))) (own := [("other", 9)]) (blkOk_by (N := ["many", "ties", "beside", "found", "seen", "place", "way", "more", "some", "other"]) (sc := (defScope s_joined_by)) (by decide +kernel)) (fun _ _ _ _ _ => (pg_name (i := 9) sc_joined_by.nd (by rfl) (by first | exact Or.inl rfl | exact Or.inr rfl))) (fun _ _ _ _ _ => pts_one (pt_cmpR op_ne (pv 9) (pe_ix (r := rIx K) ix_seq (pv 6) (pe_un un_neg pe_int) (fun _ _ => rfl)) (by rfl))) (fun _ _ _ _ _ => (pv 9))))))
  (pss_cons (ps_expr (pe_bm PySem.F.plainAttrs_list PySem.F.slot_list_append PySem.F.type_list_append mt_append (pv 3) (pa_cons (pe_callTy (r := rTupOf K) cr_tupOf (by rfl) B.tuple (by decide +kernel) (pa_cons (pv 6) pa_nil)) pa_nil)))
  (pss_one (ps_expr (pe_bm (r := rExtL K) PySem.F.plainAttrs_list PySem.F.slot_list_extend PySem.F.type_list_extend mt_extL (pv 4) (pa_cons (pv 6) pa_nil))))))))
  pss_nil)))
  (pss_cons (ps_if (pt_cmpR op_ne (pe_callB (r := rLn K) cr_len (by rfl) B.len (by decide +kernel) (pa_cons (pv 4) pa_nil)) (pv 0) (by rfl))
  (pss_one (ps_ret pe_non))
  pss_nil)
  (pss_one (ps_ret (pe_call F_plain_form (hr.mono (by decide)) (by rfl) g_plain_form k_plain_form b_plain_form .nil pass0 (pa_cons (pv 3) pa_nil)))))))))), ?_⟩
  obtain ⟨⟨n, T⟩, hd, ⟨hn, hf, hd2⟩, q⟩ := h
  dsimp only at hn hf hd2
  cases hd with | cons p1 hd => cases hd with | cons p2 hd =>
  cases hd
  have v0 := p1.int_v
  subst v0
  rename_i t
  refine sd_asg (K := K) (ed_call (n, T) (eda_cons (ed_tup (eda_cons (ed_var rfl p1) (eda_cons (ed_var rfl p2) eda_nil)) (by simp)) eda_nil) ⟨by dsimp only; omega, hf⟩) fun v B r e1 hr hv => ?_
  have hb : Dp K B v (dBesN n T) := by rw [hr] at hv; exact hv
  clear hr hv
  dsimp only
  have EB : ∀ {H1 a b c d e f g}, Ex B H1 → EvD K (tVar 2) [some (vN n), some t, some v, a, b, c, d, e, f, g] H1 (dBesN n T) := fun e => ed_var rfl (hb.up e)
  have hX := ex_cat (K := K) (H := B) (σ := [some (vN n), some t, some v, none, none, none, none, none, none, none]) (ex_lst (K := K) (eda_cons (ed_int (i := 0) ev_c) eda_nil) (by simp)) (ex_lcL (K := K) (te := tCB (rLn K) (tCons (tVar 8) tNil)) (tt := tYes) (vs := [8]) (tl := tVar 2) (g := gName 8) ((List.range n).map (nb n T)) dL (fun _ => true) (fun l => dI l.length) good_name (EB (ex_r _)) (by simp; omega) (fun _ => rfl) fun a x H3 ha e3 hx => ⟨rfl, rfl, et_yes, fun _ => ed_int (ei_eq (ev_lenL (ds := dNs a) (ed_var rfl hx)) (by simp))⟩) (by
    have := List.length_filter_le (fun _ : List Nat => true) ((List.range n).map (nb n T))
    simp only [List.length_map, List.length_range, List.length_cons, List.length_nil] at this ⊢; omega)
  have hX2 : EvD K _ _ B (dL (0 :: ((List.range n).map (nb n T)).map List.length)) := hX.ed.imp fun d h => by
    rw [h, List.filter_eq_self.mpr (by simp)]
    simp only [List.map_cons, List.map_map, List.cons_append, List.nil_append, dL, dNs, Function.comp_def]
    rfl
  refine sd_ifno (et_max (K := K) (m := 2) hX2 (by simp) (fun y hy => ?_) ev_c) fun B2 e2 => ?_
  · rcases List.mem_cons.mp hy with h | h
    · omega
    · obtain ⟨l, hl, rfl⟩ := List.mem_map.mp h
      obtain ⟨x, hx, rfl⟩ := List.mem_map.mp hl
      exact hd2 x (List.mem_range.mp hx)
  dsimp only
  refine sd_new0 fun pf hpf => ?_
  dsimp only
  refine sd_new0 fun ps hps => ?_
  dsimp only
  have hsp : ps ≠ pf := fun z => by rw [z, upd_same] at hps; cases hps
  have hsB : B2 ps = none := by rw [upd_ne hsp] at hps; exact hps
  refine Evl.s_forR1 (n := (n : Int)) (ea_cons (ev_var rfl) ea_nil) ⟨by omega, by omega⟩ (fun i (σ' : L2.St) H' => ∃ x y z xs P, σ' = [some (vN n), some t, some v, some (.ref pf), some (.ref ps), x, y, z, none, none] ∧ Ex B2 H' ∧ H' pf = some (.lst xs) ∧ DpAll K H' xs (P.map dT) ∧ H' ps = some (.lst (P.flatten.map vN)) ∧ G37.JP n T i P)
    (fun H1 e => ⟨none, none, none, [], [], rfl, ((ex_new hpf).trans (ex_new hps)).trans e, e pf _ (by rw [upd_ne (Ne.symm hsp), upd_same]), .nil, e ps _ upd_same, G37.JP.start n T⟩) (fun i σ' H' hi pv => ?_) fun σ' H' pv => ?_
  · obtain ⟨x, y, z, xs, P, rfl, e3, hpx, hda, hsx, jp⟩ := pv
    have hi : i < n := by omega
    have hPl : P.flatten.length ≤ n := nodup_lt_len jp.nd fun x hx => by
      obtain ⟨w, hw, hx⟩ := List.mem_flatten.mp hx
      exact (jp.pw w hw).lt x hx
    have hPn : P.length ≤ n := Nat.le_trans (ne_len fun w hw => (jp.pw w hw).ne) hPl
    have hlx := hda.len
    rw [List.length_map] at hlx
    have T1 : EvT _ [some (vN n), some t, some v, some (.ref pf), some (.ref ps), some (.int (i : Int)), y, z, none, none] H' _ := et_and (et_test (eb_inL (K := K) (H := H') (neg := true) (n := i) (ns := P.flatten) (ta := tVar 5) (tb := tVar 4) (ev_var rfl) (ed_var rfl (v_dL (sq_of hsx))))) fun _ => et_test (eb_op0 (g := fun i j => decide (i < j)) (i := ((nb n T i).length : Int)) (ei_eq (ev_lenL (ep_ixL (EB (e2.trans e3)) (ev_var (i := 5) rfl) (besN_at hi))) (by simp)) (ev_c (v := .int 2)))
    by_cases c : i ∉ P.flatten ∧ (nb n T i).length < 2
    · refine sd_ifyes (et_eq T1 ?_) fun H3 e4 => ?_
      · rw [if_pos rfl, decide_eq_false c.1, decide_eq_true (by have := c.2; omega : ((nb n T i).length : Int) < 2)]; rfl
      refine sd_new1 (ev_var rfl) fun pw H4 e5 hpw => ?_
      dsimp only
      have e6 := e4.trans e5
      have hwB : B2 pw = none := ex_free (e3.trans e6) hpw
      have hwpf : pw ≠ pf := fun z => by rw [z, e6 pf _ hpx] at hpw; cases hpw
      have hwps : pw ≠ ps := fun z => by rw [z, e6 ps _ hsx] at hpw; cases hpw
      have e7 : Ex H4 (upd H4 pw (.lst [vN i])) := ex_new hpw
      refine sd_asg (K := K) (ep_ixL (EB (e2.trans ((e3.trans e6).trans e7))) (ev_var rfl) (besN_at hi)) fun v7 H5 r7 e8 hr7 hv7 => ?_
      dsimp only
      have e9 := (e6.trans e7).trans e8
      refine sd_while (fun m (σ' : L2.St) H6 => ∃ w v7, m = n - w.length ∧ σ' = [some (vN n), some t, some v, some (.ref pf), some (.ref ps), some (.int (i : Int)), some (.ref pw), some v7, none, none] ∧ Ex B2 H6 ∧ H6 pf = some (.lst xs) ∧ Tx K H' H6 ∧ H6 ps = some (.lst (P.flatten.map vN)) ∧ H6 pw = some (.lst (w.map vN)) ∧ Dp K H6 v7 (dL (G37.more n T w)) ∧ G37.PWay n T w ∧ w[0]? = some i)
        ⟨_, [i], v7, rfl, rfl, e3.trans e9, e9 pf _ hpx, tx_ex e9, e9 ps _ hsx, e8 pw _ upd_same, by rw [hr7] at hv7; exact hv7, ⟨by simp, by simpa using hi, by simp [G37.wayE], by intro x hx; simp at hx; rw [← hx]; exact c.2, by simp⟩, rfl⟩ (fun m σ' H6 pv => ?_)
      obtain ⟨w, u7, rfl, rfl, f1, f2, f3, f4, f5, f6, f7, f8⟩ := pv
      have hwl := f7.len
      refine ⟨_, et_test (eb_neD (K := K) (ed_var rfl f6) (d2 := dL []) (ed_lst eda_nil (by simp)) (shaped_L _) (shaped_L _)), fun cc H7 g1 => ?_, fun cc H7 g1 => ?_⟩
      · have hne : G37.more n T w ≠ [] := by
          rw [eqv_L] at cc; simpa using cc
        obtain ⟨y, rest, hm⟩ : ∃ y rest, G37.more n T w = y :: rest := by
          cases hh : G37.more n T w with
          | nil => exact absurd hh hne
          | cons y rest => exact ⟨y, rest, rfl⟩
        have hy : y ∈ G37.more n T w := by rw [hm]; simp
        have pw2 := f7.step hf hy
        have hyn : y < n := pw2.lt y (by simp)
        have hwl2 := pw2.len
        refine sd_app (K := K) (R := fun r => r = dI y) (ev_var rfl) (g1 pw _ f5) (ep_ixL (ed_var rfl (f6.up g1)) ev_c (by rw [hm]; exact atI_n (k := 0) rfl)) (by rw [List.length_map]; omega) fun vy H8 ry g2 hry hvy hp8 => ?_
        subst hry
        have hvy := hvy.int_v
        subst hvy
        dsimp only
        have g3 : Ex B2 (upd H8 pw (.lst (w.map vN ++ [vN y]))) := ex_mut ((f1.trans g1).trans g2) hwB
        have hwl3 : upd H8 pw (.lst (w.map vN ++ [vN y])) pw = some (.lst ((w ++ [y]).map vN)) := by rw [upd_same, List.map_append]; rfl
        obtain ⟨w', pp, hw'⟩ : ∃ w' pp, w = w' ++ [pp] := ⟨w.dropLast, w.getLast f7.ne, (List.dropLast_concat_getLast f7.ne).symm⟩
        have EW : ∀ {H9 a b c}, Ex (upd H8 pw (.lst (w.map vN ++ [vN y]))) H9 → EvD K (tVar 6) [some (vN n), some t, some v, some (.ref pf), some (.ref ps), some (.int (i : Int)), some (.ref pw), a, b, c] H9 (dL (w ++ [y])) := fun e => ed_var rfl (v_dL (sq_of (e pw _ hwl3)))
        have at1 : atI (dNs (w ++ [y])) (-1) = some (dI y) := by
          show atI ((w ++ [y]).map dI) (-1) = _
          rw [List.map_append]; exact atI_last _ _
        have at2 : atI (dNs (w ++ [y])) (-2) = some (dI pp) := by
          subst hw'
          show atI ((w' ++ [pp] ++ [y]).map dI) (-2) = _
          unfold atI ixN
          rw [if_neg (by omega), if_pos (by simp; omega)]
          have : ((-2 : Int) + (((w' ++ [pp] ++ [y]).map dI).length : Nat)).toNat = w'.length := by simp; omega
          rw [this]
          simp
        refine sd_asg (K := K) (ed_lcL (nb n T y) dI (fun z => decide (z ≠ pp)) dI good_name (ep_ixL (EB (e2.trans g3)) (ei_of (ep_ixL (EW (ex_r _)) (ev_neg ev_c) at1)) (besN_at hyn)) (by have := nb_len n T y; omega) (fun _ => rfl) fun a x H9 ha e9 hx => ⟨rfl, rfl, et_eq (et_test (eb_neI (ei_of (ed_var rfl hx)) (ei_of (ep_ixL (EW e9) (ev_neg ev_c) at2)))) ?_, fun _ => ed_var rfl hx⟩) fun v9 H9 r9 g4 hr9 hv9 => ?_
        · rw [Bool.eq_iff_iff]; simp; omega
        dsimp only
        refine ⟨n - (w ++ [y]).length, by simp at hwl2 ⊢; omega, w ++ [y], v9, rfl, rfl, g3.trans g4, ?_, ?_, ?_, g4 pw _ hwl3, ?_, pw2, ?_⟩
        · exact g4 pf _ (by rw [upd_ne (Ne.symm hwpf)]; exact g2 pf _ (g1 pf _ f2))
        · exact (f3.trans (tx_ex (g1.trans g2))).trans ((tx_upd hp8).trans (tx_ex g4))
        · exact g4 ps _ (by rw [upd_ne (Ne.symm hwps)]; exact g2 ps _ (g1 ps _ f4))
        · rw [hr9] at hv9
          rw [hw', G37.more_two]
          exact hv9
        · rw [List.getElem?_append_left (by have := List.length_pos_iff.mpr f7.ne; omega)]; exact f8
      · have hmn : G37.more n T w = [] := by
          rw [eqv_L] at cc; simpa using cc
        dsimp only
        refine sd_app (K := K) (R := fun r => r = dT w) (ev_var rfl) (g1 pf _ f2) (ep_tupOf (ed_var rfl (v_dL (sq_of (g1 pw _ f5)))) fun d h => ⟨_, h, rfl⟩) (by omega) fun vt H8 rt g2 hrt hvt hp8 => ?_
        subst hrt
        dsimp only
        have tx8 : Tx K H8 (upd H8 pf (.lst (xs ++ [vt]))) := tx_upd hp8
        have g3 : Ex B2 (upd H8 pf (.lst (xs ++ [vt]))) := ex_mut ((f1.trans g1).trans g2) hpf
        refine sd_extL (K := K) (xs := P.flatten.map vN) (ds := dNs w) (ev_var rfl) (by rw [upd_ne hsp]; exact g2 ps _ (g1 ps _ f4)) (ed_var rfl (v_dL (sq_of (by rw [upd_ne hwpf]; exact g2 pw _ (g1 pw _ f5))))) (by simp only [List.length_map]; omega) fun vs' H9 g4 hd9 hp9 => ?_
        dsimp only
        have hvs := all_ints hd9
        have hTx : Tx K H8 (upd H9 ps (.lst (P.flatten.map vN ++ vs'))) := tx8.trans ((tx_ex g4).trans (tx_upd hp9))
        refine ⟨_, _, _, xs ++ [vt], P ++ [w], rfl, ex_mut (g3.trans g4) hsB, by rw [upd_ne (Ne.symm hsp)]; exact g4 pf _ upd_same, ?_, ?_, G37.JP.add hf hd2 jp f7 f8 c.1 hmn⟩
        · rw [List.map_append]
          exact DpAll.app (dps_tx ((f3.trans (tx_ex (g1.trans g2))).trans hTx) (noLs_map noL_T _) hda) (.one (dp_tx hTx (noL_T _) hvt))
        · rw [upd_same, hvs]; simp
    · refine sd_ifno (et_eq T1 ?_) fun H3 e4 => ?_
      · rw [if_pos rfl, Bool.eq_false_iff]
        intro z
        simp only [Bool.and_eq_true, Bool.not_eq_true', decide_eq_false_iff_not, decide_eq_true_eq] at z
        exact c ⟨z.1, by have := z.2; omega⟩
      dsimp only
      refine ⟨_, _, _, xs, P, rfl, e3.trans e4, e4 pf _ hpx, hda.up e4, e4 ps _ hsx, jp.skip ?_⟩
      by_cases c1 : i ∈ P.flatten
      · exact .inl c1
      · exact .inr fun z => c ⟨c1, z⟩
  · obtain ⟨x, y, z, xs, P, rfl, e3, hpx, hda, hsx, jp⟩ := pv
    rw [show (n : Int).toNat = n from by omega] at jp
    have hdn := jp.done hf
    have hPl : P.flatten.length = n := by rw [hdn.1.length_eq]; simp
    dsimp only
    refine sd_ifno (et_eq (et_test (eb_neI (ei_eq (ev_lenL (K := K) (ds := dNs P.flatten) (ed_var rfl (v_dL (sq_of hsx)))) (j := (n : Int)) (by rw [List.length_map, hPl])) (ev_var rfl))) (by simp)) fun H3 e4 => ?_
    dsimp only
    refine sd_ret (K := K) (ed_call P (eda_cons (ed_var rfl (.lst (sq_of (e4 pf _ hpx)) (hda.up e4))) eda_nil) ⟨fun w hw => (jp.pw w hw).ne, by have := ne_len fun w hw => (jp.pw w hw).ne; omega⟩) fun v9 H9 r9 e9 hr9 hv9 => q v9 H9 r9 ((((e1.trans e2).trans e3).trans e4).trans e9) ?_ hv9
    obtain ⟨Q', hQ, hQr⟩ := hr9
    refine ⟨Q', hf.prt (Z := P.map fun w => (w, lesserN w)) (by rw [List.map_map]; simpa [Function.comp_def] using jp) (by rw [List.map_map]; exact hQ) (fun z hz => ?_), hQr⟩
    obtain ⟨w, _, rfl⟩ := List.mem_map.mp hz
    exact lesserN_or w
end
end W37
/-! loops over new lists while other lists grow; tables in dicts -/
namespace W37
open PySem PySem.Spec PyProof.Rows L2
open Evl (Ex Ev EvT EvA EvL)
open G37 (Ed RE)
/-- without the places that change -/
def delS (H : Hp) (M : List Addr) : Hp := fun a => if a ∈ M then none else H a
theorem delS_ex (H : Hp) (M : List Addr) : Ex (delS H M) H := fun a o h => by
  simp only [delS] at h
  split at h
  · cases h
  · exact h
theorem delS_none {H : Hp} {M : List Addr} {a : Addr} (h : a ∈ M) : delS H M a = none := by simp [delS, h]
theorem delS_ne {H : Hp} {M : List Addr} {a : Addr} (h : a ∉ M) : delS H M a = H a := by simp [delS, h]
/-- lists without items, and dicts -/
def Blank (H : Hp) (M : List Addr) : Prop := ∀ l ∈ M, H l = some (.lst []) ∨ ∃ kvs, H l = some (.dK kvs)
theorem Blank.up {H H' : Hp} {M : List Addr} (h : Blank H M) (e : Ex H H') : Blank H' M := fun l hl => by
  rcases h l hl with h | ⟨kvs, h⟩
  · exact .inl (e l _ h)
  · exact .inr ⟨kvs, e l _ h⟩
section
variable {K : PySem.W.Frag} {H : Hp} {M : List Addr}
theorem sq_delS (hM : Blank H M) {a : Addr} {xs : List V} (ne : xs ≠ []) (h : SqL K H a xs) : SqL K (delS H M) a xs := by
  rcases h with (h | ⟨o, h⟩) | h
  · refine .inl (.inl ?_)
    rw [delS_ne fun m => ?_]
    · exact h
    · rcases hM a m with q | ⟨kvs, q⟩ <;> rw [h] at q <;> cases q
      exact ne rfl
  · refine .inl (.inr ⟨o, ?_⟩)
    rw [delS_ne fun m => ?_]
    · exact h
    · rcases hM a m with q | ⟨kvs, q⟩ <;> rw [h] at q <;> cases q
  · exact .inr h
theorem tx_delS (hM : Blank H M) : Tx K H (delS H M) := fun a xs h => by
  rcases h with (h | ⟨o, h⟩) | h
  · refine .inl (.inl ?_)
    rw [delS_ne fun m => ?_]
    · exact h
    · rcases hM a m with q | ⟨kvs, q⟩ <;> rw [h] at q <;> cases q
  · refine .inl (.inr ⟨o, ?_⟩)
    rw [delS_ne fun m => ?_]
    · exact h
    · rcases hM a m with q | ⟨kvs, q⟩ <;> rw [h] at q <;> cases q
  · exact .inr h
end
section
variable {K : PySem.W.Frag} {σ : L2.St} {H H' : Hp} {ta tb tc te tl : TE} {R R' : PyData → Prop} {d d1 d2 : PyData} {v x : V} {D : Ends} {tu tw : TS}
theorem loop_data {α : Type} {l : List α} {enc : α → PyData} {xs : List V} {H1 : Hp} {M : List Addr} (hM : Blank H1 M) (hno : ∀ a, noL (enc a) = true) (hda : DpAll K H1 xs (l.map enc)) {i : Nat} {x : V} (hx : xs[i]? = some x) : ∃ a, l[i]? = some a ∧ Dp K (delS H1 M) x (enc a) := by
  obtain ⟨d', hd1, hd2⟩ := hda.get hx
  rw [List.getElem?_map] at hd1
  obtain ⟨b, hb, rfl⟩ := Option.map_eq_some_iff.mp hd1
  exact ⟨b, hb, dp_tx (tx_delS hM) (hno b) hd2⟩
/-- for .. in a new list -/
theorem sd_forLM {α : Type} (l : List α) (enc : α → PyData) (M : List Addr) {g : TG} (hM : Blank H M) (hno : ∀ a, noL (enc a) = true) (h : EvD K tl σ H (.list (l.map enc))) (Pv : Hp → Nat → L2.St → Hp → Prop) (h0 : ∀ H1, Ex H H1 → Pv (delS H1 M) 0 σ H1) (ht : ∀ B i σ' H', Pv B i σ' H' → Ex B H')
    (hs : ∀ H1 i a x σ' H', Ex H H1 → l[i]? = some a → Pv (delS H1 M) i σ' H' → Dp K H' x (enc a) → g x σ' H' fun σ2 H2 => tu { D with nx := Pv (delS H1 M) (i + 1), ct := Pv (delS H1 M) (i + 1), bk := D.nx } σ2 H2) (hd : ∀ H1 σ' H', Ex H H1 → Pv (delS H1 M) l.length σ' H' → D.nx σ' H') :
    tFor (iList K tl) g tu D σ H := h H (Ex.refl H) _ fun v H1 d e r p => by
  subst r
  obtain ⟨a, xs, rfl, hx, hda⟩ := p.lst_v
  have hl : xs.length = l.length := by rw [hda.len, List.length_map]
  refine ⟨a, rfl, ⟨xs, hx⟩, ?_⟩
  by_cases c : xs = []
  · have hl0 : l.length = 0 := by rw [← hl, c]; rfl
    refine for_list (xs := xs) (fun i σ' H' => σ' = σ ∧ H' = H1) ⟨rfl, rfl⟩ (fun i σ' H' _ pv => by rw [pv.2]; exact hx) (fun i x σ' H' hi pv => by rw [c] at hi; simp at hi) (fun σ' H' pv => ?_)
    obtain ⟨rfl, rfl⟩ := pv
    exact hd H' _ _ e (by rw [hl0]; exact h0 H' e)
  · have hq := sq_delS (hM.up e) c hx
    refine for_list (xs := xs) (Pv (delS H1 M)) (h0 H1 e) (fun i σ' H' _ pv => sqL_up (ht _ i σ' H' pv) hq) (fun i x σ' H' hi pv => ?_) (fun σ' H' pv => hd H1 σ' H' e (by rw [← hl]; exact pv))
    obtain ⟨b, hb, hb2⟩ := loop_data (hM.up e) hno hda hi
    exact hs H1 i b x σ' H' e hb pv (hb2.up (ht _ i σ' H' pv))
/-- for .. in reversed(a new list) -/
theorem sd_forRM {α : Type} (enc : α → PyData) (M : List Addr) {g : TG} {S : List α → Prop} (hM : Blank H M) (hno : ∀ a, noL (enc a) = true) (h : EvP K tl σ H (fun r => ∃ l : List α, S l ∧ r = .list (l.map enc))) (Pv : Hp → List α → Nat → L2.St → Hp → Prop) (h0 : ∀ H1 l, Ex H H1 → S l → Pv (delS H1 M) l 0 σ H1) (ht : ∀ B l i σ' H', Pv B l i σ' H' → Ex B H')
    (hs : ∀ H1 l i a x σ' H', Ex H H1 → S l → l.reverse[i]? = some a → Pv (delS H1 M) l i σ' H' → Dp K H' x (enc a) → g x σ' H' fun σ2 H2 => tu { D with nx := Pv (delS H1 M) l (i + 1), ct := Pv (delS H1 M) l (i + 1), bk := D.nx } σ2 H2) (hd : ∀ H1 l σ' H', Ex H H1 → S l → Pv (delS H1 M) l l.length σ' H' → D.nx σ' H') :
    tFor (iRev K (tCons tl tNil)) g tu D σ H := h H (Ex.refl H) _ fun v H1 d e r p => by
  obtain ⟨l, hS, rfl⟩ := r
  obtain ⟨a, xs, rfl, hx, hda⟩ := p.lst_v
  have hl : xs.length = l.length := by rw [hda.len, List.length_map]
  refine ⟨a, xs, rfl, hx, ?_⟩
  have w := walk_rev (K := K) (a := a) (xs := xs)
  by_cases c : xs = []
  · have hl0 : l.length = 0 := by rw [← hl, c]; rfl
    refine for_it w (fun i σ' H' => σ' = σ ∧ H' = H1) ⟨rfl, rfl⟩ (fun i σ' H' _ pv => by rw [pv.2]; exact hx) (fun i x σ' H' H'' hi pv y => by rw [c] at hi; simp at hi) (fun σ' H' pv => ?_)
    obtain ⟨rfl, rfl⟩ := pv
    exact hd H' l _ _ e hS (by rw [hl0]; exact h0 H' l e hS)
  · have hq := sq_delS (hM.up e) c hx
    refine for_it w (Pv (delS H1 M) l) (h0 H1 l e hS) (fun i σ' H' _ pv => sqL_up (ht _ l i σ' H' pv) hq) (fun i x σ' H' H'' hi pv y => ?_) (fun σ' H' pv => hd H1 l σ' H' e hS (by rw [← hl]; exact pv))
    obtain ⟨rfl, hy⟩ := y
    obtain ⟨b, hb, hb2⟩ := loop_data (hM.up e) hno hda hy
    exact hs H1 l i b x σ' H'' e hS (by rw [List.getElem?_reverse (by omega), ← hl]; exact hb) pv (hb2.up (ht _ l i σ' H'' pv))
/-! ### pairs of a place and what is over it -/
abbrev dO : Option Nat → PyData
  | none => .none
  | some p => dI p
abbrev vO : Option Nat → V
  | none => .non
  | some p => vN p
abbrev dR (x : RE) : PyData := .tuple [dI x.1, dO x.2]
theorem noL_R (x : RE) : noL (dR x) = true := by
  obtain ⟨a, o⟩ := x
  cases o <;> rfl
theorem dO_v {o : Option Nat} (h : Dp K H v (dO o)) : v = vO o := by
  cases o with
  | none => exact h.non_v
  | some p => exact h.int_v
theorem v_dO (o : Option Nat) : Dp K H (vO o) (dO o) := by
  cases o with
  | none => exact .non
  | some p => exact .int _
theorem ed_O {o : Option Nat} (h : Ev te σ H (vO o)) : EvD K te σ H (dO o) := ed_ev h (v_dO o)
theorem shaped_R : ∀ l : List RE, SeqAt.shaped (.list (l.map dR)) = true := fun l => by
  unfold SeqAt.shaped
  have h1 : ∀ l : List RE, PyData.canLayAll0 (l.map dR) = true := fun l => by
    induction l with
    | nil => rfl
    | cons a l ih =>
      obtain ⟨x, o⟩ := a
      cases o <;> (show (_ && PyData.canLayAll0 (l.map dR)) = true; rw [ih]; rfl)
  have h2 : ∀ l : List RE, PyData.depthAll (l.map dR) ≤ 1 := fun l => by
    induction l with
    | nil => exact Nat.zero_le _
    | cons a l ih =>
      obtain ⟨x, o⟩ := a
      cases o <;> (show max 1 (PyData.depthAll (l.map dR)) ≤ 1; omega)
  show (PyData.canLayAll0 (l.map dR) && decide (PyData.depthAll (l.map dR) + 1 ≤ 64)) = true
  rw [h1, decide_eq_true (by have := h2 l; omega)]; rfl
theorem eqv_R0 (l : List RE) : PyData.eqv (.list (l.map dR)) (.list []) = decide (l = []) := by
  cases l with
  | nil => rfl
  | cons a l => rfl
/-- a place is not what is over -/
theorem eb_neO {y : Nat} {o : Option Nat} (ha : Ev ta σ H (vN y)) (hb : Ev tb σ H (vO o)) : Ev (tOp rNe ta tb) σ H (.bl (decide (some y ≠ o))) := Evl.ev_op ha hb fun H1 e Q q => by
  cases o with
  | none => exact ⟨rfl, by simpa using q H1 (Ex.refl _)⟩
  | some p =>
    refine ⟨rfl, ?_⟩
    have : (!decide (vN y = vN p)) = decide (some y ≠ some p) := by
      rw [Bool.eq_iff_iff]; simp; omega
    show Q (.bl (!decide (vN y = vN p))) H1
    rw [this]; exact q H1 (Ex.refl _)
/-- i, j = l.pop() -/
theorem sd_pop2 {i j : Nat} {l : Addr} {xs : List V} {y : V} {a b : PyData} (ha : Ev ta σ H (.ref l)) (hl : H l = some (.lst (xs ++ [y]))) (hy : Dp K H y (.tuple [a, b])) (na : noL a = true) (nb : noL b = true) (k : ∀ u w H1, Ex H H1 → H1 l = some (.lst (xs ++ [y])) → Dp K (upd H1 l (.lst xs)) u a → Dp K (upd H1 l (.lst xs)) w b → D.nx ((σ.set i (some u)).set j (some w)) (upd H1 l (.lst xs))) :
    tAsg (tBM0 K "list" rPop ta) (gTup K 2 (gCons (gName i) (gCons (gName j) gNil))) D σ H := ha H (Ex.refl H) _ fun H1 e => by
  have h1 := e l _ hl
  refine ⟨.inl ⟨rfl, _, sq_of h1⟩, l, xs ++ [y], y, rfl, rfl, h1, by simp, ?_⟩
  rw [List.dropLast_concat]
  refine g2 (dp_tx ((tx_ex e).trans (tx_upd h1)) (by simp [noL, noLs, na, nb]) hy) fun u w pu pw => k u w H1 e h1 pu pw
theorem ex_delS {H H1 : Hp} {M : List Addr} (e : Ex H H1) (h : ∀ l ∈ M, H l = none) : Ex H (delS H1 M) := fun a o q => by
  rw [delS_ne fun m => by rw [h a m] at q; cases q]
  exact e a o q
end
/-! ### tables in a dict -/
structure TabI (H : Hp) (ps : List Addr) (f : Nat → List Nat) : Prop where
  nd : ps.Nodup
  it : ∀ i q, ps[i]? = some q → H q = some (.lst ((f i).map vN))
theorem TabI.up {H H' : Hp} {ps : List Addr} {f : Nat → List Nat} (t : TabI H ps f) (e : Ex H H') : TabI H' ps f := ⟨t.nd, fun i q h => e q _ (t.it i q h)⟩
theorem TabI.other {H : Hp} {ps : List Addr} {f : Nat → List Nat} {l : Addr} {o : HO} (t : TabI H ps f) (h : l ∉ ps) : TabI (upd H l o) ps f := ⟨t.nd, fun i q hq => by rw [upd_ne fun z => h (by rw [← z]; exact List.mem_of_getElem? hq)]; exact t.it i q hq⟩
theorem TabI.push {H : Hp} {ps : List Addr} {f : Nat → List Nat} (t : TabI H ps f) {i x : Nat} {q : Addr} (hq : ps[i]? = some q) : TabI (upd H q (.lst ((f i).map vN ++ [vN x]))) ps (G37.push f i x) := by
  refine ⟨t.nd, fun j r hr => ?_⟩
  by_cases c : j = i
  · subst c
    rw [hq] at hr; cases hr
    rw [upd_same]
    simp [G37.push]
  · have : r ≠ q := fun z => by
      subst z
      exact c (nodup_ix t.nd hr hq)
    rw [upd_ne this, t.it j r hr]
    simp [G37.push, c]
section
variable {K : PySem.W.Frag} {σ : L2.St} {H H' : Hp} {ta tb tc te tl : TE} {D : Ends}
theorem paired_by {α β : Type} {F : α → β → Prop} : ∀ {l : List α} {m : List β}, l.length = m.length → (∀ (j : Nat) (a : α) (b : β), l[j]? = some a → m[j]? = some b → F a b) → Paired F l m
  | [], [], _, _ => .nil
  | [], _ :: _, h, _ => by simp at h
  | _ :: _, [], h, _ => by simp at h
  | a :: l, b :: m, h, f => .cons (f 0 a b rfl rfl) (paired_by (by simpa using h) fun j a b h1 h2 => f (j + 1) a b (by simpa using h1) (by simpa using h2))
/-- i = dict([(place, []) for place in range(n)]) -/
theorem sd_tabD {n : Nat} {ta : TA} {i j : Nat} {vs : List Nat} (h : EvA ta σ H [.int (n : Int)]) (hn : n ≤ 30000) (hw : ∀ x, wipe ((wipe σ vs).set j (some x)) vs = wipe σ vs) (hj : ∀ x, ((wipe σ vs).set j (some x))[j]? = some (some x)) (k : ∀ d ps H1, Ex H H1 → H d = none → DKat H1 d (fun m => (ps[m]?).map V.ref) → TabI H1 ps (fun _ => []) → ps.length = n → (∀ q ∈ ps, H q = none) → D.nx (σ.set i (some (.ref d))) H1) :
    tAsg (tCB (rDictP K) (tCons (tLc (iRng1 ta) (gName j) tYes (tTup (tCons (tVar j) (tCons (tLst tNil) tNil))) vs) tNil)) (gName i) D σ H := h H (Ex.refl H) _ fun H1 e => by
  refine ⟨(n : Int), rfl, by omega, by omega, fun L hL => ?_⟩
  have hn' : (n : Int).toNat = n := by omega
  rw [hn']
  refine lc_it (walk_range (lo := 0) (n := n)) (fun m H2 => Ex H1 H2 ∧ ∃ ts ps : List Addr, H2 L = some (.lst (ts.map V.ref)) ∧ ts.length = m ∧ ps.length = m ∧ (∀ j t q, ts[j]? = some t → ps[j]? = some q → H2 t = some (.tup [vN j, .ref q])) ∧ TabI H2 ps (fun _ => []) ∧ ∀ q ∈ ps, H1 q = none) ⟨ex_mut (ex_r _) hL, [], [], upd_same, rfl, rfl, by simp, ⟨by simp, by simp⟩, by simp⟩ (fun _ _ _ _ => trivial) (fun m x H3 H4 hi p y => ?_) fun H2 p => ?_
  · obtain ⟨rfl, rfl⟩ := y
    obtain ⟨e3, ts, ps, hL2, hlt, hlp, hit, tab, hfr⟩ := p
    refine ⟨hw _, yes_ (iteT ?_)⟩
    refine ⟨_, hj _, ⟨Nat.zero_le _, fun q hq => ⟨Evl.sz_of (by simp), fun t ht => ?_⟩⟩⟩
    have hqL : q ≠ L := fun z => by rw [z, hL2] at hq; cases hq
    have htq : t ≠ q := fun z => by rw [z, upd_same] at ht; cases ht
    have ht0 : H4 t = none := by rw [upd_ne htq] at ht; exact ht
    have htL : t ≠ L := fun z => by rw [z, hL2] at ht0; cases ht0
    refine ⟨ts.map V.ref, by rw [upd_ne (Ne.symm htL), upd_ne (Ne.symm hqL)]; exact hL2, szlt (by rw [List.length_map]; omega), ?_⟩
    have e5 : Ex H4 (upd (upd H4 q (.lst [])) t (.tup [vN m, .ref q])) := (ex_new hq).trans (ex_new ht)
    have hm : (0 : Int) + (m : Int) = (m : Int) := Int.zero_add _
    have key : ∀ (a : Addr) (o : HO), a ≠ L → upd (upd H4 q (.lst [])) t (.tup [vN m, .ref q]) a = some o → upd (upd (upd H4 q (.lst [])) t (.tup [.int (0 + (m : Int)), .ref q])) L (.lst (ts.map V.ref ++ [.ref t])) a = some o := fun a o ha h => by
      rw [upd_ne ha, hm]; exact h
    have hpsn : ∀ r ∈ ps, r ≠ L ∧ r ≠ q ∧ r ≠ t := fun r hr => by
      obtain ⟨j, hj⟩ := List.getElem?_of_mem hr
      have := tab.it j r hj
      refine ⟨fun z => ?_, fun z => ?_, fun z => ?_⟩
      · rw [z] at hr
        have h1 := hfr L hr
        have : ¬ (H1 L = none) := fun _ => by
          rw [z, hL2] at this
          cases ts with
          | nil => simp at hlt; subst hlt; rw [List.length_eq_zero_iff] at hlp; rw [hlp] at hr; cases hr
          | cons a ts => simp at this
        exact this h1
      · rw [z, hq] at this; cases this
      · rw [z, ht0] at this; cases this
    refine ⟨ex_mut (e3.trans (by show Ex H4 (upd (upd H4 q (.lst [])) t (.tup [.int (0 + (m : Int)), .ref q])); rw [hm]; exact e5)) hL, ts ++ [t], ps ++ [q], by rw [upd_same]; simp, by simp [hlt], by simp [hlp], fun j t' q' h1 h2 => ?_, ⟨?_, fun j r hr => ?_⟩, fun r hr => ?_⟩
    · rcases Nat.lt_trichotomy j m with c | c | c
      · rw [List.getElem?_append_left (by omega)] at h1 h2
        have h3 := hit j t' q' h1 h2
        exact key _ _ (fun z => by rw [z, hL2] at h3; cases h3) (e5 _ _ h3)
      · subst c
        rw [List.getElem?_append_right (by omega), hlt, Nat.sub_self] at h1
        rw [List.getElem?_append_right (by omega), hlp, Nat.sub_self] at h2
        simp at h1 h2
        subst h1 h2
        exact key _ _ htL upd_same
      · rw [List.getElem?_eq_none (by simp; omega)] at h1; cases h1
    · refine List.nodup_append.mpr ⟨tab.nd, by simp, fun a ha b hb => ?_⟩
      rw [List.mem_singleton.mp hb]
      exact (hpsn a ha).2.1
    · rw [List.getElem?_append] at hr
      split at hr
      · have hr2 := hpsn r (List.mem_of_getElem? hr)
        exact key _ _ hr2.1 (e5 _ _ (tab.it j r hr))
      · have := List.mem_singleton.mp (List.mem_of_getElem? hr)
        subst this
        exact key _ _ hqL (by rw [upd_ne (Ne.symm htq), upd_same]; rfl)
    · rcases List.mem_append.mp hr with h | h
      · exact hfr r h
      · rw [List.mem_singleton.mp h]; exact ex_free e3 hq
  · obtain ⟨e3, ts, ps, hL2, hlt, hlp, hit, tab, hfr⟩ := p
    refine ⟨L, ts, (List.range n).map fun m : Nat => (.inl (m : Int), (ps[m]?.map V.ref).getD .non), rfl, sq_of hL2, paired_by (by simp [hlt]) fun j t kv h1 h2 => ?_, fun d hd => ?_⟩
    · obtain ⟨hj1, _⟩ := List.getElem?_eq_some_iff.mp h1
      rw [List.getElem?_map, List.getElem?_range (by omega)] at h2
      cases h2
      have hj2 : ps[j]? = some (ps[j]'(by omega)) := List.getElem?_eq_getElem _
      have := hit j t _ h1 hj2
      refine st_of ?_
      rw [this]
      dsimp only
      rw [hj2]; rfl
    · have hdL : d ≠ L := fun z => by rw [z, hL2] at hd; cases hd
      refine k d ps _ ((e.trans e3).trans (ex_new hd)) (ex_free (e.trans e3) hd) ⟨_, upd_same, ?_, fun m => ?_⟩ (tab.up (ex_new hd)) hlp fun q hq => ex_free e (hfr q hq)
      · have := length_mergeK ((List.range n).map fun m : Nat => ((.inl (m : Int) : Key), (ps[m]?.map V.ref).getD .non)) []
        simp at this ⊢
        omega
      · rw [valV_merge]
        · have gen : ∀ l : List Nat, valV (l.map fun m : Nat => ((.inl (m : Int) : Key), (ps[m]?.map V.ref).getD .non)) (.inl (m : Int)) = if m ∈ l then some ((ps[m]?.map V.ref).getD .non) else none := by
            intro l
            induction l with
            | nil => rfl
            | cons x l ih =>
              rw [List.map_cons]
              by_cases c : x = m
              · rw [valV_pos (by simp [c])]; simp [c]
              · rw [valV_neg (by intro z; simp at z; omega), ih]
                have : ¬ m = x := fun z => c z.symm
                simp [this]
          rw [gen]
          by_cases c : m < n
          · rw [if_pos (List.mem_range.mpr c)]
            have : ps[m]? = some (ps[m]'(by omega)) := List.getElem?_eq_getElem _
            dsimp only
            rw [this]; rfl
          · rw [if_neg (by simpa using c)]
            dsimp only
            rw [List.getElem?_eq_none (by omega)]; rfl
        · rw [List.map_map]
          refine List.Pairwise.map _ (fun a b ne z => ne ?_) (List.nodup_range (n := n))
          simp [Function.comp] at z
          omega
end
end W37
/-! the forests' defs -/
namespace W37
open PySem PySem.Spec PyProof.Rows L2
open Evl (Ex Ev EvT EvA EvL et_test et_B et_and et_or et_not ev_var ev_c ea_nil ea_cons ev_andV ev_orV ev_notV s_if)
open G37 (Ed nb tie ltE Web RE)
abbrev sp_has_no_ring (K : PySem.W.Frag) : Sp := spD K (fun i : Nat × List Ed => [dWeb i.1 i.2]) (fun i => Web i.1 i.2) (fun _ r => r = .bool true)
abbrev sp_is_forest (K : PySem.W.Frag) : Sp := spD K (fun i : Nat × List Ed => [dWeb i.1 i.2]) (fun i => Web i.1 i.2) (fun _ r => r = .bool true)
abbrev sp_need_forest (K : PySem.W.Frag) : Sp := spD K (fun i : Nat × List Ed => [dWeb i.1 i.2]) (fun i => Web i.1 i.2) (fun _ r => r = .none)
abbrev sp_from_roots (K : PySem.W.Frag) : Sp := spD K (fun i : Nat × List Ed => [dWeb i.1 i.2]) (fun i => Web i.1 i.2) (fun i r => ∃ F : List RE, G37.Ord i.1 i.2 F.reverse ∧ r = .list (F.map dR))
section
variable {P : Program} {w : World} {K : PySem.W.Frag} {mg : Str → Option Value} {base : Heap}
abbrev s_has_no_ring : Stmt := top 30
theorem sc_has_no_ring : FnScope ["web"] ["web"] (defScope s_has_no_ring) := ⟨rfl, rfl, rfl, by decide +kernel, rfl, by decide +kernel, by decide +kernel⟩
theorem kp_has_no_ring (D : Df K mg "has_no_ring" s_has_no_ring ["web"]) (B : Bare mg) (h_parts_by : Kp P w K mg base "parts_by" 2 ["beside"] (sp_parts_by K)) (h_near : Kp P w K mg base "near" 1 ["web"] (sp_near K)) : Kp P w K mg base "has_no_ring" 3 ["web"] (sp_has_no_ring K) := by
  obtain ⟨f_parts_by, fd_parts_by, F_parts_by, g_parts_by, k_parts_by, b_parts_by⟩ := h_parts_by
  obtain ⟨f_near, fd_near, F_near, g_near, k_near, b_near⟩ := h_near
  refine D.kp sc_has_no_ring (spD_len (fun _ => rfl)) (fun f cdv A outer s H vs Q E hr h => ?_)
  refine ⟨_, (pss_one (ps_ret (pe_cmpR op_eq (pe_callB (r := rLn K) cr_len (by rfl) B.len (by decide +kernel) (pa_cons (pe_ix (r := rIx K) ix_seq (pv 0) pe_int (fun _ _ => rfl)) pa_nil)) (pe_op op_sub (pe_ix (r := rIx K) ix_seq (pv 0) pe_int (fun _ _ => rfl)) (pe_callB (r := rLn K) cr_len (by rfl) B.len (by decide +kernel) (pa_cons (pe_call F_parts_by (hr.mono (by decide)) (by rfl) g_parts_by k_parts_by b_parts_by .nil pass0 (pa_cons (pe_call F_near (hr.mono (by decide)) (by rfl) g_near k_near b_near .nil pass0 (pa_cons (pv 0) pa_nil)) pa_nil)) pa_nil))) (by rfl)))), ?_⟩
  obtain ⟨⟨n, es⟩, hd, hw, q⟩ := h
  cases hd with | cons p1 hd =>
  cases hd
  have hn : n ≤ 60 := hw.le
  have hf : G37.Fo n es := hw.fo
  have hp := hf.parts
  rename_i t
  have E0 : EvD K (tVar 0) [some t] H (dWeb n es) := ed_var rfl p1
  refine sd_ret (K := K) (R := fun r => r = .bool true) (ed_bl (eb_eq (eb_eqI (ei_eq (ev_lenT (ed_ties E0 ev_c)) (j := (es.length : Int)) (by simp)) (ei_op0 (ev_many E0 ev_c) (ei_eq (ev_lenL (ed_call (n, es) (eda_cons (ed_call (n, es) (eda_cons E0 eda_nil) ⟨by dsimp only; omega, hf⟩) eda_nil) ⟨by dsimp only; omega, hf⟩)) (j := ((G37.roots n es).length : Int)) (by simp)))) ?_)) fun v H1 r e hr hv => q v H1 r e hr hv
  rw [decide_eq_true_eq]; omega
abbrev s_is_forest : Stmt := top 31
theorem sc_is_forest : FnScope ["web"] ["web"] (defScope s_is_forest) := ⟨rfl, rfl, rfl, by decide +kernel, rfl, by decide +kernel, by decide +kernel⟩
theorem kp_is_forest (D : Df K mg "is_forest" s_is_forest ["web"]) (B : Bare mg) (h_need_web : Kp P w K mg base "need_web" 4 ["thing"] (sp_need_web K)) (h_has_no_ring : Kp P w K mg base "has_no_ring" 3 ["web"] (sp_has_no_ring K)) : Kp P w K mg base "is_forest" 5 ["web"] (sp_is_forest K) := by
  obtain ⟨f_need_web, fd_need_web, F_need_web, g_need_web, k_need_web, b_need_web⟩ := h_need_web
  obtain ⟨f_has_no_ring, fd_has_no_ring, F_has_no_ring, g_has_no_ring, k_has_no_ring, b_has_no_ring⟩ := h_has_no_ring
  refine D.kp sc_is_forest (spD_len (fun _ => rfl)) (fun f cdv A outer s H vs Q E hr h => ?_)
  refine ⟨_, (pss_cons (ps_expr (pe_call F_need_web (hr.mono (by decide)) (by rfl) g_need_web k_need_web b_need_web .nil pass0 (pa_cons (pv 0) pa_nil)))
  (pss_one (ps_ret (pe_call F_has_no_ring (hr.mono (by decide)) (by rfl) g_has_no_ring k_has_no_ring b_has_no_ring .nil pass0 (pa_cons (pv 0) pa_nil))))), ?_⟩
  obtain ⟨⟨n, es⟩, hd, hw, q⟩ := h
  cases hd with | cons p1 hd =>
  cases hd
  refine sd_drop (ed_call (n, es) (eda_cons (ed_var rfl p1) eda_nil) hw) fun H1 e1 => ?_
  dsimp only
  exact sd_ret (K := K) (ed_call (n, es) (eda_cons (ed_var rfl (p1.up e1)) eda_nil) hw) fun v H2 r e hr hv => q v H2 r (e1.trans e) hr hv
abbrev s_need_forest : Stmt := top 32
theorem sc_need_forest : FnScope ["web"] ["web"] (defScope s_need_forest) := ⟨rfl, rfl, rfl, by decide +kernel, rfl, by decide +kernel, by decide +kernel⟩
theorem kp_need_forest (D : Df K mg "need_forest" s_need_forest ["web"]) (B : Bare mg) (h_need_web : Kp P w K mg base "need_web" 4 ["thing"] (sp_need_web K)) (h_has_no_ring : Kp P w K mg base "has_no_ring" 3 ["web"] (sp_has_no_ring K)) : Kp P w K mg base "need_forest" 5 ["web"] (sp_need_forest K) := by
  obtain ⟨f_need_web, fd_need_web, F_need_web, g_need_web, k_need_web, b_need_web⟩ := h_need_web
  obtain ⟨f_has_no_ring, fd_has_no_ring, F_has_no_ring, g_has_no_ring, k_has_no_ring, b_has_no_ring⟩ := h_has_no_ring
  refine D.kp sc_need_forest (spD_len (fun _ => rfl)) (fun f cdv A outer s H vs Q E hr h => ?_)
  refine ⟨_, (pss_cons (ps_expr (pe_call F_need_web (hr.mono (by decide)) (by rfl) g_need_web k_need_web b_need_web .nil pass0 (pa_cons (pv 0) pa_nil)))
  (pss_one (ps_if (pt_not (pt_val (pe_call F_has_no_ring (hr.mono (by decide)) (by rfl) g_has_no_ring k_has_no_ring b_has_no_ring .nil pass0 (pa_cons (pv 0) pa_nil))))
  (pss_one ps_never)
  pss_nil))), ?_⟩
  obtain ⟨⟨n, es⟩, hd, hw, q⟩ := h
  cases hd with | cons p1 hd =>
  cases hd
  refine sd_drop (ed_call (n, es) (eda_cons (ed_var rfl p1) eda_nil) hw) fun H1 e1 => ?_
  dsimp only
  refine sd_ifno (et_eq (et_not (et_B (eb_sp (ed_call (n, es) (eda_cons (ed_var rfl (p1.up e1)) eda_nil) hw) fun _ h => h))) (by rfl)) fun H2 e2 => q .non H2 .none (e1.trans e2) rfl .non
abbrev s_from_roots : Stmt := top 33
theorem sc_from_roots : FnScope ["web", "beside", "found", "part", "todo", "place", "over", "other"] ["web"] (defScope s_from_roots) := ⟨rfl, rfl, rfl, by decide +kernel, rfl, by decide +kernel, by decide +kernel⟩
theorem kp_from_roots (D : Df K mg "from_roots" s_from_roots ["web"]) (B : Bare mg) (h_near : Kp P w K mg base "near" 1 ["web"] (sp_near K)) (h_parts_by : Kp P w K mg base "parts_by" 2 ["beside"] (sp_parts_by K)) : Kp P w K mg base "from_roots" 3 ["web"] (sp_from_roots K) := by
  obtain ⟨f_near, fd_near, F_near, g_near, k_near, b_near⟩ := h_near
  obtain ⟨f_parts_by, fd_parts_by, F_parts_by, g_parts_by, k_parts_by, b_parts_by⟩ := h_parts_by
  refine D.kp sc_from_roots (spD_len (fun _ => rfl)) (fun f cdv A outer s H vs Q E hr h => ?_)
  refine ⟨_, (pss_cons (ps_set (i := 1) sc_from_roots.nd (by rfl) (by first | exact Or.inl rfl | exact Or.inr rfl) (pe_call F_near (hr.mono (by decide)) (by rfl) g_near k_near b_near .nil pass0 (pa_cons (pv 0) pa_nil)))
  (pss_cons (ps_set (i := 2) sc_from_roots.nd (by rfl) (by first | exact Or.inl rfl | exact Or.inr rfl) (pe_lst pa_nil))
  (pss_cons (ps_for PassesOwn.never rfl (pi_list (pe_call F_parts_by (hr.mono (by decide)) (by rfl) g_parts_by k_parts_by b_parts_by .nil pass0 (pa_cons (pv 1) pa_nil))) (pg_name (i := 3) sc_from_roots.nd (by rfl) (by first | exact Or.inl rfl | exact Or.inr rfl))
  (pss_cons (ps_set (i := 4) sc_from_roots.nd (by rfl) (by first | exact Or.inl rfl | exact Or.inr rfl) (pe_lst (pa_cons (pe_tup (pa_cons (pe_ix (r := rIx K) ix_seq (pv 3) pe_int (fun _ _ => rfl)) (pa_cons pe_non pa_nil))) pa_nil)))
  (pss_one (ps_while PassesOwn.never (pt_cmpR (r := rNeD K) (op_neD hr.units) (pv 4) (pe_lst pa_nil) (by rfl))
  (pss_cons (ps_asg (pe_bm0 PySem.F.plainAttrs_list PySem.F.slot_list_pop PySem.F.type_list_pop mt_pop (pv 4)) (pg_tupK (K := K) (n := 2) rfl rfl (pgs_cons (pg_name (i := 5) sc_from_roots.nd (by rfl) (by first | exact Or.inl rfl | exact Or.inr rfl)) (pgs_cons (pg_name (i := 6) sc_from_roots.nd (by rfl) (by first | exact Or.inl rfl | exact Or.inr rfl)) pgs_nil))))
  (pss_cons (ps_expr (pe_bm PySem.F.plainAttrs_list PySem.F.slot_list_append PySem.F.type_list_append mt_append (pv 2) (pa_cons (pe_tup (pa_cons (pv 5) (pa_cons (pv 6) pa_nil))) pa_nil)))
  (pss_one (ps_expr (pe_bm (r := rExtL K) PySem.F.plainAttrs_list PySem.F.slot_list_extend PySem.F.type_list_extend mt_extL (pv 4) (pa_cons (pe_lc (own := [("other", 7)]) rfl sc_from_roots.nd (pi_list (pe_ix (r := rIx K) ix_seq (pv 1) (pv 5) (fun _ _ => rfl))) (blkOk_by (N := ["web", "beside", "found", "part", "todo", "place", "over", "other"]) (sc := (defScope s_from_roots)) (by decide +kernel)) (fun _ _ _ _ _ => (pg_name (i := 7) sc_from_roots.nd (by rfl) (by first | exact Or.inl rfl | exact Or.inr rfl))) (fun _ _ _ _ _ => pts_one (pt_cmpR op_ne (pv 7) (pv 6) (by rfl))) (fun _ _ _ _ _ => (pe_tup (pa_cons (pv 7) (pa_cons (pv 5) pa_nil))))) pa_nil))))))))))
  (pss_one (ps_ret (pv 2)))))), ?_⟩
  obtain ⟨⟨n, es⟩, hd, hw, q⟩ := h
  cases hd with | cons p1 hd =>
  cases hd
  have hn : n ≤ 60 := hw.le
  have hf : G37.Fo n es := hw.fo
  rename_i t
  refine sd_asg (K := K) (ed_call (n, es) (eda_cons (ed_var rfl p1) eda_nil) ⟨by dsimp only; omega, hf⟩) fun v B r e1 hr hv => ?_
  have hb : Dp K B v (dBesN n es) := by rw [hr] at hv; exact hv
  clear hr hv
  dsimp only
  have EB : ∀ {H1 a b c d e f}, Ex B H1 → EvD K (tVar 1) [some t, some v, a, b, c, d, e, f] H1 (dBesN n es) := fun e => ed_var rfl (hb.up e)
  refine sd_new0 fun pf hpf => ?_
  dsimp only
  have hrl : (G37.roots n es).length ≤ n := Nat.le_trans (List.length_filter_le _ _) (by simp)
  have e0 : Ex B (upd B pf (.lst [])) := ex_new hpf
  refine sd_forLM (K := K) ((G37.roots n es).map (G37.comp n es)) dT [pf] (fun l hl => .inl (by rw [List.mem_singleton.mp hl, upd_same])) noL_T (ed_call (n, es) (eda_cons (EB e0) eda_nil) ⟨by dsimp only; omega, hf⟩)
    (fun B' i σ' H' => ∃ x1 x2 x3 x4 xs F, σ' = [some t, some v, some (.ref pf), x1, x2, x3, x4, none] ∧ Ex B' H' ∧ H' pf = some (.lst xs) ∧ DpAll K H' xs (F.map dR) ∧ G37.DA n es ((G37.roots n es).take i) F ∧ F.length ≤ n)
    (fun H1 e => ⟨none, none, none, none, [], [], rfl, delS_ex _ _, e pf _ upd_same, .nil, G37.DA.start n es, Nat.zero_le _⟩) (fun B' i σ' H' pv => by obtain ⟨_, _, _, _, _, _, _, h, _⟩ := pv; exact h) (fun H1 i a x σ' H' ee hi pv hx => ?_) (fun H1 σ' H' ee pv => ?_)
  · obtain ⟨x1, x2, x3, x4, xs, F, rfl, e2, hpx, hda, da, hFl⟩ := pv
    have eB : Ex B (delS H1 [pf]) := ex_delS (e0.trans ee) fun l hl => by rw [List.mem_singleton.mp hl]; exact hpf
    have hBf : delS H1 [pf] pf = none := delS_none (by simp)
    rw [List.getElem?_map] at hi
    obtain ⟨r, hr, rfl⟩ := Option.map_eq_some_iff.mp hi
    have hr2 : r ∈ G37.roots n es := List.mem_of_getElem? hr
    have hrn := (G37.mem_roots.mp hr2).1
    have h0 := G37.comp_head hr2
    refine sd_new1D (K := K) (ed_tup (eda_cons (ed_int (ei_of (ep_ix (ed_var rfl hx) ev_c (atI_n (k := 0) (by rw [List.getElem?_map, h0]; rfl))))) (eda_cons (ed_non ev_c) eda_nil)) (by simp)) fun pt y r4 H3 e3 hr4 hy hpt => ?_
    dsimp only
    have hptB : delS H1 [pf] pt = none := ex_free (e2.trans e3) hpt
    have hptf : pt ≠ pf := fun z => by rw [z, e3 pf _ hpx] at hpt; cases hpt
    have hy2 : Dp K H3 y (dR (r, none)) := by rw [hr4] at hy; exact hy
    refine sd_while (fun m (σ' : L2.St) H6 => ∃ x3 x4 fd todo ys zs, m = n - fd.length ∧ σ' = [some t, some v, some (.ref pf), some x, some (.ref pt), x3, x4, none] ∧ Ex (delS H1 [pf]) H6 ∧ H6 pf = some (.lst ys) ∧ DpAll K H6 ys ((F ++ fd).map dR) ∧ H6 pt = some (.lst zs) ∧ DpAll K H6 zs (todo.map dR) ∧ G37.DF n es r fd todo)
      ⟨_, x3, x4, [], [(r, none)], xs, [y], rfl, rfl, ex_mut (e2.trans e3) hptB, by rw [upd_ne (Ne.symm hptf)]; exact e3 pf _ hpx, by rw [List.append_nil]; exact dps_tx ((tx_ex e3).trans (tx_ex (ex_new hpt))) (noLs_map noL_R _) hda, upd_same, .one (dp_tx (tx_ex (ex_new hpt)) (noL_R _) hy2), G37.DF.start hrn⟩ (fun m σ' H6 pv => ?_)
    obtain ⟨x3, x4, fd, todo, ys, zs, rfl, rfl, f1, f2, f3, f4, f5, df⟩ := pv
    have hdl := df.len
    refine ⟨_, et_test (eb_neD (K := K) (ed_var rfl (.lst (sq_of f4) f5)) (d2 := .list []) (ed_lst eda_nil (by simp)) (shaped_R _) rfl), fun cc H7 g1 => ?_, fun cc H7 g1 => ?_⟩
    · have hne : todo ≠ [] := by rw [eqv_R0] at cc; simpa using cc
      obtain ⟨rest, ⟨px, o⟩, rfl⟩ : ∃ rest y, todo = rest ++ [y] := ⟨todo.dropLast, todo.getLast hne, (List.dropLast_concat_getLast hne).symm⟩
      have hzl := f5.len
      rw [List.map_append] at f5
      obtain ⟨zs', y', rfl, hzs, hy'⟩ : ∃ zs' y', zs = zs' ++ [y'] ∧ DpAll K H6 zs' (rest.map dR) ∧ Dp K H6 y' (dR (px, o)) := by
        clear hzl f4
        generalize hds : rest.map dR = ds at f5
        clear hds
        revert zs
        induction ds with
        | nil =>
          intro zs f5
          cases f5 with
          | cons h1 h2 => cases h2; exact ⟨[], _, rfl, .nil, h1⟩
        | cons d ds ih =>
          intro zs f5
          cases f5 with
          | cons h1 h2 =>
            obtain ⟨zs', y', rfl, a, b⟩ := ih _ h2
            exact ⟨_ :: zs', y', rfl, .cons h1 a, b⟩
      have hst := df.step hf
      have hpn : px < n := df.lt px (by simp [G37.vsR])
      have hfl := f3.len
      simp only [List.length_map, List.length_append, List.length_cons, List.length_nil] at hfl hdl hzl
      refine sd_pop2 (K := K) (ev_var rfl) (g1 pt _ f4) (hy'.up g1) rfl (by cases o <;> rfl) fun u w H8 g2 hp8 hu hw8 => ?_
      have hu := hu.int_v
      have hw8 := dO_v hw8
      subst hu hw8
      dsimp only
      have g3 : Ex (delS H1 [pf]) (upd H8 pt (.lst zs')) := ex_mut ((f1.trans g1).trans g2) hptB
      have t3 : Tx K H6 (upd H8 pt (.lst zs')) := (tx_ex (g1.trans g2)).trans (tx_upd hp8)
      refine sd_app (K := K) (R := fun r => r = dR (px, o)) (ev_var rfl) (by rw [upd_ne (Ne.symm hptf)]; exact g2 pf _ (g1 pf _ f2)) (ed_tup (eda_cons (ed_int (ev_var rfl)) (eda_cons (ed_O (o := o) (ev_var rfl)) eda_nil)) (by simp)) (by omega) fun y9 H9 r9 g4 hr9 hv9 hp9 => ?_
      subst hr9
      dsimp only
      have g5 : Ex (delS H1 [pf]) (upd H9 pf (.lst (ys ++ [y9]))) := ex_mut (g3.trans g4) hBf
      have t5 : Tx K (upd H8 pt (.lst zs')) (upd H9 pf (.lst (ys ++ [y9]))) := (tx_ex g4).trans (tx_upd hp9)
      have hol : (G37.others n es px o).length ≤ n := Nat.le_trans (List.length_filter_le _ _) (nb_len n es px)
      refine sd_extL (K := K) (xs := zs') (ds := (G37.others n es px o).map fun y => dR (y, some px)) (ev_var rfl) (by rw [upd_ne hptf]; exact g4 pt _ upd_same) (ed_lcL (nb n es px) dI (fun y => decide (some y ≠ o)) (fun y => dR (y, some px)) good_name (ep_ixL (EB (eB.trans g5)) (ev_var rfl) (besN_at hpn)) (by have := nb_len n es px; omega) (fun _ => rfl) fun a xx H10 ha e10 hxx => ⟨rfl, rfl, et_test (eb_neO (ei_of (ed_var rfl hxx)) (ev_var rfl)), fun _ => ed_tup (eda_cons (ed_var rfl hxx) (eda_cons (ed_int (ev_var rfl)) eda_nil)) (by simp)⟩) (by simp only [List.length_map]; omega) fun vs' H11 g6 hd11 hp11 => ?_
      dsimp only
      have t6 : Tx K (upd H9 pf (.lst (ys ++ [y9]))) (upd H11 pt (.lst (zs' ++ vs'))) := (tx_ex g6).trans (tx_upd hp11)
      refine ⟨n - (fd ++ [(px, o)]).length, by simp; omega, _, _, fd ++ [(px, o)], _, ys ++ [y9], zs' ++ vs', rfl, rfl, ex_mut (g5.trans g6) hptB, by rw [upd_ne (Ne.symm hptf)]; exact g6 pf _ upd_same, ?_, upd_same, ?_, hst⟩
      · rw [← List.append_assoc, List.map_append]
        exact DpAll.app (dps_tx ((t3.trans t5).trans t6) (noLs_map noL_R _) f3) (.one (dp_tx ((tx_upd hp9).trans t6) (noL_R _) hv9))
      · rw [List.map_append, List.map_map]
        exact DpAll.app (dps_tx ((t3.trans t5).trans t6) (noLs_map noL_R _) hzs) (dps_tx (tx_upd hp11) (noLs_map (fun _ => rfl) _) hd11)
    · have hem : todo = [] := by rw [eqv_R0] at cc; simpa using cc
      subst hem
      have hrs : (G37.roots n es).take (i + 1) = (G37.roots n es).take i ++ [r] := by rw [List.take_succ, hr]; rfl
      have hnd := G37.roots_nodup n es
      have hst := da.step df hr2 (fun s hs => List.mem_of_mem_take hs) (fun hc => by
        obtain ⟨j, hj⟩ := List.getElem?_of_mem hc
        rw [List.getElem?_take] at hj
        split at hj
        · rename_i hlt
          have := nodup_ix hnd hj hr
          omega
        · cases hj)
      refine ⟨_, _, _, _, ys, F ++ fd, rfl, f1.trans g1, g1 pf _ f2, f3.up g1, by rw [hrs]; exact hst, ?_⟩
      have hgd := hst.gd.nd
      have hmem := hst.mem
      have h9 := nodup_lt_len (n := n) (l := G37.vsR (F ++ fd)) ((G37.vsR_rev (F ++ fd)).nodup_iff.mp hgd) fun x hx => ((hmem x).mp hx).1
      simpa [G37.vsR] using h9
  · obtain ⟨x1, x2, x3, x4, xs, F, rfl, e2, hpx, hda, da, hFl⟩ := pv
    rw [List.length_map, List.take_length] at da
    dsimp only
    have eB : Ex B (delS H1 [pf]) := ex_delS (e0.trans ee) fun l hl => by rw [List.mem_singleton.mp hl]; exact hpf
    refine sd_ret (K := K) (ed_var rfl (.lst (sq_of hpx) hda)) fun v9 H9 r9 e9 hr9 hv9 => q v9 H9 r9 (((e1.trans eB).trans e2).trans e9) ⟨F, da.done hf, hr9⟩ hv9
end
end W37
/-! slices, tables in dicts, told tuples -/
namespace W37
open PySem PySem.Spec PyProof.Rows L2
open Evl (Ex Ev EvT EvA EvL)
open G37 (Ed RE)
section
variable {K : PySem.W.Frag} {σ : L2.St} {H H' : Hp} {ta tb tc te tl : TE} {R R' : PyData → Prop} {d d1 d2 : PyData} {v x : V} {D : Ends} {tu tw : TS}
theorem DKat.delS {d : Addr} {g : Nat → Option V} {M : List Addr} (h : DKat H d g) (hd : d ∉ M) : DKat (delS H M) d g := by
  obtain ⟨kvs, a, b⟩ := h
  exact ⟨kvs, by rw [delS_ne hd]; exact a, b⟩
theorem epa_fst {tr : TE} (h : EvP K ta σ H R) (h2 : EvD K tr σ H d) : EvPA K (tCons ta (tCons tr tNil)) σ H (fun ds => ∃ d1, ds = [d1, d] ∧ R d1) := fun H1 e Q q =>
  h H1 e _ fun v H2 d1 e2 r p => h2 H2 (e.trans e2) _ fun v2 H3 d2 e3 r2 p2 => by
    subst r2
    exact q [v, v2] H3 _ (e2.trans e3) ⟨d1, rfl, r⟩ (.cons (p.up e3) (.one p2))
theorem ep_tup {t : TA} {S : List PyData → Prop} (h : EvPA K t σ H S) (hs : ∀ ds, S ds → ds.length ≤ 100000 ∧ R (.tuple ds)) : EvP K (tTup t) σ H R := fun H1 e Q q =>
  h H1 e _ fun vs H2 ds' e2 r p => by
    obtain ⟨h1, h2⟩ := hs ds' r
    exact ⟨by rw [p.len]; exact sz100 h1, fun a ha => q (.ref a) _ _ (e2.trans (ex_new ha)) h2 (.tup (st_of upd_same) (p.up (ex_new ha)))⟩
theorem cutV_take (xs : List V) (k : Nat) : cutV xs none (some (k : Int)) = xs.take k := by
  unfold cutV
  rw [HT.sIx_none, HT.sIx_nat]
  simp only [List.drop_zero, Nat.sub_zero]
  rcases Nat.le_total k xs.length with h | h
  · rw [Nat.min_eq_left h]
  · rw [Nat.min_eq_right h, List.take_of_length_le (Nat.le_refl _), List.take_of_length_le h]
theorem cutV_drop (xs : List V) (k : Nat) : cutV xs (some (k : Int)) none = xs.drop k := by
  unfold cutV
  rw [HT.sIx_none, HT.sIx_nat]
  rcases Nat.le_total k xs.length with h | h
  · rw [Nat.min_eq_left h, List.take_of_length_le (by rw [List.length_drop]; omega)]
  · rw [Nat.min_eq_right h, List.drop_of_length_le h, List.drop_of_length_le (Nat.le_refl _)]; simp
/-- l[:k] -/
theorem ed_slL {q : Addr} {ns : List Nat} {k : Nat} (h : Ev te σ H (.ref q)) (hq : H q = some (.lst (ns.map vN))) (hk : Ev ta σ H (vN k)) : EvD K (tSl (rSlL K) te tNoPart (tPart ta)) σ H (dL (ns.take k)) := fun H1 e Q q' =>
  h H1 e _ fun H2 e2 => hk H2 (e.trans e2) _ fun H3 e3 => ⟨(k : Int), rfl, q, ns.map vN, rfl, sq_of (e3 q _ (e2 q _ (e q _ hq))), fun p hp => q' _ _ _ ((e2.trans e3).trans (ex_new hp)) rfl (v_dL (sq_of (by rw [upd_same, cutV_take, List.map_take])))⟩
/-- d[i].append(x), a table's -/
theorem sd_tabappD {dd : Addr} {ps : List Addr} {f : Nat → List Nat} {i x : Nat} (t : TabI H ps f) (hd : DKat H dd (fun m => (ps[m]?).map V.ref)) (ha : Ev ta σ H (.ref dd)) (hb : Ev tb σ H (vN i)) (he : Ev te σ H (vN x)) (hi : i < ps.length) (hz : ∀ j, (f j).length < 90000) (k : ∀ H1 q, Ex H H1 → q ∈ ps → H1 q = some (.lst ((f i).map vN)) → TabI (upd H1 q (.lst ((f i).map vN ++ [vN x]))) ps (G37.push f i x) → D.nx σ (upd H1 q (.lst ((f i).map vN ++ [vN x])))) :
    tDrop (tBM K "list" rAppend (tDGet ta tb) (tCons te tNil)) D σ H := ha H (Ex.refl H) _ fun H1 e1 => hb H1 e1 _ fun H2 e2 => by
  have t2 := t.up (e1.trans e2)
  have hq : ps[i]? = some ps[i] := List.getElem?_eq_getElem hi
  have hg := (hd.up (e1.trans e2)).get (k := i)
  rw [hq] at hg
  refine ⟨dd, .ref ps[i], rfl, hg, .inl ⟨rfl, _, sq_of (t2.it i _ hq)⟩, he H2 (e1.trans e2) _ fun H3 e3 => ?_⟩
  have t3 := t2.up e3
  exact ⟨ps[i], _, vN x, rfl, rfl, t3.it i _ hq, szlt (by rw [List.length_map]; have := hz i; omega), k _ _ ((e1.trans e2).trans e3) (List.mem_of_getElem? hq) (t3.it i _ hq) (t3.push hq)⟩
/-- int(a truth) -/
theorem ei_int1 {b : Bool} (h : Ev ta σ H (.bl b)) : Ev (tCB (fun xs H Q => (∃ i, xs = [.int i] ∧ Q (.int i) H) ∨ ∃ k, xs = [.bl k] ∧ Q (.int (if k then 1 else 0)) H) (tCons ta tNil)) σ H (.int (if b then 1 else 0)) := Evl.ev_cb (Evl.ea_cons h Evl.ea_nil) fun H1 e Q q => .inr ⟨b, rfl, q H1 (Ex.refl _)⟩
theorem eb_notN {o : Option Nat} (h : Ev ta σ H (vO o)) : Ev (tNotN ta) σ H (.bl o.isSome) := fun H1 e Q q => h H1 e _ fun H2 e2 => by
  cases o <;> exact q H2 e2
theorem eb_isN {o : Option Nat} (h : Ev ta σ H (vO o)) : Ev (tIsN ta) σ H (.bl o.isNone) := fun H1 e Q q => h H1 e _ fun H2 e2 => by
  cases o <;> exact q H2 e2
theorem et_tB {b : Bool} (h : Ev te σ H (.bl b)) : EvT (tB te) σ H b := Evl.et_B h
theorem sd_if {t : TT} {b : Bool} (h : EvT t σ H b) (h1 : b = true → ∀ H1, Ex H H1 → tu D σ H1) (h2 : b = false → ∀ H1, Ex H H1 → tw D σ H1) : tIfS t tu tw D σ H := Evl.s_if h h1 h2
end
end W37
/-! taken_up and what rests on it -/
namespace W37
open PySem PySem.Spec PyProof.Rows L2
open Evl (Ex Ev EvT EvA EvL et_test et_B et_and et_or et_not ev_var ev_c ea_nil ea_cons ev_andV ev_orV ev_notV s_if)
open G37 (Ed nb tie ltE Web RE capS grd Taken)
abbrev WS : Type := (Nat × List Ed) × List Nat
abbrev arWS (i : WS) : List PyData := [dWeb i.1.1 i.1.2, dT i.2]
abbrev sp_taken_up (K : PySem.W.Frag) : Sp := spD K arWS (fun i => Web i.1.1 i.1.2) (fun i r => ∃ T B, Taken i.1.1 i.1.2 (capS i.2) T B ∧ B.Pairwise (· < ·) ∧ r = .tuple [dEs T, dT B])
abbrev sp_need_both (K : PySem.W.Frag) : Sp := spD K arWS (fun i => Web i.1.1 i.1.2 ∧ Places i.1.1 i.2) (fun _ r => r = .none)
abbrev sp_few_in (K : PySem.W.Frag) : Sp := spD K arWS (fun i => Web i.1.1 i.1.2) (fun i r => r = .int ((i.1.1 : Int) - (G37.nu i.1.2 (capS i.2) : Int)))
abbrev sp_forest_fewest (K : PySem.W.Frag) : Sp := spD K arWS (fun i => Web i.1.1 i.1.2 ∧ Places i.1.1 i.2) (fun i r => r = .int ((i.1.1 : Int) - (G37.nu i.1.2 (capS i.2) : Int)))
abbrev sp_forest_parting (K : PySem.W.Frag) : Sp := spD K arWS (fun i => Web i.1.1 i.1.2 ∧ Places i.1.1 i.2) (fun i r => ∃ T B Q, Taken i.1.1 i.1.2 (capS i.2) T B ∧ G37.Prt i.1.1 T Q ∧ r = .tuple (Q.map dT))
abbrev sp_forest_bar (K : PySem.W.Frag) : Sp := spD K arWS (fun i => Web i.1.1 i.1.2 ∧ Places i.1.1 i.2) (fun i r => ∃ T B, Taken i.1.1 i.1.2 (capS i.2) T B ∧ B.Pairwise (· < ·) ∧ r = dT B)
theorem capI (S : List Nat) (x : Nat) : (2 : Int) - (if decide (x ∈ S) = true then 1 else 0) = ((capS S x : Nat) : Int) := by
  unfold capS
  by_cases h : x ∈ S <;> simp [h]
/-- what is behind one turn -/
theorem grd_turn {b : G37.Cap} {x : Nat} {o : Option Nat} {R : List RE} {off : Nat → List Nat} :
    (grd b ((x, o) :: R) off) = if b x ≤ (off x).length then (((off x).take (b x)).map (tie x) ++ (grd b R off).1, x :: (grd b R off).2) else (((off x).take (b x)).map (tie x) ++ (grd b R (G37.offTo off x o)).1, (grd b R (G37.offTo off x o)).2) := rfl
section
variable {P : Program} {w : World} {K : PySem.W.Frag} {mg : Str → Option Value} {base : Heap}
abbrev s_taken_up : Stmt := top 34
theorem sc_taken_up : FnScope ["web", "ends", "offers", "ties", "bar", "place", "over", "room", "other"] ["web", "ends"] (defScope s_taken_up) := ⟨rfl, rfl, rfl, by decide +kernel, rfl, by decide +kernel, by decide +kernel⟩
theorem kp_taken_up (D : Df K mg "taken_up" s_taken_up ["web", "ends"]) (B : Bare mg) (h_from_roots : Kp P w K mg base "from_roots" 3 ["web"] (sp_from_roots K)) : Kp P w K mg base "taken_up" 4 ["web", "ends"] (sp_taken_up K) := by
  obtain ⟨f_from_roots, fd_from_roots, F_from_roots, g_from_roots, k_from_roots, b_from_roots⟩ := h_from_roots
  refine D.kp sc_taken_up (spD_len (fun _ => rfl)) (fun f cdv A outer s H vs Q E hr h => ?_)
  refine ⟨_, (pss_cons (ps_set (i := 2) sc_taken_up.nd (by rfl) (by first | exact Or.inl rfl | exact Or.inr rfl) (pe_callTy (r := rDictP K) (cr_dictP rfl) (by rfl) B.dict (by decide +kernel) (pa_cons (pe_lc (own := [("place", 5)]) rfl sc_taken_up.nd (pi_range1 (by rfl) B.range (pa_cons (pe_ix (r := rIx K) ix_seq (pv 0) pe_int (fun _ _ => rfl)) pa_nil)) (blkOk_by (N := ["web", "ends", "offers", "ties", "bar", "place", "over", "room", "other"]) (sc := (defScope s_taken_up)) (by decide +kernel)) (fun _ _ _ _ _ => (pg_name (i := 5) sc_taken_up.nd (by rfl) (by first | exact Or.inl rfl | exact Or.inr rfl))) (fun _ _ _ _ _ => pts_nil) (fun _ _ _ _ _ => (pe_tup (pa_cons (pv 5) (pa_cons (pe_lst pa_nil) pa_nil))))) pa_nil)))
  (pss_cons (ps_set (i := 3) sc_taken_up.nd (by rfl) (by first | exact Or.inl rfl | exact Or.inr rfl) (pe_lst pa_nil))
  (pss_cons (ps_set (i := 4) sc_taken_up.nd (by rfl) (by first | exact Or.inl rfl | exact Or.inr rfl) (pe_lst pa_nil))
  (pss_cons (ps_for PassesOwn.never rfl (pi_reversed (by rfl) B.reversed (pa_cons (pe_call F_from_roots (hr.mono (by decide)) (by rfl) g_from_roots k_from_roots b_from_roots .nil pass0 (pa_cons (pv 0) pa_nil)) pa_nil)) (pg_tupK (K := K) (n := 2) rfl rfl (pgs_cons (pg_name (i := 5) sc_taken_up.nd (by rfl) (by first | exact Or.inl rfl | exact Or.inr rfl)) (pgs_cons (pg_name (i := 6) sc_taken_up.nd (by rfl) (by first | exact Or.inl rfl | exact Or.inr rfl)) pgs_nil)))
  (pss_cons (ps_set (i := 7) sc_taken_up.nd (by rfl) (by first | exact Or.inl rfl | exact Or.inr rfl) (pe_op op_sub pe_int (pe_callTy call_int1 (by rfl) B.int (by decide +kernel) (pa_cons (pe_cmpR (r := rIn K false) op_in_seq (pv 5) (pv 1) (by rfl)) pa_nil))))
  (pss_cons (ps_expr (pe_bm (r := rExtL K) PySem.F.plainAttrs_list PySem.F.slot_list_extend PySem.F.type_list_extend mt_extL (pv 3) (pa_cons (pe_lc (own := [("other", 8)]) rfl sc_taken_up.nd (pi_list (pe_slice (r := rSlL K) sl_list (pe_dget (hu_of hr) (pv 2) (pv 5) (by intro _ _; rfl)) po_none (po_some (pv 7)))) (blkOk_by (N := ["web", "ends", "offers", "ties", "bar", "place", "over", "room", "other"]) (sc := (defScope s_taken_up)) (by decide +kernel)) (fun _ _ _ _ _ => (pg_name (i := 8) sc_taken_up.nd (by rfl) (by first | exact Or.inl rfl | exact Or.inr rfl))) (fun _ _ _ _ _ => pts_nil) (fun _ _ _ _ _ => (pe_tup (pa_cons (pe_callB (r := rMin2) (cr_min2 rfl) (by rfl) B.min (by decide +kernel) (pa_cons (pv 5) (pa_cons (pv 8) pa_nil))) (pa_cons (pe_callB (r := rMax2) (cr_max2 rfl) (by rfl) B.max (by decide +kernel) (pa_cons (pv 5) (pa_cons (pv 8) pa_nil))) pa_nil))))) pa_nil)))
  (pss_one (ps_if (pt_cmpR op_ge (pe_callB (r := rLn K) cr_len (by rfl) B.len (by decide +kernel) (pa_cons (pe_dget (hu_of hr) (pv 2) (pv 5) (by intro _ _; rfl)) pa_nil)) (pv 7) (by rfl))
  (pss_one (ps_expr (pe_bm PySem.F.plainAttrs_list PySem.F.slot_list_append PySem.F.type_list_append mt_append (pv 4) (pa_cons (pv 5) pa_nil))))
  (pss_one (ps_if (pt_cmp (pc_notN (pv 6)))
  (pss_one (ps_expr (pe_bm PySem.F.plainAttrs_list PySem.F.slot_list_append PySem.F.type_list_append mt_append (pe_dget (hu_of hr) (pv 2) (pv 6) (by intro _ _; rfl)) (pa_cons (pv 5) pa_nil))))
  pss_nil)))))))
  (pss_one (ps_ret (pe_tup (pa_cons (pe_callTy (r := rTupOf K) cr_tupOf (by rfl) B.tuple (by decide +kernel) (pa_cons (pe_callB (r := rSortD K) (cr_sortD hr.units) (by rfl) B.sorted (by decide +kernel) (pa_cons (pv 3) pa_nil)) pa_nil)) (pa_cons (pe_callTy (r := rTupOf K) cr_tupOf (by rfl) B.tuple (by decide +kernel) (pa_cons (pe_callB (r := rSortN K) cr_sortN (by rfl) B.sorted (by decide +kernel) (pa_cons (pv 4) pa_nil)) pa_nil)) pa_nil))))))))), ?_⟩
  obtain ⟨⟨⟨n, es⟩, S⟩, hd, hw, q⟩ := h
  dsimp only at hw
  cases hd with | cons p1 hd => cases hd with | cons p2 hd =>
  cases hd
  have hn : n ≤ 60 := hw.le
  have hf : G37.Fo n es := hw.fo
  rename_i t u
  have E0 : ∀ {H1 a b c d e f g}, Ex H H1 → EvD K (tVar 0) [some t, some u, a, b, c, d, e, f, g] H1 (dWeb n es) := fun e => ed_var rfl (p1.up e)
  have E1 : ∀ {H1 a b c d e f g}, Ex H H1 → EvD K (tVar 1) [some t, some u, a, b, c, d, e, f, g] H1 (dT S) := fun e => ed_var rfl (p2.up e)
  refine sd_tabD (K := K) (n := n) (ea_cons (ev_many (E0 (ex_r _)) ev_c) ea_nil) (by omega) (fun _ => rfl) (fun _ => rfl) fun d ps H1 e1 hdn hdk tab hpl hfr => ?_
  dsimp only
  refine sd_new0 fun pT hpT => ?_
  dsimp only
  refine sd_new0 fun pB hpB => ?_
  dsimp only
  have hBT : pB ≠ pT := fun z => by rw [z, upd_same] at hpB; cases hpB
  have hpB1 : H1 pB = none := by rw [upd_ne hBT] at hpB; exact hpB
  have hps : ∀ q ∈ ps, H1 q = some (.lst []) := fun q hq => by
    obtain ⟨j, hj⟩ := List.getElem?_of_mem hq
    exact tab.it j q hj
  have hTps : pT ∉ ps := fun m => by have := hps _ m; rw [hpT] at this; cases this
  have hBps : pB ∉ ps := fun m => by have := hps _ m; rw [hpB1] at this; cases this
  have e2 : Ex H1 (upd (upd H1 pT (.lst [])) pB (.lst [])) := (ex_new hpT).trans (ex_new hpB)
  have hM : Blank (upd (upd H1 pT (.lst [])) pB (.lst [])) (pT :: pB :: ps) := fun l hl => by
    rcases List.mem_cons.mp hl with h | h
    · exact .inl (by rw [h, upd_ne (Ne.symm hBT), upd_same])
    · rcases List.mem_cons.mp h with h | h
      · exact .inl (by rw [h, upd_same])
      · exact .inl (e2 l _ (hps l h))
  have hfrM : ∀ l ∈ pT :: pB :: ps, H l = none := fun l hl => by
    rcases List.mem_cons.mp hl with h | h
    · rw [h]; exact ex_free e1 hpT
    · rcases List.mem_cons.mp h with h | h
      · rw [h]; exact ex_free e1 hpB1
      · exact hfr l h
  have hdM : d ∉ pT :: pB :: ps := fun m => by
    obtain ⟨kvs, hk, _⟩ := hdk
    rcases List.mem_cons.mp m with h | h
    · rw [h, hpT] at hk; cases hk
    · rcases List.mem_cons.mp h with h | h
      · rw [h, hpB1] at hk; cases hk
      · rw [hps d h] at hk; cases hk
  refine sd_forRM (K := K) dR (pT :: pB :: ps) (S := fun F : List RE => G37.Ord n es F.reverse) hM noL_R (ed_call (n, es) (eda_cons (E0 (e1.trans e2)) eda_nil) hw)
    (fun B' F i σ' H' => ∃ x5 x6 x7 off Ts Bs xs, σ' = [some t, some u, some (.ref d), some (.ref pT), some (.ref pB), x5, x6, x7, none] ∧ Ex B' H' ∧ TabI H' ps off ∧ H' pT = some (.lst xs) ∧ DpAll K H' xs (Ts.map dE) ∧ H' pB = some (.lst (Bs.map vN)) ∧ (grd (capS S) F.reverse fun _ => []).1 = Ts ++ (grd (capS S) (F.reverse.drop i) off).1 ∧ (grd (capS S) F.reverse fun _ => []).2 = Bs ++ (grd (capS S) (F.reverse.drop i) off).2 ∧ (∀ j, (off j).length ≤ i) ∧ Ts.length ≤ 2 * i ∧ Bs.length ≤ i)
    (fun H3 F e3 hF => ⟨none, none, none, fun _ => [], [], [], [], rfl, delS_ex _ _, (tab.up e2).up e3, e3 _ _ (by rw [upd_ne (Ne.symm hBT), upd_same]), .nil, e3 _ _ upd_same, rfl, rfl, fun _ => Nat.le_refl _, Nat.le_refl _, Nat.le_refl _⟩) (fun B' F i σ' H' pv => by obtain ⟨_, _, _, _, _, _, _, _, h, _⟩ := pv; exact h) (fun H3 F i a x σ' H' e3 hF hi pv hx => ?_) (fun H3 F σ' H' e3 hF pv => ?_)
  · obtain ⟨x5, x6, x7, off, Ts, Bs, xs, rfl, f1, f2, f3, f4, f5, f6, f7, f8, f9, f10⟩ := pv
    obtain ⟨x0, o⟩ := a
    have eB : Ex H (delS H3 (pT :: pB :: ps)) := ex_delS ((e1.trans e2).trans e3) hfrM
    have dB : DKat (delS H3 (pT :: pB :: ps)) d (fun m => (ps[m]?).map V.ref) := ((hdk.up e2).up e3).delS hdM
    have hx0 : x0 < n := by
      have : x0 ∈ G37.vsR F.reverse := List.mem_map.mpr ⟨(x0, o), List.mem_of_getElem? hi, rfl⟩
      exact List.mem_range.mp (hF.vs.mem_iff.mp this)
    have hlen : F.length = n := by
      have := hF.vs.length_eq
      simpa [G37.vsR] using this
    have hin : i < n := by
      obtain ⟨h1, _⟩ := List.getElem?_eq_some_iff.mp hi
      rw [List.length_reverse] at h1; omega
    have hxl := f4.len
    rw [List.length_map] at hxl
    have hdr : F.reverse.drop i = (x0, o) :: F.reverse.drop (i + 1) := by
      obtain ⟨h1, h2⟩ := List.getElem?_eq_some_iff.mp hi
      rw [← h2]; exact List.drop_eq_getElem_cons h1
    rw [hdr, grd_turn] at f6 f7
    have hcap := G37.capS_le S x0
    refine g2 hx fun vx vo hvx hvo => ?_
    have hvx := hvx.int_v
    have hvo := dO_v hvo
    subst hvx hvo
    refine sd_asgV (ei_eq (ei_op0 (g := fun i j => i - j) ev_c (ei_int1 (eb_inT (neg := false) (n := x0) (ev_var rfl) (E1 (eB.trans f1))))) (capI S x0)) fun H4 e4 => ?_
    dsimp only
    have hq : ps[x0]? = some (ps[x0]'(by omega)) := List.getElem?_eq_getElem _
    have hg : (fun m => (ps[m]?).map V.ref) x0 = some (.ref (ps[x0]'(by omega))) := by simp only [hq]; rfl
    have EO : ∀ {H5}, Ex H4 H5 → Ev (tDGet (tVar 2) (tVar 5)) [some t, some u, some (.ref d), some (.ref pT), some (.ref pB), some (vN x0), some (vO o), some (vN (capS S x0)), none] H5 (.ref (ps[x0]'(by omega))) := fun e => ev_dget (k := x0) (ev_var rfl) (ev_var rfl) ((dB.up f1).up (e4.trans e)) hg
    refine sd_extL (K := K) (xs := xs) (ds := (((off x0).take (capS S x0)).map (tie x0)).map dE) (ev_var rfl) (e4 _ _ f3) ((ed_lcL ((off x0).take (capS S x0)) dI (fun _ => true) (fun c => dE (tie x0 c)) good_name (ed_slL (EO (ex_r _)) (e4 _ _ (f2.it _ _ hq)) (ev_var rfl)) (by rw [List.length_take]; omega) (fun _ => rfl) fun c xx H5 hc e5 hxx => ⟨rfl, rfl, et_yes, fun _ => ed_tie (ev_var rfl) (ei_of (ed_var rfl hxx)) (ev_var rfl) (ei_of (ed_var rfl hxx))⟩).imp fun dd h => ?_) (by simp only [List.length_map, List.length_take]; omega) fun vs' H5 e5 hd5 hp5 => ?_
    · rw [h, List.filter_eq_self.mpr (by simp), List.map_map]; rfl
    dsimp only
    have hTM : delS H3 (pT :: pB :: ps) pT = none := delS_none (by simp)
    have hBM : delS H3 (pT :: pB :: ps) pB = none := delS_none (by simp)
    have g1 : Ex (delS H3 (pT :: pB :: ps)) (upd H5 pT (.lst (xs ++ vs'))) := ex_mut ((f1.trans e4).trans e5) hTM
    have t1 : TabI (upd H5 pT (.lst (xs ++ vs'))) ps off := ((f2.up e4).up e5).other hTps
    have hBv : upd H5 pT (.lst (xs ++ vs')) pB = some (.lst (Bs.map vN)) := by rw [upd_ne hBT]; exact e5 _ _ (e4 _ _ f5)
    have hda : DpAll K (upd H5 pT (.lst (xs ++ vs'))) (xs ++ vs') ((Ts ++ ((off x0).take (capS S x0)).map (tie x0)).map dE) := by
      rw [List.map_append]
      exact DpAll.app (dps_tx ((tx_ex (e4.trans e5)).trans (tx_upd hp5)) (noLs_map noL_E _) f4) (dps_tx (tx_upd hp5) (noLs_map noL_E _) hd5)
    have dB5 := dB.up g1
    have hTs : (Ts ++ ((off x0).take (capS S x0)).map (tie x0)).length ≤ 2 * (i + 1) := by
      simp only [List.length_append, List.length_map, List.length_take]; omega
    refine sd_if (et_eq (et_test (eb_op0 (g := fun i j => decide (j ≤ i)) (ev_lenV (K := K) (ev_dget (k := x0) (ev_var rfl) (ev_var rfl) dB5 hg) (sq_of (t1.it _ _ hq))) (ev_var rfl))) (j := decide (capS S x0 ≤ (off x0).length)) (by rw [Bool.eq_iff_iff]; simp)) (fun c H6 e6 => ?_) fun c H6 e6 => ?_
    · have c : capS S x0 ≤ (off x0).length := of_decide_eq_true c
      rw [if_pos c] at f6 f7
      refine sd_app (K := K) (R := fun r => r = dI x0) (ev_var rfl) (e6 _ _ hBv) (ed_int (ev_var rfl)) (by rw [List.length_map]; omega) fun v7 H7 r7 e7 hr7 hv7 hp7 => ?_
      subst hr7
      have hv7 := hv7.int_v
      subst hv7
      dsimp only
      refine ⟨_, _, _, off, _, Bs ++ [x0], _, rfl, ex_mut ((g1.trans e6).trans e7) hBM, ((t1.up e6).up e7).other hBps, by rw [upd_ne (Ne.symm hBT)]; exact e7 _ _ (e6 _ _ upd_same), dps_tx ((tx_ex (e6.trans e7)).trans (tx_upd hp7)) (noLs_map noL_E _) hda, by rw [upd_same, List.map_append]; rfl, by rw [f6, List.append_assoc], by rw [f7]; simp, fun j => Nat.le_succ_of_le (f8 j), hTs, by simp; omega⟩
    · have c : ¬ capS S x0 ≤ (off x0).length := of_decide_eq_false c
      rw [if_neg c] at f6 f7
      refine sd_if (et_tB (eb_notN (o := o) (ev_var rfl))) (fun co H7 e7 => ?_) fun co H7 e7 => ?_
      · cases o with
        | none => cases co
        | some p =>
          have hp : p < n := by
            have h1 : tie x0 p ∈ G37.TE F.reverse := G37.mem_TE.mpr ⟨x0, p, List.mem_of_getElem? hi, rfl⟩
            exact (hf.adj (hF.te.mem_iff.mp h1)).2.1
          have ep := (e6.trans e7)
          refine sd_tabappD (K := K) (i := p) (x := x0) (t1.up ep) (dB5.up ep) (ev_var rfl) (ev_var rfl) (ev_var rfl) (by omega) (fun j => by have := f8 j; omega) fun H8 r8 e8 hr8 hq8 t8 => ?_
          dsimp only
          have hrM : delS H3 (pT :: pB :: ps) r8 = none := delS_none (by simp [hr8])
          have hrT : pT ≠ r8 := fun z => hTps (by rw [z]; exact hr8)
          have hrB : pB ≠ r8 := fun z => hBps (by rw [z]; exact hr8)
          refine ⟨_, _, _, G37.push off p x0, _, Bs, _, rfl, ex_mut ((g1.trans ep).trans e8) hrM, t8, by rw [upd_ne hrT]; exact e8 _ _ (ep _ _ upd_same), dps_tx ((tx_ex (ep.trans e8)).trans (tx_upd hq8)) (noLs_map noL_E _) hda, by rw [upd_ne hrB]; exact e8 _ _ (ep _ _ hBv), by rw [f6, List.append_assoc]; rfl, by rw [f7]; rfl, push_len f8, hTs, by omega⟩
      · cases o with
        | some p => cases co
        | none =>
          have ep := (e6.trans e7)
          refine ⟨_, _, _, off, _, Bs, _, rfl, (g1.trans ep), t1.up ep, ep _ _ upd_same, hda.up ep, ep _ _ hBv, by rw [f6, List.append_assoc]; rfl, by rw [f7]; rfl, fun j => Nat.le_succ_of_le (f8 j), hTs, by omega⟩
  · obtain ⟨x5, x6, x7, off, Ts, Bs, xs, rfl, f1, f2, f3, f4, f5, f6, f7, f8, f9, f10⟩ := pv
    have eB : Ex H (delS H3 (pT :: pB :: ps)) := ex_delS ((e1.trans e2).trans e3) hfrM
    have hdr : F.reverse.drop F.length = [] := List.drop_of_length_le (by simp)
    rw [hdr] at f6 f7
    have f6 : (grd (capS S) F.reverse fun _ => []).1 = Ts := by rw [f6]; exact List.append_nil _
    have f7 : (grd (capS S) F.reverse fun _ => []).2 = Bs := by rw [f7]; exact List.append_nil _
    have tk := hF.taken (capS S)
    rw [f6, f7] at tk
    dsimp only
    have hts := ep_sortD (K := K) (ta := tVar 3) (σ := [some t, some u, some (.ref d), some (.ref pT), some (.ref pB), x5, x6, x7, none]) Ts dE (ed_var rfl (.lst (sq_of f3) f4)) (fun a _ b _ => alike_ints [a.1, a.2] [b.1, b.2]) (fun a _ => ⟨_, _, rfl⟩) (fun a _ => by show 1 ≤ 8; decide)
    refine sd_ret (K := K) (ep_tup (R := fun r => ∃ T B, Taken n es (capS S) T B ∧ B.Pairwise (· < ·) ∧ r = .tuple [dEs T, dT B]) (epa_fst (ep_tupOf (R := fun r => ∃ T, T.Perm Ts ∧ r = dEs T) hts fun dd h => ?_) (ed_tupOf (ed_sortN (ed_var rfl (v_dL (sq_of f5)))))) fun ds h => ?_) fun v9 H9 r9 e9 hr9 hv9 => q v9 H9 r9 ((eB.trans f1).trans e9) hr9 hv9
    · obtain ⟨T', h1, _, h2⟩ := h
      exact ⟨_, h2, T', h1, rfl⟩
    · obtain ⟨d1, h1, T', h2, h3⟩ := h
      subst h1 h3
      refine ⟨by simp, T', sortN Bs, tk.perm h2 (sortN_perm _), ?_, rfl⟩
      have hnd : (sortN Bs).Nodup := (sortN_perm Bs).nodup_iff.mpr tk.bnd
      exact List.Pairwise.imp (fun {a b} h => by have h1 := h.1; have h2 : a ≠ b := h.2; omega) (List.Pairwise.and (sortN_le Bs) hnd)
abbrev s_need_both : Stmt := top 35
theorem sc_need_both : FnScope ["web", "ends"] ["web", "ends"] (defScope s_need_both) := ⟨rfl, rfl, rfl, by decide +kernel, rfl, by decide +kernel, by decide +kernel⟩
theorem kp_need_both (D : Df K mg "need_both" s_need_both ["web", "ends"]) (B : Bare mg) (h_need_forest : Kp P w K mg base "need_forest" 5 ["web"] (sp_need_forest K)) (h_need_places : Kp P w K mg base "need_places" 3 ["web", "thing"] (sp_need_places K)) : Kp P w K mg base "need_both" 6 ["web", "ends"] (sp_need_both K) := by
  obtain ⟨f_need_forest, fd_need_forest, F_need_forest, g_need_forest, k_need_forest, b_need_forest⟩ := h_need_forest
  obtain ⟨f_need_places, fd_need_places, F_need_places, g_need_places, k_need_places, b_need_places⟩ := h_need_places
  refine D.kp sc_need_both (spD_len (fun _ => rfl)) (fun f cdv A outer s H vs Q E hr h => ?_)
  refine ⟨_, (pss_cons (ps_expr (pe_call F_need_forest (hr.mono (by decide)) (by rfl) g_need_forest k_need_forest b_need_forest .nil pass0 (pa_cons (pv 0) pa_nil)))
  (pss_one (ps_expr (pe_call F_need_places (hr.mono (by decide)) (by rfl) g_need_places k_need_places b_need_places .nil pass0 (pa_cons (pv 0) (pa_cons (pv 1) pa_nil)))))), ?_⟩
  obtain ⟨⟨⟨n, es⟩, S⟩, hd, ⟨hw, hp⟩, q⟩ := h
  cases hd with | cons p1 hd => cases hd with | cons p2 hd =>
  cases hd
  refine sd_drop (ed_call (n, es) (eda_cons (ed_var rfl p1) eda_nil) hw) fun H1 e1 => ?_
  dsimp only
  exact sd_drop (ed_call ((n, es), S) (eda_cons (ed_var rfl (p1.up e1)) (eda_cons (ed_var rfl (p2.up e1)) eda_nil)) hp) fun H2 e2 => q .non H2 .none (e1.trans e2) rfl .non
abbrev s_few_in : Stmt := top 36
theorem sc_few_in : FnScope ["web", "ends"] ["web", "ends"] (defScope s_few_in) := ⟨rfl, rfl, rfl, by decide +kernel, rfl, by decide +kernel, by decide +kernel⟩
theorem kp_few_in (D : Df K mg "few_in" s_few_in ["web", "ends"]) (B : Bare mg) (h_taken_up : Kp P w K mg base "taken_up" 4 ["web", "ends"] (sp_taken_up K)) : Kp P w K mg base "few_in" 5 ["web", "ends"] (sp_few_in K) := by
  obtain ⟨f_taken_up, fd_taken_up, F_taken_up, g_taken_up, k_taken_up, b_taken_up⟩ := h_taken_up
  refine D.kp sc_few_in (spD_len (fun _ => rfl)) (fun f cdv A outer s H vs Q E hr h => ?_)
  refine ⟨_, (pss_one (ps_ret (pe_op op_sub (pe_ix (r := rIx K) ix_seq (pv 0) pe_int (fun _ _ => rfl)) (pe_callB (r := rLn K) cr_len (by rfl) B.len (by decide +kernel) (pa_cons (pe_ix (r := rIx K) ix_seq (pe_call F_taken_up (hr.mono (by decide)) (by rfl) g_taken_up k_taken_up b_taken_up .nil pass0 (pa_cons (pv 0) (pa_cons (pv 1) pa_nil))) pe_int (fun _ _ => rfl)) pa_nil))))), ?_⟩
  obtain ⟨⟨⟨n, es⟩, S⟩, hd, hw, q⟩ := h
  dsimp only at hw
  cases hd with | cons p1 hd => cases hd with | cons p2 hd =>
  cases hd
  rename_i t u
  have hk := ed_call (K := K) (E := L2.E0) (post := fun i r => ∃ T B, Taken i.1.1 i.1.2 (capS i.2) T B ∧ B.Pairwise (· < ·) ∧ r = .tuple [dEs T, dT B]) (pre := fun i => Web i.1.1 i.1.2) (ar := arWS) (H := H) (σ := [some t, some u]) ((n, es), S) (eda_cons (ed_var (i := 0) rfl p1) (eda_cons (ed_var (i := 1) rfl p2) eda_nil)) hw
  refine sd_ret (K := K) (ed_int (ei_op0 (g := fun i j => i - j) (ev_many (ed_var rfl p1) ev_c) (ei_of (ep_lenP (R := fun r => r = .int (G37.nu es (capS S) : Int)) (ep_ixP (R := fun r => ∃ T B, Taken n es (capS S) T B ∧ r = dEs T) hk (i := 0) ev_c fun dd h => ?_) fun dd h => ?_)))) fun v H1 r e hr hv => q v H1 r e hr hv
  · obtain ⟨T, B, h1, h2, rfl⟩ := h
    exact ⟨_, _, rfl, rfl, T, B, h1, rfl⟩
  · obtain ⟨T, B, h1, rfl⟩ := h
    refine ⟨T.map dE, .inl rfl, ?_⟩
    rw [List.length_map, h1.nu hw.fo]
abbrev s_forest_fewest : Stmt := top 37
theorem sc_forest_fewest : FnScope ["web", "ends"] ["web", "ends"] (defScope s_forest_fewest) := ⟨rfl, rfl, rfl, by decide +kernel, rfl, by decide +kernel, by decide +kernel⟩
theorem kp_forest_fewest (D : Df K mg "forest_fewest" s_forest_fewest ["web", "ends"]) (B : Bare mg) (h_need_both : Kp P w K mg base "need_both" 6 ["web", "ends"] (sp_need_both K)) (h_few_in : Kp P w K mg base "few_in" 5 ["web", "ends"] (sp_few_in K)) : Kp P w K mg base "forest_fewest" 7 ["web", "ends"] (sp_forest_fewest K) := by
  obtain ⟨f_need_both, fd_need_both, F_need_both, g_need_both, k_need_both, b_need_both⟩ := h_need_both
  obtain ⟨f_few_in, fd_few_in, F_few_in, g_few_in, k_few_in, b_few_in⟩ := h_few_in
  refine D.kp sc_forest_fewest (spD_len (fun _ => rfl)) (fun f cdv A outer s H vs Q E hr h => ?_)
  refine ⟨_, (pss_cons (ps_expr (pe_call F_need_both (hr.mono (by decide)) (by rfl) g_need_both k_need_both b_need_both .nil pass0 (pa_cons (pv 0) (pa_cons (pv 1) pa_nil))))
  (pss_one (ps_ret (pe_call F_few_in (hr.mono (by decide)) (by rfl) g_few_in k_few_in b_few_in .nil pass0 (pa_cons (pv 0) (pa_cons (pv 1) pa_nil)))))), ?_⟩
  obtain ⟨⟨⟨n, es⟩, S⟩, hd, ⟨hw, hp⟩, q⟩ := h
  cases hd with | cons p1 hd => cases hd with | cons p2 hd =>
  cases hd
  refine sd_drop (ed_call ((n, es), S) (eda_cons (ed_var rfl p1) (eda_cons (ed_var rfl p2) eda_nil)) ⟨hw, hp⟩) fun H1 e1 => ?_
  dsimp only
  exact sd_ret (K := K) (ed_call ((n, es), S) (eda_cons (ed_var rfl (p1.up e1)) (eda_cons (ed_var rfl (p2.up e1)) eda_nil)) hw) fun v H2 r e hr hv => q v H2 r (e1.trans e) hr hv
abbrev s_forest_parting : Stmt := top 38
theorem sc_forest_parting : FnScope ["web", "ends"] ["web", "ends"] (defScope s_forest_parting) := ⟨rfl, rfl, rfl, by decide +kernel, rfl, by decide +kernel, by decide +kernel⟩
theorem kp_forest_parting (D : Df K mg "forest_parting" s_forest_parting ["web", "ends"]) (B : Bare mg) (h_need_both : Kp P w K mg base "need_both" 6 ["web", "ends"] (sp_need_both K)) (h_joined_by : Kp P w K mg base "joined_by" 3 ["many", "ties"] (sp_joined_by K)) (h_taken_up : Kp P w K mg base "taken_up" 4 ["web", "ends"] (sp_taken_up K)) : Kp P w K mg base "forest_parting" 7 ["web", "ends"] (sp_forest_parting K) := by
  obtain ⟨f_need_both, fd_need_both, F_need_both, g_need_both, k_need_both, b_need_both⟩ := h_need_both
  obtain ⟨f_joined_by, fd_joined_by, F_joined_by, g_joined_by, k_joined_by, b_joined_by⟩ := h_joined_by
  obtain ⟨f_taken_up, fd_taken_up, F_taken_up, g_taken_up, k_taken_up, b_taken_up⟩ := h_taken_up
  refine D.kp sc_forest_parting (spD_len (fun _ => rfl)) (fun f cdv A outer s H vs Q E hr h => ?_)
  refine ⟨_, (pss_cons (ps_expr (pe_call F_need_both (hr.mono (by decide)) (by rfl) g_need_both k_need_both b_need_both .nil pass0 (pa_cons (pv 0) (pa_cons (pv 1) pa_nil))))
  (pss_one (ps_ret (pe_call F_joined_by (hr.mono (by decide)) (by rfl) g_joined_by k_joined_by b_joined_by .nil pass0 (pa_cons (pe_ix (r := rIx K) ix_seq (pv 0) pe_int (fun _ _ => rfl)) (pa_cons (pe_ix (r := rIx K) ix_seq (pe_call F_taken_up (hr.mono (by decide)) (by rfl) g_taken_up k_taken_up b_taken_up .nil pass0 (pa_cons (pv 0) (pa_cons (pv 1) pa_nil))) pe_int (fun _ _ => rfl)) pa_nil)))))), ?_⟩
  obtain ⟨⟨⟨n, es⟩, S⟩, hd, ⟨hw, hp⟩, q⟩ := h
  dsimp only at hw hp
  cases hd with | cons p1 hd => cases hd with | cons p2 hd =>
  cases hd
  have hn : n ≤ 60 := hw.le
  have hf : G37.Fo n es := hw.fo
  rename_i t u
  refine sd_drop (ed_call ((n, es), S) (eda_cons (ed_var rfl p1) (eda_cons (ed_var rfl p2) eda_nil)) ⟨hw, hp⟩) fun H1 e1 => ?_
  dsimp only
  have hk := ed_call (K := K) (E := L2.E0) (post := fun i r => ∃ T B, Taken i.1.1 i.1.2 (capS i.2) T B ∧ B.Pairwise (· < ·) ∧ r = .tuple [dEs T, dT B]) (pre := fun i => Web i.1.1 i.1.2) (ar := arWS) (H := H1) (σ := [some t, some u]) ((n, es), S) (eda_cons (ed_var (i := 0) rfl (p1.up e1)) (eda_cons (ed_var (i := 1) rfl (p2.up e1)) eda_nil)) hw
  refine sd_ret (K := K) (ep_call (R := fun r => ∃ T B Q, Taken n es (capS S) T B ∧ G37.Prt n T Q ∧ r = .tuple (Q.map dT)) (epa_two (ed_int (ev_many (ed_var rfl (p1.up e1)) ev_c)) (ep_ixP (R := fun r => ∃ T B, Taken n es (capS S) T B ∧ r = dEs T) hk (i := 0) ev_c fun dd h => ?_)) fun ds h => ?_) fun v H2 r e hr hv => q v H2 r (e1.trans e) hr hv
  · obtain ⟨T, B, h1, h2, rfl⟩ := h
    exact ⟨_, _, rfl, rfl, T, B, h1, rfl⟩
  · obtain ⟨d', h1, T, B, h2, h3⟩ := h
    subst h1 h3
    have fT : G37.Fo n T := hf.sub h2.nd h2.sub
    refine ⟨(n, T), rfl, ⟨by dsimp only; omega, fT, fun v hv => ?_⟩, fun r hr => ?_⟩
    · rw [← G37.deg_nb fT v]
      exact Nat.le_trans (h2.deg v hv) (G37.capS_le S v)
    · obtain ⟨Q, h4, h5⟩ := hr
      exact ⟨T, B, Q, h2, h4, h5⟩
abbrev s_forest_bar : Stmt := top 39
theorem sc_forest_bar : FnScope ["web", "ends"] ["web", "ends"] (defScope s_forest_bar) := ⟨rfl, rfl, rfl, by decide +kernel, rfl, by decide +kernel, by decide +kernel⟩
theorem kp_forest_bar (D : Df K mg "forest_bar" s_forest_bar ["web", "ends"]) (B : Bare mg) (h_need_both : Kp P w K mg base "need_both" 6 ["web", "ends"] (sp_need_both K)) (h_taken_up : Kp P w K mg base "taken_up" 4 ["web", "ends"] (sp_taken_up K)) : Kp P w K mg base "forest_bar" 7 ["web", "ends"] (sp_forest_bar K) := by
  obtain ⟨f_need_both, fd_need_both, F_need_both, g_need_both, k_need_both, b_need_both⟩ := h_need_both
  obtain ⟨f_taken_up, fd_taken_up, F_taken_up, g_taken_up, k_taken_up, b_taken_up⟩ := h_taken_up
  refine D.kp sc_forest_bar (spD_len (fun _ => rfl)) (fun f cdv A outer s H vs Q E hr h => ?_)
  refine ⟨_, (pss_cons (ps_expr (pe_call F_need_both (hr.mono (by decide)) (by rfl) g_need_both k_need_both b_need_both .nil pass0 (pa_cons (pv 0) (pa_cons (pv 1) pa_nil))))
  (pss_one (ps_ret (pe_ix (r := rIx K) ix_seq (pe_call F_taken_up (hr.mono (by decide)) (by rfl) g_taken_up k_taken_up b_taken_up .nil pass0 (pa_cons (pv 0) (pa_cons (pv 1) pa_nil))) pe_int (fun _ _ => rfl))))), ?_⟩
  obtain ⟨⟨⟨n, es⟩, S⟩, hd, ⟨hw, hp⟩, q⟩ := h
  dsimp only at hw hp
  cases hd with | cons p1 hd => cases hd with | cons p2 hd =>
  cases hd
  rename_i t u
  refine sd_drop (ed_call ((n, es), S) (eda_cons (ed_var rfl p1) (eda_cons (ed_var rfl p2) eda_nil)) ⟨hw, hp⟩) fun H1 e1 => ?_
  dsimp only
  have hk := ed_call (K := K) (E := L2.E0) (post := fun i r => ∃ T B, Taken i.1.1 i.1.2 (capS i.2) T B ∧ B.Pairwise (· < ·) ∧ r = .tuple [dEs T, dT B]) (pre := fun i => Web i.1.1 i.1.2) (ar := arWS) (H := H1) (σ := [some t, some u]) ((n, es), S) (eda_cons (ed_var (i := 0) rfl (p1.up e1)) (eda_cons (ed_var (i := 1) rfl (p2.up e1)) eda_nil)) hw
  refine sd_ret (K := K) (ep_ixP (R := fun r => ∃ T B, Taken n es (capS S) T B ∧ B.Pairwise (· < ·) ∧ r = dT B) hk (i := 1) ev_c fun dd h => ?_) fun v H2 r e hr hv => q v H2 r (e1.trans e) hr hv
  obtain ⟨T, B, h1, h2, rfl⟩ := h
  exact ⟨_, _, rfl, rfl, T, B, h1, h2, rfl⟩
end
end W37
/-! dicts of data -/
namespace W37
open PySem PySem.Spec PyProof.Rows L2
open Evl (Ex Ev EvT EvA EvL)
open G37 (Ed RE)
section
variable {K : PySem.W.Frag} {σ : L2.St} {H H' : Hp} {ta tb tc te tl tx : TE} {R R' : PyData → Prop} {d d1 d2 : PyData} {v x : V} {D : Ends} {tu tw : TS}
/-- a new list -/
def EvF (K : PySem.W.Frag) (te : TE) (σ : L2.St) (H : Hp) (ds : List PyData) : Prop := ∀ H1, Ex H H1 → ∀ Q : VK, (∀ p xs H2, Ex H1 H2 → H2 p = none → DpAll K H2 xs ds → Q (.ref p) (upd H2 p (.lst xs))) → te σ H1 Q
theorem ef_lst {t : TA} {ds : List PyData} (h : EvDA K t σ H ds) (hl : ds.length ≤ 100000) : EvF K (tLst t) σ H ds := fun H1 e Q q =>
  h H1 e _ fun vs H2 ds' e2 r p => by
    subst r
    exact ⟨by rw [p.len]; exact sz100 hl, fun a ha => q a vs H2 e2 ha p⟩
/-- i = dict([(place, a new list of data) for place in range(n)]) -/
theorem sd_datD {n : Nat} {ta : TA} {i j : Nat} {vs : List Nat} {ds : List PyData} (hds : noLs ds = true) (h : EvA ta σ H [.int (n : Int)]) (hn : n ≤ 30000) (hw : ∀ x, wipe ((wipe σ vs).set j (some x)) vs = wipe σ vs) (hj : ∀ x, ((wipe σ vs).set j (some x))[j]? = some (some x)) (hx : ∀ x H1, Ex H H1 → EvF K tx ((wipe σ vs).set j (some x)) H1 ds)
    (k : ∀ d g H1, Ex H H1 → H d = none → DKat H1 d g → (∀ m, m < n → ∃ v, g m = some v ∧ Dp K H1 v (.list ds)) → D.nx (σ.set i (some (.ref d))) H1) :
    tAsg (tCB (rDictP K) (tCons (tLc (iRng1 ta) (gName j) tYes (tTup (tCons (tVar j) (tCons tx tNil))) vs) tNil)) (gName i) D σ H := h H (Ex.refl H) _ fun H1 e => by
  refine ⟨(n : Int), rfl, by omega, by omega, fun L hL => ?_⟩
  have hn' : (n : Int).toNat = n := by omega
  rw [hn']
  refine lc_it (walk_range (lo := 0) (n := n)) (fun m H2 => Ex H1 H2 ∧ ∃ ts ps : List Addr, H2 L = some (.lst (ts.map V.ref)) ∧ ts.length = m ∧ ps.length = m ∧ (∀ j t q, ts[j]? = some t → ps[j]? = some q → H2 t = some (.tup [vN j, .ref q]) ∧ q ≠ L ∧ ∃ xs, H2 q = some (.lst xs) ∧ DpAll K H2 xs ds)) ⟨ex_mut (ex_r _) hL, [], [], upd_same, rfl, rfl, by simp⟩ (fun _ _ _ _ => trivial) (fun m x H3 H4 hi p y => ?_) fun H2 p => ?_
  · obtain ⟨rfl, hxm⟩ := y
    have hxm : x = vN m := by rw [hxm]; show V.int (0 + (m : Int)) = _; rw [Int.zero_add]
    subst hxm
    obtain ⟨e3, ts, ps, hL2, hlt, hlp, hit⟩ := p
    refine ⟨hw _, yes_ (iteT ?_)⟩
    refine ⟨_, hj _, hx _ H4 (e.trans e3) H4 (ex_r _) _ fun q xs H5 e5 hq hxs => ⟨Evl.sz_of (by simp), fun t ht => ?_⟩⟩
    have hL5 := e5 L _ hL2
    have hqL : q ≠ L := fun z => by rw [z, hL5] at hq; cases hq
    have htq : t ≠ q := fun z => by rw [z, upd_same] at ht; cases ht
    have ht0 : H5 t = none := by rw [upd_ne htq] at ht; exact ht
    have htL : t ≠ L := fun z => by rw [z, hL5] at ht0; cases ht0
    have e6 : Ex H5 (upd (upd H5 q (.lst xs)) t (.tup [vN m, .ref q])) := (ex_new hq).trans (ex_new ht)
    have hL6 : upd (upd H5 q (.lst xs)) t (.tup [vN m, .ref q]) L = some (.lst (ts.map V.ref)) := e6 L _ hL5
    have t6 : Tx K H5 (upd (upd (upd H5 q (.lst xs)) t (.tup [vN m, .ref q])) L (.lst (ts.map V.ref ++ [.ref t]))) := (tx_ex e6).trans (tx_upd hL6)
    refine ⟨ts.map V.ref, hL6, szlt (by rw [List.length_map]; omega), ex_mut ((e3.trans e5).trans e6) hL, ts ++ [t], ps ++ [q], by rw [upd_same]; simp, by simp [hlt], by simp [hlp], fun j t' q' h1 h2 => ?_⟩
    rcases Nat.lt_trichotomy j m with c | c | c
    · rw [List.getElem?_append_left (by omega)] at h1 h2
      obtain ⟨h3, h4, xs', h5, h6⟩ := hit j t' q' h1 h2
      exact ⟨by rw [upd_ne (fun z => by rw [z, hL2] at h3; cases h3)]; exact e6 _ _ (e5 _ _ h3), h4, xs', by rw [upd_ne h4]; exact e6 _ _ (e5 _ _ h5), dps_tx ((tx_ex e5).trans t6) hds h6⟩
    · subst c
      rw [List.getElem?_append_right (by omega), hlt, Nat.sub_self] at h1
      rw [List.getElem?_append_right (by omega), hlp, Nat.sub_self] at h2
      simp at h1 h2
      subst h1 h2
      exact ⟨by rw [upd_ne htL, upd_same], hqL, xs, by rw [upd_ne hqL, upd_ne (Ne.symm htq), upd_same], dps_tx t6 hds hxs⟩
    · rw [List.getElem?_eq_none (by simp; omega)] at h1; cases h1
  · obtain ⟨e3, ts, ps, hL2, hlt, hlp, hit⟩ := p
    refine ⟨L, ts, (List.range n).map fun m : Nat => (.inl (m : Int), (ps[m]?.map V.ref).getD .non), rfl, sq_of hL2, paired_by (by simp [hlt]) fun j t kv h1 h2 => ?_, fun d hd => ?_⟩
    · obtain ⟨hj1, _⟩ := List.getElem?_eq_some_iff.mp h1
      rw [List.getElem?_map, List.getElem?_range (by omega)] at h2
      cases h2
      have hj2 : ps[j]? = some (ps[j]'(by omega)) := List.getElem?_eq_getElem _
      have := (hit j t _ h1 hj2).1
      refine st_of ?_
      rw [this]
      dsimp only
      rw [hj2]; rfl
    · refine k d (fun m => (ps[m]?).map V.ref) _ ((e.trans e3).trans (ex_new hd)) (ex_free (e.trans e3) hd) ⟨_, upd_same, ?_, fun m => ?_⟩ fun m hm => ?_
      · have := length_mergeK ((List.range n).map fun m : Nat => ((.inl (m : Int) : Key), (ps[m]?.map V.ref).getD .non)) []
        simp at this ⊢
        omega
      · rw [valV_merge]
        · have gen : ∀ l : List Nat, valV (l.map fun m : Nat => ((.inl (m : Int) : Key), (ps[m]?.map V.ref).getD .non)) (.inl (m : Int)) = if m ∈ l then some ((ps[m]?.map V.ref).getD .non) else none := by
            intro l
            induction l with
            | nil => rfl
            | cons x l ih =>
              rw [List.map_cons]
              by_cases c : x = m
              · rw [valV_pos (by simp [c])]; simp [c]
              · rw [valV_neg (by intro z; simp at z; omega), ih]
                have : ¬ m = x := fun z => c z.symm
                simp [this]
          rw [gen]
          by_cases c : m < n
          · rw [if_pos (List.mem_range.mpr c)]
            have : ps[m]? = some (ps[m]'(by omega)) := List.getElem?_eq_getElem _
            dsimp only
            rw [this]; rfl
          · rw [if_neg (by simpa using c)]
            dsimp only
            rw [List.getElem?_eq_none (by omega)]; rfl
        · rw [List.map_map]
          refine List.Pairwise.map _ (fun a b ne z => ne ?_) (List.nodup_range (n := n))
          simp [Function.comp] at z
          omega
      · have h1 : ts[m]? = some (ts[m]'(by omega)) := List.getElem?_eq_getElem _
        have h2 : ps[m]? = some (ps[m]'(by omega)) := List.getElem?_eq_getElem _
        obtain ⟨_, _, xs, h3, h4⟩ := hit m _ _ h1 h2
        exact ⟨_, by rw [h2]; rfl, (Dp.lst (sq_of h3) h4).up (ex_new hd)⟩
/-- d[k] = data -/
theorem sd_dput {dd : Addr} {g : Nat → Option V} {p : Nat} (hv : EvP K te σ H R) (hd : DKat H dd g) (ho : Ev ta σ H (.ref dd)) (hi : Ev tb σ H (vN p)) (hl : ∀ kvs, H dd = some (.dK kvs) → kvs.length < 50000) (k : ∀ v H1 r kvs, Ex H H1 → R r → Dp K H1 v r → H1 dd = some (.dK kvs) → H dd = some (.dK kvs) → D.nx σ (upd H1 dd (.dK (putK kvs (.inl (p : Int)) v)))) :
    sDPut ta tb te D σ H := hv H (Ex.refl H) _ fun v H1 r e1 hr hvv => ho H1 e1 _ fun H2 e2 => hi H2 (e1.trans e2) _ fun H3 e3 => by
  obtain ⟨kvs, h1, _, _⟩ := hd
  have e := (e1.trans e2).trans e3
  exact ⟨dd, _, rfl, DPut.k (k := .inl (p : Int)) (e dd _ h1) (Nat.lt_of_lt_of_le (hl kvs h1) (by decide)), k v H3 r kvs e hr (hvv.up (e2.trans e3)) (e dd _ h1) h1⟩
end
end W37
namespace W37
open PySem PySem.Spec PyProof.Rows L2
open Evl (Ex Ev EvT EvA EvL)
theorem DKat.put {H : Hp} {d : Addr} {g : Nat → Option V} {kvs : List (Key × V)} {p : Nat} {v : V} (h : DKat H d g) (hk : H d = some (.dK kvs)) (hp : (g p).isSome = true) : DKat (upd H d (.dK (putK kvs (.inl (p : Int)) v))) d (fun m => if m = p then some v else g m) := by
  obtain ⟨kvs', h1, h2, h3⟩ := h
  rw [hk] at h1
  cases h1
  refine ⟨_, upd_same, ?_, fun m => ?_⟩
  · unfold putK
    rw [if_pos (by rw [valV_any, h3]; exact hp), List.length_map]
    exact h2
  · rw [valV_put, h3]
    by_cases c : m = p
    · simp [c]
    · dsimp only
      rw [if_neg c, if_neg (by intro z; simp at z; omega)]
end W37
/-! counting the partings, open places -/
namespace W37
open PySem PySem.Spec PyProof.Rows L2
open Evl (Ex Ev EvT EvA EvL et_test et_B et_and et_or et_not ev_var ev_c ea_nil ea_cons ev_andV ev_orV ev_notV s_if)
open G37 (Ed nb tie ltE Web RE capS cap2 P2 Rows betI bthI shI all2 one2 wb rows0 setR HI cnt nu)
abbrev dP (p : P2) : PyData := .tuple [.int p.1, .int p.2]
abbrev dRs (r : Rows) : List PyData := [dP r.1, dP r.2.1, dP r.2.2]
abbrev dRows (r : Rows) : PyData := .list (dRs r)
def Sm (i : Int) : Prop := -(2 ^ 64) < i ∧ i < 2 ^ 64
abbrev sp_better (K : PySem.W.Frag) : Sp := spD K (fun i : P2 × P2 => [dP i.1, dP i.2]) (fun _ => True) (fun i r => r = dP (betI i.1 i.2))
abbrev sp_both (K : PySem.W.Frag) : Sp := spD K (fun i : P2 × P2 => [dP i.1, dP i.2]) (fun i => Sm i.2.2) (fun i r => r = dP (bthI i.1 i.2))
abbrev sp_with_below (K : PySem.W.Frag) : Sp := spD K (fun i : Rows × Rows => [dRows i.1, dRows i.2]) (fun i => Sm (all2 i.2).2 ∧ Sm (one2 i.2).2) (fun i r => r = dRows (wb i.1 i.2))
abbrev sp_forest_count (K : PySem.W.Frag) : Sp := spD K (fun i : Nat × List Ed => [dWeb i.1 i.2]) (fun i => Web i.1 i.2) (fun i r => r = .int (cnt i.2 cap2 : Int))
abbrev sp_open_places (K : PySem.W.Frag) : Sp := spD K (fun i : Nat × List Ed => [dWeb i.1 i.2]) (fun i => Web i.1 i.2) (fun i r => r = dT ((List.range i.1).filter fun p => decide (nu i.2 (capS [p]) = nu i.2 cap2)))
theorem lt_dP {p q : P2} (h : p.1 ≠ q.1) : PySem.W.dataLt (dP p) (dP q) = decide (p.1 < q.1) := by
  show PyProof.Rows.lexLt itemOrd [.inl 1, .inl p.1, .inl 1, .inl p.2, .inl 0] [.inl 1, .inl q.1, .inl 1, .inl q.2, .inl 0] = _
  simp [PyProof.Rows.lexLt, PyProof.Rows.itemLt]
  omega
theorem pow_sm {k : Nat} (h : k ≤ 60) {i : Int} (h0 : 0 ≤ i) (h1 : i ≤ 2 ^ k) : Sm i := by
  have : (2 : Int) ^ k ≤ 2 ^ 60 := by
    have := Nat.pow_le_pow_right (n := 2) (by decide) h
    exact_mod_cast this
  exact ⟨by omega, by omega⟩
section
variable {K : PySem.W.Frag} {σ : L2.St} {H H' : Hp} {ta tb tc te tl : TE}
theorem ei_fst {p : P2} (h : EvD K ta σ H (dP p)) (hb : Ev tb σ H (.int 0)) : Ev (tOp (rIx K) ta tb) σ H (.int p.1) := ei_of (ep_ix h hb rfl)
theorem ei_snd {p : P2} (h : EvD K ta σ H (dP p)) (hb : Ev tb σ H (.int 1)) : Ev (tOp (rIx K) ta tb) σ H (.int p.2) := ei_of (ep_ix h hb rfl)
end
section
variable {P : Program} {w : World} {K : PySem.W.Frag} {mg : Str → Option Value} {base : Heap}
abbrev s_better : Stmt := top 41
theorem sc_better : FnScope ["one", "other"] ["one", "other"] (defScope s_better) := ⟨rfl, rfl, rfl, by decide +kernel, rfl, by decide +kernel, by decide +kernel⟩
theorem kp_better (D : Df K mg "better" s_better ["one", "other"]) (B : Bare mg) : Kp P w K mg base "better" 1 ["one", "other"] (sp_better K) := by
  refine D.kp sc_better (spD_len (fun _ => rfl)) (fun f cdv A outer s H vs Q E hr h => ?_)
  refine ⟨_, (pss_cons (ps_if (pt_cmpR op_eq (pe_ix (r := rIx K) ix_seq (pv 0) pe_int (fun _ _ => rfl)) (pe_ix (r := rIx K) ix_seq (pv 1) pe_int (fun _ _ => rfl)) (by rfl))
  (pss_one (ps_ret (pe_tup (pa_cons (pe_ix (r := rIx K) ix_seq (pv 0) pe_int (fun _ _ => rfl)) (pa_cons (pe_op op_add (pe_ix (r := rIx K) ix_seq (pv 0) pe_int (fun _ _ => rfl)) (pe_ix (r := rIx K) ix_seq (pv 1) pe_int (fun _ _ => rfl))) pa_nil)))))
  pss_nil)
  (pss_one (ps_ret (pe_callB (r := rTwoD K true) (cr_max2D hr.units rfl) (by rfl) B.max (by decide +kernel) (pa_cons (pv 0) (pa_cons (pv 1) pa_nil)))))), ?_⟩
  obtain ⟨⟨a, b⟩, hd, _, q⟩ := h
  dsimp only at q
  cases hd with | cons p1 hd => cases hd with | cons p2 hd =>
  cases hd
  rename_i t u
  have E0 : ∀ {H1}, Ex H H1 → EvD K (tVar 0) [some t, some u] H1 (dP a) := fun e => ed_var rfl (p1.up e)
  have E1 : ∀ {H1}, Ex H H1 → EvD K (tVar 1) [some t, some u] H1 (dP b) := fun e => ed_var rfl (p2.up e)
  refine sd_if (et_test (eb_eqI (ei_fst (E0 (ex_r _)) ev_c) (ei_fst (E1 (ex_r _)) ev_c))) (fun c H1 e1 => ?_) fun c H1 e1 => ?_
  · have c : a.1 = b.1 := of_decide_eq_true c
    refine sd_ret (K := K) (ed_tup (eda_cons (ed_int (ei_fst (E0 e1) ev_c)) (eda_cons (ed_int (ei_op0 (g := fun i j => i + j) (ei_snd (E0 e1) ev_c) (ei_snd (E1 e1) ev_c))) eda_nil)) (by simp)) fun v H2 r e hr hv => q v H2 r (e1.trans e) ?_ hv
    rw [hr]; unfold betI; rw [if_pos c]
  · have c : ¬ a.1 = b.1 := of_decide_eq_false c
    unfold tNext
    dsimp only
    refine sd_ret (K := K) (R := fun r => r = dP (betI a b)) ?_ fun v H2 r e hr hv => ?_
    case refine_2 => exact q v H2 r (e1.trans e) hr hv
    intro H2 e2 Q' q'
    refine ⟨t, rfl, u, rfl, t, u, dP a, dP b, rfl, p1.up (e1.trans e2), p2.up (e1.trans e2), ⟨?_, ?_⟩, ?_, ?_⟩
    · intro x hx y hy
      have hx : x = dP a ∨ x = dP b := by simpa using hx
      have hy : y = dP a ∨ y = dP b := by simpa using hy
      rcases hx with rfl | rfl <;> rcases hy with rfl | rfl <;> rfl
    · intro x hx
      have hx : x = dP a ∨ x = dP b := by simpa using hx
      rcases hx with rfl | rfl <;> (intro z; cases z)
    · show max 1 (max 1 0) ≤ 8; decide
    · simp only [if_true]
      rw [lt_dP c]
      unfold betI at q'
      rw [if_neg c] at q'
      by_cases d : a.1 < b.1
      · rw [decide_eq_true d]
        rw [if_pos d] at q'
        exact q' _ _ _ (ex_r _) rfl (p2.up (e1.trans e2))
      · rw [decide_eq_false d]
        rw [if_neg d] at q'
        exact q' _ _ _ (ex_r _) rfl (p1.up (e1.trans e2))
abbrev s_both : Stmt := top 42
theorem sc_both : FnScope ["one", "other"] ["one", "other"] (defScope s_both) := ⟨rfl, rfl, rfl, by decide +kernel, rfl, by decide +kernel, by decide +kernel⟩
theorem kp_both (D : Df K mg "both" s_both ["one", "other"]) (B : Bare mg) : Kp P w K mg base "both" 1 ["one", "other"] (sp_both K) := by
  refine D.kp sc_both (spD_len (fun _ => rfl)) (fun f cdv A outer s H vs Q E hr h => ?_)
  refine ⟨_, (pss_one (ps_ret (pe_tup (pa_cons (pe_op op_add (pe_ix (r := rIx K) ix_seq (pv 0) pe_int (fun _ _ => rfl)) (pe_ix (r := rIx K) ix_seq (pv 1) pe_int (fun _ _ => rfl))) (pa_cons (pe_op op_mul (pe_ix (r := rIx K) ix_seq (pv 0) pe_int (fun _ _ => rfl)) (pe_ix (r := rIx K) ix_seq (pv 1) pe_int (fun _ _ => rfl))) pa_nil))))), ?_⟩
  obtain ⟨⟨a, b⟩, hd, hs, q⟩ := h
  dsimp only at q hs
  cases hd with | cons p1 hd => cases hd with | cons p2 hd =>
  cases hd
  rename_i t u
  have E0 : EvD K (tVar 0) [some t, some u] H (dP a) := ed_var rfl p1
  have E1 : EvD K (tVar 1) [some t, some u] H (dP b) := ed_var rfl p2
  exact sd_ret (K := K) (ed_tup (eda_cons (ed_int (ei_op0 (g := fun i j => i + j) (ei_fst E0 ev_c) (ei_fst E1 ev_c))) (eda_cons (ed_int (ei_op (g := fun i j => i * j) (ei_snd E0 ev_c) (ei_snd E1 ev_c) (.inr hs))) eda_nil)) (by simp)) fun v H2 r e hr hv => q v H2 r e hr hv
abbrev s_with_below : Stmt := top 43
theorem sc_with_below : FnScope ["rows", "below", "alone", "room", "up", "found", "k"] ["rows", "below"] (defScope s_with_below) := ⟨rfl, rfl, rfl, by decide +kernel, rfl, by decide +kernel, by decide +kernel⟩
theorem kp_with_below (D : Df K mg "with_below" s_with_below ["rows", "below"]) (B : Bare mg) (h_better : Kp P w K mg base "better" 1 ["one", "other"] (sp_better K)) (h_both : Kp P w K mg base "both" 1 ["one", "other"] (sp_both K)) : Kp P w K mg base "with_below" 2 ["rows", "below"] (sp_with_below K) := by
  obtain ⟨f_better, fd_better, F_better, g_better, k_better, b_better⟩ := h_better
  obtain ⟨f_both, fd_both, F_both, g_both, k_both, b_both⟩ := h_both
  refine D.kp sc_with_below (spD_len (fun _ => rfl)) (fun f cdv A outer s H vs Q E hr h => ?_)
  refine ⟨_, (pss_cons (ps_set (i := 2) sc_with_below.nd (by rfl) (by first | exact Or.inl rfl | exact Or.inr rfl) (pe_call F_better (hr.mono (by decide)) (by rfl) g_better k_better b_better .nil pass0 (pa_cons (pe_call F_better (hr.mono (by decide)) (by rfl) g_better k_better b_better .nil pass0 (pa_cons (pe_ix (r := rIx K) ix_seq (pv 1) pe_int (fun _ _ => rfl)) (pa_cons (pe_ix (r := rIx K) ix_seq (pv 1) pe_int (fun _ _ => rfl)) pa_nil))) (pa_cons (pe_ix (r := rIx K) ix_seq (pv 1) pe_int (fun _ _ => rfl)) pa_nil))))
  (pss_cons (ps_set (i := 3) sc_with_below.nd (by rfl) (by first | exact Or.inl rfl | exact Or.inr rfl) (pe_call F_better (hr.mono (by decide)) (by rfl) g_better k_better b_better .nil pass0 (pa_cons (pe_ix (r := rIx K) ix_seq (pv 1) pe_int (fun _ _ => rfl)) (pa_cons (pe_ix (r := rIx K) ix_seq (pv 1) pe_int (fun _ _ => rfl)) pa_nil))))
  (pss_cons (ps_set (i := 4) sc_with_below.nd (by rfl) (by first | exact Or.inl rfl | exact Or.inr rfl) (pe_tup (pa_cons (pe_op op_add (pe_ix (r := rIx K) ix_seq (pv 3) pe_int (fun _ _ => rfl)) pe_int) (pa_cons (pe_ix (r := rIx K) ix_seq (pv 3) pe_int (fun _ _ => rfl)) pa_nil))))
  (pss_cons (ps_set (i := 5) sc_with_below.nd (by rfl) (by first | exact Or.inl rfl | exact Or.inr rfl) (pe_lst (pa_cons (pe_call F_both (hr.mono (by decide)) (by rfl) g_both k_both b_both .nil pass0 (pa_cons (pe_ix (r := rIx K) ix_seq (pv 0) pe_int (fun _ _ => rfl)) (pa_cons (pv 2) pa_nil))) pa_nil)))
  (pss_cons (ps_for PassesOwn.never rfl (pi_range2 (by rfl) B.range (pa_cons pe_int (pa_cons pe_int pa_nil))) (pg_name (i := 6) sc_with_below.nd (by rfl) (by first | exact Or.inl rfl | exact Or.inr rfl))
  (pss_one (ps_expr (pe_bm PySem.F.plainAttrs_list PySem.F.slot_list_append PySem.F.type_list_append mt_append (pv 5) (pa_cons (pe_call F_better (hr.mono (by decide)) (by rfl) g_better k_better b_better .nil pass0 (pa_cons (pe_call F_both (hr.mono (by decide)) (by rfl) g_both k_both b_both .nil pass0 (pa_cons (pe_ix (r := rIx K) ix_seq (pv 0) (pv 6) (fun _ _ => rfl)) (pa_cons (pv 2) pa_nil))) (pa_cons (pe_call F_both (hr.mono (by decide)) (by rfl) g_both k_both b_both .nil pass0 (pa_cons (pe_ix (r := rIx K) ix_seq (pv 0) (pe_op op_sub (pv 6) pe_int) (fun _ _ => rfl)) (pa_cons (pv 4) pa_nil))) pa_nil))) pa_nil)))))
  (pss_one (ps_ret (pv 5)))))))), ?_⟩
  obtain ⟨⟨a, b⟩, hd, ⟨hs1, hs2⟩, q⟩ := h
  dsimp only at q hs1 hs2
  cases hd with | cons p1 hd => cases hd with | cons p2 hd =>
  cases hd
  rename_i t u
  have E0 : ∀ {H1 a1 b1 c1 d1 e1}, Ex H H1 → EvD K (tVar 0) [some t, some u, a1, b1, c1, d1, e1] H1 (dRows a) := fun e => ed_var rfl (p1.up e)
  have E1 : ∀ {H1 a1 b1 c1 d1 e1}, Ex H H1 → EvD K (tVar 1) [some t, some u, a1, b1, c1, d1, e1] H1 (dRows b) := fun e => ed_var rfl (p2.up e)
  refine sd_asg (K := K) (ed_call (betI b.1 b.2.1, b.2.2) (eda_cons (ed_call (b.1, b.2.1) (eda_cons (ep_ixL (E1 (ex_r _)) ev_c (atI_n (k := 0) rfl)) (eda_cons (ep_ixL (E1 (ex_r _)) ev_c (atI_n (k := 1) rfl)) eda_nil)) trivial) (eda_cons (ep_ixL (E1 (ex_r _)) ev_c (atI_n (k := 2) rfl)) eda_nil)) trivial) fun v1 H1 r1 e1 hr1 hv1 => ?_
  subst hr1
  dsimp only
  refine sd_asg (K := K) (ed_call (b.1, b.2.1) (eda_cons (ep_ixL (E1 e1) ev_c (atI_n (k := 0) rfl)) (eda_cons (ep_ixL (E1 e1) ev_c (atI_n (k := 1) rfl)) eda_nil)) trivial) fun v2 H2 r2 e2 hr2 hv2 => ?_
  subst hr2
  dsimp only
  refine sd_asg (K := K) (ed_tup (eda_cons (ed_int (ei_op0 (g := fun i j => i + j) (ei_fst (ed_var rfl hv2) ev_c) ev_c)) (eda_cons (ed_int (ei_snd (ed_var rfl hv2) ev_c)) eda_nil)) (by simp)) fun v3 H3 r3 e3 hr3 hv3 => ?_
  subst hr3
  dsimp only
  have EA : ∀ {H4 b1 c1}, Ex H3 H4 → EvD K (tVar 2) [some t, some u, some v1, some v2, some v3, b1, c1] H4 (dP (all2 b)) := fun e => ed_var rfl (hv1.up ((e2.trans e3).trans e))
  have EU : ∀ {H4 b1 c1}, Ex H3 H4 → EvD K (tVar 4) [some t, some u, some v1, some v2, some v3, b1, c1] H4 (dP (shI (one2 b))) := fun e => ed_var rfl (hv3.up e)
  have e13 := (e1.trans e2).trans e3
  refine sd_new1D (K := K) (ed_call (a.1, all2 b) (eda_cons (ep_ixL (E0 e13) ev_c (atI_n (k := 0) rfl)) (eda_cons (EA (ex_r _)) eda_nil)) hs1) fun p y r4 H4 e4 hr4 hy hp => ?_
  subst hr4
  dsimp only
  have hpH : H p = none := ex_free (e13.trans e4) hp
  have hp3 : H3 p = none := ex_free e4 hp
  have hat : ∀ k : Nat, k < 3 → ∃ z, (dRs a)[k]? = some (dP z) ∧ (k = 0 → z = a.1) ∧ (k = 1 → z = a.2.1) ∧ (k = 2 → z = a.2.2) := fun k hk => by
    match k, hk with
    | 0, _ => exact ⟨a.1, rfl, fun _ => rfl, by omega, by omega⟩
    | 1, _ => exact ⟨a.2.1, rfl, by omega, fun _ => rfl, by omega⟩
    | 2, _ => exact ⟨a.2.2, rfl, by omega, by omega, fun _ => rfl⟩
  refine Evl.s_forR2 (lo := 1) (n := 3) (ea_cons ev_c (ea_cons ev_c ea_nil)) ⟨by decide, by decide, by decide, by decide⟩ (fun i (σ' : L2.St) H' => ∃ x xs, σ' = [some t, some u, some v1, some v2, some v3, some (.ref p), x] ∧ Ex H3 H' ∧ H' p = some (.lst xs) ∧ DpAll K H' xs ((dRs (wb a b)).take (i + 1)))
    (fun H5 e5 => ⟨none, [y], rfl, (ex_mut e4 hp3).trans e5, e5 p _ upd_same, .one ((hy.up (ex_new hp)).up e5)⟩) (fun i σ' H' hi pv => ?_) fun σ' H' pv => ?_
  · obtain ⟨x, xs, rfl, f1, f2, f3⟩ := pv
    have hi : i < 2 := by omega
    obtain ⟨z1, hz1, _, hz11, hz12⟩ := hat (i + 1) (by omega)
    obtain ⟨z0, hz0, hz00, hz01, _⟩ := hat i (by omega)
    have hl := f3.len
    rw [List.length_take] at hl
    have e5 := e13.trans f1
    refine sd_app (K := K) (R := fun r => r = dP (betI (bthI z1 (all2 b)) (bthI z0 (shI (one2 b))))) (ev_var rfl) f2 (ed_call (bthI z1 (all2 b), bthI z0 (shI (one2 b))) (eda_cons (ed_call (z1, all2 b) (eda_cons (ep_ixL (E0 e5) (ei_eq (ev_var (i := 6) rfl) (j := ((i + 1 : Nat) : Int)) (by omega)) (atI_n hz1)) (eda_cons (EA f1) eda_nil)) hs1) (eda_cons (ed_call (z0, shI (one2 b)) (eda_cons (ep_ixL (E0 e5) (ei_eq (ei_op0 (g := fun i j => i - j) (ev_var (i := 6) rfl) ev_c) (j := ((i : Nat) : Int)) (by omega)) (atI_n hz0)) (eda_cons (EU f1) eda_nil)) hs2) eda_nil)) trivial) (by simp at hl; omega) fun v6 H6 r6 e6 hr6 hv6 hp6 => ?_
    subst hr6
    dsimp only
    refine ⟨_, xs ++ [v6], rfl, ex_mut (f1.trans e6) hp3, upd_same, ?_⟩
    have hns : noLs (dRs (wb a b)) = true := rfl
    have hnt : noLs ((dRs (wb a b)).take (i + 1)) = true := by
      match i, hi with
      | 0, _ => rfl
      | 1, _ => rfl
    have hsn : (dRs (wb a b)).take (i + 1 + 1) = (dRs (wb a b)).take (i + 1) ++ [dP (betI (bthI z1 (all2 b)) (bthI z0 (shI (one2 b))))] := by
      match i, hi with
      | 0, _ => rw [hz11 rfl, hz00 rfl]; rfl
      | 1, _ => rw [hz12 rfl, hz01 rfl]; rfl
    rw [hsn]
    exact DpAll.app (dps_tx ((tx_ex e6).trans (tx_upd hp6)) hnt f3) (.one (dp_tx (tx_upd hp6) rfl hv6))
  · obtain ⟨x, xs, rfl, f1, f2, f3⟩ := pv
    exact sd_ret (K := K) (ed_var rfl (.lst (sq_of f2) f3)) fun v9 H9 r9 e9 hr9 hv9 => q v9 H9 r9 ((e13.trans f1).trans e9) hr9 hv9
abbrev s_forest_count : Stmt := top 44
theorem sc_forest_count : FnScope ["web", "rows", "found", "place", "over"] ["web"] (defScope s_forest_count) := ⟨rfl, rfl, rfl, by decide +kernel, rfl, by decide +kernel, by decide +kernel⟩
theorem kp_forest_count (D : Df K mg "forest_count" s_forest_count ["web"]) (B : Bare mg) (h_need_forest : Kp P w K mg base "need_forest" 5 ["web"] (sp_need_forest K)) (h_from_roots : Kp P w K mg base "from_roots" 3 ["web"] (sp_from_roots K)) (h_with_below : Kp P w K mg base "with_below" 2 ["rows", "below"] (sp_with_below K)) (h_better : Kp P w K mg base "better" 1 ["one", "other"] (sp_better K)) : Kp P w K mg base "forest_count" 6 ["web"] (sp_forest_count K) := by
  obtain ⟨f_need_forest, fd_need_forest, F_need_forest, g_need_forest, k_need_forest, b_need_forest⟩ := h_need_forest
  obtain ⟨f_from_roots, fd_from_roots, F_from_roots, g_from_roots, k_from_roots, b_from_roots⟩ := h_from_roots
  obtain ⟨f_with_below, fd_with_below, F_with_below, g_with_below, k_with_below, b_with_below⟩ := h_with_below
  obtain ⟨f_better, fd_better, F_better, g_better, k_better, b_better⟩ := h_better
  refine D.kp sc_forest_count (spD_len (fun _ => rfl)) (fun f cdv A outer s H vs Q E hr h => ?_)
  refine ⟨_, (pss_cons (ps_expr (pe_call F_need_forest (hr.mono (by decide)) (by rfl) g_need_forest k_need_forest b_need_forest .nil pass0 (pa_cons (pv 0) pa_nil)))
  (pss_cons (ps_set (i := 1) sc_forest_count.nd (by rfl) (by first | exact Or.inl rfl | exact Or.inr rfl) (pe_callTy (r := rDictP K) (cr_dictP rfl) (by rfl) B.dict (by decide +kernel) (pa_cons (pe_lc (own := [("place", 3)]) rfl sc_forest_count.nd (pi_range1 (by rfl) B.range (pa_cons (pe_ix (r := rIx K) ix_seq (pv 0) pe_int (fun _ _ => rfl)) pa_nil)) (blkOk_by (N := ["web", "rows", "found", "place", "over"]) (sc := (defScope s_forest_count)) (by decide +kernel)) (fun _ _ _ _ _ => (pg_name (i := 3) sc_forest_count.nd (by rfl) (by first | exact Or.inl rfl | exact Or.inr rfl))) (fun _ _ _ _ _ => pts_nil) (fun _ _ _ _ _ => (pe_tup (pa_cons (pv 3) (pa_cons (pe_lst (pa_cons (pe_tup (pa_cons pe_int (pa_cons pe_int pa_nil))) (pa_cons (pe_tup (pa_cons (pe_un un_neg pe_int) (pa_cons pe_int pa_nil))) (pa_cons (pe_tup (pa_cons (pe_un un_neg pe_int) (pa_cons pe_int pa_nil))) pa_nil)))) pa_nil))))) pa_nil)))
  (pss_cons (ps_set (i := 2) sc_forest_count.nd (by rfl) (by first | exact Or.inl rfl | exact Or.inr rfl) pe_int)
  (pss_cons (ps_for PassesOwn.never rfl (pi_reversed (by rfl) B.reversed (pa_cons (pe_call F_from_roots (hr.mono (by decide)) (by rfl) g_from_roots k_from_roots b_from_roots .nil pass0 (pa_cons (pv 0) pa_nil)) pa_nil)) (pg_tupK (K := K) (n := 2) rfl rfl (pgs_cons (pg_name (i := 3) sc_forest_count.nd (by rfl) (by first | exact Or.inl rfl | exact Or.inr rfl)) (pgs_cons (pg_name (i := 4) sc_forest_count.nd (by rfl) (by first | exact Or.inl rfl | exact Or.inr rfl)) pgs_nil)))
  (pss_one (ps_if (pt_cmp (pc_isN (pv 4)))
  (pss_one (ps_set (i := 2) sc_forest_count.nd (by rfl) (by first | exact Or.inl rfl | exact Or.inr rfl) (pe_op op_mul (pv 2) (pe_ix (r := rIx K) ix_seq (pe_call F_better (hr.mono (by decide)) (by rfl) g_better k_better b_better .nil pass0 (pa_cons (pe_call F_better (hr.mono (by decide)) (by rfl) g_better k_better b_better .nil pass0 (pa_cons (pe_ix (r := rIx K) ix_seq (pe_dget (hu_of hr) (pv 1) (pv 3) (by intro _ _; rfl)) pe_int (fun _ _ => rfl)) (pa_cons (pe_ix (r := rIx K) ix_seq (pe_dget (hu_of hr) (pv 1) (pv 3) (by intro _ _; rfl)) pe_int (fun _ _ => rfl)) pa_nil))) (pa_cons (pe_ix (r := rIx K) ix_seq (pe_dget (hu_of hr) (pv 1) (pv 3) (by intro _ _; rfl)) pe_int (fun _ _ => rfl)) pa_nil))) pe_int (fun _ _ => rfl)))))
  (pss_one (ps_dput (hu_of hr) (pv 1) (pv 4) (pe_call F_with_below (hr.mono (by decide)) (by rfl) g_with_below k_with_below b_with_below .nil pass0 (pa_cons (pe_dget (hu_of hr) (pv 1) (pv 4) (by intro _ _; rfl)) (pa_cons (pe_dget (hu_of hr) (pv 1) (pv 3) (by intro _ _; rfl)) pa_nil))) (by rfl))))))
  (pss_one (ps_ret (pv 2))))))), ?_⟩
  obtain ⟨⟨n, es⟩, hd, hw, q⟩ := h
  dsimp only at hw q
  cases hd with | cons p1 hd =>
  cases hd
  have hn : n ≤ 60 := hw.le
  have hf : G37.Fo n es := hw.fo
  have hel : es.length ≤ n := hf.le
  rename_i t
  refine sd_drop (ed_call (n, es) (eda_cons (ed_var rfl p1) eda_nil) hw) fun H0 e0 => ?_
  dsimp only
  have E0 : ∀ {H1 a b c d}, Ex H H1 → EvD K (tVar 0) [some t, a, b, c, d] H1 (dWeb n es) := fun e => ed_var rfl (p1.up e)
  refine sd_datD (K := K) (n := n) (ds := dRs rows0) rfl (ea_cons (ev_many (E0 e0) ev_c) ea_nil) (by omega) (fun _ => rfl) (fun _ => rfl) (fun x H1 e1 => ef_lst (eda_cons (ed_tup (eda_cons (ed_int ev_c) (eda_cons (ed_int ev_c) eda_nil)) (by simp)) (eda_cons (ed_tup (eda_cons (ed_int (ev_neg ev_c)) (eda_cons (ed_int ev_c) eda_nil)) (by simp)) (eda_cons (ed_tup (eda_cons (ed_int (ev_neg ev_c)) (eda_cons (ed_int ev_c) eda_nil)) (by simp)) eda_nil))) (by simp)) fun d g H1 e1 hdn hdk hg => ?_
  dsimp only
  refine sd_asgV ev_c fun H2 e2 => ?_
  dsimp only
  have hM : Blank H2 [d] := fun l hl => by
    rw [List.mem_singleton.mp hl]
    obtain ⟨kvs, h, _⟩ := hdk
    exact .inr ⟨kvs, e2 d _ h⟩
  have hdH : H d = none := ex_free e0 hdn
  refine sd_forRM (K := K) dR [d] (S := fun F : List RE => G37.Ord n es F.reverse) hM noL_R (ed_call (n, es) (eda_cons (E0 ((e0.trans e1).trans e2)) eda_nil) hw)
    (fun B' F i σ' H' => ∃ x3 x4 f g rw_, σ' = [some t, some (.ref d), some (.int f), x3, x4] ∧ Ex B' H' ∧ DKat H' d g ∧ (∀ m, m < n → ∃ v, g m = some v ∧ Dp K H' v (dRows (rw_ m))) ∧ HI es (F.reverse.drop i) rw_ f)
    (fun H3 F e3 hF => ⟨none, none, 1, g, fun _ => rows0, rfl, delS_ex _ _, (hdk.up e2).up e3, fun m hm => by
      obtain ⟨v, h1, h2⟩ := hg m hm
      exact ⟨v, h1, (h2.up e2).up e3⟩, HI.start hF⟩) (fun B' F i σ' H' pv => by obtain ⟨_, _, _, _, _, _, h, _⟩ := pv; exact h) (fun H3 F i a x σ' H' e3 hF hi pv hx => ?_) (fun H3 F σ' H' e3 hF pv => ?_)
  · obtain ⟨x3, x4, f, g, rw_, rfl, f1, f2, f3, f4⟩ := pv
    obtain ⟨x0, o⟩ := a
    have eB : Ex H (delS H3 [d]) := ex_delS (((e0.trans e1).trans e2).trans e3) fun l hl => by rw [List.mem_singleton.mp hl]; exact hdH
    have hx0 : x0 < n := by
      have : x0 ∈ G37.vsR F.reverse := List.mem_map.mpr ⟨(x0, o), List.mem_of_getElem? hi, rfl⟩
      exact List.mem_range.mp (hF.vs.mem_iff.mp this)
    have hdr : F.reverse.drop i = (x0, o) :: F.reverse.drop (i + 1) := by
      obtain ⟨h1, h2⟩ := List.getElem?_eq_some_iff.mp hi
      rw [← h2]; exact List.drop_eq_getElem_cons h1
    rw [hdr] at f4
    have hbd := f4.bound
    have hb1 : Sm (all2 (rw_ x0)).2 := pow_sm (by omega) hbd.1 hbd.2.1
    have hb2 : Sm (one2 (rw_ x0)).2 := pow_sm (by omega) hbd.2.2.1 hbd.2.2.2
    obtain ⟨vx, hgx, hvx⟩ := f3 x0 hx0
    refine g2 hx fun vp vo hvp hvo => ?_
    have hvp := hvp.int_v
    have hvo := dO_v hvo
    subst hvp hvo
    have ER : ∀ {H4}, Ex H' H4 → EvD K (tDGet (tVar 1) (tVar 3)) [some t, some (.ref d), some (.int f), some (vN x0), some (vO o)] H4 (dRows (rw_ x0)) := fun e => ed_ev (ev_dget (k := x0) (ev_var rfl) (ev_var rfl) (f2.up e) hgx) (hvx.up e)
    refine sd_if (et_tB (eb_isN (o := o) (ev_var rfl))) (fun co H4 e4 => ?_) fun co H4 e4 => ?_
    · cases o with
      | some p => cases co
      | none =>
        refine sd_asgV (ei_op (C := CMul) (g := fun i j => i * j) (i := f) (j := (all2 (rw_ x0)).2) (ev_var rfl) (ei_snd (ed_call (betI (rw_ x0).1 (rw_ x0).2.1, (rw_ x0).2.2) (eda_cons (ed_call ((rw_ x0).1, (rw_ x0).2.1) (eda_cons (ep_ixL (ER e4) ev_c (atI_n (k := 0) rfl)) (eda_cons (ep_ixL (ER e4) ev_c (atI_n (k := 1) rfl)) eda_nil)) trivial) (eda_cons (ep_ixL (ER e4) ev_c (atI_n (k := 2) rfl)) eda_nil)) trivial) ev_c) (.inr hb1)) fun H5 e5 => ?_
        dsimp only
        exact ⟨_, _, _, g, rw_, rfl, (f1.trans e4).trans e5, (f2.up e4).up e5, fun m hm => by
          obtain ⟨v, h1, h2⟩ := f3 m hm
          exact ⟨v, h1, (h2.up e4).up e5⟩, f4.root⟩
    · cases o with
      | none => cases co
      | some p =>
        have hp : p < n := by
          have h1 : tie x0 p ∈ G37.TE F.reverse := G37.mem_TE.mpr ⟨x0, p, List.mem_of_getElem? hi, rfl⟩
          exact (hf.adj (hF.te.mem_iff.mp h1)).2.1
        obtain ⟨vq, hgq, hvq⟩ := f3 p hp
        refine sd_dput (K := K) (p := p) (ed_call (rw_ p, rw_ x0) (eda_cons (ed_ev (ev_dget (k := p) (ev_var rfl) (ev_var rfl) (f2.up e4) hgq) (hvq.up e4)) (eda_cons (ER e4) eda_nil)) ⟨hb1, hb2⟩) (f2.up e4) (ev_var rfl) (ev_var rfl) (fun kvs hk => ?_) fun v H5 r kvs e5 hr hv hk5 hk4 => ?_
        · obtain ⟨kvs', h1, h2, _⟩ := f2.up e4
          rw [hk] at h1; cases h1; omega
        subst hr
        have e45 := e4.trans e5
        have lx : Lx K H5 (upd H5 d (.dK (putK kvs (.inl (p : Int)) v))) := lx_updK hk5
        refine ⟨_, _, _, fun m => if m = p then some v else g m, setR rw_ p (wb (rw_ p) (rw_ x0)), rfl, ex_mut (f1.trans e45) (delS_none (by simp)), (f2.up e45).put hk5 (by rw [hgq]; rfl), fun m hm => ?_, f4.join⟩
        by_cases c : m = p
        · exact ⟨v, by simp [c], by simp only [setR, c, if_true]; exact dp_lx lx hv⟩
        · obtain ⟨v', h1, h2⟩ := f3 m hm
          exact ⟨v', by simp [c, h1], by simp only [setR, c, if_false]; exact dp_lx lx (h2.up e45)⟩
  · obtain ⟨x3, x4, f, g, rw_, rfl, f1, f2, f3, f4⟩ := pv
    have eB : Ex H (delS H3 [d]) := ex_delS (((e0.trans e1).trans e2).trans e3) fun l hl => by rw [List.mem_singleton.mp hl]; exact hdH
    rw [List.drop_of_length_le (by simp)] at f4
    have hdn := f4.done
    subst hdn
    dsimp only
    exact sd_ret (K := K) (ed_int (ev_var rfl)) fun v9 H9 r9 e9 hr9 hv9 => q v9 H9 r9 ((eB.trans f1).trans e9) hr9 hv9
abbrev s_open_places : Stmt := top 45
theorem sc_open_places : FnScope ["web", "least", "place"] ["web"] (defScope s_open_places) := ⟨rfl, rfl, rfl, by decide +kernel, rfl, by decide +kernel, by decide +kernel⟩
theorem kp_open_places (D : Df K mg "open_places" s_open_places ["web"]) (B : Bare mg) (h_need_forest : Kp P w K mg base "need_forest" 5 ["web"] (sp_need_forest K)) (h_few_in : Kp P w K mg base "few_in" 5 ["web", "ends"] (sp_few_in K)) : Kp P w K mg base "open_places" 6 ["web"] (sp_open_places K) := by
  obtain ⟨f_need_forest, fd_need_forest, F_need_forest, g_need_forest, k_need_forest, b_need_forest⟩ := h_need_forest
  obtain ⟨f_few_in, fd_few_in, F_few_in, g_few_in, k_few_in, b_few_in⟩ := h_few_in
  refine D.kp sc_open_places (spD_len (fun _ => rfl)) (fun f cdv A outer s H vs Q E hr h => ?_)
  refine ⟨_, (pss_cons (ps_expr (pe_call F_need_forest (hr.mono (by decide)) (by rfl) g_need_forest k_need_forest b_need_forest .nil pass0 (pa_cons (pv 0) pa_nil)))
  (pss_cons (ps_set (i := 1) sc_open_places.nd (by rfl) (by first | exact Or.inl rfl | exact Or.inr rfl) (pe_call F_few_in (hr.mono (by decide)) (by rfl) g_few_in k_few_in b_few_in .nil pass0 (pa_cons (pv 0) (pa_cons (pe_tup pa_nil) pa_nil))))
  (pss_one (ps_ret (pe_callTy (r := rTupOf K) cr_tupOf (by rfl) B.tuple (by decide +kernel) (pa_cons (pe_lc (own := [("place", 2)]) rfl sc_open_places.nd (pi_range1 (by rfl) B.range (pa_cons (pe_ix (r := rIx K) ix_seq (pv 0) pe_int (fun _ _ => rfl)) pa_nil)) (blkOk_by (N := ["web", "least", "place"]) (sc := (defScope s_open_places)) (by decide +kernel)) (fun _ _ _ _ _ => (pg_name (i := 2) sc_open_places.nd (by rfl) (by first | exact Or.inl rfl | exact Or.inr rfl))) (fun _ _ _ _ _ => pts_one (pt_cmpR op_eq (pe_call F_few_in (hr.mono (by decide)) (by rfl) g_few_in k_few_in b_few_in .nil pass0 (pa_cons (pv 0) (pa_cons (pe_tup (pa_cons (pv 2) pa_nil)) pa_nil))) (pv 1) (by rfl))) (fun _ _ _ _ _ => (pv 2))) pa_nil)))))), ?_⟩
  obtain ⟨⟨n, es⟩, hd, hw, q⟩ := h
  dsimp only at hw q
  cases hd with | cons p1 hd =>
  cases hd
  have hn : n ≤ 60 := hw.le
  rename_i t
  refine sd_drop (ed_call (n, es) (eda_cons (ed_var rfl p1) eda_nil) hw) fun H0 e0 => ?_
  dsimp only
  have E0 : ∀ {H1 a b}, Ex H H1 → EvD K (tVar 0) [some t, a, b] H1 (dWeb n es) := fun e => ed_var rfl (p1.up e)
  refine sd_asg (K := K) (ed_call ((n, es), []) (eda_cons (E0 e0) (eda_cons (ed_tup eda_nil (by simp)) eda_nil)) hw) fun v1 H1 r1 e1 hr1 hv1 => ?_
  subst hr1
  dsimp only
  have hv := hv1.int_v
  subst hv
  refine sd_ret (K := K) (ed_tupOf (ed_lcR (n := n) (fun p => decide (nu es (capS [p]) = nu es cap2)) dI good_name (ea_cons (ev_many (E0 (e0.trans e1)) ev_c) ea_nil) (by simp) (by omega) (by omega) (fun _ => rfl) fun i H2 hi e2 => ⟨rfl, rfl, et_eq (et_test (eb_eqI (ei_of (ed_call ((n, es), [i]) (eda_cons (E0 ((e0.trans e1).trans e2)) (eda_cons (ed_tup (eda_cons (ed_int (ev_var rfl)) eda_nil) (by simp)) eda_nil)) hw)) (ev_var rfl))) ?_, fun _ => ed_int (ev_var rfl)⟩)) fun v9 H9 r9 e9 hr9 hv9 => q v9 H9 r9 ((e0.trans e1).trans e9) hr9 hv9
  rw [G37.capS_nil, Bool.eq_iff_iff]
  simp only [decide_eq_true_eq]
  omega
end
end W37
/-! the papers' defs -/
namespace W37
open PySem PySem.Spec PyProof.Rows L2
open Evl (Ex Ev EvT EvA EvL EvO et_test et_B et_and et_or et_not ev_var ev_c ea_nil ea_cons ev_andV ev_orV ev_notV s_if)
open G37 (Ed nb tie ltE Web RE capS cap2 roots keptL leftE inner)
section
variable {K : PySem.W.Frag} {σ : L2.St} {H H' : Hp} {ta tb tc te tl : TE}
def cutA {α : Type} (xs : List α) (lo hi : Option Int) : List α := (xs.drop (HT.sIx xs.length 0 lo)).take (HT.sIx xs.length xs.length hi - HT.sIx xs.length 0 lo)
theorem dps_drop : ∀ (k : Nat) {xs : List V} {ds : List PyData}, DpAll K H xs ds → DpAll K H (xs.drop k) (ds.drop k)
  | 0, _, _, h => h
  | k + 1, _, _, .nil => .nil
  | k + 1, _, _, .cons _ h => dps_drop k h
theorem dps_take : ∀ (k : Nat) {xs : List V} {ds : List PyData}, DpAll K H xs ds → DpAll K H (xs.take k) (ds.take k)
  | 0, _, _, _ => .nil
  | k + 1, _, _, .nil => .nil
  | k + 1, _, _, .cons h t => .cons h (dps_take k t)
/-- a part of a tuple -/
theorem ed_slA {ds : List PyData} {tlo thi : TO} {lo hi : Option Int} (h : EvD K te σ H (.tuple ds)) (h1 : EvO tlo σ H lo) (h2 : EvO thi σ H hi) : EvD K (tSl (rSlA K) te tlo thi) σ H (.tuple (cutA ds lo hi)) := fun H1 e Q q => h H1 e _ fun v H2 r e2 hr p => h1 H2 (e.trans e2) _ fun H3 e3 => h2 H3 ((e.trans e2).trans e3) _ fun H4 e4 => by
  subst hr
  obtain ⟨a, xs, rfl, hs, hd⟩ := p.tup_v
  have e34 := e3.trans e4
  have hl := hd.len
  have hc : DpAll K H2 (cutV xs lo hi) (cutA ds lo hi) := by
    unfold cutV cutA
    rw [hl]
    exact dps_take _ (dps_drop _ hd)
  refine ⟨a, xs, rfl, sqT_up e34 hs, fun hf => ?_, fun hf b hb => ?_⟩
  · have : cutV xs lo hi = xs := by
      unfold cutV
      rw [hf.1, hf.2]; simp
    rw [this] at hc
    exact q _ H4 _ (e2.trans e34) rfl (.tup (sqT_up e34 hs) (hc.up e34))
  · exact q _ _ _ ((e2.trans e34).trans (ex_new hb)) rfl (.tup (st_of upd_same) (hc.up (e34.trans (ex_new hb))))
theorem cutA_tail {α : Type} (xs : List α) : cutA xs (some 1) none = xs.drop 1 := by
  unfold cutA
  rw [HT.sIx_none, show (1 : Int) = ((1 : Nat) : Int) from rfl, HT.sIx_nat]
  cases xs with
  | nil => simp
  | cons a xs => simp
theorem cutA_inner {α : Type} (xs : List α) : cutA xs (some 1) (some (-1)) = (xs.drop 1).dropLast := by
  unfold cutA
  rw [show (1 : Int) = ((1 : Nat) : Int) from rfl, HT.sIx_nat]
  have : HT.sIx xs.length xs.length (some (-1)) = xs.length - 1 := by
    unfold HT.sIx
    dsimp only
    rw [if_pos (by decide)]; omega
  rw [show (-((1 : Nat) : Int)) = (-1 : Int) from rfl, this, List.dropLast_eq_take]
  cases xs with
  | nil => simp
  | cons a xs => simp
theorem eo_none : EvO tNoPart σ H none := Evl.eo_none
theorem eo_some {i : Int} (h : Ev te σ H (.int i)) : EvO (tPart te) σ H (some i) := Evl.eo_some h
end
/-- what a paper over a web tells -/
structure Paper (n : Nat) (es : List Ed) (S : List Nat) (Q : List (List Nat)) (B : List Nat) : Prop where
  web : Web n es
  ends : Places n S
  goes : ∀ w ∈ Q, Goes n es w
  flat : Q.flatten.Perm (List.range n)
  bar : Places n B
  kept : ∀ v ∈ S, ∀ w ∈ Q, v ∉ inner w
  num : ((roots (keptL n B).length (leftE n B es)).length : Int) - (B.length : Int) + ((B.filter fun v => S.contains v).length : Int) = (Q.length : Int)
abbrev sp_shown (K : PySem.W.Frag) : Sp := spD K arWS (fun i => Web i.1.1 i.1.2) (fun i r => r = .int (((roots (keptL i.1.1 i.2).length (leftE i.1.1 i.2 i.1.2)).length : Int) - (i.2.length : Int)))
abbrev sp_shown_with (K : PySem.W.Frag) : Sp := spD K (fun i : (Nat × List Ed) × (List Nat × List Nat) => [dWeb i.1.1 i.1.2, dT i.2.1, dT i.2.2]) (fun i => Web i.1.1 i.1.2 ∧ i.2.2.length ≤ 1000) (fun i r => r = .int (((roots (keptL i.1.1 i.2.2).length (leftE i.1.1 i.2.2 i.1.2)).length : Int) - (i.2.2.length : Int) + ((i.2.2.filter fun v => i.2.1.contains v).length : Int)))
abbrev sp_kept (K : PySem.W.Frag) : Sp := spD K (fun i : List Nat × List (List Nat) => [dT i.1, .tuple (i.2.map dT)]) (fun i => i.1.length ≤ 10000 ∧ i.2.flatten.length ≤ 1000 ∧ ∀ v ∈ i.1, ∀ w ∈ i.2, v ∉ inner w) (fun _ r => r = .bool true)
abbrev sp_is_bar_paper (K : PySem.W.Frag) : Sp := spD K (fun i : (Nat × List Ed) × (List Nat × List (List Nat) × List Nat) => [dWeb i.1.1 i.1.2, .tuple [dT i.2.1, .tuple (i.2.2.1.map dT), dT i.2.2.2]]) (fun i => Paper i.1.1 i.1.2 i.2.1 i.2.2.1 i.2.2.2) (fun _ r => r = .bool true)
theorem inner_len (w : List Nat) : (inner w).length ≤ w.length := by
  unfold inner
  rw [List.length_dropLast, List.length_drop]; omega
section
variable {P : Program} {w : World} {K : PySem.W.Frag} {mg : Str → Option Value} {base : Heap}
abbrev s_shown : Stmt := top 47
theorem sc_shown : FnScope ["web", "bar"] ["web", "bar"] (defScope s_shown) := ⟨rfl, rfl, rfl, by decide +kernel, rfl, by decide +kernel, by decide +kernel⟩
theorem kp_shown (D : Df K mg "shown" s_shown ["web", "bar"]) (B : Bare mg) (h_parts_by : Kp P w K mg base "parts_by" 2 ["beside"] (sp_parts_by K)) (h_near : Kp P w K mg base "near" 1 ["web"] (sp_near K)) (h_left_over : Kp P w K mg base "left_over" 1 ["web", "places"] (sp_left_over K)) : Kp P w K mg base "shown" 3 ["web", "bar"] (sp_shown K) := by
  obtain ⟨f_parts_by, fd_parts_by, F_parts_by, g_parts_by, k_parts_by, b_parts_by⟩ := h_parts_by
  obtain ⟨f_near, fd_near, F_near, g_near, k_near, b_near⟩ := h_near
  obtain ⟨f_left_over, fd_left_over, F_left_over, g_left_over, k_left_over, b_left_over⟩ := h_left_over
  refine D.kp sc_shown (spD_len (fun _ => rfl)) (fun f cdv A outer s H vs Q E hr h => ?_)
  refine ⟨_, (pss_one (ps_ret (pe_op op_sub (pe_callB (r := rLn K) cr_len (by rfl) B.len (by decide +kernel) (pa_cons (pe_call F_parts_by (hr.mono (by decide)) (by rfl) g_parts_by k_parts_by b_parts_by .nil pass0 (pa_cons (pe_call F_near (hr.mono (by decide)) (by rfl) g_near k_near b_near .nil pass0 (pa_cons (pe_call F_left_over (hr.mono (by decide)) (by rfl) g_left_over k_left_over b_left_over .nil pass0 (pa_cons (pv 0) (pa_cons (pv 1) pa_nil))) pa_nil)) pa_nil)) pa_nil)) (pe_callB (r := rLn K) cr_len (by rfl) B.len (by decide +kernel) (pa_cons (pv 1) pa_nil))))), ?_⟩
  obtain ⟨⟨⟨n, es⟩, S⟩, hd, hw, q⟩ := h
  dsimp only at hw q
  cases hd with | cons p1 hd => cases hd with | cons p2 hd =>
  cases hd
  have hn : n ≤ 60 := hw.le
  have hf : G37.Fo n es := hw.fo
  have hl := hw.left S
  have hln := hl.le
  rename_i t u
  refine sd_ret (K := K) (ed_int (ei_op0 (g := fun i j => i - j) (ei_eq (ev_lenL (ed_call ((keptL n S).length, leftE n S es) (eda_cons (ed_call ((keptL n S).length, leftE n S es) (eda_cons (ed_call ((n, es), S) (eda_cons (ed_var rfl p1) (eda_cons (ed_var rfl p2) eda_nil)) ⟨by dsimp only; omega, hf⟩) eda_nil) ⟨by dsimp only; omega, hl.fo⟩) eda_nil) ⟨by dsimp only; omega, hl.fo⟩)) (j := ((roots (keptL n S).length (leftE n S es)).length : Int)) (by simp)) (ei_eq (ev_lenT (ds := dNs S) (ed_var rfl p2)) (j := (S.length : Int)) (by simp)))) fun v H1 r e hr hv => q v H1 r e hr hv
abbrev s_shown_with : Stmt := top 48
theorem sc_shown_with : FnScope ["web", "ends", "bar", "place"] ["web", "ends", "bar"] (defScope s_shown_with) := ⟨rfl, rfl, rfl, by decide +kernel, rfl, by decide +kernel, by decide +kernel⟩
theorem kp_shown_with (D : Df K mg "shown_with" s_shown_with ["web", "ends", "bar"]) (B : Bare mg) (h_shown : Kp P w K mg base "shown" 3 ["web", "bar"] (sp_shown K)) : Kp P w K mg base "shown_with" 4 ["web", "ends", "bar"] (sp_shown_with K) := by
  obtain ⟨f_shown, fd_shown, F_shown, g_shown, k_shown, b_shown⟩ := h_shown
  refine D.kp sc_shown_with (spD_len (fun _ => rfl)) (fun f cdv A outer s H vs Q E hr h => ?_)
  refine ⟨_, (pss_one (ps_ret (pe_op op_add (pe_call F_shown (hr.mono (by decide)) (by rfl) g_shown k_shown b_shown .nil pass0 (pa_cons (pv 0) (pa_cons (pv 2) pa_nil))) (pe_callB (r := rLn K) cr_len (by rfl) B.len (by decide +kernel) (pa_cons (pe_lc (own := [("place", 3)]) rfl sc_shown_with.nd (pi_tup (pv 2)) (blkOk_by (N := ["web", "ends", "bar", "place"]) (sc := (defScope s_shown_with)) (by decide +kernel)) (fun _ _ _ _ _ => (pg_name (i := 3) sc_shown_with.nd (by rfl) (by first | exact Or.inl rfl | exact Or.inr rfl))) (fun _ _ _ _ _ => pts_one (pt_cmpR (r := rIn K false) op_in_seq (pv 3) (pv 1) (by rfl))) (fun _ _ _ _ _ => (pv 3))) pa_nil))))), ?_⟩
  obtain ⟨⟨⟨n, es⟩, S, B'⟩, hd, ⟨hw, hB⟩, q⟩ := h
  dsimp only at hw hB q
  cases hd with | cons p1 hd => cases hd with | cons p2 hd => cases hd with | cons p3 hd =>
  cases hd
  rename_i t u v
  refine sd_ret (K := K) (ed_int (ei_op0 (g := fun i j => i + j) (ei_of (ed_call ((n, es), B') (eda_cons (ed_var rfl p1) (eda_cons (ed_var rfl p3) eda_nil)) hw)) (ei_eq (ev_lenL (ed_lcT B' dI (fun v => S.contains v) dI good_name (ed_var rfl p3) (by omega) (fun _ => rfl) fun a x H1 ha e1 hx => ⟨rfl, rfl, et_eq (et_test (eb_inT (neg := false) (n := a) (ei_of (ed_var rfl hx)) (ed_var rfl (p2.up e1)))) (by simp [List.contains_eq_mem]), fun _ => ed_var rfl hx⟩)) (j := ((B'.filter fun v => S.contains v).length : Int)) (by simp)))) fun v H1 r e hr hv => q v H1 r e hr hv
abbrev s_kept : Stmt := top 49
theorem sc_kept : FnScope ["ends", "parting", "within", "way", "place"] ["ends", "parting"] (defScope s_kept) := ⟨rfl, rfl, rfl, by decide +kernel, rfl, by decide +kernel, by decide +kernel⟩
theorem kp_kept (D : Df K mg "kept" s_kept ["ends", "parting"]) (B : Bare mg) : Kp P w K mg base "kept" 1 ["ends", "parting"] (sp_kept K) := by
  refine D.kp sc_kept (spD_len (fun _ => rfl)) (fun f cdv A outer s H vs Q E hr h => ?_)
  refine ⟨_, (pss_cons (ps_set (i := 2) sc_kept.nd (by rfl) (by first | exact Or.inl rfl | exact Or.inr rfl) (pe_lst pa_nil))
  (pss_cons (ps_for PassesOwn.never rfl (pi_tup (pv 1)) (pg_name (i := 3) sc_kept.nd (by rfl) (by first | exact Or.inl rfl | exact Or.inr rfl))
  (pss_one (ps_expr (pe_bm (r := rExtT K) PySem.F.plainAttrs_list PySem.F.slot_list_extend PySem.F.type_list_extend mt_extT (pv 2) (pa_cons (pe_slice (r := rSlA K) sl_tupA (pv 3) (po_some pe_int) (po_some (pe_un un_neg pe_int))) pa_nil)))))
  (pss_one (ps_ret (pe_cmpR (r := rEqD K) (op_eqD hr.units) (pe_lc (own := [("place", 4)]) rfl sc_kept.nd (pi_tup (pv 0)) (blkOk_by (N := ["ends", "parting", "within", "way", "place"]) (sc := (defScope s_kept)) (by decide +kernel)) (fun _ _ _ _ _ => (pg_name (i := 4) sc_kept.nd (by rfl) (by first | exact Or.inl rfl | exact Or.inr rfl))) (fun _ _ _ _ _ => pts_one (pt_cmpR (r := rIn K false) op_in_seq (pv 4) (pv 2) (by rfl))) (fun _ _ _ _ _ => (pv 4))) (pe_lst pa_nil) (by rfl)))))), ?_⟩
  obtain ⟨⟨S, ws⟩, hd, ⟨hS, hl, hk⟩, q⟩ := h
  dsimp only at hS hl hk q
  cases hd with | cons p1 hd => cases hd with | cons p2 hd =>
  cases hd
  rename_i t u
  refine sd_new0 fun p hp => ?_
  dsimp only
  have hil : ∀ ws : List (List Nat), (ws.flatMap inner).length ≤ ws.flatten.length := fun ws => by
    induction ws with
    | nil => simp
    | cons a ws ih =>
      have := inner_len a
      rw [List.flatMap_cons, List.flatten_cons, List.length_append, List.length_append]; omega
  refine sd_forT (K := K) ws dT noL_T (ed_var rfl (p2.up (ex_new hp))) (fun H2 i σ' H' => ∃ x, σ' = [some t, some u, some (.ref p), x, none] ∧ Ex H H' ∧ Tx K H2 H' ∧ H' p = some (.lst (((ws.take i).flatMap inner).map vN))) (fun H2 e2 => ⟨none, rfl, (ex_new hp).trans e2, Tx.refl _, e2 p _ upd_same⟩) (fun H2 i σ' H' _ pv => by obtain ⟨x, _, _, h, _⟩ := pv; exact h) (fun H2 i a x σ' H' e2 hi pv hx => ?_) (fun H2 σ' H' e2 pv => ?_)
  · obtain ⟨y, rfl, e3, tx, hpp⟩ := pv
    have hs : ws.take (i + 1) = ws.take i ++ [a] := by rw [List.take_succ, hi]; rfl
    have hlt := flat_take hi
    have h1 := hil (ws.take i)
    have h2 := inner_len a
    have hc : EvD K _ _ H' (dT (inner a)) := (ed_slA (K := K) (ds := dNs a) (te := tVar 3) (tlo := tPart (tC (.int 1))) (thi := tPart (tUn (rU fun i => .int (-i)) (tC (.int 1)))) (σ := [some t, some u, some (.ref p), some x, none]) (ed_var rfl hx) (eo_some ev_c) (eo_some (ev_neg ev_c))).imp fun d h => by
      rw [h, cutA_inner]
      unfold inner
      simp [dNs]
    refine sd_extT (K := K) (xs := ((ws.take i).flatMap inner).map vN) (ds := dNs (inner a)) (ev_var rfl) hpp hc (by simp only [List.length_map]; omega) fun vs' H4 e4 hd4 hp4 => ?_
    dsimp only
    refine ⟨_, rfl, ex_mut (e3.trans e4) hp, (tx.trans (tx_ex e4)).trans (tx_upd hp4), ?_⟩
    rw [upd_same, all_ints hd4, hs]
    simp
  · obtain ⟨y, rfl, e3, tx, hpp⟩ := pv
    rw [List.take_length] at hpp
    dsimp only
    have hem : (S.filter fun v => (ws.flatMap inner).contains v) = [] := by
      rw [List.filter_eq_nil_iff]
      intro v hv hc
      rw [List.contains_iff_mem] at hc
      obtain ⟨w, hw, hvw⟩ := List.mem_flatMap.mp hc
      exact hk v hv w hw hvw
    refine sd_ret (K := K) (R := fun r => r = .bool true) (ed_bl (eb_eq (eb_eqD (d1 := dL []) (d2 := dL []) ((ed_lcT S dI (fun v => (ws.flatMap inner).contains v) dI good_name (ed_var rfl (p1.up e3)) (by omega) (fun _ => rfl) fun a x H1 ha e1 hx => ⟨rfl, rfl, et_eq (et_test (eb_inL (neg := false) (n := a) (ei_of (ed_var rfl hx)) (ed_var rfl (v_dL (sq_of (e1 p _ hpp)))))) (by simp [List.contains_eq_mem]), fun _ => ed_var rfl hx⟩).imp fun d h => by rw [h, hem]) (ed_lst eda_nil (by simp)) (shaped_L _) (shaped_L _)) (by rw [eqv_L]; rfl))) fun v H4 r e4 hr hv => q v H4 r (e3.trans e4) hr hv
abbrev s_is_bar_paper : Stmt := top 50
theorem sc_is_bar_paper : FnScope ["web", "thing", "ends", "parting", "bar"] ["web", "thing"] (defScope s_is_bar_paper) := ⟨rfl, rfl, rfl, by decide +kernel, rfl, by decide +kernel, by decide +kernel⟩
theorem kp_is_bar_paper (D : Df K mg "is_bar_paper" s_is_bar_paper ["web", "thing"]) (B : Bare mg) (h_need_web : Kp P w K mg base "need_web" 4 ["thing"] (sp_need_web K)) (h_kept : Kp P w K mg base "kept" 1 ["ends", "parting"] (sp_kept K)) (h_is_places : Kp P w K mg base "is_places" 2 ["web", "thing"] (sp_is_places K)) (h_parts_all : Kp P w K mg base "parts_all" 3 ["web", "thing"] (sp_parts_all K)) (h_shown_with : Kp P w K mg base "shown_with" 4 ["web", "ends", "bar"] (sp_shown_with K)) : Kp P w K mg base "is_bar_paper" 5 ["web", "thing"] (sp_is_bar_paper K) := by
  obtain ⟨f_need_web, fd_need_web, F_need_web, g_need_web, k_need_web, b_need_web⟩ := h_need_web
  obtain ⟨f_kept, fd_kept, F_kept, g_kept, k_kept, b_kept⟩ := h_kept
  obtain ⟨f_is_places, fd_is_places, F_is_places, g_is_places, k_is_places, b_is_places⟩ := h_is_places
  obtain ⟨f_parts_all, fd_parts_all, F_parts_all, g_parts_all, k_parts_all, b_parts_all⟩ := h_parts_all
  obtain ⟨f_shown_with, fd_shown_with, F_shown_with, g_shown_with, k_shown_with, b_shown_with⟩ := h_shown_with
  refine D.kp sc_is_bar_paper (spD_len (fun _ => rfl)) (fun f cdv A outer s H vs Q E hr h => ?_)
  refine ⟨_, (pss_cons (ps_expr (pe_call F_need_web (hr.mono (by decide)) (by rfl) g_need_web k_need_web b_need_web .nil pass0 (pa_cons (pv 0) pa_nil)))
  (pss_cons (ps_if ((pw_or (pt_not (pt_val (pe_callB (r := rIsi K) call_isi (by rfl) B.isinstance (by decide +kernel) (pa_cons (pv 1) (pa_cons (pe_bltn (v := .ty "tuple") (by rfl) B.tuple (by decide +kernel) rfl) pa_nil))))) (pw_or1 (pt_cmpR op_ne (pe_callB (r := rLn K) cr_len (by rfl) B.len (by decide +kernel) (pa_cons (pv 1) pa_nil)) pe_int (by rfl))))).pt
  (pss_one (ps_ret pe_bl))
  pss_nil)
  (pss_cons (ps_asg (pv 1) (pg_tupK (K := K) (n := 3) rfl rfl (pgs_cons (pg_name (i := 2) sc_is_bar_paper.nd (by rfl) (by first | exact Or.inl rfl | exact Or.inr rfl)) (pgs_cons (pg_name (i := 3) sc_is_bar_paper.nd (by rfl) (by first | exact Or.inl rfl | exact Or.inr rfl)) (pgs_cons (pg_name (i := 4) sc_is_bar_paper.nd (by rfl) (by first | exact Or.inl rfl | exact Or.inr rfl)) pgs_nil)))))
  (pss_cons (ps_if ((pw_or (pt_not (pt_val (pe_call F_is_places (hr.mono (by decide)) (by rfl) g_is_places k_is_places b_is_places .nil pass0 (pa_cons (pv 0) (pa_cons (pv 2) pa_nil))))) (pw_or (pt_not (pt_val (pe_call F_parts_all (hr.mono (by decide)) (by rfl) g_parts_all k_parts_all b_parts_all .nil pass0 (pa_cons (pv 0) (pa_cons (pv 3) pa_nil))))) (pw_or1 (pt_not (pt_val (pe_call F_is_places (hr.mono (by decide)) (by rfl) g_is_places k_is_places b_is_places .nil pass0 (pa_cons (pv 0) (pa_cons (pv 4) pa_nil))))))))).pt
  (pss_one (ps_ret pe_bl))
  pss_nil)
  (pss_one (ps_ret (pe_and (pe_call F_kept (hr.mono (by decide)) (by rfl) g_kept k_kept b_kept .nil pass0 (pa_cons (pv 2) (pa_cons (pv 3) pa_nil))) (pe_one (pe_cmpR op_eq (pe_call F_shown_with (hr.mono (by decide)) (by rfl) g_shown_with k_shown_with b_shown_with .nil pass0 (pa_cons (pv 0) (pa_cons (pv 2) (pa_cons (pv 4) pa_nil)))) (pe_callB (r := rLn K) cr_len (by rfl) B.len (by decide +kernel) (pa_cons (pv 3) pa_nil)) (by rfl)))))))))), ?_⟩
  obtain ⟨⟨⟨n, es⟩, S, ws, B'⟩, hd, pp, q⟩ := h
  dsimp only at pp q
  cases hd with | cons p1 hd => cases hd with | cons p2 hd =>
  cases hd
  have hw := pp.web
  have hn : n ≤ 60 := hw.le
  have hfl : ws.flatten.length = n := by rw [pp.flat.length_eq]; simp
  rename_i t u
  refine sd_drop (ed_call (n, es) (eda_cons (ed_var rfl p1) eda_nil) hw) fun H1 e1 => ?_
  dsimp only
  have E0 : ∀ {H2 a b c d}, Ex H H2 → EvD K (tVar 0) [some t, a, b, c, d] H2 (dWeb n es) := fun e => ed_var rfl (p1.up e)
  have E1 : ∀ {H2 a b c}, Ex H H2 → EvD K (tVar 1) [some t, some u, a, b, c] H2 (.tuple [dT S, .tuple (ws.map dT), dT B']) := fun e => ed_var rfl (p2.up e)
  refine sd_ifno (et_eq (et_or (et_not (et_B (ev_isTup (E1 e1)))) fun _ => et_test (eb_neI (ev_lenT (E1 e1)) ev_c)) (by simp)) fun H2 e2 => ?_
  dsimp only
  refine sd_asg3 (E1 (e1.trans e2)) fun x y z H3 e3 hx hy hz => ?_
  dsimp only
  have E2 : ∀ {H4}, Ex H3 H4 → EvD K (tVar 2) [some t, some u, some x, some y, some z] H4 (dT S) := fun e => ed_var rfl (hx.up e)
  have E3 : ∀ {H4}, Ex H3 H4 → EvD K (tVar 3) [some t, some u, some x, some y, some z] H4 (.tuple (ws.map dT)) := fun e => ed_var rfl (hy.up e)
  have E4 : ∀ {H4}, Ex H3 H4 → EvD K (tVar 4) [some t, some u, some x, some y, some z] H4 (dT B') := fun e => ed_var rfl (hz.up e)
  have e13 := (e1.trans e2).trans e3
  refine sd_ifno (et_eq (et_or (et_not (et_B (eb_sp (ed_call ((n, es), S) (eda_cons (E0 e13) (eda_cons (E2 (ex_r _)) eda_nil)) pp.ends) fun _ h => h))) fun _ => et_or (et_not (et_B (eb_sp (ed_call ((n, es), ws) (eda_cons (E0 e13) (eda_cons (E3 (ex_r _)) eda_nil)) ⟨by dsimp only; omega, pp.goes, pp.flat⟩) fun _ h => h))) fun _ => et_not (et_B (eb_sp (ed_call ((n, es), B') (eda_cons (E0 e13) (eda_cons (E4 (ex_r _)) eda_nil)) pp.bar) fun _ h => h))) (by rfl)) fun H4 e4 => ?_
  dsimp only
  have hBl : B'.length ≤ n := nodup_lt_len (pp.bar.2.1.imp fun h => Nat.ne_of_lt h) pp.bar.2.2
  refine sd_ret (K := K) (R := fun r => r = .bool true) (ed_bl (eb_eq (ev_andV (eb_sp (ed_call (S, ws) (eda_cons (E2 e4) (eda_cons (E3 e4) eda_nil)) ⟨pp.ends.1, by dsimp only; omega, pp.kept⟩) fun _ h => h) fun _ => eb_eqI (ei_of (ed_call ((n, es), S, B') (eda_cons (E0 (e13.trans e4)) (eda_cons (E2 e4) (eda_cons (E4 e4) eda_nil))) ⟨hw, by dsimp only; omega⟩)) (ei_eq (ev_lenT (E3 e4)) (j := (ws.length : Int)) (by simp))) ?_)) fun v H9 r e9 hr hv => q v H9 r ((e13.trans e4).trans e9) hr hv
  have := pp.num
  rw [Bool.true_and, decide_eq_true_eq]
  exact this
end
end W37
/-! bits, dicts by pairs of numbers, sums -/
namespace W37
open PySem PySem.Spec PyProof.Rows L2
open Evl (Ex Ev EvT EvA EvL)
open G37 (Ed RE)
def rShl1 : R2 := fun x y H Q => ∃ k : Nat, x = .int 1 ∧ y = .int (k : Int) ∧ k ≤ 134217727 ∧ Q (.int (2 ^ k)) H
theorem op_shl1 {X : Cx} : OpR X (binaryOp .LShift) rShl1 := op_oneShl
section
variable {K : PySem.W.Frag} {σ : L2.St} {H H' : Hp} {ta tb tc te tl tx t1 t2 : TE} {R R' : PyData → Prop} {d d1 d2 : PyData} {v x : V} {D : Ends} {tu tw : TS}
theorem ev_shl1 {k : Nat} (ha : Ev ta σ H (.int 1)) (hb : Ev tb σ H (vN k)) (hk : k ≤ 1000) : Ev (tOp rShl1 ta tb) σ H (vN (2 ^ k)) := Evl.ev_op ha hb fun H1 e Q q => ⟨k, rfl, rfl, by omega, by
  have : (2 : Int) ^ k = ((2 ^ k : Nat) : Int) := by simp
  rw [this]; exact q H1 (Ex.refl _)⟩
/-- bits >> place & 1 -/
theorem ev_bit {X v : Nat} (ha : Ev ta σ H (vN X)) (hb : Ev tb σ H (vN v)) (hc : Ev tc σ H (.int 1)) : Ev (tOp (rI0 fun i j => .int (Builtin.bitAnd i j)) (tOp (rI (fun _ j => 0 ≤ j) fun i j => .int (i / 2 ^ j.toNat)) ta tb) tc) σ H (.int (if X.testBit v then 1 else 0)) := by
  have h1 : Ev (tOp (rI (fun _ j => 0 ≤ j) fun i j => .int (i / 2 ^ j.toNat)) ta tb) σ H (vN (X / 2 ^ v)) := Evl.ev_op ha hb fun H1 e Q q => ⟨_, _, rfl, rfl, Int.natCast_nonneg _, by
    have : (X : Int) / 2 ^ (v : Int).toNat = ((X / 2 ^ v : Nat) : Int) := by simp
    show Q (.int ((X : Int) / 2 ^ (v : Int).toNat)) H1
    rw [this]; exact q H1 (Ex.refl _)⟩
  refine Evl.ev_op h1 hc fun H1 e Q q => ⟨_, _, rfl, rfl, ?_⟩
  have e1 : Builtin.bitAnd ((X / 2 ^ v : Nat) : Int) 1 = (if X.testBit v then 1 else 0) := by
    rw [bitAnd_pp (Int.natCast_nonneg _) (by decide)]
    have : ((X / 2 ^ v : Nat) : Int).toNat &&& (1 : Int).toNat = (X / 2 ^ v) % 2 := by
      rw [Int.toNat_natCast]; exact Nat.and_one_is_mod _
    rw [this, G37.shift_bit]
    split <;> rfl
  show Q (.int (Builtin.bitAnd ((X / 2 ^ v : Nat) : Int) 1)) H1
  rw [e1]; exact q H1 (Ex.refl _)
theorem et_bit {X v : Nat} {tC1 tC2 : TE} (ha : Ev ta σ H (vN X)) (hb : Ev tb σ H (vN v)) (hc : Ev tC1 σ H (.int 1)) (hd : Ev tC2 σ H (.int 1)) : EvT (tTest (tOp rEq (tOp (rI0 fun i j => .int (Builtin.bitAnd i j)) (tOp (rI (fun _ j => 0 ≤ j) fun i j => .int (i / 2 ^ j.toNat)) ta tb) tC1) tC2)) σ H (X.testBit v) := by
  have h := Evl.et_test (eb_eqI (ev_bit ha hb hc) hd)
  have : decide ((if X.testBit v then (1 : Int) else 0) = 1) = X.testBit v := by cases X.testBit v <;> rfl
  rw [this] at h
  exact h
theorem ev_and {a b : Nat} (ha : Ev ta σ H (vN a)) (hb : Ev tb σ H (vN b)) : Ev (tOp (rI0 fun i j => .int (Builtin.bitAnd i j)) ta tb) σ H (vN (a &&& b)) := Evl.ev_op ha hb fun H1 e Q q => ⟨_, _, rfl, rfl, by
  have e1 : Builtin.bitAnd (a : Int) (b : Int) = ((a &&& b : Nat) : Int) := by
    rw [bitAnd_pp (Int.natCast_nonneg _) (Int.natCast_nonneg _)]; rfl
  show Q (.int (Builtin.bitAnd (a : Int) (b : Int))) H1
  rw [e1]; exact q H1 (Ex.refl _)⟩
/-- bits & -bits -/
theorem ev_low {a : Nat} (ha : Ev ta σ H (vN a)) (hb : Ev tb σ H (.int (-(a : Int)))) (h0 : 0 < a) : Ev (tOp (rI0 fun i j => .int (Builtin.bitAnd i j)) ta tb) σ H (.int ((a : Int) - ((a &&& (a - 1) : Nat) : Int))) := Evl.ev_op ha hb fun H1 e Q q => ⟨_, _, rfl, rfl, by
  have e1 : Builtin.bitAnd (a : Int) (-(a : Int)) = (a : Int) - ((a &&& (a - 1) : Nat) : Int) := by
    rw [bitAnd_pn (Int.natCast_nonneg _) (by omega)]
    have : (Builtin.bitNot (-(a : Int))).toNat = a - 1 := by
      show (-(-(a : Int)) - 1).toNat = a - 1
      omega
    rw [this]; rfl
  show Q (.int (Builtin.bitAnd (a : Int) (-(a : Int)))) H1
  rw [e1]; exact q H1 (Ex.refl _)⟩
theorem sum_cast (ws : List Nat) : (ws.map fun n : Nat => (n : Int)).sum = ((ws.sum : Nat) : Int) := by
  induction ws with
  | nil => rfl
  | cons a ws ih => simp [ih]
theorem ev_sum {ws : List Nat} (h : EvD K ta σ H (dL ws)) : Ev (tCB (rSum K) (tCons ta tNil)) σ H (vN ws.sum) := fun H1 e Q q => h H1 e _ fun v H2 r e2 hr p => by
  subst hr
  obtain ⟨a, rfl, hs⟩ := dL_v p
  refine ⟨a, ws.map fun n : Nat => (n : Int), rfl, by rw [List.map_map]; exact hs, ?_⟩
  rw [sum_cast]
  exact q H2 e2
/-! ### dicts by pairs of numbers -/
def DTat (H : Hp) (d : Addr) (m : Nat) (g : Nat → Nat → Option V) : Prop := ∃ kvs : List (List Key × V), H d = some (.dT kvs) ∧ kvs.length ≤ m ∧ ∀ X e : Nat, valV kvs [.inl (X : Int), .inl (e : Int)] = g X e
theorem DTat.up {d : Addr} {m : Nat} {g : Nat → Nat → Option V} (h : DTat H d m g) (e : Ex H H') : DTat H' d m g := by
  obtain ⟨kvs, a, b⟩ := h
  exact ⟨kvs, e d _ a, b⟩
theorem ev_key {X Y : Nat} (h1 : Ev t1 σ H (vN X)) (h2 : Ev t2 σ H (vN Y)) (H1 : Hp) (e : Ex H H1) (Q : VK) (q : ∀ p H2, Ex H1 H2 → H2 p = some (.tup [vN X, vN Y]) → Q (.ref p) H2) : tTup (tCons t1 (tCons t2 tNil)) σ H1 Q := h1 H1 e _ fun H2 e2 => h2 H2 (e.trans e2) _ fun H3 e3 =>
  ⟨Evl.sz_of (by simp), fun p hp => q p _ ((e2.trans e3).trans (ex_new hp)) upd_same⟩
theorem ev_dtget {dd : Addr} {m X Y : Nat} {g : Nat → Nat → Option V} (ha : Ev ta σ H (.ref dd)) (h1 : Ev t1 σ H (vN X)) (h2 : Ev t2 σ H (vN Y)) (h : DTat H dd m g) (hg : g X Y = some v) : Ev (tDGet ta (tTup (tCons t1 (tCons t2 tNil)))) σ H v := fun H1 e Q q => ha H1 e _ fun H2 e2 => ev_key h1 h2 H2 (e.trans e2) _ fun p H3 e3 hp => by
  obtain ⟨kvs, k1, k2, k3⟩ := h
  refine ⟨dd, v, rfl, ?_, q H3 (e2.trans e3)⟩
  have := DGet.t (k := [.inl (X : Int), .inl (Y : Int)]) (((e.trans e2).trans e3) dd _ k1) hp
  rw [k3, hg] at this
  exact this
/-- key in d, not in d: a pair at hand -/
theorem ev_dtvar {dd p : Addr} {m X Y : Nat} {g : Nat → Nat → Option V} (ha : Ev ta σ H (.ref dd)) (hb : Ev tb σ H (.ref p)) (hp : H p = some (.tup [vN X, vN Y])) (h : DTat H dd m g) (hg : g X Y = some v) : Ev (tDGet ta tb) σ H v := fun H1 e Q q => ha H1 e _ fun H2 e2 => hb H2 (e.trans e2) _ fun H3 e3 => by
  obtain ⟨kvs, k1, k2, k3⟩ := h
  have e' := (e.trans e2).trans e3
  refine ⟨dd, v, rfl, ?_, q H3 (e2.trans e3)⟩
  have := DGet.t (k := [.inl (X : Int), .inl (Y : Int)]) (e' dd _ k1) (e' p _ hp)
  rw [k3, hg] at this
  exact this
theorem eb_dtnotin {dd p : Addr} {m X Y : Nat} {g : Nat → Nat → Option V} (hb : Ev tb σ H (.ref p)) (ha : Ev ta σ H (.ref dd)) (hp : H p = some (.tup [vN X, vN Y])) (h : DTat H dd m g) : Ev (tDNotIn tb ta) σ H (.bl (!(g X Y).isSome)) := fun H1 e Q q => hb H1 e _ fun H2 e2 => ha H2 (e.trans e2) _ fun H3 e3 => by
  obtain ⟨kvs, k1, k2, k3⟩ := h
  have e' := (e.trans e2).trans e3
  refine ⟨dd, _, rfl, ?_, q H3 (e2.trans e3)⟩
  have := DGet.t (k := [.inl (X : Int), .inl (Y : Int)]) (e' dd _ k1) (e' p _ hp)
  rw [k3] at this
  exact this
theorem DTat.put {dd : Addr} {m X Y : Nat} {g : Nat → Nat → Option V} {kvs : List (List Key × V)} (h : DTat H dd m g) (hk : H dd = some (.dT kvs)) (v : V) : DTat (upd H' dd (.dT (putK kvs [.inl (X : Int), .inl (Y : Int)] v))) dd (m + 1) (fun a b => if a = X ∧ b = Y then some v else g a b) := by
  obtain ⟨kvs', h1, h2, h3⟩ := h
  rw [hk] at h1
  cases h1
  refine ⟨_, upd_same, ?_, fun a b => ?_⟩
  · unfold putK
    split
    · rw [List.length_map]; omega
    · rw [List.length_append]; simp; omega
  · rw [valV_put, h3]
    dsimp only
    by_cases c : a = X ∧ b = Y
    · rw [if_pos c, if_pos (by rw [c.1, c.2])]
    · rw [if_neg c, if_neg (by intro z; simp at z; omega)]
/-- d[a, b] = number -/
theorem sd_dtput {dd : Addr} {m X Y : Nat} {g : Nat → Nat → Option V} (hv : Ev te σ H v) (h : DTat H dd m g) (ha : Ev ta σ H (.ref dd)) (h1 : Ev t1 σ H (vN X)) (h2 : Ev t2 σ H (vN Y)) (hm : m ≤ 40000) (k : ∀ H1 o, Ex H H1 → DTat (upd H1 dd o) dd (m + 1) (fun a b => if a = X ∧ b = Y then some v else g a b) → D.nx σ (upd H1 dd o)) :
    sDPut ta (tTup (tCons t1 (tCons t2 tNil))) te D σ H := hv H (Ex.refl H) _ fun H1 e1 => ha H1 e1 _ fun H2 e2 => ev_key h1 h2 H2 (e1.trans e2) _ fun p H3 e3 hp => by
  have h' := h.up ((e1.trans e2).trans e3)
  obtain ⟨kvs, k1, k2, k3⟩ := id h'
  exact ⟨dd, _, rfl, DPut.t (k := [.inl (X : Int), .inl (Y : Int)]) k1 hp (szlt (by omega)), k H3 _ ((e1.trans e2).trans e3) (h'.put k1 v)⟩
/-- d[key] = number, the pair at hand -/
theorem sd_dtputv {dd p : Addr} {m X Y : Nat} {g : Nat → Nat → Option V} (hv : Ev te σ H v) (h : DTat H dd m g) (ha : Ev ta σ H (.ref dd)) (hb : Ev tb σ H (.ref p)) (hp : H p = some (.tup [vN X, vN Y])) (hm : m ≤ 40000) (k : ∀ H1 o, Ex H H1 → DTat (upd H1 dd o) dd (m + 1) (fun a b => if a = X ∧ b = Y then some v else g a b) → D.nx σ (upd H1 dd o)) :
    sDPut ta tb te D σ H := hv H (Ex.refl H) _ fun H1 e1 => ha H1 e1 _ fun H2 e2 => hb H2 (e1.trans e2) _ fun H3 e3 => by
  have e' := (e1.trans e2).trans e3
  have h' := h.up e'
  obtain ⟨kvs, k1, k2, k3⟩ := id h'
  exact ⟨dd, _, rfl, DPut.t (k := [.inl (X : Int), .inl (Y : Int)]) k1 (e' p _ hp) (szlt (by omega)), k H3 _ e' (h'.put k1 v)⟩
theorem sd_newT {i : Nat} (k : ∀ p, H p = none → DTat (upd H p (.dT [])) p 0 (fun _ _ => none) → D.nx (σ.set i (some (.ref p))) (upd H p (.dT []))) : tAsg tDNewT (gName i) D σ H := fun p hp => k p hp ⟨[], upd_same, Nat.le_refl _, fun _ _ => rfl⟩
/-- by numbers, with a bound -/
def DNat (H : Hp) (d : Addr) (m : Nat) (g : Nat → Option V) : Prop := ∃ kvs, H d = some (.dK kvs) ∧ kvs.length ≤ m ∧ ∀ k : Nat, valV kvs (.inl (k : Int)) = g k
theorem DNat.up {d : Addr} {m : Nat} {g : Nat → Option V} (h : DNat H d m g) (e : Ex H H') : DNat H' d m g := by
  obtain ⟨kvs, a, b⟩ := h
  exact ⟨kvs, e d _ a, b⟩
theorem DNat.dk {d : Addr} {m : Nat} {g : Nat → Option V} (h : DNat H d m g) (hm : m ≤ 40000) : DKat H d g := by
  obtain ⟨kvs, a, b, c⟩ := h
  exact ⟨kvs, a, by omega, c⟩
theorem sd_newK {i : Nat} (k : ∀ p, H p = none → DNat (upd H p (.dK [])) p 0 (fun _ => none) → D.nx (σ.set i (some (.ref p))) (upd H p (.dK []))) : tAsg tDNewK (gName i) D σ H := fun p hp => k p hp ⟨[], upd_same, Nat.le_refl _, fun _ => rfl⟩
theorem DNat.put {dd : Addr} {m p : Nat} {g : Nat → Option V} {kvs : List (Key × V)} (h : DNat H dd m g) (hk : H dd = some (.dK kvs)) (v : V) : DNat (upd H' dd (.dK (putK kvs (.inl (p : Int)) v))) dd (m + 1) (fun a => if a = p then some v else g a) := by
  obtain ⟨kvs', h1, h2, h3⟩ := h
  rw [hk] at h1
  cases h1
  refine ⟨_, upd_same, ?_, fun a => ?_⟩
  · unfold putK
    split
    · rw [List.length_map]; omega
    · rw [List.length_append]; simp; omega
  · rw [valV_put, h3]
    dsimp only
    by_cases c : a = p
    · rw [if_pos c, if_pos (by rw [c])]
    · rw [if_neg c, if_neg (by intro z; simp at z; omega)]
/-- d[k] = number -/
theorem sd_dnput {dd : Addr} {m p : Nat} {g : Nat → Option V} (hv : Ev te σ H v) (h : DNat H dd m g) (ha : Ev ta σ H (.ref dd)) (hb : Ev tb σ H (vN p)) (hm : m ≤ 40000) (k : ∀ H1 o, Ex H H1 → DNat (upd H1 dd o) dd (m + 1) (fun a => if a = p then some v else g a) → D.nx σ (upd H1 dd o)) :
    sDPut ta tb te D σ H := hv H (Ex.refl H) _ fun H1 e1 => ha H1 e1 _ fun H2 e2 => hb H2 (e1.trans e2) _ fun H3 e3 => by
  have e' := (e1.trans e2).trans e3
  have h' := h.up e'
  obtain ⟨kvs, k1, k2, k3⟩ := id h'
  exact ⟨dd, _, rfl, DPut.k (k := .inl (p : Int)) k1 (szlt (by omega)), k H3 _ e' (h'.put k1 v)⟩
theorem ev_ifE {b : Bool} {t : TT} {w : V} (h : EvT t σ H b) (h1 : b = true → Ev ta σ H w) (h2 : b = false → Ev tb σ H w) : Ev (tIf t ta tb) σ H w := Evl.ev_if h h1 h2
theorem ev_half {a : Nat} (ha : Ev ta σ H (vN a)) (hb : Ev tb σ H (.int 2)) : Ev (tOp (rI CDiv fun i j => .int (i / j)) ta tb) σ H (vN (a / 2)) := Evl.ev_op ha hb fun H1 e Q q => ⟨_, _, rfl, rfl, ⟨by decide, by decide⟩, by
  have : ((a : Int) / 2) = ((a / 2 : Nat) : Int) := by omega
  show Q (.int ((a : Int) / 2)) H1
  rw [this]; exact q H1 (Ex.refl _)⟩
end
end W37
/-! by trial: ways by their ends -/
namespace W37
open PySem PySem.Spec PyProof.Rows L2
open Evl (Ex Ev EvT EvA EvL EvO et_test et_B et_and et_or et_not ev_var ev_c ea_nil ea_cons ev_andV ev_orV ev_notV s_if)
open G37 (Ed nb tie ltE Web RE capS cap2 roots keptL leftE inner TO Wv kn ct sumL subm WI)
abbrev sp_need_small (K : PySem.W.Frag) : Sp := spD K (fun i : Nat × List Ed => [dWeb i.1 i.2]) (fun i => Web i.1 i.2 ∧ i.1 ≤ 10) (fun _ r => r = .none)
abbrev sp_within (K : PySem.W.Frag) : Sp := spD K (fun r : Nat => [dI r]) (fun r => r < 1024) (fun r d => ∃ found : List Nat, found.Nodup ∧ (∀ s, s ∈ found ↔ subm s r) ∧ d = dL found)
def sp_ways_by (K : PySem.W.Frag) : Sp := fun vs H Q _ => ∃ n es L, DpAll K H vs [dWeb n es] ∧ Web n es ∧ n ≤ 10 ∧ TO n es L ∧ ∀ d H' m g, Ex H H' → DTat H' d m g → (∀ X e, 0 < X → X < 2 ^ n → X.testBit e = true → g X e = some (vN (Wv es L X e))) → Q (.ref d) H'
def sp_through (K : PySem.W.Frag) : Sp := fun vs H Q _ => ∃ n es L, DpAll K H vs [dWeb n es] ∧ Web n es ∧ n ≤ 10 ∧ TO n es L ∧ ∀ d H' m g, Ex H H' → DNat H' d m g → m ≤ 2000 → (∀ X, 0 < X → X < 2 ^ n → g X = some (vN (kn es L X))) → Q (.ref d) H'
theorem len_ways (K : PySem.W.Frag) : ∀ vs H Q E, sp_ways_by K vs H Q E → vs.length = 1 := by
  rintro vs H Q E ⟨n, es, L, h, _⟩
  exact h.len
theorem len_through (K : PySem.W.Frag) : ∀ vs H Q E, sp_through K vs H Q E → vs.length = 1 := by
  rintro vs H Q E ⟨n, es, L, h, _⟩
  exact h.len
theorem pow1024 {n : Nat} (h : n ≤ 10) : 2 ^ n ≤ 1024 := Nat.pow_le_pow_right (n := 2) (by decide) h
section
variable {K : PySem.W.Frag} {σ : L2.St} {H H' : Hp} {t : TA} {D : Ends} {E : XK}
theorem sd_ways {i n : Nat} {es : List Ed} {L : List Nat} (h : EvDA K t σ H [dWeb n es]) (hw : Web n es) (hn : n ≤ 10) (ht : TO n es L) (k : ∀ d H1 m g, Ex H H1 → DTat H1 d m g → (∀ X e, 0 < X → X < 2 ^ n → X.testBit e = true → g X e = some (vN (Wv es L X e))) → D.nx (σ.set i (some (.ref d))) H1) : tAsg (tCall (sp_ways_by K) [] E t) (gName i) D σ H := h H (Ex.refl H) _ fun vs H1 ds e r p => by
  subst r
  rw [List.append_nil]
  exact ⟨n, es, L, p, hw, hn, ht, fun d H' m g e2 h1 h2 => k d H' m g (e.trans e2) h1 h2⟩
theorem sd_through {i n : Nat} {es : List Ed} {L : List Nat} (h : EvDA K t σ H [dWeb n es]) (hw : Web n es) (hn : n ≤ 10) (ht : TO n es L) (k : ∀ d H1 m g, Ex H H1 → DNat H1 d m g → m ≤ 2000 → (∀ X, 0 < X → X < 2 ^ n → g X = some (vN (kn es L X))) → D.nx (σ.set i (some (.ref d))) H1) : tAsg (tCall (sp_through K) [] E t) (gName i) D σ H := h H (Ex.refl H) _ fun vs H1 ds e r p => by
  subst r
  rw [List.append_nil]
  exact ⟨n, es, L, p, hw, hn, ht, fun d H' m g e2 h1 h2 h3 => k d H' m g (e.trans e2) h1 h2 h3⟩
end
section
variable {P : Program} {w : World} {K : PySem.W.Frag} {mg : Str → Option Value} {base : Heap}
abbrev s_need_small : Stmt := top 53
theorem sc_need_small : FnScope ["web"] ["web"] (defScope s_need_small) := ⟨rfl, rfl, rfl, by decide +kernel, rfl, by decide +kernel, by decide +kernel⟩
theorem kp_need_small (D : Df K mg "need_small" s_need_small ["web"]) (B : Bare mg) (h_need_web : Kp P w K mg base "need_web" 4 ["thing"] (sp_need_web K)) {tMT : Tok} (m_MT : mg "MOST_TRIED" = some (.int 10 tMT)) : Kp P w K mg base "need_small" 5 ["web"] (sp_need_small K) := by
  obtain ⟨f_need_web, fd_need_web, F_need_web, g_need_web, k_need_web, b_need_web⟩ := h_need_web
  refine D.kp sc_need_small (spD_len (fun _ => rfl)) (fun f cdv A outer s H vs Q E hr h => ?_)
  refine ⟨_, (pss_cons (ps_expr (pe_call F_need_web (hr.mono (by decide)) (by rfl) g_need_web k_need_web b_need_web .nil pass0 (pa_cons (pv 0) pa_nil)))
  (pss_one (ps_if (pt_cmpR op_gt (pe_ix (r := rIx K) ix_seq (pv 0) pe_int (fun _ _ => rfl)) (pe_glob (v := .int 10) (by rfl) m_MT ⟨_, rfl⟩) (by rfl))
  (pss_one ps_never)
  pss_nil))), ?_⟩
  obtain ⟨⟨n, es⟩, hd, ⟨hw, hn⟩, q⟩ := h
  dsimp only at hw hn q
  cases hd with | cons p1 hd =>
  cases hd
  refine sd_drop (ed_call (n, es) (eda_cons (ed_var rfl p1) eda_nil) hw) fun H1 e1 => ?_
  dsimp only
  refine sd_ifno (et_eq (et_test (eb_op0 (g := fun i j => decide (j < i)) (ev_many (ed_var rfl (p1.up e1)) ev_c) ev_c)) (by rw [decide_eq_false_iff_not]; omega)) fun H2 e2 => q .non H2 .none (e1.trans e2) rfl .non
abbrev s_within : Stmt := top 58
theorem sc_within : FnScope ["bits", "found"] ["bits"] (defScope s_within) := ⟨rfl, rfl, rfl, by decide +kernel, rfl, by decide +kernel, by decide +kernel⟩
theorem kp_within (D : Df K mg "within" s_within ["bits"]) (B : Bare mg) : Kp P w K mg base "within" 1 ["bits"] (sp_within K) := by
  refine D.kp sc_within (spD_len (fun _ => rfl)) (fun f cdv A outer s H vs Q E hr h => ?_)
  refine ⟨_, (pss_cons (ps_set (i := 1) sc_within.nd (by rfl) (by first | exact Or.inl rfl | exact Or.inr rfl) (pe_lst (pa_cons (pv 0) pa_nil)))
  (pss_cons (ps_while PassesOwn.never (pt_cmpR op_ne (pe_ix (r := rIx K) ix_seq (pv 1) (pe_un un_neg pe_int) (fun _ _ => rfl)) pe_int (by rfl))
  (pss_one (ps_expr (pe_bm PySem.F.plainAttrs_list PySem.F.slot_list_append PySem.F.type_list_append mt_append (pv 1) (pa_cons (pe_op op_and (pe_op op_sub (pe_ix (r := rIx K) ix_seq (pv 1) (pe_un un_neg pe_int) (fun _ _ => rfl)) pe_int) (pv 0)) pa_nil)))))
  (pss_one (ps_ret (pv 1))))), ?_⟩
  obtain ⟨r, hd, hr1, q⟩ := h
  dsimp only at hr1 q
  cases hd with | cons p1 hd =>
  cases hd
  have v0 := p1.int_v
  subst v0
  refine sd_new1 (ev_var rfl) fun p H1 e1 hp => ?_
  dsimp only
  refine sd_while (fun m (σ' : L2.St) H' => ∃ fs last, m = last ∧ σ' = [some (vN r), some (.ref p)] ∧ Ex H H' ∧ H' p = some (.lst (fs.map vN)) ∧ WI r fs last) ⟨_, [r], r, rfl, rfl, ex_mut e1 (ex_free e1 hp), upd_same, WI.start r⟩ (fun m σ' H' pv => ?_)
  obtain ⟨fs, last, rfl, rfl, f1, f2, wi⟩ := pv
  have hlst := wi.lst
  obtain ⟨fs0, rfl⟩ : ∃ fs0, fs = fs0 ++ [m] := by
    have hne : fs ≠ [] := fun z => by rw [z] at hlst; cases hlst
    refine ⟨fs.dropLast, ?_⟩
    rw [List.getLast?_eq_some_getLast hne] at hlst
    have := List.dropLast_concat_getLast hne
    rw [Option.some.inj hlst] at this
    exact this.symm
  have hle : (fs0 ++ [m]).length ≤ r + 1 := nodup_lt_len wi.nd fun x hx => by have := G37.subm_le (wi.sub x hx); omega
  have EL : ∀ {H2}, Ex H' H2 → Ev (tOp (rIx K) (tVar 1) (tUn (rU fun i => .int (-i)) (tC (.int 1)))) [some (vN r), some (.ref p)] H2 (vN m) := fun e => ev_ixV (ev_var rfl) (sq_of (e p _ f2)) (ev_neg ev_c) (by rw [List.map_append]; exact atI_last _ _)
  refine ⟨_, et_test (eb_neI (EL (ex_r _)) ev_c), fun c H2 e2 => ?_, fun c H2 e2 => ?_⟩
  · have hm : m ≠ 0 := by
      intro z; rw [z] at c; simp at c
    obtain ⟨ws, wl⟩ := wi.step hm
    refine sd_app (K := K) (R := fun d => d = dI ((m - 1) &&& r)) (ev_var rfl) (e2 p _ f2) (ed_int (ev_and (a := m - 1) (ei_eq (ei_op0 (g := fun i j => i - j) (EL e2) ev_c) (by omega)) (ev_var rfl))) (by rw [List.length_map]; omega) fun v H3 d e3 hd3 hv3 hp3 => ?_
    subst hd3
    have hv3 := hv3.int_v
    subst hv3
    dsimp only
    exact ⟨(m - 1) &&& r, wl, _, _, rfl, rfl, ex_mut ((f1.trans e2).trans e3) (ex_free e1 hp), by rw [upd_same, List.map_append (l₂ := [(m - 1) &&& r])]; rfl, ws⟩
  · have hm : m = 0 := by
      simp at c; exact c
    subst hm
    have hdn := wi.done
    exact sd_ret (K := K) (ed_var rfl (v_dL (sq_of (e2 p _ f2)))) fun v9 H9 r9 e9 hr9 hv9 => q v9 H9 r9 ((f1.trans e2).trans e9) ⟨_, hdn.1, hdn.2, hr9⟩ hv9
abbrev s_ways_by : Stmt := top 56
theorem sc_ways_by : FnScope ["web", "beside", "found", "bits", "end", "rest", "some", "one"] ["web"] (defScope s_ways_by) := ⟨rfl, rfl, rfl, by decide +kernel, rfl, by decide +kernel, by decide +kernel⟩
theorem kp_ways_by (D : Df K mg "ways_by" s_ways_by ["web"]) (B : Bare mg) (h_near : Kp P w K mg base "near" 1 ["web"] (sp_near K)) : Kp P w K mg base "ways_by" 2 ["web"] (sp_ways_by K) := by
  obtain ⟨f_near, fd_near, F_near, g_near, k_near, b_near⟩ := h_near
  refine D.kp sc_ways_by (len_ways K) (fun f cdv A outer s H vs Q E hr h => ?_)
  refine ⟨_, (pss_cons (ps_set (i := 1) sc_ways_by.nd (by rfl) (by first | exact Or.inl rfl | exact Or.inr rfl) (pe_call F_near (hr.mono (by decide)) (by rfl) g_near k_near b_near .nil pass0 (pa_cons (pv 0) pa_nil)))
  (pss_cons (ps_set (i := 2) sc_ways_by.nd (by rfl) (by first | exact Or.inl rfl | exact Or.inr rfl) pe_dnewT)
  (pss_cons (ps_for PassesOwn.never rfl (pi_range2 (by rfl) B.range (pa_cons pe_int (pa_cons (pe_op (r := rShl1) op_shl1 pe_int (pe_ix (r := rIx K) ix_seq (pv 0) pe_int (fun _ _ => rfl))) pa_nil))) (pg_name (i := 3) sc_ways_by.nd (by rfl) (by first | exact Or.inl rfl | exact Or.inr rfl))
  (pss_one (ps_for PassesOwn.never rfl (pi_range1 (by rfl) B.range (pa_cons (pe_ix (r := rIx K) ix_seq (pv 0) pe_int (fun _ _ => rfl)) pa_nil)) (pg_name (i := 4) sc_ways_by.nd (by rfl) (by first | exact Or.inl rfl | exact Or.inr rfl))
  (pss_cons (ps_set (i := 5) sc_ways_by.nd (by rfl) (by first | exact Or.inl rfl | exact Or.inr rfl) (pe_op op_sub (pv 3) (pe_op (r := rShl1) op_shl1 pe_int (pv 4))))
  (pss_one (ps_if (pt_cmpR op_eq (pe_op op_and (pe_op op_shr (pv 3) (pv 4)) pe_int) pe_int (by rfl))
  (pss_cons (ps_setLc (i := 6) rfl sc_ways_by.nd (by rfl) (by rfl) (by rfl) (pi_list (pe_ix (r := rIx K) ix_seq (pv 1) (pv 4) (fun _ _ => rfl))) (own := [("one", 7)]) (blkOk_by (N := ["web", "beside", "found", "bits", "end", "rest", "some", "one"]) (sc := (defScope s_ways_by)) (by decide +kernel)) (fun _ _ _ _ _ => (pg_name (i := 7) sc_ways_by.nd (by rfl) (by first | exact Or.inl rfl | exact Or.inr rfl))) (fun _ _ _ _ _ => pts_one (pt_cmpR op_eq (pe_op op_and (pe_op op_shr (pv 5) (pv 7)) pe_int) pe_int (by rfl))) (fun _ _ _ _ _ => (pe_dget (hu_of hr) (pv 2) (pe_tup (pa_cons (pv 5) (pa_cons (pv 7) pa_nil))) (by intro _ _; rfl))))
  (pss_one (ps_dput (hu_of hr) (pv 2) (pe_tup (pa_cons (pv 3) (pa_cons (pv 4) pa_nil))) (pe_op op_add (pe_callTy call_int1 (by rfl) B.int (by decide +kernel) (pa_cons (pe_cmpR op_eq (pv 5) pe_int (by rfl)) pa_nil)) (pe_callB (r := rSum K) (cr_sum rfl) (by rfl) B.sum (by decide +kernel) (pa_cons (pv 6) pa_nil))) (by rfl))))
  pss_nil))))))
  (pss_one (ps_ret (pv 2)))))), ?_⟩
  obtain ⟨n, es, L, hd, hw, hn, ht, q⟩ := h
  cases hd with | cons p1 hd =>
  cases hd
  have hf : G37.Fo n es := hw.fo
  have hpw := pow1024 hn
  have hp0 : 0 < 2 ^ n := Nat.two_pow_pos n
  rename_i t
  have E0 : ∀ {H1 a b c d e f g}, Ex H H1 → EvD K (tVar 0) [some t, a, b, c, d, e, f, g] H1 (dWeb n es) := fun e => ed_var rfl (p1.up e)
  refine sd_asg (K := K) (ed_call (n, es) (eda_cons (E0 (ex_r _)) eda_nil) ⟨by dsimp only; omega, hf⟩) fun v B r e1 hr hv => ?_
  have hb : Dp K B v (dBesN n es) := by rw [hr] at hv; exact hv
  clear hr hv
  dsimp only
  have EB : ∀ {H1 a b c d e f}, Ex B H1 → EvD K (tVar 1) [some t, some v, a, b, c, d, e, f] H1 (dBesN n es) := fun e => ed_var rfl (hb.up e)
  refine sd_newT fun d hdn hdt => ?_
  dsimp only
  refine Evl.s_forR2 (lo := 1) (n := ((2 ^ n : Nat) : Int)) (ea_cons ev_c (ea_cons (ev_shl1 ev_c (ev_many (E0 (e1.trans (ex_new hdn))) ev_c) (by omega)) ea_nil)) ⟨by decide, by decide, by omega, by omega⟩
    (fun i (σ' : L2.St) H' => ∃ x3 x4 x5 x6 g, σ' = [some t, some v, some (.ref d), x3, x4, x5, x6, none] ∧ Ex B H' ∧ DTat H' d (i * n) g ∧ ∀ X e, 0 < X → X < i + 1 → X.testBit e = true → g X e = some (vN (Wv es L X e)))
    (fun H1 e => ⟨none, none, none, none, _, rfl, (ex_new hdn).trans e, by rw [Nat.zero_mul]; exact hdt.up e, fun X e h0 h1 => by omega⟩) (fun i σ' H' hi pv => ?_) fun σ' H' pv => ?_
  · obtain ⟨x3, x4, x5, x6, g, rfl, f1, f2, f3⟩ := pv
    have hX : i + 1 < 2 ^ n := by omega
    have hi1 : ((1 : Int) + (i : Int)) = ((i + 1 : Nat) : Int) := by omega
    rw [hi1]
    dsimp only [List.set_cons_succ, List.set_cons_zero]
    refine Evl.s_forR1 (n := (n : Int)) (ea_cons (ev_many (E0 (e1.trans f1)) ev_c) ea_nil) ⟨by omega, by omega⟩
      (fun j (σ' : L2.St) H' => ∃ x4 x5 x6 g, σ' = [some t, some v, some (.ref d), some (vN (i + 1)), x4, x5, x6, none] ∧ Ex B H' ∧ DTat H' d (i * n + j) g ∧ (∀ X e, 0 < X → X < i + 1 → X.testBit e = true → g X e = some (vN (Wv es L X e))) ∧ ∀ e, e < j → (i + 1).testBit e = true → g (i + 1) e = some (vN (Wv es L (i + 1) e)))
      (fun H1 e => ⟨x4, x5, x6, g, rfl, f1.trans e, f2.up e, f3, fun e h => by omega⟩) (fun j σ' H' hj pv => ?_) fun σ' H' pv => ?_
    · obtain ⟨x4, x5, x6, g, rfl, k1, k2, k3, k4⟩ := pv
      have hj : j < n := by omega
      have hin : i * n + j ≤ 20000 := by
        have : i * n ≤ 1024 * 10 := Nat.mul_le_mul (by omega) hn
        omega
      refine sd_asgV (ei_op0 (g := fun i j => i - j) (ev_var (i := 3) rfl) (ev_shl1 ev_c (ev_var rfl) (by omega))) fun H1 m1 => ?_
      dsimp only
      refine sd_if (et_bit (ev_var rfl) (ev_var rfl) ev_c ev_c) (fun c H2 m2 => ?_) fun c H2 m2 => ?_
      · have hle := G37.bit_le c
        have hrest : ((i + 1 : Nat) : Int) - ((2 ^ j : Nat) : Int) = ((i + 1 - 2 ^ j : Nat) : Int) := by omega
        rw [hrest]
        have m12 := m1.trans m2
        have hway := ht.ways hX c
        have hval : ∀ u, (i + 1 - 2 ^ j).testBit u = true → g (i + 1 - 2 ^ j) u = some (vN (Wv es L (i + 1 - 2 ^ j) u)) := fun u hu => by
          have h0 : 0 < i + 1 - 2 ^ j := Nat.pos_of_ne_zero fun z => by rw [z] at hu; simp at hu
          have : 0 < 2 ^ j := Nat.two_pow_pos j
          exact k3 _ _ h0 (by omega) hu
        refine sd_asg (K := K) (ed_lcL (nb n es j) dI (fun u => (i + 1 - 2 ^ j).testBit u) (fun u => dI (Wv es L (i + 1 - 2 ^ j) u)) good_name (ep_ixL (EB (k1.trans m12)) (ev_var rfl) (besN_at hj)) (by have := nb_len n es j; omega) (fun _ => rfl) fun a x H3 ha e3 hx => ⟨rfl, rfl, et_bit (ev_var rfl) (ei_of (ed_var rfl hx)) ev_c ev_c, fun hp => ed_int (ev_dtget (ev_var rfl) (ev_var rfl) (ei_of (ed_var rfl hx)) ((k2.up m12).up e3) (hval a hp))⟩) fun v3 H3 r3 e3 hr3 hv3 => ?_
        dsimp only
        have hv3 : Dp K H3 v3 (dL (((nb n es j).filter (i + 1 - 2 ^ j).testBit).map fun u => Wv es L (i + 1 - 2 ^ j) u)) := by
          rw [hr3] at hv3
          have : ((nb n es j).filter fun u => (i + 1 - 2 ^ j).testBit u).map (fun u => dI (Wv es L (i + 1 - 2 ^ j) u)) = dNs (((nb n es j).filter (i + 1 - 2 ^ j).testBit).map fun u => Wv es L (i + 1 - 2 ^ j) u) := by
            simp only [dNs, List.map_map]; rfl
          rw [this] at hv3
          exact hv3
        refine sd_dtput (v := vN (Wv es L (i + 1) j)) (m := i * n + j) (g := g) (ei_eq (ei_op0 (g := fun i j => i + j) (ei_int1 (eb_eqI (ev_var (i := 5) rfl) ev_c)) (ev_sum (K := K) (ed_var rfl hv3))) ?_) ((k2.up m12).up e3) (ev_var rfl) (ev_var rfl) (ev_var rfl) (by omega) fun H4 o m4 hdt4 => ?_
        · rw [← hway]
          unfold sumL
          have : (if decide (((i + 1 - 2 ^ j : Nat) : Int) = 0) = true then (1 : Int) else 0) = (((if i + 1 - 2 ^ j = 0 then 1 else 0 : Nat)) : Int) := by
            by_cases z : i + 1 - 2 ^ j = 0
            · simp [z]
            · have : ¬ ((i + 1 - 2 ^ j : Nat) : Int) = 0 := by omega
              simp only [this, z, decide_false, if_false]; rfl
          rw [this]; omega
        · dsimp only
          refine ⟨_, _, _, _, rfl, ex_mut (((k1.trans m12).trans e3).trans m4) hdn, hdt4, fun X e h0 h1 h2 => ?_, fun e h1 h2 => ?_⟩
          · rw [if_neg (by omega)]; exact k3 X e h0 h1 h2
          · by_cases ce : e = j
            · rw [if_pos ⟨rfl, ce⟩, ce]
            · rw [if_neg (by omega)]; exact k4 e (by omega) h2
      · have m12 := m1.trans m2
        refine ⟨_, _, _, g, rfl, k1.trans m12, ?_, k3, fun e h1 h2 => ?_⟩
        · obtain ⟨kvs, a1, a2, a3⟩ := k2.up m12
          exact ⟨kvs, a1, by omega, a3⟩
        · by_cases ce : e = j
          · rw [ce, c] at h2; cases h2
          · exact k4 e (by omega) h2
    · obtain ⟨x4, x5, x6, g, rfl, k1, k2, k3, k4⟩ := pv
      rw [show (n : Int).toNat = n from by omega] at k2 k4
      refine ⟨_, _, _, _, g, rfl, k1, by rw [Nat.succ_mul]; exact k2, fun X e h0 h1 h2 => ?_⟩
      by_cases cx : X = i + 1
      · subst cx
        exact k4 e (G37.bit_lt hX h2) h2
      · exact k3 X e h0 (by omega) h2
  · obtain ⟨x3, x4, x5, x6, g, rfl, f1, f2, f3⟩ := pv
    have h2n : 0 < 2 ^ n := Nat.two_pow_pos n
    dsimp only
    refine Evl.s_ret (v := .ref d) (ev_var rfl) fun H1 e2 => q d H1 _ g ((e1.trans f1).trans e2) (f2.up e2) fun X e h0 h1 h2 => f3 X e h0 (by omega) h2
abbrev s_through : Stmt := top 57
theorem sc_through : FnScope ["web", "known", "found", "bits", "total", "end"] ["web"] (defScope s_through) := ⟨rfl, rfl, rfl, by decide +kernel, rfl, by decide +kernel, by decide +kernel⟩
theorem kp_through (D : Df K mg "through" s_through ["web"]) (B : Bare mg) (h_ways_by : Kp P w K mg base "ways_by" 2 ["web"] (sp_ways_by K)) : Kp P w K mg base "through" 3 ["web"] (sp_through K) := by
  obtain ⟨f_ways_by, fd_ways_by, F_ways_by, g_ways_by, k_ways_by, b_ways_by⟩ := h_ways_by
  refine D.kp sc_through (len_through K) (fun f cdv A outer s H vs Q E hr h => ?_)
  refine ⟨_, (pss_cons (ps_set (i := 1) sc_through.nd (by rfl) (by first | exact Or.inl rfl | exact Or.inr rfl) (pe_call F_ways_by (hr.mono (by decide)) (by rfl) g_ways_by k_ways_by b_ways_by .nil pass0 (pa_cons (pv 0) pa_nil)))
  (pss_cons (ps_set (i := 2) sc_through.nd (by rfl) (by first | exact Or.inl rfl | exact Or.inr rfl) pe_dnewK)
  (pss_cons (ps_for PassesOwn.never rfl (pi_range2 (by rfl) B.range (pa_cons pe_int (pa_cons (pe_op (r := rShl1) op_shl1 pe_int (pe_ix (r := rIx K) ix_seq (pv 0) pe_int (fun _ _ => rfl))) pa_nil))) (pg_name (i := 3) sc_through.nd (by rfl) (by first | exact Or.inl rfl | exact Or.inr rfl))
  (pss_cons (ps_set (i := 4) sc_through.nd (by rfl) (by first | exact Or.inl rfl | exact Or.inr rfl) (pe_callB (r := rSum K) (cr_sum rfl) (by rfl) B.sum (by decide +kernel) (pa_cons (pe_lc (own := [("end", 5)]) rfl sc_through.nd (pi_range1 (by rfl) B.range (pa_cons (pe_ix (r := rIx K) ix_seq (pv 0) pe_int (fun _ _ => rfl)) pa_nil)) (blkOk_by (N := ["web", "known", "found", "bits", "total", "end"]) (sc := (defScope s_through)) (by decide +kernel)) (fun _ _ _ _ _ => (pg_name (i := 5) sc_through.nd (by rfl) (by first | exact Or.inl rfl | exact Or.inr rfl))) (fun _ _ _ _ _ => pts_one (pt_cmpR op_eq (pe_op op_and (pe_op op_shr (pv 3) (pv 5)) pe_int) pe_int (by rfl))) (fun _ _ _ _ _ => (pe_dget (hu_of hr) (pv 1) (pe_tup (pa_cons (pv 3) (pa_cons (pv 5) pa_nil))) (by intro _ _; rfl)))) pa_nil)))
  (pss_one (ps_dput (hu_of hr) (pv 2) (pv 3) (pe_ifExp (pt_cmpR op_eq (pe_op op_and (pv 3) (pe_op op_sub (pv 3) pe_int)) pe_int (by rfl)) (pv 4) (pe_op op_fdiv (pv 4) pe_int)) (by rfl)))))
  (pss_one (ps_ret (pv 2)))))), ?_⟩
  obtain ⟨n, es, L, hd, hw, hn, ht, q⟩ := h
  cases hd with | cons p1 hd =>
  cases hd
  have hpw := pow1024 hn
  have hp0 : 0 < 2 ^ n := Nat.two_pow_pos n
  rename_i t
  have E0 : ∀ {H1 a b c d e}, Ex H H1 → EvD K (tVar 0) [some t, a, b, c, d, e] H1 (dWeb n es) := fun e => ed_var rfl (p1.up e)
  refine sd_ways (K := K) (eda_cons (E0 (ex_r _)) eda_nil) hw hn ht fun kd B km kg e1 hk1 hk2 => ?_
  dsimp only
  refine sd_newK fun d hdn hdt => ?_
  dsimp only
  refine Evl.s_forR2 (lo := 1) (n := ((2 ^ n : Nat) : Int)) (ea_cons ev_c (ea_cons (ev_shl1 ev_c (ev_many (E0 (e1.trans (ex_new hdn))) ev_c) (by omega)) ea_nil)) ⟨by decide, by decide, by omega, by omega⟩
    (fun i (σ' : L2.St) H' => ∃ x3 x4 g, σ' = [some t, some (.ref kd), some (.ref d), x3, x4, none] ∧ Ex B H' ∧ DNat H' d i g ∧ ∀ X, 0 < X → X < i + 1 → g X = some (vN (kn es L X)))
    (fun H1 e => ⟨none, none, _, rfl, (ex_new hdn).trans e, hdt.up e, fun X h0 h1 => by omega⟩) (fun i σ' H' hi pv => ?_) fun σ' H' pv => ?_
  · obtain ⟨x3, x4, g, rfl, f1, f2, f3⟩ := pv
    have hX : i + 1 < 2 ^ n := by omega
    have hi1 : ((1 : Int) + (i : Int)) = ((i + 1 : Nat) : Int) := by omega
    rw [hi1]
    have hthr := ht.through (X := i + 1) (by omega) hX
    refine sd_asg (K := K) (R := fun r => r = .int ((sumL ((List.range n).filter (i + 1).testBit) (Wv es L (i + 1)) : Nat) : Int)) (ed_int (ev_sum (K := K) ((ed_lcR (n := n) (fun e => (i + 1).testBit e) (fun e => dI (Wv es L (i + 1) e)) good_name (ea_cons (ev_many (E0 (e1.trans f1)) ev_c) ea_nil) (by simp) (by omega) (by omega) (fun _ => rfl) fun e H3 he e3 => ⟨rfl, rfl, et_bit (ev_var (i := 3) rfl) (ev_var (i := 5) rfl) ev_c ev_c, fun hp => ed_int (ev_dtget (ev_var (i := 1) rfl) (ev_var (i := 3) rfl) (ev_var (i := 5) rfl) ((hk1.up f1).up e3) (hk2 _ _ (by omega) hX hp))⟩).imp fun dd h => by
      rw [h]
      simp only [dL, dNs, List.map_map]
      rfl))) fun v3 H3 r3 e3 hr3 hv3 => ?_
    subst hr3
    have hv3 := hv3.int_v
    subst hv3
    dsimp only
    refine sd_dnput (v := vN (kn es L (i + 1))) (m := i) (g := g) (ev_ifE (b := decide ((i + 1) &&& i = 0)) (et_eq (et_test (eb_eqI (ev_and (a := i + 1) (b := i) (ev_var rfl) (ei_eq (ei_op0 (g := fun i j => i - j) (ev_var (i := 3) rfl) ev_c) (by omega))) ev_c)) (by rw [Bool.eq_iff_iff]; simp)) (fun c => ei_eq (ev_var (i := 4) rfl) ?_) fun c => ei_eq (ev_half (ev_var (i := 4) rfl) ev_c) ?_) (f2.up e3) (ev_var rfl) (ev_var rfl) (by omega) fun H4 o m4 hdt4 => ?_
    · have := hthr.1 (of_decide_eq_true c)
      rw [this]
    · have := hthr.2 (of_decide_eq_false c)
      rw [this]
    · dsimp only
      refine ⟨_, _, _, rfl, ex_mut ((f1.trans e3).trans m4) hdn, hdt4, fun X h0 h1 => ?_⟩
      by_cases cx : X = i + 1
      · rw [if_pos cx, cx]
      · rw [if_neg cx]; exact f3 X h0 (by omega)
  · obtain ⟨x3, x4, g, rfl, f1, f2, f3⟩ := pv
    have h2n : 0 < 2 ^ n := Nat.two_pow_pos n
    dsimp only
    refine Evl.s_ret (v := .ref d) (ev_var rfl) fun H1 e2 => q d H1 _ g ((e1.trans f1).trans e2) (f2.up e2) (by omega) fun X h0 h1 => f3 X h0 (by omega)
end
end W37
/-! sorted(d.items()), numbers to numbers -/
namespace W37
open PySem PySem.Spec PyProof.Rows L2
open Evl (Ex)
section
variable {prog : Program} {w : World} {A : Around} {E : Value → Shared → Prop} {s : Shared} {κ : Type} [DecidableEq κ] {knd : KeyKind prog w κ} {r d : Addr} {kvs : List (κ × Value)} {ep : Nat}
theorem srt_items {Q : Value → Shared → Prop} (hh : A.handled = none) (hv : s.heap.IsItemsView r d) (hm : s.heap.DictAt knd d kvs ep) (hn : kvs.length ≤ sizeLine)
    (h : ∀ (h' : Heap) (tk : Nat) (as : List Addr), (∀ b o, s.heap.get? b = some o → h'.get? b = some o) → as.length = kvs.length → PySem.W.KdxG knd kvs s.heap.objs.size h' as →
      wpAny (model prog w) A.in1 (call (.builtin "list.sort") [.ref h'.objs.size]) (fun _ s' => Q (.ref h'.objs.size) s') E { s with heap := h'.push { cls := .type "list", data := .seq (as.map Value.ref).toArray }, toks := tk }) :
    wpAny (model prog w) A (call (.builtin "sorted") [.ref r]) Q E s := by
  refine Calls.call_function_entry kind_sorted plain_sorted entry_sorted (args_sorted1 _) ?_
  unfold Builtin.«sorted»
  refine wpAny_bind (m := checkCount "sorted" 1 1 _) (wpAny_pure ?_)
  refine wpAny_bind (PySem.W.kdx_collect (A := A.in1) (knd := knd) (kvs := kvs) (ep := ep) hh hv hm hn fun h' tk as hk hl hG => ?_)
  refine wpAny_bind (wpAny_newList ?_ (by rw [List.length_map, hl]; exact hn))
  have hg := h h' tk as hk hl hG
  refine wpAny_bind (wpAny_holding (wpAny_mono hg (fun _ s' x => ?_) fun _ _ e => e))
  exact wpAny_pure ⟨_, rfl, x⟩
end
def TupN (h : Heap) (a : Addr) (kv : Nat × Nat) : Prop := ∃ t u, h.get? a = some { cls := .type "tuple", data := .seq #[.int (kv.1 : Int) t, .int (kv.2 : Int) u] }
theorem each_by {α β : Type} {R : α → β → Prop} : ∀ {l : List α} {m : List β}, l.length = m.length → (∀ (j : Nat) (a : α) (b : β), l[j]? = some a → m[j]? = some b → R a b) → PySem.W.EachIs R l m
  | [], [], _, _ => .nil
  | [], _ :: _, h, _ => by simp at h
  | _ :: _, [], h, _ => by simp at h
  | a :: l, b :: m, h, f => .cons (f 0 a b rfl rfl) (each_by (by simpa using h) fun j a b h1 h2 => f (j + 1) a b (by simpa using h1) (by simpa using h2))
theorem each_refs {as : List Addr} {h : Heap} : ∀ {out : List Value} {ls : List (Nat × Nat)}, PySem.W.EachIs (fun v kv => ∃ a, a ∈ as ∧ v = Value.ref a ∧ TupN h a kv) out ls → ∃ ps : List Addr, out = ps.map Value.ref ∧ (∀ p ∈ ps, p ∈ as) ∧ Paired (fun p kv => TupN h p kv) ps ls
  | _, _, .nil => ⟨[], rfl, by simp, .nil⟩
  | _, _, .cons ⟨a, h1, h2, h3⟩ t => by
    obtain ⟨ps, e1, e2, e3⟩ := each_refs t
    refine ⟨a :: ps, by rw [h2, e1]; rfl, fun p hp => ?_, .cons h3 e3⟩
    rcases List.mem_cons.mp hp with q | q
    · rw [q]; exact h1
    · exact e2 p q
theorem tup_tracked {h' : Heap} {H2 : Hp} {as : List Addr} (qt : ∀ a ∈ as, ∃ vs, (∃ q : Nat × Nat, TupN h' a q ∧ vs = [V.int (q.1 : Int), V.int (q.2 : Int)]) ∧ H2 a = some (.tup vs)) : ∀ {ps : List Addr} {ls : List (Nat × Nat)}, (∀ p ∈ ps, p ∈ as) → Paired (fun p kv => TupN h' p kv) ps ls → Paired (fun (q : Addr) (kv : Nat × Nat) => H2 q = some (.tup [V.int (kv.1 : Int), V.int (kv.2 : Int)])) ps ls
  | _, _, _, .nil => .nil
  | p0 :: _, q0 :: _, hps, .cons h1 t => by
    refine .cons ?_ (tup_tracked qt (fun p hp => hps p (List.mem_cons_of_mem _ hp)) t)
    obtain ⟨vs', ⟨q1, ⟨t1, u1, h3⟩, rfl⟩, h4⟩ := qt p0 (hps p0 List.mem_cons_self)
    obtain ⟨t0, u0, h5⟩ := h1
    rw [h5] at h3
    have h6 := Option.some.inj h3
    simp only [Obj.mk.injEq, Data.seq.injEq, true_and, and_true] at h6
    have h7 : (q0.1 : Int) = q1.1 ∧ (q0.2 : Int) = q1.2 := by
      have h8 := congrArg Array.toList h6
      simp at h8
      exact ⟨by have := h8.1.1; omega, by have := h8.2.1; omega⟩
    rw [h4, h7.1, h7.2]
def encN (kv : Nat × Nat) : PyData := .tuple [.int (kv.1 : Int), .int (kv.2 : Int)]
theorem kv_ix {kvs : List (Key × V)} {vs : List (Key × Value)} (kv : KV kvs vs) {j : Nat} {q : Key × Value} (h : vs[j]? = some q) : ∃ p, kvs[j]? = some p ∧ p.1 = q.1 ∧ RelV p.2 q.2 := by
  induction kv generalizing j with
  | nil => simp at h
  | cons r t ih =>
    cases j with
    | zero => simp at h; subst h; exact ⟨_, rfl, r⟩
    | succ j =>
      obtain ⟨p, h1, h2⟩ := ih (by simpa using h)
      exact ⟨p, by simpa using h1, h2⟩
def tSrtItems (te : TE) : TE := fun σ H Q => te σ H fun x H1 => ∃ (d : Addr) (l : List (Nat × Nat)), x = .ref d ∧ H1 d = some (.dK (l.map fun kv => ((.inl (kv.1 : Int) : Key), V.int (kv.2 : Int)))) ∧ l.length ≤ 5000 ∧
  ∀ (H2 : Hp) (p : Addr) (l' : List (Nat × Nat)) (ps : List Addr), Ex H1 H2 → l'.Perm l → H2 p = some (.lst (ps.map V.ref)) → Paired (fun (q : Addr) (kv : Nat × Nat) => H2 q = some (.tup [V.int (kv.1 : Int), V.int (kv.2 : Int)])) ps l' → Q (.ref p) H2
section
variable {X : Cx} {e : Expr} {te : TE} {p apos cpos pos : Pos}
theorem pe_srtItems (hc : X.calm = true) (hu : X.A.units + 64 < cLine) (he : PE X e te) (hg : Gl X "sorted") (hm : X.mg "sorted" = none) (hbase : attributeBase e "items" X.env (eval e X.env) = eval e X.env := by rfl) (hline : (apos.endLine == cpos.line) = true := by rfl)
    (hs : starEach [.Call (.Attribute e "items" apos) [] [] cpos] X.env = (false, eval (.Call (.Attribute e "items" apos) [] [] cpos) X.env) :: starEach [] X.env := by rfl) :
    PE X (.Call (.Name "sorted" p) [.Call (.Attribute e "items" apos) [] [] cpos] [] pos) (tSrtItems te) := by
  refine ⟨fun pins s σ H Q I hq => ?_⟩
  refine Call_ (ld_blt I hg hm (show bootBuiltins "sorted" = some (.builtin "sorted") by decide +kernel) ?_)
  refine PyProof.Rows.callWith_builtin1 ?_ hs rfl
  rw [hs]
  show wpAny _ _ (spliced ((false, eval (.Call (.Attribute e "items" apos) [] [] cpos) X.env) :: backTo pos (starEach [] X.env))) _ _ s
  refine Calls.spliced_cons ?_
  refine wpAny_Call_method (T := "dict") (id := "dict.items") hbase rfl hline PySem.F.plainAttrs_dict PySem.F.slot_dict_items PySem.F.type_dict_items (thn (he.run pins s σ H _ I hq) fun u s1 ⟨x, H1, I1, rx, d, l, ex, hd, hl5, q⟩ => ?_)
  subst ex
  obtain rfl : u = Value.ref d := rx
  obtain ⟨hz, hs0, vs, kv, hdo⟩ := I1.hok d _ hd
  obtain ⟨ep, hat⟩ := hdo.dictAt
  have lk : (l.map fun kv => ((.inl (kv.1 : Int) : Key), V.int (kv.2 : Int))).length = vs.length := Paired.length kv
  rw [List.length_map] at lk
  have I2 : Inv X pins σ H1 { s1 with heap := s1.heap.push { cls := .type "dict_items", data := .fields #[.ref d] } } := I1.kept (t' := s1.toks) fun b ob q => Heap.get?_push_of_some _ q
  refine ⟨hdo.typeIs, hdo.mapOf.noDict, ?_⟩
  show wpAny _ _ (callWith cpos (.builtin "dict.items") [.ref d] [] []) _ X.xe s1
  refine method_meetsIn PySem.F.slot_dict_items PySem.F.entry_dict_items rfl (PySem.evalArgs_none ⟨rfl, hdo.typeIs, PySem.F.args_dict_items_1 _, _, meets_dict_items (mixKind X.prog X.w) d hs0, ⟨vs, hdo⟩, ?_⟩)
  refine Calls.spliced_nil ?_
  generalize hs2 : ({ s1 with heap := s1.heap.push { cls := .type "dict_items", data := .fields #[.ref d] } } : Shared) = s2 at I2
  have hview : s2.heap.IsItemsView s1.heap.objs.size d := by rw [← hs2]; exact ⟨_, Heap.get?_push_size _ rfl, rfl, rfl⟩
  have hat2 : s2.heap.DictAt (mixKind X.prog X.w) d vs ep := by rw [← hs2]; exact hat.push _
  show wpAny (model X.prog X.w) X.A (call (.builtin "sorted") [.ref s1.heap.objs.size]) (EP X pins σ Q) X.xe _
  first | rw [hs2] | skip
  refine srt_items (knd := mixKind X.prog X.w) (kvs := vs) (ep := ep) (s := s2) (I2.ok.hd hc) hview hat2 (Nat.le_trans (by omega : vs.length ≤ 5000) (by decide)) fun h' tk as hk hl hG => ?_
  have nd : as.Nodup := List.Pairwise.imp (fun {a b} (h : a < b) => Nat.ne_of_lt h) hG.rise
  have hS : (5000 : Nat) ≤ sizeLine := by decide
  have pr : ∀ (j : Nat) (a : Addr), as[j]? = some a → ∃ q, l[j]? = some q ∧ TupN h' a q := by
    intro j a hj
    obtain ⟨key, k, x, f1, f2, f3⟩ := hG.pairs j a hj
    obtain ⟨p', g1, g2, g3⟩ := kv_ix kv f1
    rw [List.getElem?_map] at g1
    obtain ⟨q', hq', rfl⟩ := Option.map_eq_some_iff.mp g1
    dsimp only at g2 g3
    subst g2
    obtain ⟨u, rfl⟩ := g3
    have f2 : Value.isInt (q'.1 : Int) key = true := f2
    obtain ⟨t, rfl⟩ := Value.isInt_shape f2
    exact ⟨q', hq', t, u, f3⟩
  have hob : (h'.push { cls := .type "list", data := .seq (as.map Value.ref).toArray }).get? h'.objs.size = some (seqObj "list" (as.map Value.ref).toArray 0) := Heap.get?_push_size _ rfl
  have kb : ∀ b o, s2.heap.get? b = some o → (h'.push { cls := .type "list", data := .seq (as.map Value.ref).toArray }).get? b = some o := fun b o e => Heap.get?_push_of_some _ (hk b o e)
  have ne0 : ∀ b o, h'.get? b = some o → b ≠ h'.objs.size := fun b o e => Nat.ne_of_lt (Heap.lt_size e)
  have ka : ∀ b o, h'.get? b = some o → (h'.push { cls := .type "list", data := .seq (as.map Value.ref).toArray }).get? b = some o := fun b o e => Heap.get?_push_of_some _ e
  generalize hh2 : h'.push { cls := .type "list", data := .seq (as.map Value.ref).toArray } = h2 at hob kb ka ⊢
  have hlas : as.length = l.length := by omega
  have eR : PySem.W.EachIs (fun v kv => ∃ a, a ∈ as ∧ v = Value.ref a ∧ TupN h' a kv) (as.map Value.ref) l := each_by (by rw [List.length_map, hlas]) fun j v q h1 h2 => by
    rw [List.getElem?_map] at h1
    obtain ⟨a, ha, rfl⟩ := Option.map_eq_some_iff.mp h1
    obtain ⟨q', h3, h4⟩ := pr j a ha
    rw [h2] at h3; cases h3
    exact ⟨a, List.mem_of_getElem? ha, rfl, h4⟩
  have eD : PySem.W.EachIs (fun v (b : Nat × Nat) => ∃ rs, Reads h2 v (encN b) rs ∧ h'.objs.size ∉ rs) (as.map Value.ref) l := eR.mono fun v b ⟨a, _, e2, t, u, e3⟩ => by
    subst e2
    exact ⟨_, .tuple (ka _ _ e3) rfl rfl (.cons (.int _ _) (.cons (.int _ _) .nil)), by simp⟩
  refine PySem.W.list_sort_data (A := X.A.in1) (s := { s2 with heap := h2, toks := tk }) (enc := encN) hob eR eD (fun x hx y hy => ?_) (.inl fun x hx => ?_) (by omega) (fun b _ => by show X.A.units + 1 + 1 + 1 < cLine; omega) fun out ho eo => ?_
  · obtain ⟨a, _, rfl⟩ := List.mem_map.mp hx
    obtain ⟨b, _, rfl⟩ := List.mem_map.mp hy
    rfl
  · obtain ⟨a, _, rfl⟩ := List.mem_map.mp hx
    exact ⟨_, _, rfl⟩
  have pm := List.mergeSort_perm l (PySem.W.dataLe false encN)
  generalize l.mergeSort (PySem.W.dataLe false encN) = ls at eo ho pm
  obtain ⟨ps, rfl, hps, hpr⟩ := each_refs eo
  have hlt : s2.heap.objs.size ≤ h'.objs.size := by
    obtain ⟨o, ho', _⟩ := hview
    have h1 := Heap.lt_size (hk _ _ ho')
    have hsz : s2.heap.objs.size = s1.heap.objs.size + 1 := by rw [← hs2]; simp [Heap.push]
    rw [hsz]
    exact h1
  have kF : ∀ b o, b ≠ h'.objs.size → h2.get? b = some o → (sortedHeap h2 h'.objs.size (as.map Value.ref) (ps.map Value.ref).toArray).get? b = some o := fun b o hb e => (PyProof.Rows.sortedHeap_old hb (Heap.lt_size e)).trans e
  have kS : ∀ b o, s2.heap.get? b = some o → (sortedHeap h2 h'.objs.size (as.map Value.ref) (ps.map Value.ref).toArray).get? b = some o := fun b o e => kF b o (ne0 _ _ (hk b o e)) (kb b o e)
  obtain ⟨eF, heF⟩ := PyProof.Rows.sortedHeap_at (vs := as.map Value.ref) (out := (ps.map Value.ref).toArray) hob
  have I3 : Inv X pins σ H1 { s2 with heap := sortedHeap h2 h'.objs.size (as.map Value.ref) (ps.map Value.ref).toArray, toks := tk } := I2.kept (t' := tk) kS
  have hn0 : H1 h'.objs.size = none := I2.hok.fresh hlt
  have hpl : ps.length = l.length := by rw [Paired.length hpr, pm.length_eq]
  have I4 : Inv X pins σ (upd H1 h'.objs.size (.lst (ps.map V.ref))) { s2 with heap := sortedHeap h2 h'.objs.size (as.map Value.ref) (ps.map Value.ref).toArray, toks := tk } :=
    I3.take (h' := sortedHeap h2 h'.objs.size (as.map Value.ref) (ps.map Value.ref).toArray) (t' := tk) (fun b ob _ e => e) (I2.fpOk hlt hn0) ⟨by rw [List.length_map]; omega, ps.map Value.ref, eF, LiI.vals_refs ps, heF⟩
  obtain ⟨H2, I5, g, qt⟩ := L2.DX.takeT (P := fun b vs => ∃ q : Nat × Nat, TupN h' b q ∧ vs = [V.int (q.1 : Int), V.int (q.2 : Int)]) I2 as _ I4 nd fun b hb => by
    obtain ⟨j, hj⟩ := List.mem_iff_getElem?.mp hb
    obtain ⟨q', _, t, u, h3⟩ := pr j b hj
    have hbl : s2.heap.objs.size ≤ b := Nat.le_of_lt (hG.above b hb)
    refine ⟨hbl, ?_, _, ⟨q', ⟨t, u, h3⟩, rfl⟩, fun H3 => ⟨(by decide : 2 ≤ sizeLine), [Value.int (q'.1 : Int) t, Value.int (q'.2 : Int) u], .cons ⟨t, rfl⟩ (.cons ⟨u, rfl⟩ .nil), ⟨_, kF _ _ (ne0 _ _ h3) (ka _ _ h3), rfl, 0, rfl⟩⟩⟩
    rw [upd_ne (ne0 _ _ h3)]
    exact I2.hok.fresh hbl
  have gr : ∀ b o, H1 b = some o → H2 b = some o := fun b o e => g b o (by rw [upd_ne (ne_of_none e hn0)]; exact e)
  refine ⟨.ref h'.objs.size, H2, I5, rfl, q H2 h'.objs.size ls ps gr pm (g _ _ upd_same) ?_⟩
  exact tup_tracked qt hps hpr
end
end W37
/-! dicts whose items are walked -/
namespace W37
open PySem PySem.Spec PyProof.Rows L2
open Evl (Ex Ev EvT EvA EvL)
open G37 (sumL)
abbrev encK (kv : Nat × Nat) : Key × V := ((.inl (kv.1 : Int) : Key), V.int (kv.2 : Int))
def putN (l : List (Nat × Nat)) (k v : Nat) : List (Nat × Nat) := if (l.any fun kv => decide (kv.1 = k)) = true then l.map (fun kv => if kv.1 = k then (kv.1, v) else kv) else l ++ [(k, v)]
def val (l : List (Nat × Nat)) (k : Nat) : Nat := ((l.find? fun kv => decide (kv.1 = k)).map (·.2)).getD 0
theorem key_eq (a b : Nat) : ((.inl (a : Int) : Key) = .inl (b : Int)) ↔ a = b := by
  constructor
  · intro h; simp at h; omega
  · intro h; rw [h]
theorem putK_enc (l : List (Nat × Nat)) (k v : Nat) : putK (l.map encK) (.inl (k : Int)) (V.int (v : Int)) = (putN l k v).map encK := by
  unfold putK putN
  have h1 : ((l.map encK).any fun kv => decide (kv.1 = (.inl (k : Int) : Key))) = l.any fun kv => decide (kv.1 = k) := by
    rw [List.any_map]
    congr 1
    funext kv
    simp only [Function.comp, encK, key_eq]
  rw [h1]
  split
  · rw [List.map_map, List.map_map]
    apply List.map_congr_left
    intro kv _
    simp only [Function.comp, encK, key_eq]
    split <;> rfl
  · rw [List.map_append]; rfl
theorem valV_enc (l : List (Nat × Nat)) (k : Nat) : valV (l.map encK) (.inl (k : Int)) = (l.find? fun kv => decide (kv.1 = k)).map fun kv => V.int (kv.2 : Int) := by
  induction l with
  | nil => rfl
  | cons x l ih =>
    rw [List.map_cons, List.find?_cons]
    by_cases c : x.1 = k
    · rw [valV_pos (by simp [encK, c])]
      simp [encK, c]
    · rw [valV_neg (by intro z; exact c ((key_eq _ _).mp z)), ih]
      simp [c]
theorem valV_getD (l : List (Nat × Nat)) (k : Nat) : (valV (l.map encK) (.inl (k : Int))).getD (V.int 0) = V.int (val l k : Int) := by
  rw [valV_enc]
  unfold val
  cases l.find? fun kv => decide (kv.1 = k) <;> rfl
theorem val_put (l : List (Nat × Nat)) (k v j : Nat) : val (putN l k v) j = if j = k then v else val l j := by
  have h := valV_getD (putN l k v) j
  rw [← putK_enc, valV_put] at h
  by_cases c : j = k
  · rw [if_pos ((key_eq _ _).mpr c)] at h
    rw [if_pos c]
    simp at h; omega
  · rw [if_neg (fun z => c ((key_eq _ _).mp z)), valV_getD] at h
    rw [if_neg c]
    simp at h; omega
theorem put_keys (l : List (Nat × Nat)) (k v : Nat) : (putN l k v).map (·.1) = if (l.any fun kv => decide (kv.1 = k)) = true then l.map (·.1) else l.map (·.1) ++ [k] := by
  unfold putN
  split
  · rw [List.map_map]
    apply List.map_congr_left
    intro kv _
    simp only [Function.comp]
    split <;> rfl
  · rw [List.map_append]; rfl
theorem put_nodup {l : List (Nat × Nat)} {k v : Nat} (h : (l.map (·.1)).Nodup) : ((putN l k v).map (·.1)).Nodup := by
  rw [put_keys]
  split
  · exact h
  · rename_i c
    refine List.nodup_append.mpr ⟨h, by simp, fun a ha b hb => ?_⟩
    rw [List.mem_singleton.mp hb]
    intro z
    subst z
    obtain ⟨kv, h1, h2⟩ := List.mem_map.mp ha
    exact c (List.any_eq_true.mpr ⟨kv, h1, by simpa using h2⟩)
theorem put_le {l : List (Nat × Nat)} {k v m : Nat} (h : ∀ kv ∈ l, kv.1 ≤ m) (hk : k ≤ m) : ∀ kv ∈ putN l k v, kv.1 ≤ m := fun kv hkv => by
  have h1 : kv.1 ∈ (putN l k v).map (·.1) := List.mem_map.mpr ⟨kv, hkv, rfl⟩
  rw [put_keys] at h1
  have h2 : kv.1 ∈ l.map (·.1) ∨ kv.1 = k := by
    split at h1
    · exact .inl h1
    · rcases List.mem_append.mp h1 with z | z
      · exact .inl z
      · exact .inr (List.mem_singleton.mp z)
  rcases h2 with z | z
  · obtain ⟨q, h3, h4⟩ := List.mem_map.mp z
    rw [← h4]; exact h q h3
  · rw [z]; exact hk
theorem val_take {l : List (Nat × Nat)} (nd : (l.map (·.1)).Nodup) {i : Nat} {kv : Nat × Nat} (h : l[i]? = some kv) (k : Nat) : val (l.take (i + 1)) k = val (l.take i) k + if kv.1 = k then kv.2 else 0 := by
  have e : l.take (i + 1) = l.take i ++ [kv] := by rw [List.take_succ, h]; rfl
  rw [e]
  unfold val
  rw [List.find?_append]
  cases q : (l.take i).find? fun kv => decide (kv.1 = k) with
  | none =>
    by_cases c : kv.1 = k
    · simp [c]
    · simp [c]
  | some q0 =>
    have c : ¬ kv.1 = k := by
      intro c
      have h1 := List.find?_some q
      have h1 : q0.1 = k := by simpa using h1
      have h2 : q0 ∈ l.take i := List.mem_of_find?_eq_some q
      obtain ⟨j, hj⟩ := List.getElem?_of_mem h2
      rw [List.getElem?_take] at hj
      split at hj
      · rename_i hlt
        have n1 : (l.map (·.1))[j]? = some k := by rw [List.getElem?_map, hj]; simp [h1]
        have n2 : (l.map (·.1))[i]? = some k := by rw [List.getElem?_map, h]; simp [c]
        have := nodup_ix nd n1 n2
        omega
      · cases hj
    simp [c]
theorem val_none {l : List (Nat × Nat)} {k : Nat} (h : 0 < val l k) : ∃ kv, (l.find? fun kv => decide (kv.1 = k)) = some kv ∧ kv.2 = val l k := by
  unfold val at h ⊢
  cases q : l.find? fun kv => decide (kv.1 = k) with
  | none => rw [q] at h; simp at h
  | some kv => exact ⟨kv, rfl, rfl⟩
theorem nodup_lt_len' {l : List Nat} {n : Nat} (nd : l.Nodup) (h : ∀ x ∈ l, x < n) : l.length ≤ n := by
  have := List.Nodup.length_le_of_subset (l₁ := l) (l₂ := List.range n) nd (fun x hx => List.mem_range.mpr (h x hx))
  simpa using this
/-- a dict that tells numbers to numbers -/
structure Cnt (H : Hp) (c : Addr) (m : Nat) (f : Nat → Nat) (l : List (Nat × Nat)) : Prop where
  at_ : H c = some (.dK (l.map encK))
  nd : (l.map (·.1)).Nodup
  le : ∀ kv ∈ l, kv.1 ≤ m
  is : ∀ k, val l k = f k
theorem Cnt.up {H H' : Hp} {c : Addr} {m : Nat} {f : Nat → Nat} {l : List (Nat × Nat)} (h : Cnt H c m f l) (e : Ex H H') : Cnt H' c m f l := ⟨e c _ h.at_, h.nd, h.le, h.is⟩
theorem Cnt.len {H : Hp} {c : Addr} {m : Nat} {f : Nat → Nat} {l : List (Nat × Nat)} (h : Cnt H c m f l) : l.length ≤ m + 1 := by
  have := nodup_lt_len' (l := l.map (·.1)) (n := m + 1) h.nd fun x hx => by
    obtain ⟨kv, h1, rfl⟩ := List.mem_map.mp hx
    have := h.le kv h1; omega
  simpa using this
section
variable {K : PySem.W.Frag} {σ : L2.St} {H H' : Hp} {ta tb tc te tl tx t1 t2 td : TE} {R R' : PyData → Prop} {v x : V} {D : Ends} {tu tw : TS}
/-- for a, b in d.items() -/
theorem sd_forItems {a b : Nat} (dd : Addr) (l : List (Nat × Nat)) (hd : H dd = some (.dK (l.map encK))) (he : ∀ od, Ev td σ (upd H dd (.frz od (.dK (l.map encK)))) (.ref dd)) (Pv : Obj → Nat → L2.St → Hp → Prop) (h0 : ∀ od H1, Ex (upd H dd (.frz od (.dK (l.map encK)))) H1 → Pv od 0 σ H1) (hf : ∀ od i σ' H', Pv od i σ' H' → H' dd = some (.frz od (.dK (l.map encK))))
    (hs : ∀ od i kv σ' H' T rt bk, l[i]? = some kv → Pv od i σ' H' → H' T = none → tu ⟨Pv od (i + 1), rt, bk, Pv od (i + 1)⟩ ((σ'.set a (some (vN kv.1))).set b (some (vN kv.2))) (upd H' T (.tup [vN kv.1, vN kv.2]))) (hdn : ∀ od σ' H', Pv od l.length σ' H' → D.nx σ' (upd H' dd (.dK (l.map encK)))) :
    tLock (tFor (iItems td) (gTup K 2 (gCons (gName a) (gCons (gName b) gNil))) tu) D σ H := by
  refine ⟨dd, _, hd, trivial, fun od => ?_⟩
  refine he od _ (Ex.refl _) _ fun H1 e1 => ⟨dd, od, _, rfl, e1 dd _ upd_same, ?_⟩
  have w := walk_items (d := dd) (o := od) (kvs := l.map encK)
  rw [List.length_map] at w
  refine for_it w (Pv od) (h0 od H1 e1) (fun i σ' H' _ pv => hf od i σ' H' pv) (fun i x σ' H' H'' hi pv y => ?_) fun σ' H' pv => ⟨hf od _ σ' H' pv, hdn od σ' H' pv⟩
  obtain ⟨T, x1, y1, rfl, hT, rfl, h1, h2⟩ := y
  have hq : l[i]? = some l[i] := List.getElem?_eq_getElem hi
  dsimp only at h1 h2
  rw [List.getElem?_map, hq] at h1 h2
  have h1 : x1 = vN l[i].1 := (Option.some.inj h1).symm
  have h2 : y1 = vN l[i].2 := (Option.some.inj h2).symm
  subst h1 h2
  exact ⟨T, _, rfl, st_of upd_same, rfl, _, _, rfl, _, _, rfl, rfl, hs od i l[i] σ' H' T _ _ hq pv hT⟩
/-- for .. in a new list that is told by a property -/
theorem sd_forLP {α : Type} (enc : α → PyData) (M : List Addr) {g : TG} {S : List α → Prop} (hM : Blank H M) (hno : ∀ a, noL (enc a) = true) (h : EvP K tl σ H (fun r => ∃ l : List α, S l ∧ r = .list (l.map enc))) (Pv : Hp → List α → Nat → L2.St → Hp → Prop) (h0 : ∀ H1 l, Ex H H1 → S l → Pv (delS H1 M) l 0 σ H1) (ht : ∀ B l i σ' H', Pv B l i σ' H' → Ex B H')
    (hs : ∀ H1 l i a x σ' H', Ex H H1 → S l → l[i]? = some a → Pv (delS H1 M) l i σ' H' → Dp K H' x (enc a) → g x σ' H' fun σ2 H2 => tu { D with nx := Pv (delS H1 M) l (i + 1), ct := Pv (delS H1 M) l (i + 1), bk := D.nx } σ2 H2) (hd : ∀ H1 l σ' H', Ex H H1 → S l → Pv (delS H1 M) l l.length σ' H' → D.nx σ' H') :
    tFor (iList K tl) g tu D σ H := h H (Ex.refl H) _ fun v H1 d e r p => by
  obtain ⟨l, hS, rfl⟩ := r
  obtain ⟨a, xs, rfl, hx, hda⟩ := p.lst_v
  have hl : xs.length = l.length := by rw [hda.len, List.length_map]
  refine ⟨a, rfl, ⟨xs, hx⟩, ?_⟩
  by_cases c : xs = []
  · have hl0 : l.length = 0 := by rw [← hl, c]; rfl
    refine for_list (xs := xs) (fun i σ' H' => σ' = σ ∧ H' = H1) ⟨rfl, rfl⟩ (fun i σ' H' _ pv => by rw [pv.2]; exact hx) (fun i x σ' H' hi pv => by rw [c] at hi; simp at hi) (fun σ' H' pv => ?_)
    obtain ⟨rfl, rfl⟩ := pv
    exact hd H' l _ _ e hS (by rw [hl0]; exact h0 H' l e hS)
  · have hq := sq_delS (hM.up e) c hx
    refine for_list (xs := xs) (Pv (delS H1 M) l) (h0 H1 l e hS) (fun i σ' H' _ pv => sqL_up (ht _ l i σ' H' pv) hq) (fun i x σ' H' hi pv => ?_) (fun σ' H' pv => hd H1 l σ' H' e hS (by rw [← hl]; exact pv))
    obtain ⟨b, hb, hb2⟩ := loop_data (hM.up e) hno hda hi
    exact hs H1 l i b x σ' H' e hS hb pv (hb2.up (ht _ l i σ' H' pv))
/-- d.get(k, 0) -/
theorem ev_get0 {dd : Addr} {k m : Nat} {f : Nat → Nat} {l : List (Nat × Nat)} (h : Cnt H dd m f l) (ha : Ev ta σ H (.ref dd)) (hb : Ev tb σ H (vN k)) (hc : Ev tc σ H (.int 0)) : Ev (tDGet2 ta tb tc) σ H (vN (f k)) := fun H1 e Q q => ha H1 e _ fun H2 e2 => ⟨dd, rfl, .inl ⟨_, .inl ((h.up (e.trans e2)).at_)⟩, hb H2 (e.trans e2) _ fun H3 e3 => hc H3 ((e.trans e2).trans e3) _ fun H4 e4 => by
  have e' := ((e.trans e2).trans e3).trans e4
  refine ⟨_, DGet.k (k := .inl (k : Int)) (h.up e').at_, ?_⟩
  rw [valV_getD, h.is]
  exact q H4 ((e2.trans e3).trans e4)⟩
/-- d[k] = number -/
theorem sd_cput {dd : Addr} {k m n : Nat} {f : Nat → Nat} {l : List (Nat × Nat)} (h : Cnt H dd m f l) (hv : Ev te σ H (vN n)) (ha : Ev ta σ H (.ref dd)) (hb : Ev tb σ H (vN k)) (hk : k ≤ m) (hm : m ≤ 40000) (kk : ∀ H1, Ex H H1 → H1 dd = some (.dK (l.map encK)) → Cnt (upd H1 dd (.dK ((putN l k n).map encK))) dd m (fun j => if j = k then n else f j) (putN l k n) → D.nx σ (upd H1 dd (.dK ((putN l k n).map encK)))) :
    sDPut ta tb te D σ H := hv H (Ex.refl H) _ fun H1 e1 => ha H1 e1 _ fun H2 e2 => hb H2 (e1.trans e2) _ fun H3 e3 => by
  have e' := (e1.trans e2).trans e3
  have h' := h.up e'
  have hl := h.len
  refine ⟨dd, _, rfl, DPut.k (k := .inl (k : Int)) h'.at_ (szlt (by rw [List.length_map]; omega)), ?_⟩
  rw [putK_enc]
  exact kk H3 e' h'.at_ ⟨upd_same, put_nodup h.nd, put_le h.le hk, fun j => by rw [val_put, h.is]⟩
/-- [{a: b}] -/
theorem sd_newDisp1 {i : Nat} {a b : Nat} (h1 : ∀ H1, Ev t1 σ H1 (vN a)) (h2 : ∀ H1, Ev t2 σ H1 (vN b)) (k : ∀ p c H1, Ex H H1 → H c = none → H p = none → p ≠ c → H1 p = some (.lst [.ref c]) → H1 c = some (.dK ([(a, b)].map encK)) → D.nx (σ.set i (some (.ref p))) H1) :
    tAsg (tLst (tCons (tDisp [(t1, t2)]) tNil)) (gName i) D σ H := fun c hc => by
  refine h1 _ _ (Ex.refl _) _ fun H2 e2 => h2 _ _ (Ex.refl _) _ fun H3 e3 => ?_
  refine ⟨e3 c _ (e2 c _ upd_same), [(.inl (a : Int), vN b)], rfl, by simp, Evl.sz_of (by simp), fun p hp => ?_⟩
  have hpc : p ≠ c := fun z => by rw [z, upd_same] at hp; cases hp
  have e4 : Ex H H3 := ((ex_new hc).trans e2).trans e3
  have hcu : upd H3 c (.dK (mergeK [] [(.inl (a : Int), vN b)])) p = none := hp
  have hp3 : H3 p = none := by rw [upd_ne hpc] at hcu; exact hcu
  refine k p c _ ((ex_mut e4 hc).trans (ex_new hp)) hc (ex_free e4 hp3) hpc upd_same ?_
  rw [upd_ne (Ne.symm hpc), upd_same]
  rfl
/-- dict(sorted(d.items())) -/
theorem rt_sorted {dd : Addr} {m : Nat} {f : Nat → Nat} {l : List (Nat × Nat)} {rt : V → Hp → Prop} (h : Cnt H dd m f l) (hm : m ≤ 4000) (ha : Ev ta σ H (.ref dd)) (k : ∀ d H1 g, Ex H H1 → DKat H1 d g → (∀ j, 0 < f j → g j = some (vN (f j))) → rt (.ref d) H1) : tCB (rDictP K) (tCons (tSrtItems ta) tNil) σ H rt := ha H (Ex.refl H) _ fun H1 e1 => by
  have h1 := h.up e1
  have hl := h.len
  refine ⟨dd, l, rfl, h1.at_, by omega, fun H2 p l' ps e2 pm hp hpr => ?_⟩
  have hpr2 : Paired (fun (q : Addr) (kv : Key × V) => SqT K H2 q [kV kv.1, kv.2]) ps (l'.map encK) := by
    clear hp pm
    induction hpr with
    | nil => exact .nil
    | cons r t ih => exact .cons (st_of r) ih
  refine ⟨p, ps, l'.map encK, rfl, sq_of hp, hpr2, fun d hd => ?_⟩
  have nd' : (l'.map (·.1)).Nodup := (pm.map (·.1)).nodup_iff.mpr h.nd
  have ndk : ((l'.map encK).map (·.1)).Nodup := by
    rw [List.map_map, show ((fun kv : Key × V => kv.1) ∘ encK) = (fun k : Nat => (.inl (k : Int) : Key)) ∘ (·.1) from rfl, ← List.map_map]
    exact List.Pairwise.map _ (fun a b ne z => ne ((key_eq _ _).mp z)) nd'
  refine k d _ (fun j => (l'.find? fun kv => decide (kv.1 = j)).map fun kv => V.int (kv.2 : Int)) ((e1.trans e2).trans (ex_new hd)) ⟨_, upd_same, ?_, fun j => ?_⟩ fun j hj => ?_
  · have h3 := length_mergeK (l'.map encK) []
    have h4 := pm.length_eq
    simp at h3 ⊢; omega
  · rw [valV_merge _ _ _ ndk, valV_enc]
    dsimp only
    cases l'.find? fun kv => decide (kv.1 = j) <;> rfl
  · rw [← h.is] at hj
    obtain ⟨kv, q1, q2⟩ := val_none hj
    have hmem : kv ∈ l' := pm.mem_iff.mpr (List.mem_of_find?_eq_some q1)
    have hk : kv.1 = j := by simpa using List.find?_some q1
    cases q3 : l'.find? fun kv => decide (kv.1 = j) with
    | none =>
      have := List.find?_eq_none.mp q3 kv hmem
      simp [hk] at this
    | some kv2 =>
      have hm2 := List.mem_of_find?_eq_some q3
      have hk2 : kv2.1 = j := by simpa using List.find?_some q3
      obtain ⟨i1, g1⟩ := List.getElem?_of_mem hmem
      obtain ⟨i2, g2⟩ := List.getElem?_of_mem hm2
      have := nodup_ix nd' (i := i1) (j := i2) (q := j) (by rw [List.getElem?_map, g1]; simp [hk]) (by rw [List.getElem?_map, g2]; simp [hk2])
      subst this
      rw [g1] at g2; cases g2
      show some (V.int (kv.2 : Int)) = some (vN (f j))
      rw [q2, h.is]
end
end W37
/-! by trial: partings counted -/
namespace W37
open PySem PySem.Spec PyProof.Rows L2
open Evl (Ex Ev EvT EvA EvL EvO et_test et_B et_and et_or et_not ev_var ev_c ea_nil ea_cons ev_andV ev_orV ev_notV s_if)
open G37 (Ed nb tie ltE Web RE capS cap2 TO Wv kn ct sumL subm nu cnt)
def sp_counted (K : PySem.W.Frag) : Sp := fun vs H Q _ => ∃ n es L, DpAll K H vs [dWeb n es] ∧ Web n es ∧ n ≤ 10 ∧ TO n es L ∧ ∀ d H' g, Ex H H' → DKat H' d g → g (n - nu es cap2) = some (vN (cnt es cap2)) → Q (.ref d) H'
theorem len_counted (K : PySem.W.Frag) : ∀ vs H Q E, sp_counted K vs H Q E → vs.length = 1 := by
  rintro vs H Q E ⟨n, es, L, h, _⟩
  exact h.len
/-- what is told of X behind some of the masks -/
def hs (es : List Ed) (L : List Nat) (X v : Nat) (fs : List Nat) : Nat → Nat
  | 0 => 0
  | k + 1 => sumL fs fun s => kn es L (2 ^ v + s) * ct es L (X - 2 ^ v - s) k
theorem hs_nil (es : List Ed) (L : List Nat) (X v : Nat) : hs es L X v [] = fun _ => 0 := by
  funext k
  cases k <;> rfl
theorem hs_snoc (es : List Ed) (L : List Nat) (X v : Nat) (fs : List Nat) (s k : Nat) : hs es L X v (fs ++ [s]) (k + 1) = hs es L X v fs (k + 1) + kn es L (2 ^ v + s) * ct es L (X - 2 ^ v - s) k := by
  simp [hs, sumL]
theorem hs_ct {n : Nat} {es : List Ed} {L : List Nat} (t : TO n es L) {X v : Nat} (hX : X < 2 ^ n) (h0 : X ≠ 0) (hv : X.testBit v = true) {found : List Nat} (nd : found.Nodup) (hm : ∀ s, s ∈ found ↔ subm s (X - 2 ^ v)) : hs es L X v found = ct es L X := by
  funext k
  cases k with
  | zero => exact (t.ct_zero h0 hX).symm
  | succ k => exact (t.counted hX hv nd hm k).symm
section
variable {P : Program} {w : World} {K : PySem.W.Frag} {mg : Str → Option Value} {base : Heap}
abbrev s_counted : Stmt := top 59
theorem sc_counted : FnScope ["web", "known", "counts", "bits", "here", "low", "rest", "some", "ways", "many"] ["web"] (defScope s_counted) := ⟨rfl, rfl, rfl, by decide +kernel, rfl, by decide +kernel, by decide +kernel⟩
theorem kp_counted (D : Df K mg "counted" s_counted ["web"]) (B : Bare mg) (h_need_small : Kp P w K mg base "need_small" 5 ["web"] (sp_need_small K)) (h_through : Kp P w K mg base "through" 3 ["web"] (sp_through K)) (h_within : Kp P w K mg base "within" 1 ["bits"] (sp_within K)) : Kp P w K mg base "counted" 6 ["web"] (sp_counted K) := by
  obtain ⟨f_need_small, fd_need_small, F_need_small, g_need_small, k_need_small, b_need_small⟩ := h_need_small
  obtain ⟨f_through, fd_through, F_through, g_through, k_through, b_through⟩ := h_through
  obtain ⟨f_within, fd_within, F_within, g_within, k_within, b_within⟩ := h_within
  refine D.kp sc_counted (len_counted K) (fun f cdv A outer s H vs Q E hr h => ?_)
  refine ⟨_, (pss_cons (ps_expr (pe_call F_need_small (hr.mono (by decide)) (by rfl) g_need_small k_need_small b_need_small .nil pass0 (pa_cons (pv 0) pa_nil)))
  (pss_cons (ps_set (i := 1) sc_counted.nd (by rfl) (by first | exact Or.inl rfl | exact Or.inr rfl) (pe_call F_through (hr.mono (by decide)) (by rfl) g_through k_through b_through .nil pass0 (pa_cons (pv 0) pa_nil)))
  (pss_cons (ps_set (i := 2) sc_counted.nd (by rfl) (by first | exact Or.inl rfl | exact Or.inr rfl) (pe_lst (pa_cons (pe_disp (pps_cons pe_int pe_int pps_nil) (by rfl) (by rfl) (fun z => by cases z) (by decide)) pa_nil)))
  (pss_cons (ps_for PassesOwn.never rfl (pi_range2 (by rfl) B.range (pa_cons pe_int (pa_cons (pe_op (r := rShl1) op_shl1 pe_int (pe_ix (r := rIx K) ix_seq (pv 0) pe_int (fun _ _ => rfl))) pa_nil))) (pg_name (i := 3) sc_counted.nd (by rfl) (by first | exact Or.inl rfl | exact Or.inr rfl))
  (pss_cons (ps_set (i := 4) sc_counted.nd (by rfl) (by first | exact Or.inl rfl | exact Or.inr rfl) pe_dnewK)
  (pss_cons (ps_set (i := 5) sc_counted.nd (by rfl) (by first | exact Or.inl rfl | exact Or.inr rfl) (pe_op op_and (pv 3) (pe_un un_neg (pv 3))))
  (pss_cons (ps_set (i := 6) sc_counted.nd (by rfl) (by first | exact Or.inl rfl | exact Or.inr rfl) (pe_op op_sub (pv 3) (pv 5)))
  (pss_cons (ps_for PassesOwn.never rfl (pi_list (pe_call F_within (hr.mono (by decide)) (by rfl) g_within k_within b_within .nil pass0 (pa_cons (pv 6) pa_nil))) (pg_name (i := 7) sc_counted.nd (by rfl) (by first | exact Or.inl rfl | exact Or.inr rfl))
  (pss_one (ps_if (pt_cmpR op_gt (pe_dget (hu_of hr) (pv 1) (pe_op op_add (pv 5) (pv 7)) (by intro _ _; rfl)) pe_int (by rfl))
  (pss_one (ps_lock (ps_for PassesOwn.never rfl (pi_items (pe_ix (r := rIx K) ix_seq (pv 2) (pe_op op_sub (pv 6) (pv 7)) (fun _ _ => rfl))) (pg_tupK (K := K) (n := 2) rfl rfl (pgs_cons (pg_name (i := 8) sc_counted.nd (by rfl) (by first | exact Or.inl rfl | exact Or.inr rfl)) (pgs_cons (pg_name (i := 9) sc_counted.nd (by rfl) (by first | exact Or.inl rfl | exact Or.inr rfl)) pgs_nil)))
  (pss_one (ps_dput (hu_of hr) (pv 4) (pe_op op_add (pv 8) pe_int) (pe_op op_add (pe_dget2 (hu_of hr) (pv 4) (pe_op op_add (pv 8) pe_int) pe_int ⟨rfl, rfl, rfl, rfl⟩) (pe_op op_mul (pv 9) (pe_dget (hu_of hr) (pv 1) (pe_op op_add (pv 5) (pv 7)) (by intro _ _; rfl)))) (by rfl))))))
  pss_nil)))
  (pss_one (ps_expr (pe_bm PySem.F.plainAttrs_list PySem.F.slot_list_append PySem.F.type_list_append mt_append (pv 2) (pa_cons (pv 4) pa_nil)))))))))
  (pss_one (ps_ret (pe_callTy (r := rDictP K) (cr_dictP rfl) (by rfl) B.dict (by decide +kernel) (pa_cons (pe_srtItems rfl hr.units (pe_ix (r := rIx K) ix_seq (pv 2) (pe_un un_neg pe_int) (fun _ _ => rfl)) (by rfl) B.sorted) pa_nil)))))))), ?_⟩
  obtain ⟨n, es, L, hd, hw, hn, ht, q⟩ := h
  cases hd with | cons p1 hd =>
  cases hd
  have hpw := pow1024 hn
  have hp0 : 0 < 2 ^ n := Nat.two_pow_pos n
  rename_i t
  have E0 : ∀ {H1 a b c d e f g h i}, Ex H H1 → EvD K (tVar 0) [some t, a, b, c, d, e, f, g, h, i] H1 (dWeb n es) := fun e => ed_var rfl (p1.up e)
  refine sd_drop (ed_call (n, es) (eda_cons (E0 (ex_r _)) eda_nil) ⟨hw, hn⟩) fun H0 e0 => ?_
  dsimp only
  refine sd_through (K := K) (eda_cons (E0 e0) eda_nil) hw hn ht fun kd B km kg e1 hk1 hkm hk2 => ?_
  dsimp only
  have eHB := e0.trans e1
  refine sd_newDisp1 (a := 0) (b := 1) (fun _ => ev_c) (fun _ => ev_c) fun pc c0 H2 e2 hc0 hpc hpc0 hl0 hd0 => ?_
  dsimp only
  have hkdB : ∃ o, B kd = some o := by obtain ⟨kvs, h, _⟩ := hk1; exact ⟨_, h⟩
  refine Evl.s_forR2 (lo := 1) (n := ((2 ^ n : Nat) : Int)) (ea_cons ev_c (ea_cons (ev_shl1 ev_c (ev_many (E0 (eHB.trans e2)) ev_c) (by omega)) ea_nil)) ⟨by decide, by decide, by omega, by omega⟩
    (fun i (σ' : L2.St) H' => ∃ x3 x4 x5 x6 x7 x8 x9 cs, σ' = [some t, some (.ref kd), some (.ref pc), x3, x4, x5, x6, x7, x8, x9] ∧ Ex B H' ∧ H' pc = some (.lst (cs.map V.ref)) ∧ cs.length = i + 1 ∧ (∀ c ∈ cs, B c = none) ∧ ∀ j c, cs[j]? = some c → ∃ l, Cnt H' c j (ct es L j) l)
    (fun H1 e => ⟨none, none, none, none, none, none, none, [c0], rfl, e2.trans e, e pc _ hl0, rfl, by simpa using hc0, fun j c hj => by
      cases j with
      | succ j => simp at hj
      | zero =>
        simp at hj
        subst hj
        refine ⟨[(0, 1)], e _ _ hd0, by simp, by simp, fun k => ?_⟩
        rw [G37.ct_none]
        by_cases ck : k = 0
        · subst ck; rfl
        · have : ¬ 0 = k := fun z => ck z.symm
          simp [val, ck, this]⟩) (fun i σ' H' hi pv => ?_) fun σ' H' pv => ?_
  · obtain ⟨x3, x4, x5, x6, x7, x8, x9, cs, rfl, f1, f2, f3, f4, f5⟩ := pv
    have hX : i + 1 < 2 ^ n := by omega
    have hi1 : ((1 : Int) + (i : Int)) = ((i + 1 : Nat) : Int) := by omega
    rw [hi1]
    obtain ⟨v, hv, hlow⟩ := G37.low_bit (i + 1) (by omega)
    have hle := G37.bit_le hv
    have hv0 : 0 < 2 ^ v := Nat.two_pow_pos v
    refine sd_newK fun ph hph _ => ?_
    dsimp only
    have hphB : B ph = none := ex_free f1 hph
    have e3 : Ex H' (upd H' ph (.dK [])) := ex_new hph
    refine sd_asgV (v := vN (2 ^ v)) (ei_eq (ev_low (a := i + 1) (ev_var (i := 3) rfl) (ev_neg (ev_var (i := 3) rfl)) (by omega)) (by rw [hlow]; omega)) fun H3 e4 => ?_
    dsimp only
    refine sd_asgV (v := vN (i + 1 - 2 ^ v)) (ei_eq (ei_op0 (g := fun i j => i - j) (ev_var (i := 3) rfl) (ev_var (i := 5) rfl)) (by omega)) fun H4 e5 => ?_
    dsimp only
    have e45 := e4.trans e5
    have hphcs : ph ∉ cs := fun m => by
      obtain ⟨j, hj⟩ := List.getElem?_of_mem m
      obtain ⟨l, hl⟩ := f5 j ph hj
      rw [hl.at_] at hph; cases hph
    refine sd_forLP (K := K) dI [ph] (S := fun found : List Nat => found.Nodup ∧ ∀ s, s ∈ found ↔ subm s (i + 1 - 2 ^ v)) (fun a ha => .inr ⟨[], by rw [List.mem_singleton.mp ha]; exact e45 ph _ upd_same⟩) (fun _ => rfl) ((ed_call (i + 1 - 2 ^ v) (eda_cons (ed_int (ev_var (i := 6) rfl)) eda_nil) (by omega)).imp fun dd h => by
        obtain ⟨found, g1, g2, g3⟩ := h
        exact ⟨found, ⟨g1, g2⟩, g3⟩)
      (fun B2 found j σ' H' => ∃ x7 x8 x9 l, σ' = [some t, some (.ref kd), some (.ref pc), some (vN (i + 1)), some (.ref ph), some (vN (2 ^ v)), some (vN (i + 1 - 2 ^ v)), x7, x8, x9] ∧ Ex B2 H' ∧ Cnt H' ph (i + 1) (hs es L (i + 1) v (found.take j)) l)
      (fun H1 found e _ => ⟨x7, x8, x9, [], rfl, delS_ex _ _, e ph _ (e45 ph _ upd_same), by simp, by simp, fun k => by rw [List.take_zero, hs_nil]; rfl⟩) (fun B2 found j σ' H' pv => by obtain ⟨_, _, _, _, _, h, _⟩ := pv; exact h) (fun H5 found j s x σ' H6 e6 hS hj pv hx => ?_) (fun H5 found σ' H6 e6 hS pv => ?_)
    · obtain ⟨y7, y8, y9, l, rfl, g1, g2⟩ := pv
      have hx := hx.int_v
      subst hx
      have eB2 : Ex H' (delS H5 [ph]) := ex_delS ((e3.trans e45).trans e6) fun a ha => by rw [List.mem_singleton.mp ha]; exact hph
      have hB2n : delS H5 [ph] ph = none := delS_none (by simp)
      have eBH := (f1.trans eB2).trans g1
      have hsub : subm s (i + 1 - 2 ^ v) := (hS.2 s).mp (List.mem_of_getElem? hj)
      have hsle := G37.subm_le hsub
      have hkn := hk2 (2 ^ v + s) (by omega) (by omega)
      have hkn1 := G37.kn_le (es := es) (vs := L) (2 ^ v + s)
      have hsn : found.take (j + 1) = found.take j ++ [s] := by rw [List.take_succ, hj]; rfl
      have hadd : ((2 ^ v : Nat) : Int) + (s : Int) = ((2 ^ v + s : Nat) : Int) := by omega
      refine sd_if (et_eq (et_test (eb_op0 (g := fun i j => decide (j < i)) (ev_dget (k := 2 ^ v + s) (ev_var (i := 1) rfl) (ei_eq (ei_op0 (g := fun i j => i + j) (ev_var (i := 5) rfl) (ev_var (i := 7) rfl)) hadd) ((hk1.up eBH).dk (by omega)) hkn) ev_c)) (j := decide (0 < kn es L (2 ^ v + s))) (by rw [Bool.eq_iff_iff]; simp)) (fun c H7 e7 => ?_) fun c H7 e7 => ?_
      · have hix : i + 1 - 2 ^ v - s < cs.length := by omega
        have hdc : cs[i + 1 - 2 ^ v - s]? = some (cs[i + 1 - 2 ^ v - s]'hix) := List.getElem?_eq_getElem hix
        generalize hdd : cs[i + 1 - 2 ^ v - s]'hix = dd at hdc
        obtain ⟨l0, hc0'⟩ := f5 _ _ hdc
        have e67 := (eB2.trans g1).trans e7
        have hc7 := hc0'.up e67
        have hddB : B dd = none := f4 dd (List.mem_of_getElem? hdc)
        have hddph : dd ≠ ph := fun z => hphcs (by rw [← z]; exact List.mem_of_getElem? hdc)
        have hpc7 := e67 pc _ f2
        have hpcdd : pc ≠ dd := fun z => by rw [z, hc7.at_] at hpc7; cases hpc7
        have hpcph : pc ≠ ph := fun z => by rw [z] at f2; rw [f2] at hph; cases hph
        have hsubi : ((i + 1 - 2 ^ v : Nat) : Int) - (s : Int) = ((i + 1 - 2 ^ v - s : Nat) : Int) := by omega
        have g7 := g2.up e7
        refine sd_forItems (K := K) dd l0 hc7.at_ (fun od => ev_ixV (ev_var (i := 2) rfl) (sq_of (by rw [upd_ne hpcdd]; exact hpc7)) (ei_eq (ei_op0 (g := fun i j => i - j) (ev_var (i := 6) rfl) (ev_var (i := 7) rfl)) hsubi) (atI_nat (by rw [List.getElem?_map, hdc]; rfl)))
          (fun od i' σ' H8 => ∃ z8 z9 lh, σ' = [some t, some (.ref kd), some (.ref pc), some (vN (i + 1)), some (.ref ph), some (vN (2 ^ v)), some (vN (i + 1 - 2 ^ v)), some (vN s), z8, z9] ∧ Ex (del (upd H7 dd (.frz od (.dK (l0.map encK)))) ph) H8 ∧ Cnt H8 ph (i + 1) (fun k => hs es L (i + 1) v (found.take j) k + match k with | 0 => 0 | k + 1 => val (l0.take i') k * kn es L (2 ^ v + s)) lh)
          (fun od H1 ee => ⟨y8, y9, l, rfl, del_ex.trans ee, by
            have := g7.at_
            refine ⟨ee ph _ (by rw [upd_ne (Ne.symm hddph)]; exact g7.at_), g7.nd, g7.le, fun k => ?_⟩
            rw [g7.is]
            cases k with
            | zero => rfl
            | succ k => simp [val]⟩) (fun od i' σ' H8 pv => by
            obtain ⟨_, _, _, _, h, _⟩ := pv
            exact h dd _ (by rw [del_ne hddph, upd_same])) (fun od i' kv σ' H8 T rt bk hkv pv hT => ?_) (fun od σ' H8 pv => ?_)
        · obtain ⟨z8, z9, lh, rfl, m1, m2⟩ := pv
          have eT : Ex H8 (upd H8 T (.tup [vN kv.1, vN kv.2])) := ex_new hT
          have eBd : Ex B (del (upd H7 dd (.frz od (.dK (l0.map encK)))) ph) := fun a o ha => by
            rw [del_ne (ne_of_none ha hphB), upd_ne (ne_of_none ha hddB)]
            exact (eBH.trans e7) a o ha
          have hk1' := (hk1.up (eBd.trans (m1.trans eT))).dk (by omega)
          have hkvle := hc0'.le kv (List.mem_of_getElem? hkv)
          refine sd_cput (k := kv.1 + 1) (n := hs es L (i + 1) v (found.take j) (kv.1 + 1) + val (l0.take i') kv.1 * kn es L (2 ^ v + s) + kv.2 * kn es L (2 ^ v + s)) (m2.up eT) (ei_eq (ei_op0 (g := fun i j => i + j) (ev_get0 (k := kv.1 + 1) (m2.up eT) (ev_var (i := 4) rfl) (ei_eq (ei_op0 (g := fun i j => i + j) (ev_var (i := 8) rfl) ev_c) (by omega)) ev_c) (ei_op (C := CMul) (g := fun i j => i * j) (ev_var (i := 9) rfl) (ev_dget (k := 2 ^ v + s) (ev_var (i := 1) rfl) (ei_eq (ei_op0 (g := fun i j => i + j) (ev_var (i := 5) rfl) (ev_var (i := 7) rfl)) hadd) hk1' hkn) (.inr ⟨by omega, by omega⟩))) (by push_cast; rfl)) (ev_var (i := 4) rfl) (ei_eq (ei_op0 (g := fun i j => i + j) (ev_var (i := 8) rfl) ev_c) (by omega)) (by omega) (by omega) fun H9 m3 m4 m5 => ?_
          refine ⟨_, _, _, rfl, ex_mut ((m1.trans eT).trans m3) del_same, m5.at_, m5.nd, m5.le, fun k => ?_⟩
          rw [m5.is]
          cases k with
          | zero => rfl
          | succ k =>
            dsimp only
            rw [val_take hc0'.nd hkv k]
            by_cases ck : k = kv.1
            · subst ck
              simp only [if_true]
              rw [Nat.add_mul, Nat.add_assoc]
            · have ck2 : ¬ kv.1 = k := fun z => ck z.symm
              rw [if_neg (by omega), if_neg ck2]
              rfl
        · obtain ⟨z8, z9, lh, rfl, m1, m2⟩ := pv
          have hph8 := m2.at_
          have hfr : H8 dd = some (.frz od (.dK (l0.map encK))) := m1 dd _ (by rw [del_ne hddph, upd_same])
          refine ⟨_, _, _, lh, rfl, fun a o ha => ?_, by rw [upd_ne (Ne.symm hddph)]; exact hph8, m2.nd, m2.le, fun k => ?_⟩
          · by_cases cad : a = dd
            · subst cad
              rw [upd_same]
              have := (g1.trans e7) _ _ ha
              rw [hc7.at_] at this
              exact this
            · rw [upd_ne cad]
              refine m1 a o ?_
              rw [del_ne (ne_of_none ha hB2n), upd_ne cad]
              exact (g1.trans e7) a o ha
          · rw [m2.is, hsn]
            cases k with
            | zero => rfl
            | succ k =>
              rw [hs_snoc]
              dsimp only
              rw [List.take_length, hc0'.is, Nat.mul_comm]
      · have hk0 : kn es L (2 ^ v + s) = 0 := by
          have := of_decide_eq_false c
          omega
        refine ⟨_, _, _, l, rfl, g1.trans e7, (g2.up e7).at_, g2.nd, g2.le, fun k => ?_⟩
        rw [g2.is, hsn]
        cases k with
        | zero => rfl
        | succ k => rw [hs_snoc, hk0, Nat.zero_mul]; rfl
    · obtain ⟨y7, y8, y9, l, rfl, g1, g2⟩ := pv
      rw [List.take_length, hs_ct ht hX (by omega) hv hS.1 hS.2] at g2
      have eB2 : Ex H' (delS H5 [ph]) := ex_delS ((e3.trans e45).trans e6) fun a ha => by rw [List.mem_singleton.mp ha]; exact hph
      have eH := eB2.trans g1
      have hpc6 := eH pc _ f2
      dsimp only
      refine Evl.s_app (K := K) hpc6 (ev_var (i := 2) rfl) (ev_var (i := 4) rfl) (by rw [List.length_map]; omega) fun H7 e7 => ?_
      dsimp only
      have hpcB : B pc = none := hpc
      have hpcph : pc ≠ ph := fun z => by rw [z] at f2; rw [f2] at hph; cases hph
      refine ⟨_, _, _, _, _, _, _, cs ++ [ph], rfl, ex_mut ((f1.trans eH).trans e7) hpcB, by rw [upd_same]; simp, by simp [f3], fun c hc => ?_, fun j c hj => ?_⟩
      · rcases List.mem_append.mp hc with z | z
        · exact f4 c z
        · rw [List.mem_singleton.mp z]; exact hphB
      · have keep : ∀ (c : Addr) (j : Nat) (l : List (Nat × Nat)), Cnt H7 c j (ct es L j) l → Cnt (upd H7 pc (.lst (cs.map V.ref ++ [.ref ph]))) c j (ct es L j) l := fun c j l h => by
          refine ⟨?_, h.nd, h.le, h.is⟩
          rw [upd_ne fun z => ?_]
          · exact h.at_
          · have h1 := h.at_
            rw [z, e7 pc _ hpc6] at h1
            cases h1
        rw [List.getElem?_append] at hj
        split at hj
        · obtain ⟨l', hl'⟩ := f5 j c hj
          exact ⟨l', keep c j l' (hl'.up (eH.trans e7))⟩
        · have hm := List.mem_of_getElem? hj
          have hc := List.mem_singleton.mp hm
          have hj0 : j - cs.length = 0 := by
            obtain ⟨h1, _⟩ := List.getElem?_eq_some_iff.mp hj
            simp at h1; omega
          have hji : j = i + 1 := by omega
          subst hc hji
          exact ⟨l, keep _ _ l (g2.up e7)⟩
  · obtain ⟨x3, x4, x5, x6, x7, x8, x9, cs, rfl, f1, f2, f3, f4, f5⟩ := pv
    have hlen : cs.length = 2 ^ n := by omega
    have hix : 2 ^ n - 1 < cs.length := by omega
    have hdc : cs[2 ^ n - 1]? = some (cs[2 ^ n - 1]'hix) := List.getElem?_eq_getElem hix
    obtain ⟨l, hl⟩ := f5 _ _ hdc
    dsimp only
    have hlast : atI (cs.map V.ref) (-1) = some (V.ref (cs[2 ^ n - 1]'hix)) := by
      unfold atI ixN
      rw [if_neg (by omega), if_pos (by rw [List.length_map]; omega)]
      have : ((-1 : Int) + ((cs.map V.ref).length : Nat)).toNat = 2 ^ n - 1 := by rw [List.length_map]; omega
      rw [this]
      show (cs.map V.ref)[2 ^ n - 1]? = _
      rw [List.getElem?_map, hdc]; rfl
    show tCB (rDictP K) (tCons (tSrtItems _) tNil) _ _ _
    refine rt_sorted (K := K) hl (by omega) (ev_ixV (ev_var (i := 2) rfl) (sq_of f2) (ev_neg ev_c) hlast) fun d H9 g e9 hdk hg => ?_
    refine q d H9 g (((eHB).trans f1).trans e9) hdk ?_
    have hfull := ht.full
    have hpos := G37.cnt_pos es cap2
    have := hg (n - nu es cap2) (by rw [hfull]; exact hpos)
    rw [hfull] at this
    exact this
end
end W37
/-! an object that keeps what it has found out -/
namespace W37
open PySem PySem.Spec PyProof.Rows L2
open Evl (Ex Ev EvT EvA EvL)
open G37 (Ed Web nb fewX ledX sz)
abbrev encF (kv : Nat × Int) : Key × V := ((.inl (kv.1 : Int) : Key), V.int kv.2)
abbrev encL (kv : (Nat × Nat) × Int) : List Key × V := ([.inl (kv.1.1 : Int), .inl (kv.1.2 : Int)], V.int kv.2)
theorem valV_F (l : List (Nat × Int)) (k : Nat) : valV (l.map encF) (.inl (k : Int)) = (l.find? fun kv => decide (kv.1 = k)).map fun kv => V.int kv.2 := by
  induction l with
  | nil => rfl
  | cons x l ih =>
    rw [List.map_cons, List.find?_cons]
    by_cases c : x.1 = k
    · rw [valV_pos (by simp [encF, c])]
      simp [encF, c]
    · rw [valV_neg (by intro z; exact c ((key_eq _ _).mp z)), ih]
      simp [c]
theorem keyL_eq (a b c d : Nat) : (([.inl (a : Int), .inl (b : Int)] : List Key) = [.inl (c : Int), .inl (d : Int)]) ↔ (a, b) = (c, d) := by
  constructor
  · intro h
    simp only [List.cons.injEq, and_true] at h
    rw [(key_eq _ _).mp h.1, (key_eq _ _).mp h.2]
  · intro h
    simp only [Prod.mk.injEq] at h
    rw [h.1, h.2]
theorem valV_L (l : List ((Nat × Nat) × Int)) (k : Nat × Nat) : valV (l.map encL) [.inl (k.1 : Int), .inl (k.2 : Int)] = (l.find? fun kv => decide (kv.1 = k)).map fun kv => V.int kv.2 := by
  induction l with
  | nil => rfl
  | cons x l ih =>
    rw [List.map_cons, List.find?_cons]
    by_cases c : x.1 = k
    · rw [valV_pos (by simp [encL, c])]
      simp [encL, c]
    · rw [valV_neg (by intro z; exact c ((keyL_eq _ _ _ _).mp z)), ih]
      simp [c]
/-- what the two dicts tell is so -/
structure Memo (n : Nat) (es : List Ed) (H : Hp) (df dl : Addr) : Prop where
  few : ∃ l : List (Nat × Int), H df = some (.dK (l.map encF)) ∧ (l.map (·.1)).Nodup ∧ (0, 0) ∈ l ∧ ∀ kv ∈ l, kv.1 < 2 ^ n ∧ kv.2 = fewX n es kv.1
  led : ∃ l : List ((Nat × Nat) × Int), H dl = some (.dT (l.map encL)) ∧ (l.map (·.1)).Nodup ∧ ∀ kv ∈ l, kv.1.1 < 2 ^ n ∧ kv.1.2 < n ∧ kv.2 = ledX n es kv.1.1 kv.1.2
theorem Memo.up {n : Nat} {es : List Ed} {H H' : Hp} {df dl : Addr} (m : Memo n es H df dl) (e : Ex H H') : Memo n es H' df dl := by
  obtain ⟨⟨l, h⟩, l2, h2⟩ := m
  exact ⟨⟨l, e _ _ h.1, h.2⟩, l2, e _ _ h2.1, h2.2⟩
theorem Memo.other {n : Nat} {es : List Ed} {H : Hp} {df dl a : Addr} {o : HO} (m : Memo n es H df dl) (h1 : a ≠ df) (h2 : a ≠ dl) : Memo n es (upd H a o) df dl := by
  obtain ⟨⟨l, h⟩, l2, h'⟩ := m
  exact ⟨⟨l, by rw [upd_ne (Ne.symm h1)]; exact h.1, h.2⟩, l2, by rw [upd_ne (Ne.symm h2)]; exact h'.1, h'.2⟩
theorem few_len {n : Nat} {l : List (Nat × Int)} (hn : n ≤ 10) (nd : (l.map (·.1)).Nodup) (h : ∀ kv ∈ l, kv.1 < 2 ^ n) : l.length ≤ 1024 := by
  have h1 := nodup_lt_len' (l := l.map (·.1)) (n := 2 ^ n) nd fun x hx => by
    obtain ⟨kv, h1, rfl⟩ := List.mem_map.mp hx
    exact h kv h1
  have h2 : 2 ^ n ≤ 1024 := Nat.pow_le_pow_right (n := 2) (by decide) hn
  simp at h1; omega
theorem led_len {n : Nat} {l : List ((Nat × Nat) × Int)} (hn : n ≤ 10) (nd : (l.map (·.1)).Nodup) (h : ∀ kv ∈ l, kv.1.1 < 2 ^ n ∧ kv.1.2 < n) : l.length ≤ 11000 := by
  have h2 : 2 ^ n ≤ 1024 := Nat.pow_le_pow_right (n := 2) (by decide) hn
  have h3 : ((l.map (·.1)).map fun k : Nat × Nat => k.1 * 10 + k.2).Nodup := by
    refine List.pairwise_map.mpr (List.Pairwise.imp_of_mem (fun {a b} ha hb ne z => ne ?_) nd)
    obtain ⟨x, hx, rfl⟩ := List.mem_map.mp ha
    obtain ⟨y, hy, rfl⟩ := List.mem_map.mp hb
    have h4 := h x hx
    have h5 := h y hy
    have : x.1.1 = y.1.1 ∧ x.1.2 = y.1.2 := by omega
    exact Prod.ext this.1 this.2
  have h1 := nodup_lt_len' (n := 10240 + 10) h3 fun x hx => by
    obtain ⟨k, hk, rfl⟩ := List.mem_map.mp hx
    obtain ⟨kv, h6, rfl⟩ := List.mem_map.mp hk
    have := h kv h6
    omega
  simp at h1; omega
structure TrialAt (K : PySem.W.Frag) (C : Addr) (n : Nat) (es : List Ed) (B : Hp) (p df dl : Addr) (v : V) : Prop where
  ob : ∃ dx fs, B p = some (.ins C dx fs) ∧ fs.lookup ("many" : Str) = some (vN n) ∧ fs.lookup ("beside" : Str) = some v ∧ fs.lookup ("few" : Str) = some (.ref df) ∧ fs.lookup ("led" : Str) = some (.ref dl) ∧ fs.lookup ("places_in" : Str) = none ∧ fs.lookup ("least_for" : Str) = none ∧ fs.lookup ("led_on" : Str) = none
  bs : Dp K B v (dBes ((List.range n).map (nb n es)))
  nf : B df = none
  nl : B dl = none
  ne : df ≠ dl
theorem TrialAt.up {K : PySem.W.Frag} {C : Addr} {n : Nat} {es : List Ed} {B B' : Hp} {p df dl : Addr} {v : V} (t : TrialAt K C n es B p df dl v) (e : Ex B B') (h1 : B' df = none) (h2 : B' dl = none) : TrialAt K C n es B' p df dl v := by
  obtain ⟨dx, fs, h, r⟩ := t.ob
  exact ⟨⟨dx, fs, e _ _ h, r⟩, t.bs.up e, h1, h2, t.ne⟩
/-- dicts alone are left out -/
theorem sq_delD {K : PySem.W.Frag} {H : Hp} {M : List Addr} (hM : ∀ l ∈ M, (∃ kvs, H l = some (.dK kvs)) ∨ ∃ kvs, H l = some (.dT kvs)) : Lx K H (delS H M) := by
  refine ⟨fun a xs h => ?_, fun a xs h => ?_⟩
  · rcases h with (h | ⟨o, h⟩) | h
    · refine .inl (.inl ?_)
      rw [delS_ne fun m => ?_]
      · exact h
      · rcases hM a m with ⟨kvs, q⟩ | ⟨kvs, q⟩ <;> rw [h] at q <;> cases q
    · refine .inl (.inr ⟨o, ?_⟩)
      rw [delS_ne fun m => ?_]
      · exact h
      · rcases hM a m with ⟨kvs, q⟩ | ⟨kvs, q⟩ <;> rw [h] at q <;> cases q
    · exact .inr h
  · rcases h with (h | ⟨o, h⟩) | h
    · refine .inl (.inl ?_)
      rw [delS_ne fun m => ?_]
      · exact h
      · rcases hM a m with ⟨kvs, q⟩ | ⟨kvs, q⟩ <;> rw [h] at q <;> cases q
    · refine .inl (.inr ⟨o, ?_⟩)
      rw [delS_ne fun m => ?_]
      · exact h
      · rcases hM a m with ⟨kvs, q⟩ | ⟨kvs, q⟩ <;> rw [h] at q <;> cases q
    · exact .inr h
theorem lx_updI {K : PySem.W.Frag} {H : Hp} {l C dx : Addr} {fs : List (Str × V)} {o : HO} (h : H l = some (.ins C dx fs)) : Lx K H (upd H l o) := by
  refine ⟨fun a xs q => ?_, fun a xs q => ?_⟩ <;>
  · rcases q with (q | ⟨o', q⟩) | q
    · exact .inl (.inl (by rw [upd_ne (ne_of q h (by intro z; cases z))]; exact q))
    · exact .inl (.inr ⟨o', by rw [upd_ne (ne_of q h (by intro z; cases z))]; exact q⟩)
    · exact .inr q
structure TTxt (K : PySem.W.Frag) (mg : Str → Option Value) (C : Addr) : Prop where
  cl : Cls K C
  nM : NoAttr K C "many"
  nB : NoAttr K C "beside"
  nF : NoAttr K C "few"
  nL : NoAttr K C "led"
  mgC : mg "Trial" = some (.ref C)
section
variable {K : PySem.W.Frag} {σ : L2.St} {H H' : Hp} {ta tb tc te tl tx t1 t2 td : TE} {v x : V} {D : Ends} {C p dx : Addr} {fs : List (Str × V)} {f m : Str}
/-- self.f -/
theorem ev_fld {i : Nat} (h : σ[i]? = some (some (.ref p))) (hp : H p = some (.ins C dx fs)) (c : Cls K C) (n : NoAttr K C f) (l : fs.lookup f = some v) : Ev (tFld K (tVar i) f) σ H v := fun H1 e Q q => ⟨_, h, p, C, dx, fs, v, rfl, e p _ hp, c, n, l, q H1 (Ex.refl _)⟩
/-- self.m(..) -/
theorem tm_self {i : Nat} {sp : Sp} {E : XK} {t : TA} {vs : List V} {Q : VK} (h : σ[i]? = some (some (.ref p))) (hp : H p = some (.ins C dx fs)) (l : fs.lookup m = none) (ha : EvA t σ H vs) (hs : ∀ H1, Ex H H1 → sp (.ref p :: vs) H1 Q E) : tMeth C m sp [] E (tVar i) t σ H Q := ⟨_, h, p, dx, fs, rfl, hp, l, ha H (Ex.refl _) _ fun H1 e => by rw [List.append_nil]; exact hs H1 e⟩
theorem eb_dkn {d : Addr} {kvs : List (Key × V)} {k : Nat} (hb : Ev tb σ H (vN k)) (ha : Ev ta σ H (.ref d)) (h : H d = some (.dK kvs)) : Ev (tDNotIn tb ta) σ H (.bl (!(valV kvs (.inl (k : Int))).isSome)) := fun H1 e Q q => hb H1 e _ fun H2 e2 => ha H2 (e.trans e2) _ fun H3 e3 =>
  ⟨d, _, rfl, DGet.k (k := .inl (k : Int)) (((e.trans e2).trans e3) d _ h), q H3 (e2.trans e3)⟩
theorem ev_dkg {d : Addr} {kvs : List (Key × V)} {k : Nat} (ha : Ev ta σ H (.ref d)) (hb : Ev tb σ H (vN k)) (h : H d = some (.dK kvs)) (hv : valV kvs (.inl (k : Int)) = some v) : Ev (tDGet ta tb) σ H v := fun H1 e Q q => ha H1 e _ fun H2 e2 => hb H2 (e.trans e2) _ fun H3 e3 =>
  ⟨d, v, rfl, hv ▸ DGet.k (k := .inl (k : Int)) (((e.trans e2).trans e3) d _ h), q H3 (e2.trans e3)⟩
theorem eb_dtn {d b : Addr} {kvs : List (List Key × V)} {X e' : Nat} (hb : Ev tb σ H (.ref b)) (ha : Ev ta σ H (.ref d)) (h : H d = some (.dT kvs)) (hk : H b = some (.tup [vN X, vN e'])) : Ev (tDNotIn tb ta) σ H (.bl (!(valV kvs [.inl (X : Int), .inl (e' : Int)]).isSome)) := fun H1 e Q q => hb H1 e _ fun H2 e2 => ha H2 (e.trans e2) _ fun H3 e3 =>
  ⟨d, _, rfl, DGet.t (k := [.inl (X : Int), .inl (e' : Int)]) (((e.trans e2).trans e3) d _ h) (((e.trans e2).trans e3) b _ hk), q H3 (e2.trans e3)⟩
theorem ev_dtg {d b : Addr} {kvs : List (List Key × V)} {X e' : Nat} (ha : Ev ta σ H (.ref d)) (hb : Ev tb σ H (.ref b)) (h : H d = some (.dT kvs)) (hk : H b = some (.tup [vN X, vN e'])) (hv : valV kvs [.inl (X : Int), .inl (e' : Int)] = some v) : Ev (tDGet ta tb) σ H v := fun H1 e Q q => ha H1 e _ fun H2 e2 => hb H2 (e.trans e2) _ fun H3 e3 =>
  ⟨d, v, rfl, hv ▸ DGet.t (k := [.inl (X : Int), .inl (e' : Int)]) (((e.trans e2).trans e3) d _ h) (((e.trans e2).trans e3) b _ hk), q H3 (e2.trans e3)⟩
end
section
variable {n : Nat} {es : List Ed} {H : Hp} {df dl : Addr}
/-- known, told -/
theorem Memo.fewAt (m : Memo n es H df dl) {X : Nat} : ∃ kvs, H df = some (.dK kvs) ∧ ∀ v, valV kvs (.inl (X : Int)) = some v → v = .int (fewX n es X) := by
  obtain ⟨l, h1, h2, h3, h4⟩ := m.few
  refine ⟨_, h1, fun v hv => ?_⟩
  rw [valV_F] at hv
  obtain ⟨kv, q, rfl⟩ := Option.map_eq_some_iff.mp hv
  have hk : kv.1 = X := by simpa using List.find?_some q
  rw [(h4 kv (List.mem_of_find?_eq_some q)).2, hk]
theorem Memo.putF (m : Memo n es H df dl) (hn : n ≤ 10) {H' : Hp} (e : H' df = H df) (e2 : H' dl = H dl) (ne : df ≠ dl) {X : Nat} {kvs : List (Key × V)} (hk : H df = some (.dK kvs)) (hX : X < 2 ^ n) (hno : valV kvs (.inl (X : Int)) = none) : kvs.length < sizeLine ∧ Memo n es (upd H' df (.dK (putK kvs (.inl (X : Int)) (.int (fewX n es X))))) df dl ∧ valV (putK kvs (.inl (X : Int)) (.int (fewX n es X))) (.inl (X : Int)) = some (.int (fewX n es X)) := by
  obtain ⟨l, h1, h2, h3, h4⟩ := m.few
  rw [hk] at h1
  cases h1
  have hl := few_len hn h2 fun kv h => (h4 kv h).1
  obtain ⟨l2, g1, g2⟩ := m.led
  refine ⟨szlt (by rw [List.length_map]; omega), ⟨⟨l ++ [(X, fewX n es X)], ?_, ?_, by simp [h3], fun kv hkv => ?_⟩, l2, ?_, g2⟩, ?_⟩
  · rw [upd_same, putK_new _ hno, List.map_append]; rfl
  · rw [List.map_append]
    refine List.nodup_append.mpr ⟨h2, by simp, fun a ha b hb => ?_⟩
    have hb : b = X := by simpa using hb
    intro z
    subst z
    subst hb
    obtain ⟨kv, h5, h6⟩ := List.mem_map.mp ha
    rw [valV_F] at hno
    have := Option.map_eq_none_iff.mp hno
    have := List.find?_eq_none.mp this kv h5
    exact this (by simpa using h6)
  · rcases List.mem_append.mp hkv with q | q
    · exact h4 kv q
    · rw [List.mem_singleton.mp q]; exact ⟨hX, rfl⟩
  · rw [upd_ne (Ne.symm ne), e2]; exact g1
  · rw [valV_put, if_pos rfl]
theorem Memo.ledAt (m : Memo n es H df dl) {X e : Nat} : ∃ kvs, H dl = some (.dT kvs) ∧ ∀ v, valV kvs [.inl (X : Int), .inl (e : Int)] = some v → v = .int (ledX n es X e) := by
  obtain ⟨l, h1, h2, h4⟩ := m.led
  refine ⟨_, h1, fun v hv => ?_⟩
  rw [valV_L l (X, e)] at hv
  obtain ⟨kv, q, rfl⟩ := Option.map_eq_some_iff.mp hv
  have hk : kv.1 = (X, e) := by simpa using List.find?_some q
  rw [(h4 kv (List.mem_of_find?_eq_some q)).2.2, hk]
theorem Memo.putL (m : Memo n es H df dl) (hn : n ≤ 10) {H' : Hp} (e0 : H' df = H df) (ne : df ≠ dl) {X e : Nat} {kvs : List (List Key × V)} (hk : H dl = some (.dT kvs)) (hX : X < 2 ^ n) (he : e < n) (hno : valV kvs [.inl (X : Int), .inl (e : Int)] = none) : kvs.length < sizeLine ∧ Memo n es (upd H' dl (.dT (putK kvs [.inl (X : Int), .inl (e : Int)] (.int (ledX n es X e))))) df dl ∧ valV (putK kvs [.inl (X : Int), .inl (e : Int)] (.int (ledX n es X e))) [.inl (X : Int), .inl (e : Int)] = some (.int (ledX n es X e)) := by
  obtain ⟨l, h1, h2, h4⟩ := m.led
  rw [hk] at h1
  cases h1
  have hl := led_len hn h2 fun kv h => ⟨(h4 kv h).1, (h4 kv h).2.1⟩
  obtain ⟨l2, g1, g2⟩ := m.few
  refine ⟨szlt (by rw [List.length_map]; omega), ⟨⟨l2, ?_, g2⟩, l ++ [((X, e), ledX n es X e)], ?_, ?_, fun kv hkv => ?_⟩, ?_⟩
  · rw [upd_ne ne, e0]; exact g1
  · rw [upd_same, putK_new _ hno, List.map_append]; rfl
  · rw [List.map_append]
    refine List.nodup_append.mpr ⟨h2, by simp, fun a ha b hb => ?_⟩
    have hb : b = (X, e) := by simpa using hb
    intro z
    subst z
    subst hb
    obtain ⟨kv, h5, h6⟩ := List.mem_map.mp ha
    rw [valV_L l (X, e)] at hno
    have := Option.map_eq_none_iff.mp hno
    have := List.find?_eq_none.mp this kv h5
    exact this (by simpa using h6)
  · rcases List.mem_append.mp hkv with q | q
    · exact h4 kv q
    · rw [List.mem_singleton.mp q]; exact ⟨hX, he, rfl⟩
  · rw [valV_put, if_pos rfl]
theorem Memo.dicts (m : Memo n es H df dl) : ∀ l ∈ [df, dl], (∃ kvs, H l = some (.dK kvs)) ∨ ∃ kvs, H l = some (.dT kvs) := fun l hl => by
  obtain ⟨l1, h1, _⟩ := m.few
  obtain ⟨l2, h2, _⟩ := m.led
  rcases List.mem_cons.mp hl with h | h
  · rw [h]; exact .inl ⟨_, h1⟩
  · rw [List.mem_singleton.mp h]; exact .inr ⟨_, h2⟩
end
end W37
/-! by trial: fewest ways -/
namespace W37
open PySem PySem.Spec PyProof.Rows L2
open Evl (Ex Ev EvT EvA EvL EvO et_test et_B et_and et_or et_not ev_var ev_c ea_nil ea_cons ev_andV ev_orV ev_notV s_if)
open G37 (Ed nb tie ltE Web RE capS cap2 fewX ledX sz nu)
section
variable {K : PySem.W.Frag} {σ : L2.St} {H H' : Hp} {ta tb tc te tl tx t1 t2 td : TE} {v x : V} {D : Ends} {tu tw : TS}
theorem tlc_src {g : TG} {tt : TT} {vs : List Nat} {Q : VK} (h : tl σ H fun x H1 => ∃ a, x = .ref a ∧ (∃ xs, SqL K H1 a xs) ∧ ∀ D, H1 D = none → ∃ W : Nat → Nat → Hp → Prop, (∃ m, W 0 m (upd H1 D (.lst []))) ∧ ∀ i m H, W i m H →
  ((Itl K a).stop i H ∧ Q (.ref D) H) ∨ ((Itl K a).go i H ∧ ∃ Nx : Hp → Prop, (∀ H', Nx H' → ∃ m', m' < m ∧ W (i + 1) m' H') ∧ ∀ x H', (Itl K a).yld i H x H' → g x (wipe σ vs) H' fun σ2 H2 => wipe σ2 vs = wipe σ vs ∧ tt σ2 H2 fun b H3 =>
    if b = true then te σ2 H3 fun y H4 => ∃ acc, H4 D = some (.lst acc) ∧ acc.length < sizeLine ∧ Nx (upd H4 D (.lst (acc ++ [y]))) else Nx H3)) : tLc (iList K tl) g tt te vs σ H Q := h
theorem sd_dkput {d : Addr} {kvs : List (Key × V)} {k : Nat} (hv : Ev te σ H v) (hd : H d = some (.dK kvs)) (ha : Ev ta σ H (.ref d)) (hb : Ev tb σ H (vN k)) (hl : kvs.length < sizeLine) (kk : ∀ H1, Ex H H1 → D.nx σ (upd H1 d (.dK (putK kvs (.inl (k : Int)) v)))) : sDPut ta tb te D σ H := hv H (Ex.refl H) _ fun H1 e1 => ha H1 e1 _ fun H2 e2 => hb H2 (e1.trans e2) _ fun H3 e3 =>
  ⟨d, _, rfl, DPut.k (k := .inl (k : Int)) (((e1.trans e2).trans e3) d _ hd) hl, kk H3 ((e1.trans e2).trans e3)⟩
theorem sd_dtkput {d b : Addr} {kvs : List (List Key × V)} {X e : Nat} (hv : Ev te σ H v) (hd : H d = some (.dT kvs)) (ha : Ev ta σ H (.ref d)) (hb : Ev tb σ H (.ref b)) (hk : H b = some (.tup [vN X, vN e])) (hl : kvs.length < sizeLine) (kk : ∀ H1, Ex H H1 → D.nx σ (upd H1 d (.dT (putK kvs [.inl (X : Int), .inl (e : Int)] v)))) : sDPut ta tb te D σ H := hv H (Ex.refl H) _ fun H1 e1 => ha H1 e1 _ fun H2 e2 => hb H2 (e1.trans e2) _ fun H3 e3 =>
  ⟨d, _, rfl, DPut.t (k := [.inl (X : Int), .inl (e : Int)]) (((e1.trans e2).trans e3) d _ hd) (((e1.trans e2).trans e3) b _ hk) hl, kk H3 ((e1.trans e2).trans e3)⟩
/-- for .. in a list, while dicts change -/
theorem sd_forLD {α : Type} (l : List α) (enc : α → PyData) (M : List Addr) {g : TG} (hM : ∀ a ∈ M, (∃ kvs, H a = some (.dK kvs)) ∨ ∃ kvs, H a = some (.dT kvs)) (h : EvD K tl σ H (.list (l.map enc))) (Pv : Hp → Nat → L2.St → Hp → Prop) (h0 : ∀ H1, Ex H H1 → Pv (delS H1 M) 0 σ H1) (ht : ∀ B i σ' H', Pv B i σ' H' → Ex B H')
    (hs : ∀ H1 i a x σ' H', Ex H H1 → l[i]? = some a → Pv (delS H1 M) i σ' H' → Dp K H' x (enc a) → g x σ' H' fun σ2 H2 => tu { D with nx := Pv (delS H1 M) (i + 1), ct := Pv (delS H1 M) (i + 1), bk := D.nx } σ2 H2) (hd : ∀ H1 σ' H', Ex H H1 → Pv (delS H1 M) l.length σ' H' → D.nx σ' H') :
    tFor (iList K tl) g tu D σ H := h H (Ex.refl H) _ fun v H1 d e r p => by
  subst r
  obtain ⟨a, xs, rfl, hx, hda⟩ := p.lst_v
  have hl : xs.length = l.length := by rw [hda.len, List.length_map]
  have lx : Lx K H1 (delS H1 M) := sq_delD fun a ha => by
    rcases hM a ha with ⟨kvs, h⟩ | ⟨kvs, h⟩
    · exact .inl ⟨kvs, e a _ h⟩
    · exact .inr ⟨kvs, e a _ h⟩
  refine ⟨a, rfl, ⟨xs, hx⟩, ?_⟩
  refine for_list (xs := xs) (Pv (delS H1 M)) (h0 H1 e) (fun i σ' H' _ pv => sqL_up (ht _ i σ' H' pv) (lx.2 _ _ hx)) (fun i x σ' H' hi pv => ?_) (fun σ' H' pv => hd H1 σ' H' e (by rw [← hl]; exact pv))
  obtain ⟨d', hd1, hd2⟩ := hda.get hi
  rw [List.getElem?_map] at hd1
  obtain ⟨b, hb, rfl⟩ := Option.map_eq_some_iff.mp hd1
  exact hs H1 i b x σ' H' e hb pv ((dp_lx lx hd2).up (ht _ i σ' H' pv))
end
theorem Memo.zero {n : Nat} {es : List Ed} {H : Hp} {df dl : Addr} (m : Memo n es H df dl) {kvs : List (Key × V)} (hk : H df = some (.dK kvs)) : valV kvs (.inl ((0 : Nat) : Int)) ≠ none := fun z => by
  obtain ⟨l, h1, h2, h3, h4⟩ := m.few
  rw [hk] at h1
  cases h1
  rw [valV_F] at z
  have := List.find?_eq_none.mp (Option.map_eq_none_iff.mp z) _ h3
  simp at this
abbrev s_trial : Stmt := top 54
abbrev s_init : Stmt := inClass s_trial 0
abbrev s_places_in : Stmt := inClass s_trial 1
abbrev s_least_for : Stmt := inClass s_trial 2
abbrev s_led_on : Stmt := inClass s_trial 3
def sp_places_in (K : PySem.W.Frag) (C : Addr) : Sp := fun vs H Q _ => ∃ p dx fs n X, vs = [.ref p, vN X] ∧ H p = some (.ins C dx fs) ∧ fs.lookup ("many" : Str) = some (vN n) ∧ n ≤ 10 ∧ ∀ v H', Ex H H' → Dp K H' v (dL ((List.range n).filter X.testBit)) → Q v H'
def sp_least_for (K : PySem.W.Frag) (C : Addr) (r : Nat) : Sp := fun vs H Q _ => ∃ n es B p df dl v X, vs = [.ref p, vN X] ∧ Web n es ∧ n ≤ 10 ∧ TrialAt K C n es B p df dl v ∧ Ex B H ∧ Memo n es H df dl ∧ X < 2 ^ n ∧ 2 * sz n X < r ∧ ∀ H', Ex B H' → Memo n es H' df dl → Q (.int (fewX n es X)) H'
def sp_led_on (K : PySem.W.Frag) (C : Addr) (r : Nat) : Sp := fun vs H Q _ => ∃ n es B p df dl v X e, vs = [.ref p, vN X, vN e] ∧ Web n es ∧ n ≤ 10 ∧ TrialAt K C n es B p df dl v ∧ Ex B H ∧ Memo n es H df dl ∧ X < 2 ^ n ∧ X.testBit e = false ∧ e < n ∧ 2 * sz n X + 1 < r ∧ ∀ H', Ex B H' → Memo n es H' df dl → Q (.int (ledX n es X e)) H'
theorem sc_init : FnScope ["self", "web"] ["self", "web"] (defScope s_init) := ⟨rfl, rfl, rfl, by decide +kernel, rfl, by decide +kernel, by decide +kernel⟩
theorem sc_places_in : FnScope ["self", "bits", "place"] ["self", "bits"] (defScope s_places_in) := ⟨rfl, rfl, rfl, by decide +kernel, rfl, by decide +kernel, by decide +kernel⟩
theorem sc_least_for : FnScope ["self", "bits", "some", "place"] ["self", "bits"] (defScope s_least_for) := ⟨rfl, rfl, rfl, by decide +kernel, rfl, by decide +kernel, by decide +kernel⟩
theorem sc_led_on : FnScope ["self", "bits", "end", "key", "best", "place"] ["self", "bits", "end"] (defScope s_led_on) := ⟨rfl, rfl, rfl, by decide +kernel, rfl, by decide +kernel, by decide +kernel⟩
theorem len_least {K : PySem.W.Frag} {C : Addr} {r : Nat} : ∀ vs H Q E, sp_least_for K C r vs H Q E → vs.length = 2 := by
  rintro vs H Q E ⟨_, _, _, _, _, _, _, _, rfl, _⟩
  rfl
theorem len_led {K : PySem.W.Frag} {C : Addr} {r : Nat} : ∀ vs H Q E, sp_led_on K C r vs H Q E → vs.length = 3 := by
  rintro vs H Q E ⟨_, _, _, _, _, _, _, _, _, rfl, _⟩
  rfl
section
variable {P : Program} {w : World} {K : PySem.W.Frag} {mg : Str → Option Value} {base : Heap} {C f_places_in f_least_for f_led_on : Addr} {fd_places_in fd_least_for fd_led_on : FuncData}
theorem fn_places (F : Fun K "places_in" "Trial.places_in" s_places_in f_places_in fd_places_in) (B : Bare mg) (T : TTxt K mg C) : FnOk P w K mg base CX0 1 f_places_in fd_places_in ["self", "bits"] (sp_places_in K C) := by
  refine F.ok sc_places_in (fun vs H Q E h => ?_) (fun cdv A outer s H vs Q E hr h => ?_)
  · obtain ⟨_, _, _, _, _, rfl, _⟩ := h; rfl
  · obtain ⟨p, dx, fs, n, X, rfl, hob, l1, hn, q⟩ := h
    refine ⟨_, (pss_one (ps_ret (pe_lc (own := [("place", 2)]) rfl sc_places_in.nd (pi_range1 (by rfl) B.range (pa_cons (pe_fld (pv 0) rfl) pa_nil)) (blkOk_by (N := ["self", "bits", "place"]) (sc := (defScope s_places_in)) (by decide +kernel)) (fun _ _ _ _ _ => (pg_name (i := 2) sc_places_in.nd (by rfl) (by first | exact Or.inl rfl | exact Or.inr rfl))) (fun _ _ _ _ _ => pts_one (pt_cmpR op_eq (pe_op op_and (pe_op op_shr (pv 1) (pv 2)) pe_int) pe_int (by rfl))) (fun _ _ _ _ _ => (pv 2))))), ?_⟩
    refine sd_ret (K := K) ((ed_lcR (n := n) (fun i => X.testBit i) dI good_name (ea_cons (ev_fld rfl hob T.cl T.nM l1) ea_nil) (by simp) (by omega) (by omega) (fun _ => rfl) fun i H1 hi e => ⟨rfl, rfl, et_bit (ev_var (i := 1) rfl) (ev_var (i := 2) rfl) ev_c ev_c, fun _ => ed_int (ev_var (i := 2) rfl)⟩).imp fun d h => h) fun v H1 r e hr hv => ?_
    subst hr
    exact q v H1 e hv
theorem fn_rec (FP : Fun K "places_in" "Trial.places_in" s_places_in f_places_in fd_places_in) (b_places_in : Binds K fd_places_in ["self", "bits"] []) (M_places_in : Meth K C "places_in" f_places_in)
    (FL : Fun K "least_for" "Trial.least_for" s_least_for f_least_for fd_least_for) (b_least_for : Binds K fd_least_for ["self", "bits"] []) (M_least_for : Meth K C "least_for" f_least_for)
    (FE : Fun K "led_on" "Trial.led_on" s_led_on f_led_on fd_led_on) (b_led_on : Binds K fd_led_on ["self", "bits", "end"] []) (M_led_on : Meth K C "led_on" f_led_on) (B : Bare mg) (T : TTxt K mg C) :
    ∀ r, FnOk P w K mg base CX0 (r + 2) f_least_for fd_least_for ["self", "bits"] (sp_least_for K C r) ∧ FnOk P w K mg base CX0 (r + 2) f_led_on fd_led_on ["self", "bits", "end"] (sp_led_on K C r) := by
  have F_places_in : FnOk P w K mg base CX0 1 f_places_in fd_places_in ["self", "bits"] (sp_places_in K C) := fn_places FP B T
  intro r
  induction r with
  | zero =>
    refine ⟨⟨fun vs H Q E h => len_least vs H Q E h, fun A outer s H args us vs Q E _ _ _ _ h => ?_⟩, fun vs H Q E h => len_led vs H Q E h, fun A outer s H args us vs Q E _ _ _ _ h => ?_⟩
    · obtain ⟨_, _, _, _, _, _, _, _, _, _, _, _, _, _, _, h, _⟩ := h
      omega
    · obtain ⟨_, _, _, _, _, _, _, _, _, _, _, _, _, _, _, _, _, _, h, _⟩ := h
      omega
  | succ r ih =>
    obtain ⟨F_least_for, F_led_on⟩ := ih
    refine ⟨FL.ok sc_least_for (fun vs H Q E h => len_least vs H Q E h) (fun cdv A outer s H vs Q E hr h => ?_), FE.ok sc_led_on (fun vs H Q E h => len_led vs H Q E h) (fun cdv A outer s H vs Q E hr h => ?_)⟩
    · obtain ⟨n, es, Bb, p, df, dl, v, X, rfl, hw, hn, ta, eB, mm, hX, hr1, q⟩ := h
      have hf : G37.Fo n es := hw.fo
      refine ⟨_, (pss_cons (ps_if (pt_cmp (pc_dnotin (hu_of hr) (pv 1) (pe_fld (pv 0) rfl)))
  (pss_cons (ps_setLc (i := 2) rfl sc_least_for.nd (by rfl) (by rfl) (by rfl) (pi_list (pe_meth (pv 0) T.cl M_places_in F_places_in (hr.mono (by omega)) b_places_in .nil pass0 (pa_cons (pv 1) pa_nil))) (own := [("place", 3)]) (blkOk_by (N := ["self", "bits", "some", "place"]) (sc := (defScope s_least_for)) (by decide +kernel)) (fun _ _ _ _ _ => (pg_name (i := 3) sc_least_for.nd (by rfl) (by first | exact Or.inl rfl | exact Or.inr rfl))) (fun _ _ _ _ _ => pts_nil) (fun _ _ _ _ _ => (pe_meth (pv 0) T.cl M_led_on F_led_on hr b_led_on .nil pass0 (pa_cons (pe_op op_sub (pv 1) (pe_op (r := rShl1) op_shl1 pe_int (pv 3))) (pa_cons (pv 3) pa_nil)))))
  (pss_one (ps_dput (hu_of hr) (pe_fld (pv 0) rfl) (pv 1) (pe_op op_add pe_int (pe_callB (r := rMin K) (cr_min rfl) (by rfl) B.min (by decide +kernel) (pa_cons (pv 2) pa_nil))) (by rfl))))
  pss_nil)
  (pss_one (ps_ret (pe_dget (hu_of hr) (pe_fld (pv 0) rfl) (pv 1) (by intro _ _; rfl))))), ?_⟩
      obtain ⟨dx, fs, hob, l1, l2, l3, l4, l5, l6, l7⟩ := ta.ob
      have retF : ∀ {x y : Option V} (H1 : Hp), Ex Bb H1 → Memo n es H1 df dl → (∃ kvs, H1 df = some (.dK kvs) ∧ valV kvs (.inl (X : Int)) = some (.int (fewX n es X))) → tRet (tDGet (tFld K (tVar 0) "few") (tVar 1)) { nx := fun _ H' => Q .non H', rt := Q } [some (.ref p), some (vN X), x, y] H1 :=
        fun H1 e m ⟨kvs, h1, h2⟩ => Evl.s_ret (ev_dkg (ev_fld rfl (e _ _ hob) T.cl T.nF l3) (ev_var rfl) h1 h2) fun H2 e2 => q H2 (e.trans e2) (m.up e2)
      obtain ⟨kvs, hk, hkv⟩ := mm.fewAt (X := X)
      refine sd_if (et_tB (eb_dkn (ev_var rfl) (ev_fld rfl (eB _ _ hob) T.cl T.nF l3) hk)) (fun c H1 e1 => ?_) fun c H1 e1 => ?_
      · have hno : valV kvs (.inl (X : Int)) = none := by
          cases hh : valV kvs (.inl (X : Int)) with
          | none => rfl
          | some z => rw [hh] at c; cases c
        have hX0 : 0 < X := Nat.pos_of_ne_zero fun z => by
          rw [z] at hno
          exact mm.zero hk hno
        have m1 := mm.up e1
        refine sd_asgQ (tlc_src (tm_self rfl ((eB.trans e1) _ _ hob) l5 (ea_cons (ev_var rfl) ea_nil) fun H2 e2 => ⟨p, dx, fs, n, X, rfl, ((eB.trans e1).trans e2) _ _ hob, l1, hn, fun v3 H3 e3 hv3 => ?_⟩))
        obtain ⟨a, rfl, ha⟩ := dL_v hv3
        have m3 := (m1.up e2).up e3
        have e13 := (e1.trans e2).trans e3
        have lx := sq_delD (K := K) m3.dicts
        have eBB : Ex Bb (delS H3 [df, dl]) := ex_delS (eB.trans e13) fun l hl => by
          rcases List.mem_cons.mp hl with h | h
          · rw [h]; exact ta.nf
          · rw [List.mem_singleton.mp h]; exact ta.nl
        refine ⟨a, rfl, ⟨_, ha⟩, fun L hL => ?_⟩
        have hLB : delS H3 [df, dl] L = none := ex_free (delS_ex _ _) hL
        obtain ⟨lf, hlf, _⟩ := m3.few
        obtain ⟨ll, hll, _⟩ := m3.led
        have hLf : L ≠ df := fun z => by rw [z, hlf] at hL; cases hL
        have hLl : L ≠ dl := fun z => by rw [z, hll] at hL; cases hL
        refine lc_it (walk_list (K := K) (a := a) (xs := ((List.range n).filter X.testBit).map vN)) (fun i H4 => Ex (delS H3 [df, dl]) H4 ∧ Memo n es H4 df dl ∧ H4 L = some (.lst ((((List.range n).filter X.testBit).take i).map fun u => V.int (ledX n es (X - 2 ^ u) u))))
          ⟨ex_mut (delS_ex _ _) hLB, m3.other hLf hLl, upd_same⟩ (fun i H4 _ pv => sqL_up pv.1 (lx.2 _ _ ha)) (fun i x H4 H5 hi pv y => ?_) fun H4 pv => ?_
        · obtain ⟨rfl, hx⟩ := y
          obtain ⟨g1, g2, g3⟩ := pv
          rw [List.getElem?_map] at hx
          obtain ⟨u, hu, rfl⟩ := Option.map_eq_some_iff.mp hx
          have hmu := List.mem_of_getElem? hu
          obtain ⟨hun, hub⟩ := List.mem_filter.mp hmu
          have hun := List.mem_range.mp hun
          have hle := G37.bit_le hub
          refine ⟨rfl, yes_ (iteT ?_)⟩
          refine tm_self rfl ((eBB.trans g1) _ _ hob) l7 (ea_cons (ei_eq (ei_op0 (g := fun i j => i - j) (ev_var (i := 1) rfl) (ev_shl1 ev_c (ev_var (i := 3) rfl) (by omega))) (j := ((X - 2 ^ u : Nat) : Int)) (by omega)) (ea_cons (ev_var (i := 3) rfl) ea_nil)) fun H6 e6 => ?_
          have g26 := g2.up e6
          have hsz := G37.sz_sub hub hun
          have h2u := Nat.two_pow_pos u
          have hbs := G37.bit_sub hub u
          refine ⟨n, es, delS H6 [df, dl], p, df, dl, v, X - 2 ^ u, u, rfl, hw, hn, ta.up (ex_delS ((eBB.trans g1).trans e6) fun l hl => by
              rcases List.mem_cons.mp hl with h | h
              · rw [h]; exact ta.nf
              · rw [List.mem_singleton.mp h]; exact ta.nl) (delS_none (by simp)) (delS_none (by simp)), delS_ex _ _, g26, by omega, by rw [hbs]; simp, hun, by omega, fun H7 e7 m7 => ?_⟩
          have hL6 := e6 L _ g3
          have hL7 : H7 L = some (.lst ((((List.range n).filter X.testBit).take i).map fun u => V.int (ledX n es (X - 2 ^ u) u))) := e7 L _ (by rw [delS_ne (by simp [hLf, hLl])]; exact hL6)
          refine ⟨_, hL7, szlt (by
            have h1 := List.length_filter_le X.testBit (List.range n)
            rw [List.length_range] at h1
            simp only [List.length_map, List.length_take]; omega), ex_mut (Ex.trans (ex_delS (g1.trans e6) fun l hl => delS_none hl) e7) hLB, m7.other hLf hLl, ?_⟩
          rw [upd_same, List.take_succ, hu]
          simp
        · obtain ⟨g1, g2, g3⟩ := pv
          rw [List.length_map, List.take_length] at g3
          have eB4 := eBB.trans g1
          obtain ⟨kvs4, hk4, hkv4⟩ := g2.fewAt (X := X)
          have evm : Ev (tOp (rI0 fun i j => .int (i + j)) (tC (.int 1)) (tCB (rMin K) (tCons (tVar 2) tNil))) [some (.ref p), some (vN X), some (.ref L), none] H4 (.int (fewX n es X)) := fun H5 e5 Q' q' => by
            refine ⟨_, rfl, L, ((List.range n).filter X.testBit).map fun u => ledX n es (X - 2 ^ u) u, rfl, by rw [List.map_map]; exact sq_of (e5 L _ g3), ?_, fun m hm hle => ⟨1, m, rfl, rfl, ?_⟩⟩
            · rw [List.length_map]
              refine List.length_pos_iff.mpr fun z => ?_
              have hno2 : ∀ u, X.testBit u = false := fun u => by
                cases hb : X.testBit u with
                | false => rfl
                | true =>
                  have : u ∈ (List.range n).filter X.testBit := List.mem_filter.mpr ⟨List.mem_range.mpr (G37.bit_lt hX hb), hb⟩
                  rw [z] at this; cases this
              obtain ⟨u, hu, _⟩ := G37.low_bit X hX0
              rw [hno2 u] at hu; cases hu
            · have := G37.fewX_step hf hX0 hX (m := m) (by
                obtain ⟨u, hu, rfl⟩ := List.mem_map.mp hm
                exact ⟨u, (List.mem_filter.mp hu).2, rfl⟩) fun u hu => hle _ (List.mem_map.mpr ⟨u, List.mem_filter.mpr ⟨List.mem_range.mpr (G37.bit_lt hX hu), hu⟩, rfl⟩)
              show Q' (.int (1 + m)) H5
              rw [this]
              exact q' H5 (ex_r _)
          cases hz : valV kvs4 (.inl (X : Int)) with
          | none =>
            have hp := g2.putF hn (H' := H4) rfl rfl ta.ne hk4 hX hz
            refine sd_dkput evm hk4 (ev_fld rfl (eB4 _ _ hob) T.cl T.nF l3) (ev_var rfl) hp.1 fun H5 e5 => ?_
            have hp5 := (g2.up e5).putF hn (H' := H5) rfl rfl ta.ne (e5 _ _ hk4) hX hz
            exact retF _ (ex_mut (eB4.trans e5) ta.nf) hp5.2.1 ⟨_, upd_same, hp5.2.2⟩
          | some z =>
            have hz2 := hkv4 z hz
            subst hz2
            obtain ⟨lf4, hlf4, hnd4, h04, hall4⟩ := g2.few
            have hln := few_len hn hnd4 fun kv h => (hall4 kv h).1
            rw [hk4] at hlf4
            cases hlf4
            refine sd_dkput evm hk4 (ev_fld rfl (eB4 _ _ hob) T.cl T.nF l3) (ev_var rfl) (szlt (by rw [List.length_map]; omega)) fun H5 e5 => ?_
            have hsame : putK (lf4.map encF) (.inl (X : Int)) (V.int (fewX n es X)) = lf4.map encF := by
              unfold putK
              rw [if_pos (by rw [valV_any, hz]; rfl)]
              have : ∀ kv ∈ lf4.map encF, (if kv.1 = (.inl (X : Int) : Key) then (kv.1, V.int (fewX n es X)) else kv) = kv := fun kv hkv => by
                obtain ⟨kv0, h5, rfl⟩ := List.mem_map.mp hkv
                by_cases cc : kv0.1 = X
                · have h6 := (hall4 kv0 h5).2
                  simp only [encF, key_eq, cc, if_true]
                  rw [h6, cc]
                · simp only [encF, key_eq, cc, if_false]
              conv => rhs; rw [← List.map_id (lf4.map encF)]
              exact List.map_congr_left this
            rw [hsame]
            have hupd : upd H5 df (.dK (lf4.map encF)) = H5 := by
              funext b
              by_cases cb : b = df
              · rw [cb, upd_same, e5 _ _ hk4]
              · rw [upd_ne cb]
            rw [hupd]
            exact retF _ (eB4.trans e5) (g2.up e5) ⟨_, e5 _ _ hk4, hz⟩
      · have hyes : ∃ z, valV kvs (.inl (X : Int)) = some z := by
          cases hh : valV kvs (.inl (X : Int)) with
          | none => rw [hh] at c; cases c
          | some z => exact ⟨z, rfl⟩
        obtain ⟨z, hz⟩ := hyes
        have hz2 := hkv z hz
        subst hz2
        exact retF _ (eB.trans e1) (mm.up e1) ⟨_, e1 _ _ hk, hz⟩
    · obtain ⟨n, es, Bb, p, df, dl, v, X, e0, rfl, hw, hn, ta, eB, mm, hX, he0, hen, hr1, q⟩ := h
      have hf : G37.Fo n es := hw.fo
      refine ⟨_, (pss_cons (ps_set (i := 3) sc_led_on.nd (by rfl) (by first | exact Or.inl rfl | exact Or.inr rfl) (pe_tup (pa_cons (pv 1) (pa_cons (pv 2) pa_nil))))
  (pss_cons (ps_if (pt_cmp (pc_dnotin (hu_of hr) (pv 3) (pe_fld (pv 0) rfl)))
  (pss_cons (ps_set (i := 4) sc_led_on.nd (by rfl) (by first | exact Or.inl rfl | exact Or.inr rfl) (pe_meth (pv 0) T.cl M_least_for F_least_for hr b_least_for .nil pass0 (pa_cons (pv 1) pa_nil)))
  (pss_cons (ps_for PassesOwn.never rfl (pi_list (pe_ix (r := rIx K) ix_seq (pe_fld (pv 0) rfl) (pv 2) (fun _ _ => rfl))) (pg_name (i := 5) sc_led_on.nd (by rfl) (by first | exact Or.inl rfl | exact Or.inr rfl))
  (pss_one (ps_if (pt_cmpR op_eq (pe_op op_and (pe_op op_shr (pv 1) (pv 5)) pe_int) pe_int (by rfl))
  (pss_one (ps_set (i := 4) sc_led_on.nd (by rfl) (by first | exact Or.inl rfl | exact Or.inr rfl) (pe_callB (r := rMin2) (cr_min2 rfl) (by rfl) B.min (by decide +kernel) (pa_cons (pv 4) (pa_cons (pe_meth (pv 0) T.cl M_led_on F_led_on hr b_led_on .nil pass0 (pa_cons (pe_op op_sub (pv 1) (pe_op (r := rShl1) op_shl1 pe_int (pv 5))) (pa_cons (pv 5) pa_nil))) pa_nil)))))
  pss_nil)))
  (pss_one (ps_dput (hu_of hr) (pe_fld (pv 0) rfl) (pv 3) (pv 4) (by rfl)))))
  pss_nil)
  (pss_one (ps_ret (pe_dget (hu_of hr) (pe_fld (pv 0) rfl) (pv 3) (by intro _ _; rfl)))))), ?_⟩
      obtain ⟨dx, fs, hob, l1, l2, l3, l4, l5, l6, l7⟩ := ta.ob
      refine sd_asgQ (ev_key (ev_var (i := 1) rfl) (ev_var (i := 2) rfl) H (ex_r _) _ fun kt H1 e1 hkt => ?_)
      dsimp only
      have retL : ∀ {x y : Option V} (H2 : Hp), Ex Bb H2 → Memo n es H2 df dl → H2 kt = some (.tup [vN X, vN e0]) → (∃ kvs, H2 dl = some (.dT kvs) ∧ valV kvs [.inl (X : Int), .inl (e0 : Int)] = some (.int (ledX n es X e0))) → tRet (tDGet (tFld K (tVar 0) "led") (tVar 3)) { nx := fun _ H' => Q .non H', rt := Q } [some (.ref p), some (vN X), some (vN e0), some (.ref kt), x, y] H2 :=
        fun H2 e m hk ⟨kvs, h1, h2⟩ => Evl.s_ret (ev_dtg (ev_fld rfl (e _ _ hob) T.cl T.nL l4) (ev_var rfl) h1 hk h2) fun H3 e3 => q H3 (e.trans e3) (m.up e3)
      have eB1 := eB.trans e1
      have m1 := mm.up e1
      obtain ⟨kvs, hk, hkv⟩ := m1.ledAt (X := X) (e := e0)
      refine sd_if (et_tB (eb_dtn (ev_var (i := 3) rfl) (ev_fld rfl (eB1 _ _ hob) T.cl T.nL l4) hk hkt)) (fun c H2 e2 => ?_) fun c H2 e2 => ?_
      · have eB2 := eB1.trans e2
        refine sd_asgQ (tm_self rfl (eB2 _ _ hob) l6 (ea_cons (ev_var (i := 1) rfl) ea_nil) fun H3 e3 => ?_)
        have m3 := (m1.up e2).up e3
        have eB3 := eB2.trans e3
        have hkt3 := e3 _ _ (e2 _ _ hkt)
        have nfl : ∀ l ∈ [df, dl], Bb l = none := fun l hl => by
          rcases List.mem_cons.mp hl with h | h
          · rw [h]; exact ta.nf
          · rw [List.mem_singleton.mp h]; exact ta.nl
        have hktn : kt ∉ [df, dl] := fun m => by
          rcases m3.dicts kt m with ⟨kv, h⟩ | ⟨kv, h⟩ <;> rw [hkt3] at h <;> cases h
        refine ⟨n, es, delS H3 [df, dl], p, df, dl, v, X, rfl, hw, hn, ta.up (ex_delS eB3 nfl) (delS_none (by simp)) (delS_none (by simp)), delS_ex _ _, m3, hX, by omega, fun H4 e4 m4 => ?_⟩
        dsimp only
        have eB4 : Ex Bb H4 := (ex_delS eB3 nfl).trans e4
        have hkt4 : H4 kt = some (.tup [vN X, vN e0]) := e4 _ _ (by rw [delS_ne hktn]; exact hkt3)
        refine sd_forLD (K := K) (nb n es e0) dI [df, dl] m4.dicts (ep_ixL (ds := ((List.range n).map (nb n es)).map dL) (ed_ev (ev_fld rfl (eB4 _ _ hob) T.cl T.nB l2) (ta.bs.up eB4)) (ev_var (i := 2) rfl) (besN_at hen))
          (fun B5 i σ' H6 => ∃ x5, σ' = [some (.ref p), some (vN X), some (vN e0), some (.ref kt), some (.int ((((nb n es e0).take i).filter X.testBit).foldl (fun a u => min a (ledX n es (X - 2 ^ u) u)) (fewX n es X))), x5] ∧ Ex B5 H6 ∧ Memo n es H6 df dl)
          (fun H5 e5 => ⟨none, rfl, delS_ex _ _, m4.up e5⟩) (fun B5 i σ' H6 pv => by obtain ⟨_, _, h, _⟩ := pv; exact h) (fun H5 i u x σ' H6 e5 hi pv hx => ?_) (fun H5 σ' H6 e5 pv => ?_)
        · obtain ⟨x5, rfl, g1, g2⟩ := pv
          have hx := hx.int_v
          subst hx
          have hmu := List.mem_of_getElem? hi
          have hun : u < n := (G37.mem_nb.mp hmu).1
          have eB6 : Ex Bb H6 := (ex_delS (eB4.trans e5) nfl).trans g1
          have htk : (nb n es e0).take (i + 1) = (nb n es e0).take i ++ [u] := by rw [List.take_succ, hi]; rfl
          refine sd_if (et_bit (ev_var (i := 1) rfl) (ev_var (i := 5) rfl) ev_c ev_c) (fun c H7 e7 => ?_) fun c H7 e7 => ?_
          · have hle := G37.bit_le c
            have h2u := Nat.two_pow_pos u
            have hsz := G37.sz_sub c hun
            have hbs := G37.bit_sub c u
            refine sd_asgQ ⟨_, rfl, tm_self rfl ((eB6.trans e7) _ _ hob) l7 (ea_cons (ei_eq (ei_op0 (g := fun i j => i - j) (ev_var (i := 1) rfl) (ev_shl1 ev_c (ev_var (i := 5) rfl) (by omega))) (j := ((X - 2 ^ u : Nat) : Int)) (by omega)) (ea_cons (ev_var (i := 5) rfl) ea_nil)) fun H8 e8 => ?_⟩
            have m8 := (g2.up e7).up e8
            have eB8 := (eB6.trans e7).trans e8
            refine ⟨n, es, delS H8 [df, dl], p, df, dl, v, X - 2 ^ u, u, rfl, hw, hn, ta.up (ex_delS eB8 nfl) (delS_none (by simp)) (delS_none (by simp)), delS_ex _ _, m8, by omega, by rw [hbs]; simp, hun, by omega, fun H9 e9 m9 => ?_⟩
            refine ⟨_, _, rfl, ?_⟩
            dsimp only
            refine ⟨some (vN u), ?_, (ex_delS ((g1.trans e7).trans e8) fun l hl => delS_none hl).trans e9, m9⟩
            rw [htk, List.filter_append, List.foldl_append]
            simp only [List.filter_cons, c, if_true, List.filter_nil, List.foldl_cons, List.foldl_nil]
            have hmin : ∀ a b : Int, (if b < a then b else a) = min a b := fun a b => by split <;> omega
            rw [hmin]
            rfl
          · refine ⟨some (vN u), ?_, g1.trans e7, g2.up e7⟩
            rw [htk, List.filter_append]
            simp only [List.filter_cons, c, Bool.false_eq_true, if_false, List.filter_nil, List.append_nil]
            rfl
        · obtain ⟨x5, rfl, g1, g2⟩ := pv
          rw [List.take_length, G37.ledX_step hf hX he0]
          dsimp only
          have eB6 : Ex Bb H6 := (ex_delS (eB4.trans e5) nfl).trans g1
          have hkt6 : H6 kt = some (.tup [vN X, vN e0]) := g1 _ _ (by rw [delS_ne hktn]; exact e5 _ _ hkt4)
          obtain ⟨kvs6, hk6, hkv6⟩ := g2.ledAt (X := X) (e := e0)
          cases hz : valV kvs6 [.inl (X : Int), .inl (e0 : Int)] with
          | none =>
            have hp := g2.putL hn (H' := H6) rfl ta.ne hk6 hX hen hz
            refine sd_dtkput (v := .int (ledX n es X e0)) (ev_var (i := 4) rfl) hk6 (ev_fld rfl (eB6 _ _ hob) T.cl T.nL l4) (ev_var (i := 3) rfl) hkt6 hp.1 fun H7 e7 => ?_
            have hp7 := (g2.up e7).putL hn (H' := H7) rfl ta.ne (e7 _ _ hk6) hX hen hz
            refine retL _ (ex_mut (eB6.trans e7) ta.nl) hp7.2.1 ?_ ⟨_, upd_same, hp7.2.2⟩
            rw [upd_ne (fun z => hktn (by simp [z]))]
            exact e7 _ _ hkt6
          | some z =>
            have hz2 := hkv6 z hz
            subst hz2
            obtain ⟨ll6, hll6, hnd6, hall6⟩ := g2.led
            have hln := led_len hn hnd6 fun kv h => ⟨(hall6 kv h).1, (hall6 kv h).2.1⟩
            rw [hk6] at hll6
            cases hll6
            refine sd_dtkput (v := .int (ledX n es X e0)) (ev_var (i := 4) rfl) hk6 (ev_fld rfl (eB6 _ _ hob) T.cl T.nL l4) (ev_var (i := 3) rfl) hkt6 (szlt (by rw [List.length_map]; omega)) fun H7 e7 => ?_
            have hsame : putK (ll6.map encL) [.inl (X : Int), .inl (e0 : Int)] (V.int (ledX n es X e0)) = ll6.map encL := by
              unfold putK
              rw [if_pos (by rw [valV_any, hz]; rfl)]
              have : ∀ kv ∈ ll6.map encL, (if kv.1 = ([.inl (X : Int), .inl (e0 : Int)] : List Key) then (kv.1, V.int (ledX n es X e0)) else kv) = kv := fun kv hkv => by
                obtain ⟨kv0, h5, rfl⟩ := List.mem_map.mp hkv
                by_cases cc : kv0.1 = (X, e0)
                · have h6 := (hall6 kv0 h5).2.2
                  have c1 : kv0.1.1 = X := by rw [cc]
                  have c2 : kv0.1.2 = e0 := by rw [cc]
                  simp only [encL, c1, c2, if_true]
                  rw [h6, c1, c2]
                · rw [if_neg]
                  intro z
                  exact cc ((keyL_eq _ _ _ _).mp z)
              conv => rhs; rw [← List.map_id (ll6.map encL)]
              exact List.map_congr_left this
            rw [hsame]
            have hupd : upd H7 dl (.dT (ll6.map encL)) = H7 := by
              funext b
              by_cases cb : b = dl
              · rw [cb, upd_same, e7 _ _ hk6]
              · rw [upd_ne cb]
            rw [hupd]
            exact retL _ (eB6.trans e7) (g2.up e7) (e7 _ _ hkt6) ⟨_, e7 _ _ hk6, hz⟩
      · have hyes : ∃ z, valV kvs [.inl (X : Int), .inl (e0 : Int)] = some z := by
          cases hh : valV kvs [.inl (X : Int), .inl (e0 : Int)] with
          | none => rw [hh] at c; cases c
          | some z => exact ⟨z, rfl⟩
        obtain ⟨z, hz⟩ := hyes
        have hz2 := hkv z hz
        subst hz2
        exact retL _ (eB1.trans e2) (m1.up e2) (e2 _ _ hkt) ⟨_, e2 _ _ hk, hz⟩
end
end W37
/-! a Trial is made; fewest -/
namespace W37
open PySem PySem.Spec PyProof.Rows L2
open Evl (Ex Ev EvT EvA EvL EvO et_test et_B et_and et_or et_not ev_var ev_c ea_nil ea_cons ev_andV ev_orV ev_notV s_if)
open G37 (Ed nb tie ltE Web RE capS cap2 fewX ledX sz nu)
section
variable {K : PySem.W.Frag} {σ : L2.St} {H H' : Hp} {ta tb tc te tv : TE} {v x : V} {D : Ends} {R : PyData → Prop} {C p dx : Addr} {fs : List (Str × V)} {f : Str}
theorem sd_fld (hv : EvP K tv σ H R) (ha : Ev ta σ H (.ref p)) (hp : H p = some (.ins C dx fs)) (c : Cls K C) (n : NoAttr K C f) (hl : fs.length < 1000) (k : ∀ v H1 r, Ex H H1 → R r → Dp K H1 v r → H1 p = some (.ins C dx fs) → D.nx σ (upd H1 p (.ins C dx (putF f v fs)))) : sFld K ta tv f D σ H := hv H (Ex.refl H) _ fun v H1 r e1 hr hvv => ha H1 e1 _ fun H2 e2 => ⟨p, C, dx, fs, rfl, (e1.trans e2) _ _ hp, c, n, hl, k v H2 r (e1.trans e2) hr (hvv.up e2) ((e1.trans e2) _ _ hp)⟩
end
def tf (v : V) (n : Nat) (df dl : Addr) : List (Str × V) := putF "led" (.ref dl) (putF "few" (.ref df) (putF "beside" v (putF "many" (vN n) [])))
theorem tf_m (v : V) (n : Nat) (df dl : Addr) : (tf v n df dl).lookup ("many" : Str) = some (vN n) := by
  unfold tf
  rw [lookup_putF, if_neg (by decide +kernel), lookup_putF, if_neg (by decide +kernel), lookup_putF, if_neg (by decide +kernel), lookup_putF, if_pos rfl]
theorem tf_b (v : V) (n : Nat) (df dl : Addr) : (tf v n df dl).lookup ("beside" : Str) = some v := by
  unfold tf
  rw [lookup_putF, if_neg (by decide +kernel), lookup_putF, if_neg (by decide +kernel), lookup_putF, if_pos rfl]
theorem tf_f (v : V) (n : Nat) (df dl : Addr) : (tf v n df dl).lookup ("few" : Str) = some (.ref df) := by
  unfold tf
  rw [lookup_putF, if_neg (by decide +kernel), lookup_putF, if_pos rfl]
theorem tf_l (v : V) (n : Nat) (df dl : Addr) : (tf v n df dl).lookup ("led" : Str) = some (.ref dl) := by
  unfold tf
  rw [lookup_putF, if_pos rfl]
theorem tf_no (v : V) (n : Nat) (df dl : Addr) {m : Str} (h1 : ¬ m = "led") (h2 : ¬ m = "few") (h3 : ¬ m = "beside") (h4 : ¬ m = "many") : (tf v n df dl).lookup m = none := by
  unfold tf
  rw [lookup_putF, if_neg h1, lookup_putF, if_neg h2, lookup_putF, if_neg h3, lookup_putF, if_neg h4]
  rfl
def sp_init (K : PySem.W.Frag) (C : Addr) : Sp := fun vs H Q _ => ∃ p dx n es web, vs = [.ref p, web] ∧ H p = some (.ins C dx []) ∧ Dp K H web (dWeb n es) ∧ Web n es ∧ n ≤ 10 ∧ ∀ H' df dl v B', Ex (delS H [p]) B' → Ex B' H' → TrialAt K C n es B' p df dl v → Memo n es H' df dl → Q .non H'
section
variable {P : Program} {w : World} {K : PySem.W.Frag} {mg : Str → Option Value} {base : Heap} {C f_init : Addr} {fd_init : FuncData}
theorem fn_init (F : Fun K "__init__" "Trial.__init__" s_init f_init fd_init) (h_near : Kp P w K mg base "near" 1 ["web"] (sp_near K)) (T : TTxt K mg C) : FnOk P w K mg base CX0 2 f_init fd_init ["self", "web"] (sp_init K C) := by
  obtain ⟨f_near, fd_near, F_near, g_near, k_near, b_near⟩ := h_near
  refine F.ok sc_init (fun vs H Q E h => ?_) (fun cdv A outer s H vs Q E hr h => ?_)
  · obtain ⟨_, _, _, _, _, rfl, _⟩ := h; rfl
  · obtain ⟨p, dx, n, es, web, rfl, hp, hweb, hw, hn, q⟩ := h
    refine ⟨_, (pss_cons (ps_fld (pv 0) (pe_ix (r := rIx K) ix_seq (pv 1) pe_int (fun _ _ => rfl)) rfl)
  (pss_cons (ps_fld (pv 0) (pe_call F_near (hr.mono (by decide)) (by rfl) g_near k_near b_near .nil pass0 (pa_cons (pv 1) pa_nil)) rfl)
  (pss_cons (ps_fld (pv 0) (pe_disp (pps_cons pe_int pe_int pps_nil) (by rfl) (by rfl) (fun z => by cases z) (by decide)) rfl)
  (pss_one (ps_fld (pv 0) pe_dnewT rfl))))), ?_⟩
    have e0 : Ex (delS H [p]) H := delS_ex _ _
    have hz : delS H [p] p = none := delS_none (by simp)
    refine sd_fld (K := K) (ed_int (ev_many (ed_var rfl hweb) ev_c)) (ev_var (i := 0) rfl) hp T.cl T.nM (by decide) fun v1 H1 r1 e1 hr1 hv1 hp1 => ?_
    subst hr1
    have hv1 := hv1.int_v
    subst hv1
    dsimp only
    have e1' : Ex (delS H [p]) (upd H1 p (.ins C dx (putF "many" (vN n) []))) := ex_mut (e0.trans e1) hz
    have hweb1 : Dp K (upd H1 p (.ins C dx (putF "many" (vN n) []))) web (dWeb n es) := dp_lx (lx_updI hp1) (hweb.up e1)
    refine sd_fld (K := K) (ed_call (n, es) (eda_cons (ed_var (i := 1) rfl hweb1) eda_nil) ⟨by dsimp only; omega, hw.fo⟩) (ev_var (i := 0) rfl) upd_same T.cl T.nB (Nat.lt_of_le_of_lt (length_putF _ _ _) (by decide)) fun v2 H2 r2 e2 hr2 hv2 hp2 => ?_
    subst hr2
    dsimp only
    have e2' : Ex (delS H [p]) (upd H2 p (.ins C dx (putF "beside" v2 (putF "many" (vN n) [])))) := ex_mut (e1'.trans e2) hz
    have hb2 := dp_lx (lx_updI (o := .ins C dx (putF "beside" v2 (putF "many" (vN n) []))) hp2) hv2
    generalize hH3 : upd H2 p (.ins C dx (putF "beside" v2 (putF "many" (vN n) []))) = H3 at e2' hb2 ⊢
    have hp3 : H3 p = some (.ins C dx (putF "beside" v2 (putF "many" (vN n) []))) := by rw [← hH3]; exact upd_same
    have l1 := length_putF "many" (vN n) []
    have l2 := length_putF "beside" v2 (putF "many" (vN n) [])
    simp only [List.length_nil] at l1
    intro df hdf
    refine ⟨upd_same, [(.inl 0, .int 0)], rfl, by simp, ?_⟩
    have hupd : upd (upd H3 df (.dK [])) df (.dK (mergeK [] [(.inl 0, .int 0)])) = upd H3 df (.dK ([((0 : Nat), (0 : Int))].map encF)) := by rw [upd_upd]; rfl
    rw [hupd]
    have hpd : p ≠ df := ne_of_none hp3 hdf
    have e3' : Ex (delS H [p]) (upd H3 df (.dK ([((0 : Nat), (0 : Int))].map encF))) := e2'.trans (ex_new hdf)
    have hb3 := hb2.up (ex_new (o := .dK ([((0 : Nat), (0 : Int))].map encF)) hdf)
    have hp4 : upd H3 df (.dK ([((0 : Nat), (0 : Int))].map encF)) p = some (.ins C dx (putF "beside" v2 (putF "many" (vN n) []))) := by rw [upd_ne hpd]; exact hp3
    refine ⟨_, rfl, p, C, dx, _, rfl, hp4, T.cl, T.nF, by omega, ?_⟩
    dsimp only
    have l3 := length_putF "few" (V.ref df) (putF "beside" v2 (putF "many" (vN n) []))
    have hb4 := dp_lx (lx_updI (o := .ins C dx (putF "few" (.ref df) (putF "beside" v2 (putF "many" (vN n) [])))) hp4) hb3
    have hzdf : delS H [p] df = none := ex_free e2' hdf
    have e4' : Ex (delS H [p]) (upd (upd H3 df (.dK ([((0 : Nat), (0 : Int))].map encF))) p (.ins C dx (putF "few" (.ref df) (putF "beside" v2 (putF "many" (vN n) []))))) := ex_mut e3' hz
    have hdf4 : upd (upd H3 df (.dK ([((0 : Nat), (0 : Int))].map encF))) p (.ins C dx (putF "few" (.ref df) (putF "beside" v2 (putF "many" (vN n) [])))) df = some (.dK ([((0 : Nat), (0 : Int))].map encF)) := by rw [upd_ne (Ne.symm hpd), upd_same]
    generalize hH4 : upd (upd H3 df (.dK ([((0 : Nat), (0 : Int))].map encF))) p (.ins C dx (putF "few" (.ref df) (putF "beside" v2 (putF "many" (vN n) [])))) = H4 at e4' hb4 hdf4 ⊢
    have hp5 : H4 p = some (.ins C dx (putF "few" (.ref df) (putF "beside" v2 (putF "many" (vN n) [])))) := by rw [← hH4]; exact upd_same
    intro dl hdl
    have hpl : p ≠ dl := ne_of_none hp5 hdl
    have hdd : df ≠ dl := ne_of_none hdf4 hdl
    refine ⟨_, rfl, p, C, dx, _, rfl, (by rw [upd_ne hpl]; exact hp5), T.cl, T.nL, by omega, ?_⟩
    have hp6 : upd H4 dl (.dT []) p = some (.ins C dx (putF "few" (.ref df) (putF "beside" v2 (putF "many" (vN n) [])))) := by rw [upd_ne hpl]; exact hp5
    have e5' : Ex (delS H [p]) (upd (upd H4 dl (.dT [])) p (.ins C dx (tf v2 n df dl))) := ex_mut (e4'.trans (ex_new hdl)) hz
    have hb5 := dp_lx (lx_updI (o := .ins C dx (tf v2 n df dl)) hp6) (hb4.up (ex_new (o := .dT []) hdl))
    have hzdl : delS H [p] dl = none := ex_free e4' hdl
    have mm : Memo n es (upd (upd H4 dl (.dT [])) p (.ins C dx (tf v2 n df dl))) df dl := by
      refine ⟨⟨[(0, 0)], by rw [upd_ne (Ne.symm hpd), upd_ne hdd]; exact hdf4, by simp, by simp, fun kv hkv => ?_⟩, [], by rw [upd_ne (Ne.symm hpl), upd_same]; rfl, by simp, by simp⟩
      rw [List.mem_singleton.mp hkv]
      exact ⟨Nat.two_pow_pos n, (G37.fewX_zero n es).symm⟩
    refine q _ df dl v2 (delS (upd (upd H4 dl (.dT [])) p (.ins C dx (tf v2 n df dl))) [df, dl]) (ex_delS e5' fun l hl => ?_) (delS_ex _ _) ⟨⟨dx, tf v2 n df dl, ?_, tf_m _ _ _ _, tf_b _ _ _ _, tf_f _ _ _ _, tf_l _ _ _ _, tf_no _ _ _ _ (by decide +kernel) (by decide +kernel) (by decide +kernel) (by decide +kernel), tf_no _ _ _ _ (by decide +kernel) (by decide +kernel) (by decide +kernel) (by decide +kernel), tf_no _ _ _ _ (by decide +kernel) (by decide +kernel) (by decide +kernel) (by decide +kernel)⟩, dp_lx (sq_delD mm.dicts) hb5, delS_none (by simp), delS_none (by simp), hdd⟩ mm
    · rcases List.mem_cons.mp hl with h | h
      · rw [h]; exact hzdf
      · rw [List.mem_singleton.mp h]; exact hzdl
    · rw [delS_ne (by simp [hpd, hpl]), upd_same]
end
abbrev sp_fewest (K : PySem.W.Frag) : Sp := spD K (fun i : Nat × List Ed => [dWeb i.1 i.2]) (fun i => Web i.1 i.2 ∧ i.1 ≤ 10) (fun i r => r = .int ((i.1 : Int) - (nu i.2 cap2 : Int)))
section
variable {P : Program} {w : World} {K : PySem.W.Frag} {mg : Str → Option Value} {base : Heap}
abbrev s_fewest : Stmt := top 55
theorem sc_fewest : FnScope ["web"] ["web"] (defScope s_fewest) := ⟨rfl, rfl, rfl, by decide +kernel, rfl, by decide +kernel, by decide +kernel⟩
theorem kp_fewest (D : Df K mg "fewest" s_fewest ["web"]) (B : Bare mg) (h_need_small : Kp P w K mg base "need_small" 5 ["web"] (sp_need_small K)) {C f_init f_least_for : Addr} {fd_init fd_least_for : FuncData} (T : TTxt K mg C) (MK : Mk K C f_init) (F_init : FnOk P w K mg base CX0 2 f_init fd_init ["self", "web"] (sp_init K C)) (b_init : Binds K fd_init ["self", "web"] []) (F_least_for : FnOk P w K mg base CX0 23 f_least_for fd_least_for ["self", "bits"] (sp_least_for K C 21)) (b_least_for : Binds K fd_least_for ["self", "bits"] []) (M_least_for : Meth K C "least_for" f_least_for) : Kp P w K mg base "fewest" 26 ["web"] (sp_fewest K) := by
  obtain ⟨f_need_small, fd_need_small, F_need_small, g_need_small, k_need_small, b_need_small⟩ := h_need_small
  refine D.kp sc_fewest (spD_len (fun _ => rfl)) (fun f cdv A outer s H vs Q E hr h => ?_)
  refine ⟨_, (pss_cons (ps_expr (pe_call F_need_small (hr.mono (by decide)) (by rfl) g_need_small k_need_small b_need_small .nil pass0 (pa_cons (pv 0) pa_nil)))
  (pss_one (ps_ret (pe_meth (pe_make MK F_init (hr.mono (by decide)) (by rfl) T.mgC b_init .nil pass0 (pa_cons (pv 0) pa_nil)) T.cl M_least_for F_least_for (hr.mono (by decide)) b_least_for .nil pass0 (pa_cons (pe_op op_sub (pe_op (r := rShl1) op_shl1 pe_int (pe_ix (r := rIx K) ix_seq (pv 0) pe_int (fun _ _ => rfl))) pe_int) pa_nil))))), ?_⟩
  obtain ⟨⟨n, es⟩, hd, ⟨hw, hn⟩, q⟩ := h
  dsimp only at hw hn q
  cases hd with | cons p1 hd =>
  cases hd
  rename_i t
  have hpw := pow1024 hn
  have hp0 : 0 < 2 ^ n := Nat.two_pow_pos n
  refine sd_drop (ed_call (n, es) (eda_cons (ed_var rfl p1) eda_nil) ⟨hw, hn⟩) fun H1 e1 => ?_
  dsimp only
  refine ⟨t, rfl, fun x dx hx hdx hne => ?_⟩
  have hH1 : Ex H1 (upd (upd H1 dx (.own x)) x (.ins C dx [])) := ex_mut (ex_new hdx) hx
  refine ⟨x, dx, n, es, t, rfl, upd_same, (p1.up e1).up hH1, hw, hn, fun H' df dl v B' eB1 eB2 ta m => ⟨rfl, ?_⟩⟩
  obtain ⟨dx', fs, hob, l1, l2, l3, l4, l5, l6, l7⟩ := ta.ob
  have eHB : Ex H1 B' := (ex_delS hH1 fun l hl => by rw [List.mem_singleton.mp hl]; exact hx).trans eB1
  refine ⟨x, dx', fs, rfl, eB2 _ _ hob, l6, ?_⟩
  refine (ea_cons (ei_eq (ei_op0 (g := fun i j => i - j) (ev_shl1 ev_c (ev_many (K := K) (n := n) (es := es) (ed_var (i := 0) rfl ((p1.up e1).up (eHB.trans eB2))) ev_c) (by omega)) ev_c) (j := ((2 ^ n - 1 : Nat) : Int)) (by omega)) ea_nil : EvA _ _ _ _) H' (ex_r _) _ fun H2 e2 => ?_
  have hsz : sz n (2 ^ n - 1) ≤ n := Nat.le_trans (List.length_filter_le _ _) (by simp)
  refine ⟨n, es, B', x, df, dl, v, 2 ^ n - 1, rfl, hw, hn, ta, eB2.trans e2, m.up e2, by omega, by omega, fun H3 e3 m3 => ?_⟩
  exact q _ H3 _ ((e1.trans eHB).trans e3) rfl (by rw [G37.fewX_full hw.fo]; exact .int _)
end
end W37
/-! what is drawn, told by properties -/
namespace W37
open PySem PySem.Spec PyProof.Rows L2
open Evl (Ex Ev EvT EvA EvL)
open G37 (Ed)
def EvTN (tt : TT) (σ : L2.St) (H : Hp) : Prop := ∀ H1, Ex H H1 → ∀ Q : Bool → Hp → Prop, (∀ b H2, Ex H1 H2 → Q b H2) → tt σ H1 Q
section
variable {K : PySem.W.Frag} {σ : L2.St} {H H' : Hp} {ta tb tc te tl tx : TE} {R R' : PyData → Prop} {v x : V} {D : Ends} {tu tw : TS} {t u : TT}
theorem etn_of {b : Bool} (h : EvT t σ H b) : EvTN t σ H := fun H1 e Q q => h H1 e Q fun H2 e2 => q b H2 e2
theorem etn_and {b : Bool} (h : EvT t σ H b) (h2 : EvTN u σ H) : EvTN (tAnd t u) σ H := fun H1 e Q q => h H1 e _ fun H2 e2 => by
  cases b
  · exact iteF (q false H2 e2)
  · exact iteT (h2 H2 (e.trans e2) Q fun c H3 e3 => q c H3 (e2.trans e3))
theorem etn_or {b : Bool} (h : EvT t σ H b) (h2 : EvTN u σ H) : EvTN (tOr t u) σ H := fun H1 e Q q => h H1 e _ fun H2 e2 => by
  cases b
  · exact iteF (h2 H2 (e.trans e2) Q fun c H3 e3 => q c H3 (e2.trans e3))
  · exact iteT (q true H2 e2)
theorem sd_ifN (h : EvTN t σ H) (h1 : ∀ H1, Ex H H1 → tu D σ H1) (h2 : ∀ H1, Ex H H1 → tw D σ H1) : tIfS t tu tw D σ H := h H (Ex.refl _) _ fun b H1 e => by
  cases b
  · exact iteF (h2 H1 e)
  · exact iteT (h1 H1 e)
theorem etn_eqI {i : Int} (ha : EvP K ta σ H (fun r => ∃ m : Int, r = .int m)) (hb : Ev tb σ H (.int i)) : EvTN (tTest (tOp rEq ta tb)) σ H := fun H1 e Q q => ha H1 e _ fun v H2 d e2 r p => hb H2 (e.trans e2) _ fun H3 e3 => by
  obtain ⟨m, rfl⟩ := r
  rw [p.int_v]
  exact ⟨rfl, _, rfl, q _ H3 (e2.trans e3)⟩
theorem etn_gtI {i : Int} (ha : EvP K ta σ H (fun r => ∃ m : Int, r = .int m)) (hb : Ev tb σ H (.int i)) : EvTN (tTest (tOp (rI0 fun i j => .bl (decide (j < i))) ta tb)) σ H := fun H1 e Q q => ha H1 e _ fun v H2 d e2 r p => hb H2 (e.trans e2) _ fun H3 e3 => by
  obtain ⟨m, rfl⟩ := r
  rw [p.int_v]
  exact ⟨_, _, rfl, rfl, _, rfl, q _ H3 (e2.trans e3)⟩
/-- [(a number drawn, place) for place in range(n)] -/
theorem ep_lcPairs {n : Nat} {ta : TA} {j : Nat} {vs : List Nat} {iv : Int} (h : EvA ta σ H [.int iv]) (hiv : iv = n) (hn : n ≤ 50000) (hw : ∀ x, wipe ((wipe σ vs).set j (some x)) vs = wipe σ vs) (hj : ∀ x, ((wipe σ vs).set j (some x))[j]? = some (some x))
    (hs : ∀ i H1, i < n → Ex H H1 → EvP K tx ((wipe σ vs).set j (some (vN i))) H1 (fun r => ∃ m : Nat, r = dI m)) :
    EvP K (tLc (iRng1 ta) (gName j) tYes (tTup (tCons tx (tCons (tVar j) tNil))) vs) σ H (fun r => ∃ ps : List Ed, ps.map (·.2) = List.range n ∧ r = .list (ps.map dE)) := fun H1 e Q q => h H1 e _ fun H2 e2 => by
  subst hiv
  refine ⟨(n : Int), rfl, by omega, by omega, fun L hL => ?_⟩
  have hn' : (n : Int).toNat = n := by omega
  rw [hn']
  refine lc_it (walk_range (lo := 0) (n := n)) (fun m H3 => Ex H2 H3 ∧ ∃ (ps : List Ed) (xs : List V), ps.map (·.2) = List.range m ∧ H3 L = some (.lst xs) ∧ DpAll K H3 xs (ps.map dE)) ⟨ex_mut (ex_r _) hL, [], [], rfl, upd_same, .nil⟩ (fun _ _ _ _ => trivial) (fun m x H3 H4 hi p y => ?_) fun H3 p => ?_
  · obtain ⟨rfl, hxm⟩ := y
    have hxm : x = vN m := by rw [hxm]; show V.int (0 + (m : Int)) = _; rw [Int.zero_add]
    subst hxm
    obtain ⟨e3, ps, xs, hps, hxL, hda⟩ := p
    have hlx := hda.len
    have hlp : ps.length = m := by have := congrArg List.length hps; simpa using this
    rw [List.length_map, hlp] at hlx
    refine ⟨hw _, yes_ (iteT ?_)⟩
    refine hs m H4 hi ((e.trans e2).trans e3) H4 (ex_r _) _ fun v H5 d e5 hd pv => ?_
    obtain ⟨k, rfl⟩ := hd
    have hv := pv.int_v
    subst hv
    refine ⟨_, hj _, Evl.sz_of (by simp), fun q' hq' => ?_⟩
    have hL5 := e5 L _ hxL
    have hqL : q' ≠ L := fun z => by rw [z, hL5] at hq'; cases hq'
    have hL6 : upd H5 q' (.tup [vN k, vN m]) L = some (.lst xs) := by rw [upd_ne (Ne.symm hqL)]; exact hL5
    refine ⟨xs, hL6, szlt (by omega), ex_mut ((e3.trans e5).trans (ex_new hq')) hL, ps ++ [(k, m)], xs ++ [.ref q'], ?_, upd_same, ?_⟩
    · rw [List.map_append, hps, List.range_succ]; rfl
    · rw [List.map_append]
      have t6 : Tx K H4 (upd (upd H5 q' (.tup [vN k, vN m])) L (.lst (xs ++ [.ref q']))) := (tx_ex (e5.trans (ex_new hq'))).trans (tx_upd hL6)
      refine DpAll.app (dps_tx t6 (noLs_map noL_E _) hda) (.one (v_dE (e := (k, m)) (st_of ?_)))
      rw [upd_ne hqL, upd_same]
  · obtain ⟨e3, ps, xs, hps, hxL, hda⟩ := p
    exact q _ H3 _ (e2.trans e3) ⟨ps, hps, rfl⟩ (.lst (sq_of hxL) hda)
/-- [.. for a name in a list told by a property] -/
theorem ep_lcL {α : Type} {S : List α → Prop} (enc : α → PyData) (p : α → Bool) (ee : α → PyData) {g : TG} {tt : TT} {vs : List Nat} (hg : goodG g) (h : EvP K tl σ H (fun r => ∃ l : List α, S l ∧ l.length ≤ 50000 ∧ r = .list (l.map enc))) (hno : ∀ a, noL (ee a) = true)
    (hs : ∀ a x H1, Ex H H1 → Dp K H1 x (enc a) → g x (wipe σ vs) H1 fun σ2 H2 => H2 = H1 ∧ wipe σ2 vs = wipe σ vs ∧ EvT tt σ2 H2 (p a) ∧ (p a = true → EvD K te σ2 H2 (ee a))) :
    EvP K (tLc (iList K tl) g tt te vs) σ H (fun r => ∃ l : List α, S l ∧ r = .list ((l.filter p).map ee)) := fun H1 e Q q =>
  h H1 e _ fun v H2 d e2 r pv => by
    obtain ⟨l, hS, hn, rfl⟩ := r
    obtain ⟨a, xs, rfl, hx, hd⟩ := pv.lst_v
    refine ⟨a, rfl, ⟨xs, hx⟩, fun D hD => ?_⟩
    have hl : xs.length = l.length := by rw [hd.len, List.length_map]
    have w := walk_list (K := K) (a := a) (xs := xs)
    rw [hl] at w
    refine lc_walk l p ee w hD hn hno (fun H' e' => sqL_up e' hx) (fun i b x H3 H4 hi e3 y => ?_) hg fun H' d e' rd pd => q _ H' d (e2.trans e') ⟨l, hS, rd⟩ pd
    obtain ⟨rfl, hxi⟩ := y
    obtain ⟨d', h1, h2⟩ := hd.get hxi
    rw [List.getElem?_map, hi] at h1
    cases h1
    exact ⟨Ex.refl _, hs b x H4 ((e.trans e2).trans e3) (h2.up e3)⟩
theorem ep_bind {i : Nat} (h : EvP K te σ H R) (k : ∀ v H1 r, Ex H H1 → R r → Dp K H1 v r → D.nx (σ.set i (some v)) H1) : tAsg te (gName i) D σ H := sd_asg h k
/-- sorted(a list of alike tuples that is told by a property) -/
theorem ep_sortP {α : Type} {S : List α → Prop} (enc : α → PyData) (h : EvP K ta σ H (fun r => ∃ ws : List α, S ws ∧ r = .list (ws.map enc))) (al : ∀ a b, PySem.W.alike (enc a) (enc b) = true) (ne : ∀ a, ∃ x r, enc a = .tuple (x :: r)) (dd : ∀ a, (enc a).depth ≤ 8) :
    EvP K (tCB (rSortD K) (tCons ta tNil)) σ H (fun r => ∃ ws ws' : List α, S ws ∧ ws'.Perm ws ∧ ws'.Pairwise (fun a b => PySem.W.dataLt (enc b) (enc a) = false) ∧ r = .list (ws'.map enc)) := fun H1 e Q q => h H1 e _ fun v H2 d e2 hd pv => by
  obtain ⟨ws, hS, rfl⟩ := hd
  exact (ep_sortD (K := K) (ta := tC v) (σ := []) (H := H2) ws enc (ed_ev Evl.ev_c pv) (fun a _ b _ => al a b) (fun a _ => ne a) (fun a _ => dd a)) H2 (ex_r _) Q fun v' H3 d' e3 hd' pv' => by
    obtain ⟨ws', h1, h2, h3⟩ := hd'
    exact q v' H3 d' (e2.trans e3) ⟨ws, ws', hS, h1, h2, h3⟩ pv'
/-- one of four -/
theorem ep_four {t1 t2 t3 t4 tk : TE} {a b c m k : Nat} (h1 : Ev t1 σ H (vN a)) (h2 : Ev t2 σ H (vN b)) (h3 : Ev t3 σ H (vN c)) (h4 : EvP K t4 σ H (fun r => ∃ o : Nat, o < m ∧ r = dI o)) (hk : Ev tk σ H (vN k)) (ha : a < m) (hb : b < m) (hc : c < m) (hk4 : k < 4) :
    EvP K (tOp (rIx K) (tLst (tCons t1 (tCons t2 (tCons t3 (tCons t4 tNil))))) tk) σ H (fun r => ∃ o : Nat, o < m ∧ r = dI o) := fun H1 e Q q => h1 H1 e _ fun H2 e2 => h2 H2 (e.trans e2) _ fun H3 e3 => h3 H3 ((e.trans e2).trans e3) _ fun H4 e4 => h4 H4 (((e.trans e2).trans e3).trans e4) _ fun v H5 d e5 hd pv => by
  obtain ⟨o, ho, rfl⟩ := hd
  have hv := pv.int_v
  subst hv
  have e15 := ((e2.trans e3).trans e4).trans e5
  refine ⟨Evl.sz_of (by simp), fun p hp => hk _ ((e.trans e15).trans (ex_new hp)) _ fun H6 e6 => ?_⟩
  have e16 := (e15.trans (ex_new hp)).trans e6
  have hp6 := e6 p _ (upd_same (H := H5) (a := p) (o := .lst [vN a, vN b, vN c, vN o]))
  match k, hk4 with
  | 0, _ => exact .inl ⟨p, _, 0, vN a, rfl, rfl, sq_of hp6, rfl, q _ H6 _ e16 ⟨a, ha, rfl⟩ (.int _)⟩
  | 1, _ => exact .inl ⟨p, _, 1, vN b, rfl, rfl, sq_of hp6, rfl, q _ H6 _ e16 ⟨b, hb, rfl⟩ (.int _)⟩
  | 2, _ => exact .inl ⟨p, _, 2, vN c, rfl, rfl, sq_of hp6, rfl, q _ H6 _ e16 ⟨c, hc, rfl⟩ (.int _)⟩
  | 3, _ => exact .inl ⟨p, _, 3, vN o, rfl, rfl, sq_of hp6, rfl, q _ H6 _ e16 ⟨o, ho, rfl⟩ (.int _)⟩
theorem ints_dp : ∀ (ns : List Int), DpAll K H (ns.map V.int) (ns.map PyData.int)
  | [] => .nil
  | n :: ns => .cons (.int _) (ints_dp ns)
end
end W37
/-! what the law builds -/
namespace W37
open PySem PySem.Spec PyProof.Rows L2
open Evl (Ex Ev EvT EvA EvL EvO et_test et_B et_and et_or et_not ev_var ev_c ea_nil ea_cons ev_andV ev_orV ev_notV s_if)
open G37 (Ed nb tie ltE Web RE capS cap2 nu cnt FF)
abbrev sp__law_cell_at (K : PySem.W.Frag) : Sp := spD K (fun i : List Int × Nat => [.list (i.1.map PyData.int), dI i.2]) (fun i => True) (fun _ r => ∃ m : Int, r = .int m)
abbrev sp__law_draw (K : PySem.W.Frag) : Sp := spD K (fun i : Int × Nat × Nat => [.int i.1, dI i.2.1, dI i.2.2]) (fun i => i.2.1 ≤ 50000 ∧ 0 < i.2.2 ∧ i.2.2 ≤ 1000000) (fun i r => ∃ m : Nat, m < i.2.2 ∧ r = dI m)
abbrev sp__law_some (K : PySem.W.Frag) : Sp := spD K (fun i : Int × Nat × Nat => [.int i.1, dI i.2.1, dI i.2.2]) (fun i => i.2.1 ≤ 1000 ∧ i.2.2 ≤ 10000) (fun i r => ∃ S, Places i.2.1 S ∧ r = dT S)
abbrev sp__law_forest (K : PySem.W.Frag) : Sp := spD K (fun i : Int × Nat => [.int i.1, dI i.2]) (fun i => i.2 ≤ 60) (fun i r => ∃ n es, Web n es ∧ n ≤ i.2 ∧ r = dWeb n es)
abbrev sp__law_parts_right (K : PySem.W.Frag) : Sp := spD K (fun i : Nat × List Ed => [dWeb i.1 i.2]) (fun i => Web i.1 i.2) (fun _ r => r = .bool true)
abbrev sp__law_hung (K : PySem.W.Frag) : Sp := spD K (fun i : (Nat × List Ed) × Nat => [dWeb i.1.1 i.1.2, dI i.2]) (fun i => Web i.1.1 i.1.2 ∧ i.1.1 ≤ 50 ∧ i.2 < i.1.1) (fun i r => ∃ es', es'.Perm ((i.2, i.1.1) :: i.1.2) ∧ Web (i.1.1 + 1) es' ∧ r = dWeb (i.1.1 + 1) es')
theorem mod_nat {i : Int} {b : Nat} (hb : 0 < b) : ∃ m : Nat, m < b ∧ i % (b : Int) = (m : Int) := by
  have h1 := Int.emod_nonneg i (b := (b : Int)) (by omega)
  have h2 := Int.emod_lt_of_pos i (b := (b : Int)) (by omega)
  exact ⟨(i % (b : Int)).toNat, by omega, by omega⟩
theorem sq_of_int {K : PySem.W.Frag} {H : Hp} {a : Addr} {ns : List Int} (h : SqL K H a (ns.map V.int)) : Dp K H (.ref a) (.list (ns.map PyData.int)) := .lst h (ints_dp ns)
theorem ge_of_srt {es : List Ed} (h : es.Pairwise fun a b => PySem.W.dataLt (dE b) (dE a) = false) : es.Pairwise fun e g => ¬ ltE g e := h.imp fun {a b} h z => by
  rw [(lt_dE b a).mpr z] at h; cases h
section
variable {P : Program} {w : World} {K : PySem.W.Frag} {mg : Str → Option Value} {base : Heap}
abbrev s__law_cell_at : Stmt := top 61
theorem sc__law_cell_at : FnScope ["_law_script", "_law_k"] ["_law_script", "_law_k"] (defScope s__law_cell_at) := ⟨rfl, rfl, rfl, by decide +kernel, rfl, by decide +kernel, by decide +kernel⟩
theorem kp__law_cell_at (D : Df K mg "_law_cell_at" s__law_cell_at ["_law_script", "_law_k"]) (B : Bare mg) : Kp P w K mg base "_law_cell_at" 1 ["_law_script", "_law_k"] (sp__law_cell_at K) := by
  refine D.kp sc__law_cell_at (spD_len (fun _ => rfl)) (fun f cdv A outer s H vs Q E hr h => ?_)
  refine ⟨_, (pss_cons (ps_if (pt_cmpR op_lt (pv 1) (pe_callB (r := rLn K) cr_len (by rfl) B.len (by decide +kernel) (pa_cons (pv 0) pa_nil)) (by rfl))
  (pss_one (ps_ret (pe_ix (r := rIx K) ix_seq (pv 0) (pv 1) (fun _ _ => rfl))))
  pss_nil)
  (pss_one (ps_ret pe_int))), ?_⟩
  obtain ⟨⟨ns, k⟩, hd, _, q⟩ := h
  dsimp only at q
  cases hd with | cons p1 hd => cases hd with | cons p2 hd =>
  cases hd
  have v2 := p2.int_v
  subst v2
  rename_i t
  have E0 : ∀ {H1}, Ex H H1 → EvD K (tVar 0) [some t, some (vN k)] H1 (.list (ns.map PyData.int)) := fun e => ed_var rfl (p1.up e)
  refine sd_if (et_test (eb_op0 (g := fun i j => decide (i < j)) (ev_var rfl) (ev_lenL (E0 (ex_r _))))) (fun c H1 e1 => ?_) fun c H1 e1 => ?_
  · have hk : k < ns.length := by
      have := of_decide_eq_true c
      simp at this; omega
    exact sd_ret (K := K) (R := fun r => r = .int ns[k]) (ep_ixL (E0 e1) (ev_var rfl) (atI_n (by rw [List.getElem?_map, List.getElem?_eq_getElem hk]; rfl))) fun v H2 r e2 hr hv => q v H2 r (e1.trans e2) ⟨_, hr⟩ hv
  · unfold tNext
    dsimp only
    exact sd_ret (K := K) (ed_int ev_c) fun v H2 r e2 hr hv => q v H2 r (e1.trans e2) ⟨_, hr⟩ hv
abbrev s__law_draw : Stmt := top 62
theorem sc__law_draw : FnScope ["_law_cell", "_law_k", "_law_bound", "_law_stir", "_law_left", "_law_j"] ["_law_cell", "_law_k", "_law_bound"] (defScope s__law_draw) := ⟨rfl, rfl, rfl, by decide +kernel, rfl, by decide +kernel, by decide +kernel⟩
theorem kp__law_draw (D : Df K mg "_law_draw" s__law_draw ["_law_cell", "_law_k", "_law_bound"]) (B : Bare mg) : Kp P w K mg base "_law_draw" 1 ["_law_cell", "_law_k", "_law_bound"] (sp__law_draw K) := by
  refine D.kp sc__law_draw (spD_len (fun _ => rfl)) (fun f cdv A outer s H vs Q E hr h => ?_)
  refine ⟨_, (pss_cons (ps_if (pt_cmpR op_ge (pv 0) (pe_op op_pow pe_int pe_int) (by rfl))
  (pss_cons (ps_set (i := 4) sc__law_draw.nd (by rfl) (by first | exact Or.inl rfl | exact Or.inr rfl) (pv 0))
  (pss_cons (ps_for PassesOwn.never rfl (pi_range1 (by rfl) B.range (pa_cons (pv 1) pa_nil)) (pg_name (i := 5) sc__law_draw.nd (by rfl) (by first | exact Or.inl rfl | exact Or.inr rfl))
  (pss_cons (ps_if (pt_cmpR op_eq (pv 4) pe_int (by rfl))
  (pss_one (ps_ret pe_int))
  pss_nil)
  (pss_one (ps_set (i := 4) sc__law_draw.nd (by rfl) (by first | exact Or.inl rfl | exact Or.inr rfl) (pe_op op_fdiv (pv 4) (pv 2))))))
  (pss_one (ps_ret (pe_op op_mod (pv 4) (pv 2))))))
  pss_nil)
  (pss_cons (ps_set (i := 3) sc__law_draw.nd (by rfl) (by first | exact Or.inl rfl | exact Or.inr rfl) (pe_op op_mod (pe_op op_mul (pe_op op_add (pe_op op_add (pe_op op_mod (pv 0) pe_int) (pe_op op_mul pe_int (pv 1))) pe_int) pe_int) pe_int))
  (pss_cons (ps_set (i := 3) sc__law_draw.nd (by rfl) (by first | exact Or.inl rfl | exact Or.inr rfl) (pe_op op_mod (pe_op op_add (pe_op op_add (pe_op op_mul (pv 3) (pv 3)) (pe_op op_mul pe_int (pv 1))) pe_int) pe_int))
  (pss_one (ps_ret (pe_op op_mod (pe_op op_fdiv (pe_op op_mod (pe_op op_mul (pv 3) pe_int) pe_int) pe_int) (pv 2))))))), ?_⟩
  obtain ⟨⟨cell, k, b⟩, hd, ⟨hk, hb0, hb1⟩, q⟩ := h
  dsimp only at hk hb0 hb1 q
  cases hd with | cons p1 hd => cases hd with | cons p2 hd => cases hd with | cons p3 hd =>
  cases hd
  have v1 := p1.int_v
  have v2 := p2.int_v
  have v3 := p3.int_v
  subst v1 v2 v3
  have ret : ∀ {x y z : Option V} {te : TE} (H1 : Hp) (i : Int), Ex H H1 → Ev te [some (.int cell), some (vN k), some (vN b), x, y, z] H1 (.int i) → (∃ m : Nat, m < b ∧ i = (m : Int)) → ∀ D : Ends, D.rt = Q → tRet te D [some (.int cell), some (vN k), some (vN b), x, y, z] H1 := fun H1 i e he hm D hD => by
    obtain ⟨m, hm1, hm2⟩ := hm
    subst hm2
    refine Evl.s_ret he fun H2 e2 => ?_
    rw [hD]
    exact q _ H2 _ (e.trans e2) ⟨m, hm1, rfl⟩ (.int _)
  refine sd_if (et_test (eb_op0 (g := fun i j => decide (j ≤ i)) (ev_var rfl) (ei_op (C := CPow) (g := fun i j => i ^ j.toNat) (i := 10) (j := 18) ev_c ev_c ⟨by decide, by decide, by decide⟩))) (fun c H1 e1 => ?_) fun c H1 e1 => ?_
  · have hc : 0 ≤ cell := by
      have h1 := of_decide_eq_true c
      have h2 : (0 : Int) ≤ 10 ^ (18 : Int).toNat := by decide
      exact Int.le_trans h2 h1
    refine sd_asgV (ev_var rfl) fun H2 e2 => ?_
    dsimp only
    refine Evl.s_forR1 (n := (k : Int)) (ea_cons (ev_var rfl) ea_nil) ⟨by omega, by omega⟩ (fun i (σ' : L2.St) H' => ∃ l z, σ' = [some (.int cell), some (vN k), some (vN b), none, some (.int l), z] ∧ 0 ≤ l ∧ Ex H H')
      (fun H3 e3 => ⟨cell, none, rfl, hc, (e1.trans e2).trans e3⟩) (fun i σ' H' hi pv => ?_) fun σ' H' pv => ?_
    · obtain ⟨l, z, rfl, hl, f1⟩ := pv
      refine sd_if (et_test (eb_eqI (ev_var (i := 4) rfl) ev_c)) (fun c H3 e3 => ?_) fun c H3 e3 => ?_
      · exact ret H3 0 (f1.trans e3) ev_c ⟨0, hb0, rfl⟩ _ rfl
      · unfold tNext
        dsimp only
        refine sd_asgV (ei_op (C := CDiv) (g := fun i j => i / j) (ev_var (i := 4) rfl) (ev_var (i := 2) rfl) ⟨by omega, by omega⟩) fun H4 e4 => ?_
        dsimp only
        exact ⟨_, _, rfl, Int.ediv_nonneg hl (by omega), (f1.trans e3).trans e4⟩
    · obtain ⟨l, z, rfl, hl, f1⟩ := pv
      dsimp only
      exact ret H' _ f1 (ei_op (C := fun _ j => 0 < j) (g := fun i j => i % j) (ev_var (i := 4) rfl) (ev_var (i := 2) rfl) (by omega)) (mod_nat hb0) _ rfl
  · unfold tNext
    dsimp only
    refine sd_asgV (ei_op (C := fun _ j => 0 < j) (g := fun i j => i % j) (ei_op (C := CMul) (g := fun i j => i * j) (ei_op0 (g := fun i j => i + j) (ei_op0 (g := fun i j => i + j) (ei_op (C := fun _ j => 0 < j) (g := fun i j => i % j) (ev_var rfl) ev_c (by decide)) (ei_op (C := CMul) (g := fun i j => i * j) ev_c (ev_var rfl) (.inl ⟨by decide, by decide⟩))) ev_c) ev_c (.inr ⟨by decide, by decide⟩)) ev_c (by decide)) fun H2 e2 => ?_
    dsimp only
    generalize hs1 : ((cell % 1000000007 + 1009 * (k : Int) + 17) * 69621 % 2147483647) = s1
    have hb1' : 0 ≤ s1 ∧ s1 < 2147483647 := by rw [← hs1]; exact ⟨Int.emod_nonneg _ (by decide), Int.emod_lt_of_pos _ (by decide)⟩
    refine sd_asgV (ei_op (C := fun _ j => 0 < j) (g := fun i j => i % j) (ei_op0 (g := fun i j => i + j) (ei_op0 (g := fun i j => i + j) (ei_op (C := CMul) (g := fun i j => i * j) (ev_var (i := 3) rfl) (ev_var (i := 3) rfl) (.inl ⟨by omega, by omega⟩)) (ei_op (C := CMul) (g := fun i j => i * j) ev_c (ev_var rfl) (.inl ⟨by decide, by decide⟩))) ev_c) ev_c (by decide)) fun H3 e3 => ?_
    dsimp only
    refine ret H3 _ ((e1.trans e2).trans e3) (ei_op (C := fun _ j => 0 < j) (g := fun i j => i % j) (ei_op (C := CDiv) (g := fun i j => i / j) (ei_op (C := fun _ j => 0 < j) (g := fun i j => i % j) (ei_op (C := CMul) (g := fun i j => i * j) (ev_var (i := 3) rfl) ev_c (.inr ⟨by decide, by decide⟩)) ev_c (by decide)) ev_c ⟨by decide, by decide⟩) (ev_var (i := 2) rfl) (by omega)) (mod_nat hb0) _ rfl
abbrev s__law_some : Stmt := top 63
theorem sc__law_some : FnScope ["_law_cell", "_law_many", "_law_at", "_law_kind", "_law_found", "_law_place"] ["_law_cell", "_law_many", "_law_at"] (defScope s__law_some) := ⟨rfl, rfl, rfl, by decide +kernel, rfl, by decide +kernel, by decide +kernel⟩
theorem kp__law_some (D : Df K mg "_law_some" s__law_some ["_law_cell", "_law_many", "_law_at"]) (B : Bare mg) (h__law_draw : Kp P w K mg base "_law_draw" 1 ["_law_cell", "_law_k", "_law_bound"] (sp__law_draw K)) : Kp P w K mg base "_law_some" 2 ["_law_cell", "_law_many", "_law_at"] (sp__law_some K) := by
  obtain ⟨f__law_draw, fd__law_draw, F__law_draw, g__law_draw, k__law_draw, b__law_draw⟩ := h__law_draw
  refine D.kp sc__law_some (spD_len (fun _ => rfl)) (fun f cdv A outer s H vs Q E hr h => ?_)
  refine ⟨_, (pss_cons (ps_set (i := 3) sc__law_some.nd (by rfl) (by first | exact Or.inl rfl | exact Or.inr rfl) (pe_call F__law_draw (hr.mono (by decide)) (by rfl) g__law_draw k__law_draw b__law_draw .nil pass0 (pa_cons (pv 0) (pa_cons (pv 2) (pa_cons pe_int pa_nil)))))
  (pss_cons (ps_set (i := 4) sc__law_some.nd (by rfl) (by first | exact Or.inl rfl | exact Or.inr rfl) (pe_lst pa_nil))
  (pss_cons (ps_for PassesOwn.never rfl (pi_range1 (by rfl) B.range (pa_cons (pv 1) pa_nil)) (pg_name (i := 5) sc__law_some.nd (by rfl) (by first | exact Or.inl rfl | exact Or.inr rfl))
  (pss_one (ps_if ((pw_or (pt_cmpR op_eq (pv 3) pe_int (by rfl)) (pw_or1 ((pw_and (pt_cmpR op_gt (pv 3) pe_int (by rfl)) (pw_and1 (pt_cmpR op_eq (pe_call F__law_draw (hr.mono (by decide)) (by rfl) g__law_draw k__law_draw b__law_draw .nil pass0 (pa_cons (pv 0) (pa_cons (pe_op op_add (pe_op op_add (pv 2) pe_int) (pv 5)) (pa_cons (pe_op op_add pe_int (pv 3)) pa_nil)))) pe_int (by rfl))))).pt))).pt
  (pss_one (ps_expr (pe_bm PySem.F.plainAttrs_list PySem.F.slot_list_append PySem.F.type_list_append mt_append (pv 4) (pa_cons (pv 5) pa_nil))))
  pss_nil)))
  (pss_one (ps_ret (pe_callTy (r := rTupOf K) cr_tupOf (by rfl) B.tuple (by decide +kernel) (pa_cons (pv 4) pa_nil))))))), ?_⟩
  obtain ⟨⟨cell, n, at_⟩, hd, ⟨hn, hat⟩, q⟩ := h
  dsimp only at hn hat q
  cases hd with | cons p1 hd => cases hd with | cons p2 hd => cases hd with | cons p3 hd =>
  cases hd
  have v1 := p1.int_v
  have v2 := p2.int_v
  have v3 := p3.int_v
  subst v1 v2 v3
  refine sd_asg (K := K) (ed_call (cell, at_, 6) (eda_cons (ed_int (ev_var rfl)) (eda_cons (ed_int (ev_var rfl)) (eda_cons (ed_int ev_c) eda_nil))) ⟨by dsimp only; omega, by dsimp only; omega, by dsimp only; omega⟩) fun v4 H1 r4 e1 hr4 hv4 => ?_
  obtain ⟨kd, hkd, rfl⟩ := hr4
  dsimp only at hkd
  have hv4 := hv4.int_v
  subst hv4
  dsimp only
  refine sd_new0 fun p hp => ?_
  dsimp only
  have hpH : H p = none := ex_free e1 hp
  refine Evl.s_forR1 (n := (n : Int)) (ea_cons (ev_var (i := 1) rfl) ea_nil) ⟨by omega, by omega⟩ (fun i (σ' : L2.St) H' => ∃ x S, σ' = [some (.int cell), some (vN n), some (vN at_), some (vN kd), some (.ref p), x] ∧ Ex H H' ∧ H' p = some (.lst (S.map vN)) ∧ S.Pairwise (· < ·) ∧ (∀ v ∈ S, v < i) ∧ S.length ≤ i)
    (fun H2 e2 => ⟨none, [], rfl, (e1.trans (ex_new hp)).trans e2, e2 p _ upd_same, .nil, by simp, Nat.le_refl _⟩) (fun i σ' H' hi pv => ?_) fun σ' H' pv => ?_
  · obtain ⟨x, S, rfl, f1, f2, f3, f4, f5⟩ := pv
    have hi : i < n := by omega
    refine sd_ifN (etn_or (et_test (eb_eqI (ev_var (i := 3) rfl) ev_c)) (etn_and (et_test (eb_op0 (g := fun i j => decide (j < i)) (ev_var (i := 3) rfl) ev_c)) (etn_eqI ((ed_call (cell, at_ + 1 + i, 1 + kd) (eda_cons (ed_int (ev_var rfl)) (eda_cons (ed_int (ei_eq (ei_op0 (g := fun i j => i + j) (ei_op0 (g := fun i j => i + j) (ev_var (i := 2) rfl) ev_c) (ev_var (i := 5) rfl)) (by push_cast; rfl))) (eda_cons (ed_int (ei_eq (ei_op0 (g := fun i j => i + j) ev_c (ev_var (i := 3) rfl)) (by push_cast; rfl))) eda_nil))) ⟨by dsimp only; omega, by dsimp only; omega, by dsimp only; omega⟩).imp fun d h => by
      obtain ⟨m, _, rfl⟩ := h
      exact ⟨_, rfl⟩) ev_c))) (fun H2 e2 => ?_) fun H2 e2 => ?_
    · refine sd_app (K := K) (R := fun r => r = dI i) (ev_var (i := 4) rfl) (e2 p _ f2) (ed_int (ev_var (i := 5) rfl)) (by rw [List.length_map]; omega) fun v H3 r e3 hr hv hp3 => ?_
      subst hr
      have hv := hv.int_v
      subst hv
      dsimp only
      refine ⟨_, S ++ [i], rfl, ex_mut ((f1.trans e2).trans e3) hpH, by rw [upd_same, List.map_append]; rfl, ?_, fun v hv => ?_, by simp; omega⟩
      · refine List.pairwise_append.mpr ⟨f3, by simp, fun a ha b hb => ?_⟩
        rw [List.mem_singleton.mp hb]; exact f4 a ha
      · rcases List.mem_append.mp hv with h | h
        · have := f4 v h; omega
        · rw [List.mem_singleton.mp h]; omega
    · exact ⟨_, S, rfl, f1.trans e2, e2 p _ f2, f3, fun v hv => by have := f4 v hv; omega, by omega⟩
  · obtain ⟨x, S, rfl, f1, f2, f3, f4, f5⟩ := pv
    rw [show (n : Int).toNat = n from by omega] at f4 f5
    dsimp only
    exact sd_ret (K := K) (ed_tupOf (ed_var rfl (v_dL (sq_of f2)))) fun v9 H9 r9 e9 hr9 hv9 => q v9 H9 r9 (f1.trans e9) ⟨S, ⟨by omega, f3, f4⟩, hr9⟩ hv9
abbrev s__law_forest : Stmt := top 64
theorem sc__law_forest : FnScope ["_law_cell", "_law_most", "_law_many", "_law_kind", "_law_order", "_law_ties", "_law_place", "_law_over", "_law_row"] ["_law_cell", "_law_most"] (defScope s__law_forest) := ⟨rfl, rfl, rfl, by decide +kernel, rfl, by decide +kernel, by decide +kernel⟩
theorem kp__law_forest (D : Df K mg "_law_forest" s__law_forest ["_law_cell", "_law_most"]) (B : Bare mg) (h__law_draw : Kp P w K mg base "_law_draw" 1 ["_law_cell", "_law_k", "_law_bound"] (sp__law_draw K)) : Kp P w K mg base "_law_forest" 2 ["_law_cell", "_law_most"] (sp__law_forest K) := by
  obtain ⟨f__law_draw, fd__law_draw, F__law_draw, g__law_draw, k__law_draw, b__law_draw⟩ := h__law_draw
  refine D.kp sc__law_forest (spD_len (fun _ => rfl)) (fun f cdv A outer s H vs Q E hr h => ?_)
  refine ⟨_, (pss_cons (ps_set (i := 2) sc__law_forest.nd (by rfl) (by first | exact Or.inl rfl | exact Or.inr rfl) (pe_call F__law_draw (hr.mono (by decide)) (by rfl) g__law_draw k__law_draw b__law_draw .nil pass0 (pa_cons (pv 0) (pa_cons pe_int (pa_cons (pe_op op_add (pv 1) pe_int) pa_nil)))))
  (pss_cons (ps_set (i := 3) sc__law_forest.nd (by rfl) (by first | exact Or.inl rfl | exact Or.inr rfl) (pe_call F__law_draw (hr.mono (by decide)) (by rfl) g__law_draw k__law_draw b__law_draw .nil pass0 (pa_cons (pv 0) (pa_cons pe_int (pa_cons pe_int pa_nil)))))
  (pss_cons (ps_setLc (i := 4) rfl sc__law_forest.nd (by rfl) (by rfl) (by rfl) (pi_list (pe_callB (r := rSortD K) (cr_sortD hr.units) (by rfl) B.sorted (by decide +kernel) (pa_cons (pe_lc (own := [("_law_place", 6)]) rfl sc__law_forest.nd (pi_range1 (by rfl) B.range (pa_cons (pv 2) pa_nil)) (blkOk_by (N := ["_law_cell", "_law_most", "_law_many", "_law_kind", "_law_order", "_law_ties", "_law_place", "_law_over", "_law_row"]) (sc := (defScope s__law_forest)) (by decide +kernel)) (fun _ _ _ _ _ => (pg_name (i := 6) sc__law_forest.nd (by rfl) (by first | exact Or.inl rfl | exact Or.inr rfl))) (fun _ _ _ _ _ => pts_nil) (fun _ _ _ _ _ => (pe_tup (pa_cons (pe_call F__law_draw (hr.mono (by decide)) (by rfl) g__law_draw k__law_draw b__law_draw .nil pass0 (pa_cons (pv 0) (pa_cons (pe_op op_add pe_int (pv 6)) (pa_cons pe_int pa_nil)))) (pa_cons (pv 6) pa_nil))))) pa_nil))) (own := [("_law_row", 8)]) (blkOk_by (N := ["_law_cell", "_law_most", "_law_many", "_law_kind", "_law_order", "_law_ties", "_law_place", "_law_over", "_law_row"]) (sc := (defScope s__law_forest)) (by decide +kernel)) (fun _ _ _ _ _ => (pg_name (i := 8) sc__law_forest.nd (by rfl) (by first | exact Or.inl rfl | exact Or.inr rfl))) (fun _ _ _ _ _ => pts_nil) (fun _ _ _ _ _ => (pe_ix (r := rIx K) ix_seq (pv 8) pe_int (fun _ _ => rfl))))
  (pss_cons (ps_set (i := 5) sc__law_forest.nd (by rfl) (by first | exact Or.inl rfl | exact Or.inr rfl) (pe_lst pa_nil))
  (pss_cons (ps_for PassesOwn.never rfl (pi_range2 (by rfl) B.range (pa_cons pe_int (pa_cons (pv 2) pa_nil))) (pg_name (i := 6) sc__law_forest.nd (by rfl) (by first | exact Or.inl rfl | exact Or.inr rfl))
  (pss_cons (ps_set (i := 7) sc__law_forest.nd (by rfl) (by first | exact Or.inl rfl | exact Or.inr rfl) (pe_ix (r := rIx K) ix_seq (pe_lst (pa_cons (pe_op op_sub (pv 6) pe_int) (pa_cons (pe_op op_fdiv (pv 6) pe_int) (pa_cons (pe_op op_fdiv (pv 6) pe_int) (pa_cons (pe_call F__law_draw (hr.mono (by decide)) (by rfl) g__law_draw k__law_draw b__law_draw .nil pass0 (pa_cons (pv 0) (pa_cons (pe_op op_add pe_int (pv 6)) (pa_cons (pv 6) pa_nil)))) pa_nil))))) (pv 3) (fun _ _ => rfl)))
  (pss_cons (ps_if (pt_cmpR op_eq (pe_call F__law_draw (hr.mono (by decide)) (by rfl) g__law_draw k__law_draw b__law_draw .nil pass0 (pa_cons (pv 0) (pa_cons (pe_op op_add pe_int (pv 6)) (pa_cons pe_int pa_nil)))) pe_int (by rfl))
  (pss_one (ps_set (i := 7) sc__law_forest.nd (by rfl) (by first | exact Or.inl rfl | exact Or.inr rfl) (pe_call F__law_draw (hr.mono (by decide)) (by rfl) g__law_draw k__law_draw b__law_draw .nil pass0 (pa_cons (pv 0) (pa_cons (pe_op op_add pe_int (pv 6)) (pa_cons (pv 6) pa_nil))))))
  pss_nil)
  (pss_one (ps_if (pt_cmpR op_gt (pe_call F__law_draw (hr.mono (by decide)) (by rfl) g__law_draw k__law_draw b__law_draw .nil pass0 (pa_cons (pv 0) (pa_cons (pe_op op_add pe_int (pv 6)) (pa_cons pe_int pa_nil)))) pe_int (by rfl))
  (pss_one (ps_expr (pe_bm PySem.F.plainAttrs_list PySem.F.slot_list_append PySem.F.type_list_append mt_append (pv 5) (pa_cons (pe_tup (pa_cons (pe_callB (r := rMin2) (cr_min2 rfl) (by rfl) B.min (by decide +kernel) (pa_cons (pe_ix (r := rIx K) ix_seq (pv 4) (pv 7) (fun _ _ => rfl)) (pa_cons (pe_ix (r := rIx K) ix_seq (pv 4) (pv 6) (fun _ _ => rfl)) pa_nil))) (pa_cons (pe_callB (r := rMax2) (cr_max2 rfl) (by rfl) B.max (by decide +kernel) (pa_cons (pe_ix (r := rIx K) ix_seq (pv 4) (pv 7) (fun _ _ => rfl)) (pa_cons (pe_ix (r := rIx K) ix_seq (pv 4) (pv 6) (fun _ _ => rfl)) pa_nil))) pa_nil))) pa_nil))))
  pss_nil)))))
  (pss_one (ps_ret (pe_tup (pa_cons (pv 2) (pa_cons (pe_callTy (r := rTupOf K) cr_tupOf (by rfl) B.tuple (by decide +kernel) (pa_cons (pe_callB (r := rSortD K) (cr_sortD hr.units) (by rfl) B.sorted (by decide +kernel) (pa_cons (pv 5) pa_nil)) pa_nil)) pa_nil)))))))))), ?_⟩
  obtain ⟨⟨cell, most⟩, hd, hmost, q⟩ := h
  dsimp only at hmost q
  cases hd with | cons p1 hd => cases hd with | cons p2 hd =>
  cases hd
  have v1 := p1.int_v
  have v2 := p2.int_v
  subst v1 v2
  refine sd_asg (K := K) (ed_call (cell, 0, most + 1) (eda_cons (ed_int (ev_var rfl)) (eda_cons (ed_int ev_c) (eda_cons (ed_int (ei_eq (ei_op0 (g := fun i j => i + j) (ev_var (i := 1) rfl) ev_c) (by push_cast; rfl))) eda_nil))) ⟨by dsimp only; omega, by dsimp only; omega, by dsimp only; omega⟩) fun v3 H1 r3 e1 hr3 hv3 => ?_
  obtain ⟨n, hn, rfl⟩ := hr3
  dsimp only at hn
  have hv3 := hv3.int_v
  subst hv3
  dsimp only
  refine sd_asg (K := K) (ed_call (cell, 1, 4) (eda_cons (ed_int (ev_var rfl)) (eda_cons (ed_int ev_c) (eda_cons (ed_int ev_c) eda_nil))) ⟨by dsimp only; omega, by dsimp only; omega, by dsimp only; omega⟩) fun v4 H2 r4 e2 hr4 hv4 => ?_
  obtain ⟨kd, hkd, rfl⟩ := hr4
  dsimp only at hkd
  have hv4 := hv4.int_v
  subst hv4
  dsimp only
  have hprs := ep_lcPairs (K := K) (H := H2) (σ := [some (.int cell), some (vN most), some (vN n), some (vN kd), none, none, none, none, none]) (ta := tCons (tVar 2) tNil) (tx := tCall (sp__law_draw K) [] L2.E0 (tCons (tVar 0) (tCons (tOp (rI0 fun i j => .int (i + j)) (tC (.int 200)) (tVar 6)) (tCons (tC (.int 97)) tNil)))) (j := 6) (vs := [6]) (n := n) (ea_cons (ev_var rfl) ea_nil) rfl (by omega) (fun _ => rfl) (fun _ => rfl) fun i H3 hi e3 => (ed_call (cell, 200 + i, 97) (eda_cons (ed_int (ev_var rfl)) (eda_cons (ed_int (ei_eq (ei_op0 (g := fun i j => i + j) ev_c (ev_var rfl)) (by push_cast; rfl))) (eda_cons (ed_int ev_c) eda_nil))) ⟨by dsimp only; omega, by dsimp only; omega, by dsimp only; omega⟩).imp fun d h => by
    obtain ⟨m, _, rfl⟩ := h
    exact ⟨m, rfl⟩
  have hsrt := (ep_sortP (K := K) (S := fun l : List Ed => l.map (·.2) = List.range n) dE hprs (fun a b => alike_ints [a.1, a.2] [b.1, b.2]) (fun a => ⟨_, _, rfl⟩) (fun a => by show 1 ≤ 8; decide)).imp (R' := fun r => ∃ l : List Ed, (l.map (·.2)).Perm (List.range n) ∧ l.length ≤ 50000 ∧ r = .list (l.map dE)) fun d hd => by
    obtain ⟨ps, ws, hps, hw1, _, rfl⟩ := hd
    refine ⟨ws, by rw [← hps]; exact hw1.map _, ?_, rfl⟩
    have := congrArg List.length hps
    rw [hw1.length_eq]
    simp at this; omega
  refine sd_asg (K := K) (ep_lcL (K := K) (S := fun l : List Ed => (l.map fun e : Ed => e.2).Perm (List.range n)) dE (fun _ => true) (fun e => dI e.2) good_name hsrt (fun _ => rfl) fun a x H3 e3 hx => ⟨rfl, rfl, et_yes, fun _ => ed_int (ev_snd (ed_var (i := 8) rfl hx) ev_c)⟩) fun v5 H3 r5 e3 hr5 hv5 => ?_
  obtain ⟨lo, hlo, rfl⟩ := hr5
  dsimp only
  have hord : Dp K H3 v5 (dL (lo.map (·.2))) := by
    rw [List.filter_eq_self.mpr (by simp)] at hv5
    simp only [dL, dNs, List.map_map]
    exact hv5
  generalize hO : lo.map (·.2) = order at hlo hord
  clear hO hv5
  have hol : order.length = n := by have := hlo.length_eq; simpa using this
  have hnd : order.Nodup := hlo.nodup_iff.mpr List.nodup_range
  have EO : ∀ {H4 a b c d}, Ex H3 H4 → EvD K (tVar 4) [some (.int cell), some (vN most), some (vN n), some (vN kd), some v5, a, b, c, d] H4 (dL order) := fun e => ed_var rfl (hord.up e)
  refine sd_new0 fun pt hpt => ?_
  dsimp only
  refine Evl.s_forR2 (lo := 1) (n := (n : Int)) (ea_cons ev_c (ea_cons (ev_var (i := 2) rfl) ea_nil)) ⟨by decide, by decide, by omega, by omega⟩
    (fun i (σ' : L2.St) H' => ∃ (x y : Option V) (xs : List V) (ts : List Ed), σ' = [some (.int cell), some (vN most), some (vN n), some (vN kd), some v5, some (.ref pt), x, y, none] ∧ Ex H3 H' ∧ H' pt = some (.lst xs) ∧ DpAll K H' xs (ts.map dE) ∧ FF (order.take (i + 1)).reverse ts.reverse ∧ ts.length ≤ i)
    (fun H4 e4 => ⟨none, none, [], [], rfl, (ex_new hpt).trans e4, e4 pt _ upd_same, .nil, by
      by_cases h0 : 0 < order.length
      · exact G37.gen_start h0
      · have : order = [] := List.length_eq_zero_iff.mp (by omega)
        rw [this]; exact .nil, Nat.le_refl _⟩) (fun i σ' H' hi pv => ?_) fun σ' H' pv => ?_
  · obtain ⟨x, y, xs, ts, rfl, f1, f2, f3, f4, f5⟩ := pv
    have hi : i + 1 < n := by omega
    have hi1 : ((1 : Int) + (i : Int)) = ((i + 1 : Nat) : Int) := by omega
    rw [hi1]
    have hlx := f3.len
    rw [List.length_map] at hlx
    refine sd_asg (K := K) (ep_four (a := i) (b := (i + 1) / 2) (c := (i + 1) / 4) (m := i + 1) (k := kd) (ei_eq (ei_op0 (g := fun i j => i - j) (ev_var (i := 6) rfl) ev_c) (by omega)) (ei_eq (ei_op (C := CDiv) (g := fun i j => i / j) (ev_var (i := 6) rfl) ev_c ⟨by decide, by decide⟩) (by omega)) (ei_eq (ei_op (C := CDiv) (g := fun i j => i / j) (ev_var (i := 6) rfl) ev_c ⟨by decide, by decide⟩) (by omega)) (ed_call (cell, 300 + (i + 1), i + 1) (eda_cons (ed_int (ev_var rfl)) (eda_cons (ed_int (ei_eq (ei_op0 (g := fun i j => i + j) ev_c (ev_var (i := 6) rfl)) (by push_cast; rfl))) (eda_cons (ed_int (ev_var (i := 6) rfl)) eda_nil))) ⟨by dsimp only; omega, by dsimp only; omega, by dsimp only; omega⟩) (ev_var (i := 3) rfl) (by omega) (by omega) (by omega) hkd) fun v7 H4 r7 e4 hr7 hv7 => ?_
    obtain ⟨o1, ho1, rfl⟩ := hr7
    have hv7 := hv7.int_v
    subst hv7
    dsimp only
    -- what follows once over is known
    have tail : ∀ (o : Nat) (H5 : Hp), o < i + 1 → Ex H3 H5 → Ex H4 H5 → ∀ D : Ends, D.nx = (fun (σ' : L2.St) H' => ∃ (x y : Option V) (xs : List V) (ts : List Ed), σ' = [some (.int cell), some (vN most), some (vN n), some (vN kd), some v5, some (.ref pt), x, y, none] ∧ Ex H3 H' ∧ H' pt = some (.lst xs) ∧ DpAll K H' xs (ts.map dE) ∧ FF (order.take (i + 1 + 1)).reverse ts.reverse ∧ ts.length ≤ i + 1) →
        tIfS (tTest (tOp (rI0 fun i j => .bl (decide (j < i))) (tCall (sp__law_draw K) [] L2.E0 (tCons (tVar 0) (tCons (tOp (rI0 fun i j => .int (i + j)) (tC (.int 600)) (tVar 6)) (tCons (tC (.int 9)) tNil)))) (tC (.int 0))))
          (tDrop (tBM K "list" rAppend (tVar 5) (tCons (tTup (tCons (tCB rMin2 (tCons (tOp (rIx K) (tVar 4) (tVar 7)) (tCons (tOp (rIx K) (tVar 4) (tVar 6)) tNil))) (tCons (tCB rMax2 (tCons (tOp (rIx K) (tVar 4) (tVar 7)) (tCons (tOp (rIx K) (tVar 4) (tVar 6)) tNil))) tNil))) tNil))) tNext D [some (.int cell), some (vN most), some (vN n), some (vN kd), some v5, some (.ref pt), some (vN (i + 1)), some (vN o), none] H5 := fun o H5 ho e35 e45 D hD => by
      have g1 := e45 _ _ (e4 _ _ f2)
      have g2 := f3.up (e4.trans e45)
      refine sd_ifN (etn_gtI ((ed_call (cell, 600 + (i + 1), 9) (eda_cons (ed_int (ev_var rfl)) (eda_cons (ed_int (ei_eq (ei_op0 (g := fun i j => i + j) ev_c (ev_var (i := 6) rfl)) (by push_cast; rfl))) (eda_cons (ed_int ev_c) eda_nil))) ⟨by dsimp only; omega, by dsimp only; omega, by dsimp only; omega⟩).imp fun d h => by
        obtain ⟨m, _, rfl⟩ := h
        exact ⟨_, rfl⟩) ev_c) (fun H6 e6 => ?_) fun H6 e6 => ?_
      · have ho' : o < order.length := by omega
        have hp' : i + 1 < order.length := by omega
        have io : ∀ {H7}, Ex H3 H7 → Ev (tOp (rIx K) (tVar 4) (tVar 7)) [some (.int cell), some (vN most), some (vN n), some (vN kd), some v5, some (.ref pt), some (vN (i + 1)), some (vN o), none] H7 (vN order[o]) := fun e => ei_of (ep_ixL (EO e) (ev_var (i := 7) rfl) (atI_n (by rw [List.getElem?_map, List.getElem?_eq_getElem ho']; rfl)))
        have ip : ∀ {H7}, Ex H3 H7 → Ev (tOp (rIx K) (tVar 4) (tVar 6)) [some (.int cell), some (vN most), some (vN n), some (vN kd), some v5, some (.ref pt), some (vN (i + 1)), some (vN o), none] H7 (vN order[i + 1]) := fun e => ei_of (ep_ixL (EO e) (ev_var (i := 6) rfl) (atI_n (by rw [List.getElem?_map, List.getElem?_eq_getElem hp']; rfl)))
        have e36 := e35.trans e6
        refine sd_app (K := K) (R := fun r => r = dE (tie order[o] order[i + 1])) (ev_var (i := 5) rfl) (e6 _ _ g1) (ed_tie (io e36) (ip e36) (io e36) (ip e36)) (by omega) fun v8 H7 r8 e7 hr8 hv8 hp7 => ?_
        subst hr8
        rw [hD]
        refine ⟨_, _, xs ++ [v8], ts ++ [tie order[o] order[i + 1]], rfl, ex_mut (e36.trans e7) hpt, upd_same, ?_, G37.gen_tie hnd hp' ho f4 rfl, by simp; omega⟩
        rw [List.map_append]
        exact DpAll.app (dps_tx ((tx_ex (e6.trans e7)).trans (tx_upd hp7)) (noLs_map noL_E _) g2) (.one (dp_tx (tx_upd hp7) (noL_E _) hv8))
      · unfold tNext
        rw [hD]
        exact ⟨_, _, xs, ts, rfl, e35.trans e6, e6 _ _ g1, g2.up e6, G37.gen_skip hnd (by omega) f4, by omega⟩
    refine sd_ifN (etn_eqI ((ed_call (cell, 400 + (i + 1), 3) (eda_cons (ed_int (ev_var rfl)) (eda_cons (ed_int (ei_eq (ei_op0 (g := fun i j => i + j) ev_c (ev_var (i := 6) rfl)) (by push_cast; rfl))) (eda_cons (ed_int ev_c) eda_nil))) ⟨by dsimp only; omega, by dsimp only; omega, by dsimp only; omega⟩).imp fun d h => by
      obtain ⟨m, _, rfl⟩ := h
      exact ⟨_, rfl⟩) ev_c) (fun H5 e5 => ?_) fun H5 e5 => ?_
    · refine sd_asg (K := K) (ed_call (cell, 500 + (i + 1), i + 1) (eda_cons (ed_int (ev_var rfl)) (eda_cons (ed_int (ei_eq (ei_op0 (g := fun i j => i + j) ev_c (ev_var (i := 6) rfl)) (by push_cast; rfl))) (eda_cons (ed_int (ev_var (i := 6) rfl)) eda_nil))) ⟨by dsimp only; omega, by dsimp only; omega, by dsimp only; omega⟩) fun v8 H6 r8 e6 hr8 hv8 => ?_
      obtain ⟨o2, ho2, rfl⟩ := hr8
      have hv8 := hv8.int_v
      subst hv8
      dsimp only
      exact tail o2 H6 ho2 (((f1.trans e4).trans e5).trans e6) (e5.trans e6) _ rfl
    · unfold tNext
      dsimp only
      exact tail o1 H5 ho1 ((f1.trans e4).trans e5) e5 _ rfl
  · obtain ⟨x, y, xs, ts, rfl, f1, f2, f3, f4, f5⟩ := pv
    dsimp only
    have htk : order.take ((((n : Int) - 1).toNat) + 1) = order.take n := by
      by_cases h0 : n = 0
      · have : order = [] := List.length_eq_zero_iff.mp (by omega)
        rw [this]; simp
      · congr 1; omega
    rw [htk] at f4
    have hfo := G37.gen_done hlo f4
    have hts := ep_sortD (K := K) (ta := tVar 5) (σ := [some (.int cell), some (vN most), some (vN n), some (vN kd), some v5, some (.ref pt), x, y, none]) ts dE (ed_var rfl (.lst (sq_of f2) f3)) (fun a _ b _ => alike_ints [a.1, a.2] [b.1, b.2]) (fun a _ => ⟨_, _, rfl⟩) (fun a _ => by show 1 ≤ 8; decide)
    refine sd_ret (K := K) (ep_tup (R := fun r => ∃ n es, Web n es ∧ n ≤ most ∧ r = dWeb n es) (epa_two (ed_int (ev_var (i := 2) rfl)) (ep_tupOf (R := fun r => ∃ es, Web n es ∧ r = dEs es) hts fun dd h => ?_)) fun ds h => ?_) fun v9 H9 r9 e9 hr9 hv9 => q v9 H9 r9 ((((e1.trans e2).trans e3).trans f1).trans e9) hr9 hv9
    · obtain ⟨es', h1, h2, h3⟩ := h
      exact ⟨_, h3, es', G37.sorted_web hfo (by omega) h1 (ge_of_srt h2), rfl⟩
    · obtain ⟨d', h1, es', h2, h3⟩ := h
      subst h1 h3
      exact ⟨by simp, n, es', h2, by omega, rfl⟩
end
end W37
/-! the parts come together; a hung place -/
namespace W37
open PySem PySem.Spec PyProof.Rows L2
open Evl (Ex Ev EvT EvA EvL EvO et_test et_B et_and et_or et_not ev_var ev_c ea_nil ea_cons ev_andV ev_orV ev_notV s_if)
open G37 (Ed nb tie ltE Web RE capS cap2 nu cnt FF roots comp outOf esOf totR prodR)
theorem sq_ex {K : PySem.W.Frag} {H H' : Hp} {a : Addr} {xs : List V} (e : Ex H H') (h : SqL K H a xs) : SqL K H' a xs := sqL_up e h
section
variable {P : Program} {w : World} {K : PySem.W.Frag} {mg : Str → Option Value} {base : Heap}
abbrev s__law_parts_right : Stmt := top 65
theorem sc__law_parts_right : FnScope ["_law_web", "_law_total", "_law_times", "_law_part", "_law_alone", "_law_place"] ["_law_web"] (defScope s__law_parts_right) := ⟨rfl, rfl, rfl, by decide +kernel, rfl, by decide +kernel, by decide +kernel⟩
theorem kp__law_parts_right (D : Df K mg "_law_parts_right" s__law_parts_right ["_law_web"]) (B : Bare mg) (h_parts : Kp P w K mg base "parts" 5 ["web"] (sp_parts K)) (h_without : Kp P w K mg base "without" 5 ["web", "places"] (sp_without K)) (h_forest_fewest : Kp P w K mg base "forest_fewest" 7 ["web", "ends"] (sp_forest_fewest K)) (h_forest_count : Kp P w K mg base "forest_count" 6 ["web"] (sp_forest_count K)) : Kp P w K mg base "_law_parts_right" 8 ["_law_web"] (sp__law_parts_right K) := by
  obtain ⟨f_parts, fd_parts, F_parts, g_parts, k_parts, b_parts⟩ := h_parts
  obtain ⟨f_without, fd_without, F_without, g_without, k_without, b_without⟩ := h_without
  obtain ⟨f_forest_fewest, fd_forest_fewest, F_forest_fewest, g_forest_fewest, k_forest_fewest, b_forest_fewest⟩ := h_forest_fewest
  obtain ⟨f_forest_count, fd_forest_count, F_forest_count, g_forest_count, k_forest_count, b_forest_count⟩ := h_forest_count
  refine D.kp sc__law_parts_right (spD_len (fun _ => rfl)) (fun f cdv A outer s H vs Q E hr h => ?_)
  refine ⟨_, (pss_cons (ps_set (i := 1) sc__law_parts_right.nd (by rfl) (by first | exact Or.inl rfl | exact Or.inr rfl) pe_int)
  (pss_cons (ps_set (i := 2) sc__law_parts_right.nd (by rfl) (by first | exact Or.inl rfl | exact Or.inr rfl) pe_int)
  (pss_cons (ps_for PassesOwn.never rfl (pi_list (pe_call F_parts (hr.mono (by decide)) (by rfl) g_parts k_parts b_parts .nil pass0 (pa_cons (pv 0) pa_nil))) (pg_name (i := 3) sc__law_parts_right.nd (by rfl) (by first | exact Or.inl rfl | exact Or.inr rfl))
  (pss_cons (ps_set (i := 4) sc__law_parts_right.nd (by rfl) (by first | exact Or.inl rfl | exact Or.inr rfl) (pe_call F_without (hr.mono (by decide)) (by rfl) g_without k_without b_without .nil pass0 (pa_cons (pv 0) (pa_cons (pe_callTy (r := rTupOf K) cr_tupOf (by rfl) B.tuple (by decide +kernel) (pa_cons (pe_lc (own := [("_law_place", 5)]) rfl sc__law_parts_right.nd (pi_range1 (by rfl) B.range (pa_cons (pe_ix (r := rIx K) ix_seq (pv 0) pe_int (fun _ _ => rfl)) pa_nil)) (blkOk_by (N := ["_law_web", "_law_total", "_law_times", "_law_part", "_law_alone", "_law_place"]) (sc := (defScope s__law_parts_right)) (by decide +kernel)) (fun _ _ _ _ _ => (pg_name (i := 5) sc__law_parts_right.nd (by rfl) (by first | exact Or.inl rfl | exact Or.inr rfl))) (fun _ _ _ _ _ => pts_one (pt_cmpR (r := rIn K true) op_notIn_seq (pv 5) (pv 3) (by rfl))) (fun _ _ _ _ _ => (pv 5))) pa_nil)) pa_nil))))
  (pss_cons (ps_set (i := 1) sc__law_parts_right.nd (by rfl) (by first | exact Or.inl rfl | exact Or.inr rfl) (pe_op op_add (pv 1) (pe_call F_forest_fewest (hr.mono (by decide)) (by rfl) g_forest_fewest k_forest_fewest b_forest_fewest .nil pass0 (pa_cons (pv 4) (pa_cons (pe_tup pa_nil) pa_nil)))))
  (pss_one (ps_set (i := 2) sc__law_parts_right.nd (by rfl) (by first | exact Or.inl rfl | exact Or.inr rfl) (pe_op op_mul (pv 2) (pe_call F_forest_count (hr.mono (by decide)) (by rfl) g_forest_count k_forest_count b_forest_count .nil pass0 (pa_cons (pv 4) pa_nil))))))))
  (pss_one (ps_ret (pe_and (pe_cmpR op_eq (pv 1) (pe_call F_forest_fewest (hr.mono (by decide)) (by rfl) g_forest_fewest k_forest_fewest b_forest_fewest .nil pass0 (pa_cons (pv 0) (pa_cons (pe_tup pa_nil) pa_nil))) (by rfl)) (pe_one (pe_cmpR op_eq (pv 2) (pe_call F_forest_count (hr.mono (by decide)) (by rfl) g_forest_count k_forest_count b_forest_count .nil pass0 (pa_cons (pv 0) pa_nil)) (by rfl))))))))), ?_⟩
  obtain ⟨⟨n, es⟩, hd, hw, q⟩ := h
  dsimp only at hw q
  cases hd with | cons p1 hd =>
  cases hd
  have hn : n ≤ 60 := hw.le
  have hf : G37.Fo n es := hw.fo
  have hel := hf.le
  rename_i t
  have E0 : ∀ {H1 a b c d e}, Ex H H1 → EvD K (tVar 0) [some t, a, b, c, d, e] H1 (dWeb n es) := fun e => ed_var rfl (p1.up e)
  refine sd_asgV ev_c fun H1 e1 => ?_
  dsimp only
  refine sd_asgV ev_c fun H2 e2 => ?_
  dsimp only
  have e12 := e1.trans e2
  refine sd_forL (K := K) ((roots n es).map (comp n es)) dT noL_T (ed_call (n, es) (eda_cons (E0 e12) eda_nil) hw)
    (fun H3 i σ' H' => ∃ x3 x4, σ' = [some t, some (.int (totR n es ((roots n es).take i))), some (.int (prodR n es ((roots n es).take i))), x3, x4, none] ∧ Ex H3 H')
    (fun H3 e3 => ⟨none, none, by rw [List.take_zero]; rfl, ex_r _⟩) (fun H3 i σ' H' e3 pv => by obtain ⟨_, _, _, h⟩ := pv; exact tx_ex h) (fun H3 i σ' H' a xs e3 hs _ pv => by obtain ⟨_, _, _, h⟩ := pv; exact sqL_up h hs) (fun H3 i a x σ' H' e3 hi pv hx => ?_) (fun H3 σ' H' e3 pv => ?_)
  · obtain ⟨x3, x4, rfl, f1⟩ := pv
    rw [List.getElem?_map] at hi
    obtain ⟨r, hr, rfl⟩ := Option.map_eq_some_iff.mp hi
    have eH := (e12.trans e3).trans f1
    have hout : outOf n es r = (List.range n).filter fun v => !(comp n es r).contains v := rfl
    have hpl : Places n (outOf n es r) := ⟨by
      have := List.length_filter_le (fun v => !(comp n es r).contains v) (List.range n)
      rw [List.length_range] at this
      rw [hout]; omega, by rw [hout]; exact List.Pairwise.filter _ List.pairwise_lt_range, fun v hv => by
      rw [hout] at hv
      exact List.mem_range.mp (List.mem_filter.mp hv).1⟩
    refine sd_asg (K := K) (ed_call ((n, es), outOf n es r) (eda_cons (E0 eH) (eda_cons (ed_tupOf (ed_lcR (n := n) (fun v => !(comp n es r).contains v) dI good_name (ea_cons (ev_many (E0 eH) ev_c) ea_nil) (by simp) (by omega) (by omega) (fun _ => rfl) fun i H4 hi e4 => ⟨rfl, rfl, et_eq (et_test (eb_inT (neg := true) (n := i) (ev_var (i := 5) rfl) (ed_var (i := 3) rfl (hx.up e4)))) (by simp [List.contains_eq_mem]), fun _ => ed_int (ev_var (i := 5) rfl)⟩)) eda_nil)) ⟨hw, hpl⟩) fun v4 H4 r4 e4 hr4 hv4 => ?_
    subst hr4
    dsimp only
    have hlw := hw.left (outOf n es r)
    have hall := G37.alone_few hf r
    have hko := G37.kept_out n es r
    have E4 : ∀ {H5 a b}, Ex H4 H5 → EvD K (tVar 4) [some t, a, b, some x, some v4, none] H5 (dWeb (G37.keptL n (outOf n es r)).length (G37.leftE n (outOf n es r) es)) := fun e => ed_var rfl (hv4.up e)
    have hrs : (roots n es).take (i + 1) = (roots n es).take i ++ [r] := by rw [List.take_succ, hr]; rfl
    refine sd_asgV (ei_op0 (g := fun i j => i + j) (ev_var (i := 1) rfl) (ei_of (ed_call (((G37.keptL n (outOf n es r)).length, G37.leftE n (outOf n es r) es), []) (eda_cons (E4 (ex_r _)) (eda_cons (ed_tup eda_nil (by simp)) eda_nil)) ⟨hlw, ⟨by simp, by simp, by simp⟩⟩))) fun H5 e5 => ?_
    dsimp only
    have hcl : cnt (G37.leftE n (outOf n es r) es) cap2 ≤ 2 ^ 60 := Nat.le_trans (G37.cnt_le _ _) (Nat.pow_le_pow_right (by decide) (by have := hlw.fo.le; have := hlw.le; omega))
    refine sd_asgV (ei_op (C := CMul) (g := fun i j => i * j) (ev_var (i := 2) rfl) (ei_of (ed_call ((G37.keptL n (outOf n es r)).length, G37.leftE n (outOf n es r) es) (eda_cons (E4 e5) eda_nil) hlw)) (.inr ⟨by omega, by
      have : ((cnt (G37.leftE n (outOf n es r) es) cap2 : Nat) : Int) ≤ ((2 ^ 60 : Nat) : Int) := by exact_mod_cast hcl
      have h2 : ((2 ^ 60 : Nat) : Int) < 2 ^ 64 := by decide
      exact Int.lt_of_le_of_lt this h2⟩)) fun H6 e6 => ?_
    dsimp only
    refine ⟨some x, some v4, ?_, ((f1.trans e4).trans e5).trans e6⟩
    rw [hrs, G37.totR_snoc, G37.prodR_snoc, G37.capS_nil, hko]
    have h1 : nu (G37.leftE n (outOf n es r) es) cap2 = nu (esOf n es r) cap2 := congrArg Prod.fst hall
    have h2 : cnt (G37.leftE n (outOf n es r) es) cap2 = cnt (esOf n es r) cap2 := congrArg Prod.snd hall
    rw [h1, h2]
    rfl
  · obtain ⟨x3, x4, rfl, f1⟩ := pv
    rw [List.length_map, List.take_length, G37.totR_all hf, G37.prodR_all hf]
    have eH := (e12.trans e3).trans f1
    dsimp only
    refine sd_ret (K := K) (R := fun r => r = .bool true) (ed_bl (eb_eq (ev_andV (eb_eqI (ev_var (i := 1) rfl) (ei_of (ed_call ((n, es), []) (eda_cons (E0 eH) (eda_cons (ed_tup eda_nil (by simp)) eda_nil)) ⟨hw, ⟨by simp, by simp, by simp⟩⟩))) fun _ => eb_eqI (ev_var (i := 2) rfl) (ei_of (ed_call (n, es) (eda_cons (E0 eH) eda_nil) hw))) ?_)) fun v9 H9 r9 e9 hr9 hv9 => q v9 H9 r9 (eH.trans e9) hr9 hv9
    rw [G37.capS_nil]
    simp
abbrev s__law_hung : Stmt := top 66
theorem sc__law_hung : FnScope ["_law_web", "_law_place"] ["_law_web", "_law_place"] (defScope s__law_hung) := ⟨rfl, rfl, rfl, by decide +kernel, rfl, by decide +kernel, by decide +kernel⟩
theorem kp__law_hung (D : Df K mg "_law_hung" s__law_hung ["_law_web", "_law_place"]) (B : Bare mg) : Kp P w K mg base "_law_hung" 1 ["_law_web", "_law_place"] (sp__law_hung K) := by
  refine D.kp sc__law_hung (spD_len (fun _ => rfl)) (fun f cdv A outer s H vs Q E hr h => ?_)
  refine ⟨_, (pss_one (ps_ret (pe_tup (pa_cons (pe_op op_add (pe_ix (r := rIx K) ix_seq (pv 0) pe_int (fun _ _ => rfl)) pe_int) (pa_cons (pe_callTy (r := rTupOf K) cr_tupOf (by rfl) B.tuple (by decide +kernel) (pa_cons (pe_callB (r := rSortD K) (cr_sortD hr.units) (by rfl) B.sorted (by decide +kernel) (pa_cons (pe_op op_cat (pe_callTy (r := rLstOf K) cr_lstOf (by rfl) B.list (by decide +kernel) (pa_cons (pe_ix (r := rIx K) ix_seq (pv 0) pe_int (fun _ _ => rfl)) pa_nil)) (pe_lst (pa_cons (pe_tup (pa_cons (pv 1) (pa_cons (pe_ix (r := rIx K) ix_seq (pv 0) pe_int (fun _ _ => rfl)) pa_nil))) pa_nil))) pa_nil)) pa_nil)) pa_nil))))), ?_⟩
  obtain ⟨⟨⟨n, es⟩, p⟩, hd, ⟨hw, hn, hp⟩, q⟩ := h
  dsimp only at hw hn hp q
  cases hd with | cons p1 hd => cases hd with | cons p2 hd =>
  cases hd
  have v2 := p2.int_v
  subst v2
  have hf : G37.Fo n es := hw.fo
  have hel := hf.le
  rename_i t
  have E0 : EvD K (tVar 0) [some t, some (vN p)] H (dWeb n es) := ed_var rfl p1
  have hX := ex_cat (K := K) (ex_lstOf (ed_ties E0 (ev_c (v := .int 1)))) (ex_lst (eda_cons (ed_tup (eda_cons (ed_int (ev_var (i := 1) rfl)) (eda_cons (ed_int (ev_many E0 (ev_c (v := .int 0)))) eda_nil)) (by simp)) eda_nil) (by simp)) (by simp; omega)
  have hL : EvD K _ _ H (.list ((es ++ [(p, n)]).map dE)) := hX.ed.imp fun d h => by rw [h, List.map_append]; rfl
  have hS := ep_sortD (K := K) (es ++ [(p, n)]) dE hL (fun a _ b _ => alike_ints [a.1, a.2] [b.1, b.2]) (fun a _ => ⟨_, _, rfl⟩) (fun a _ => by show 1 ≤ 8; decide)
  refine sd_ret (K := K) (ep_tup (R := fun r => ∃ es', es'.Perm ((p, n) :: es) ∧ Web (n + 1) es' ∧ r = dWeb (n + 1) es') (epa_two (d := dI (n + 1)) (ed_int (ei_eq (ei_op0 (g := fun i j => i + j) (ev_many E0 ev_c) ev_c) (by push_cast; rfl))) (ep_tupOf (R := fun r => ∃ es', es'.Perm ((p, n) :: es) ∧ Web (n + 1) es' ∧ r = dEs es') hS fun dd h => ?_)) fun ds h => ?_) fun v9 H9 r9 e9 hr9 hv9 => q v9 H9 r9 e9 hr9 hv9
  · obtain ⟨es', h1, h2, h3⟩ := h
    have h4 : es'.Perm ((p, n) :: es) := h1.trans (List.perm_append_singleton _ _)
    exact ⟨_, h3, es', h4, G37.sorted_web (hf.hung hp) (by omega) h4 (ge_of_srt h2), rfl⟩
  · obtain ⟨d', h1, es', h2, h3, h4⟩ := h
    subst h1 h4
    exact ⟨by simp, es', h2, h3, rfl⟩
end
end W37
/-! a chain of three comparisons; truths compared -/
namespace W37
open PySem PySem.Spec PyProof.Rows L2
open Evl (Ex Ev EvT EvA EvL)
open G37 (Ed)
section
variable {X : Cx} {a b c d : Expr} {ta tb tc td : TE} {pos : Pos}
def tChain3 (r r' r'' : R2) (ta tb tc td : TE) : TT := fun σ H Q => ta σ H fun x H1 => tb σ H1 fun y H2 => r x y H2 fun z H3 => ∃ k, z = .bl k ∧
  (if k = true then tc σ H3 fun w H4 => r' y w H4 fun z' H5 => ∃ k', z' = .bl k' ∧ (if k' = true then td σ H5 fun u H6 => r'' w u H6 fun z'' H7 => ∃ k'', z'' = .bl k'' ∧ Q k'' H7 else Q false H5) else Q false H3)
theorem pt_chain3 {op op' op'' : CmpOp} {r r' r'' : R2} (ho : OpR X (compareOp op) r) (ho' : OpR X (compareOp op') r') (ho'' : OpR X (compareOp op'') r'') (ha : PE X a ta) (hb : PE X b tb) (hc : PE X c tc) (hd : PE X d td)
    (hm : lastMarks [op, op', op''] [b, c, d] = false := by with_unfolding_all rfl) : PT X (.Compare a [op, op', op''] [b, c, d] pos) (tChain3 r r' r'' ta tb tc td) := by
  refine ⟨fun pins s σ H Q I h => ?_⟩
  refine isTrue_chain (thn (ha.run pins s σ H _ I h) fun v s1 ⟨x, H1, I1, r1, q1⟩ => test_link (thn (hb.run pins s1 σ H1 _ I1 q1) fun u s2 ⟨y, H2, I2, r2, q2⟩ =>
    thn (ho pins s2 σ H2 x y v u _ I2 r1 r2 q2) fun d s3 ⟨z, H3, I3, r3, k, e, q3⟩ => ?_)) hm
  subst e
  cases r3
  refine wpAny_truthy_bool ?_
  cases k with
  | false => exact ite_ff ⟨H3, I3, q3⟩
  | true =>
    refine ite_tt (test_link (thn (hc.run pins s3 σ H3 _ I3 q3) fun w' s4 ⟨z', H4, I4, r4, q4⟩ => thn (ho' pins s4 σ H4 y z' u w' _ I4 r2 r4 q4) fun d' s5 ⟨z2, H5, I5, r5, k2, e2, q5⟩ => ?_))
    subst e2
    cases r5
    refine wpAny_truthy_bool ?_
    cases k2 with
    | false => exact ite_ff ⟨H5, I5, q5⟩
    | true =>
      refine ite_tt (test_last (thn (hd.run pins s5 σ H5 _ I5 q5) fun w2 s6 ⟨z3, H6, I6, r6, q6⟩ => thn (ho'' pins s6 σ H6 z' z3 w' w2 _ I6 r4 r6 q6) fun d2 s7 ⟨z4, H7, I7, r7, k3, e3, q7⟩ => ?_))
      subst e3
      cases r7
      exact wpAny_truthy_bool ⟨H7, I7, q7⟩
end
section
variable {K : PySem.W.Frag} {σ : L2.St} {H H' : Hp} {ta tb tc td te : TE} {R R' R2' R3 : PyData → Prop}
abbrev rLe : R2 := rI0 fun i j => .bl (decide (i ≤ j))
theorem et_le3 {i j k l : Int} (ha : Ev ta σ H (.int i)) (hb : Ev tb σ H (.int j)) (hc : Ev tc σ H (.int k)) (hd : Ev td σ H (.int l)) (h1 : i ≤ j) (h2 : j ≤ k) (h3 : k ≤ l) : EvT (tChain3 rLe rLe rLe ta tb tc td) σ H true := fun H1 e Q q => ha H1 e _ fun H2 e2 => hb H2 (e.trans e2) _ fun H3 e3 =>
  ⟨i, j, rfl, rfl, true, by show V.bl (decide (i ≤ j)) = V.bl true; rw [decide_eq_true h1], iteT (hc H3 ((e.trans e2).trans e3) _ fun H4 e4 => ⟨j, k, rfl, rfl, true, by show V.bl (decide (j ≤ k)) = V.bl true; rw [decide_eq_true h2], iteT (hd H4 (((e.trans e2).trans e3).trans e4) _ fun H5 e5 => ⟨k, l, rfl, rfl, true, by show V.bl (decide (k ≤ l)) = V.bl true; rw [decide_eq_true h3], q H5 (((e2.trans e3).trans e4).trans e5)⟩)⟩)⟩
theorem et_le2 {i j k : Int} (ha : Ev ta σ H (.int i)) (hb : Ev tb σ H (.int j)) (hc : Ev tc σ H (.int k)) (h1 : i ≤ j) (h2 : j ≤ k) : EvT (tTest (tChain rLe rLe ta tb tc)) σ H true := fun H1 e Q q => ha H1 e _ fun H2 e2 => hb H2 (e.trans e2) _ fun H3 e3 =>
  ⟨i, j, rfl, rfl, true, by show V.bl (decide (i ≤ j)) = V.bl true; rw [decide_eq_true h1], iteT (hc H3 ((e.trans e2).trans e3) _ fun H4 e4 => ⟨j, k, rfl, rfl, true, by show V.bl (decide (j ≤ k)) = V.bl true; rw [decide_eq_true h2], q H4 ((e2.trans e3).trans e4)⟩)⟩
theorem eb_notB {a b : Bool} (ha : Ev ta σ H (.bl a)) (hb : Ev tb σ H (.bl b)) : Ev (tOp rNotB ta tb) σ H (.bl (!decide (a = b))) := Evl.ev_op ha hb fun H1 e Q q => ⟨a, b, rfl, rfl, q H1 (Ex.refl _)⟩
theorem eb_neB {a b : Bool} (ha : Ev ta σ H (.bl a)) (hb : Ev tb σ H (.bl b)) : Ev (tOp rNe ta tb) σ H (.bl (!decide (a = b))) := Evl.ev_op ha hb fun H1 e Q q => ⟨rfl, by
  have : decide (V.bl a = V.bl b) = decide (a = b) := by simp
  rw [this]; exact q H1 (Ex.refl _)⟩
/-- the first plain, the others told -/
theorem epa_three {d : PyData} (h : EvD K ta σ H d) (h2 : EvP K tb σ H R) (h3 : EvP K tc σ H R') : EvPA K (tCons ta (tCons tb (tCons tc tNil))) σ H (fun ds => ∃ d2 d3, ds = [d, d2, d3] ∧ R d2 ∧ R' d3) := fun H1 e Q q =>
  h H1 e _ fun v H2 d' e2 r p => h2 H2 (e.trans e2) _ fun v2 H3 d2 e3 r2 p2 => h3 H3 ((e.trans e2).trans e3) _ fun v3 H4 d3 e4 r3 p3 => by
    subst r
    exact q [v, v2, v3] H4 _ ((e2.trans e3).trans e4) ⟨d2, d3, rfl, r2, r3⟩ (.cons (p.up (e3.trans e4)) (.cons (p2.up e4) (.one p3)))
theorem shaped_E : ∀ l : List Ed, SeqAt.shaped (dEs l) = true := fun l => by
  unfold SeqAt.shaped
  have h1 : ∀ l : List Ed, PyData.canLayAll0 (l.map dE) = true := fun l => by
    induction l with
    | nil => rfl
    | cons a l ih => show (true && PyData.canLayAll0 (l.map dE)) = true; rw [ih]; rfl
  have h2 : ∀ l : List Ed, PyData.depthAll (l.map dE) ≤ 1 := fun l => by
    induction l with
    | nil => exact Nat.zero_le _
    | cons a l ih => show max 1 (PyData.depthAll (l.map dE)) ≤ 1; omega
  show (PyData.canLayAll0 (l.map dE) && decide (PyData.depthAll (l.map dE) + 1 ≤ 64)) = true
  rw [h1, decide_eq_true (by have := h2 l; omega)]; rfl
theorem eqv_E0 (l : List Ed) : PyData.eqv (dEs l) (dT []) = decide (l = []) := by
  cases l with
  | nil => rfl
  | cons a l => rfl
end
end W37
/-! the law -/
namespace W37
open PySem PySem.Spec PyProof.Rows L2
open Evl (Ex Ev EvT EvA EvL EvO et_test et_B et_and et_or et_not ev_var ev_c ea_nil ea_cons ev_andV ev_orV ev_notV s_if)
open G37 (Ed nb tie ltE Web RE capS cap2 nu cnt FF roots comp outOf esOf totR prodR Taken Prt inner keptL leftE wayE)
def sp_law (K : PySem.W.Frag) : Sp := fun vs H Q _ => ∃ (a : Addr) (ns : List Int), vs = [V.ref a] ∧ SqL K H a (ns.map V.int) ∧ ns.length ≤ 63 ∧ ∀ H', Q (.bl true) H'
theorem len_law (K : PySem.W.Frag) : ∀ vs H Q E, sp_law K vs H Q E → vs.length = 1 := by
  rintro vs H Q E ⟨a, ns, rfl, _⟩
  rfl
theorem nodup_flat : ∀ {Q : List (List Nat)}, Q.flatten.Nodup → ∀ {w : List Nat}, w ∈ Q → w.Nodup
  | q :: Q, h, w, hw => by
    rw [List.flatten_cons, List.nodup_append] at h
    rcases List.mem_cons.mp hw with e | e
    · subst e; exact h.1
    · exact nodup_flat h.2.1 e
theorem len_flat : ∀ {Q : List (List Nat)} {w : List Nat}, w ∈ Q → w.length ≤ Q.flatten.length
  | q :: Q, w, h => by
    rw [List.flatten_cons, List.length_append]
    rcases List.mem_cons.mp h with h | h
    · subst h; omega
    · have := len_flat h; omega
/-- what parting and bar give is a bar paper -/
theorem paper_ok {n : Nat} {es T T2 : List Ed} {S B1 B : List Nat} {Q : List (List Nat)} (w : Web n es) (pl : Places n S) (t1 : Taken n es (capS S) T B1) (p : Prt n T Q) (t2 : Taken n es (capS S) T2 B) (hB : B.Pairwise (· < ·)) : Paper n es S Q B := by
  have hn := w.le
  have hnd : Q.flatten.Nodup := p.pm.nodup_iff.mpr List.nodup_range
  have hlen : Q.flatten.length = n := by rw [p.pm.length_eq, List.length_range]
  have hTT : T2.length = T.length := by rw [t1.nu w.fo, t2.nu w.fo]
  refine ⟨w, pl, fun v hv => ⟨p.ne v hv, nodup_flat hnd hv, fun x hx => List.mem_range.mp (p.pm.mem_iff.mp (List.mem_flatten.mpr ⟨v, hv, hx⟩)), fun e he => t1.sub e (p.ch v hv e he), by have := len_flat hv; omega⟩, p.pm, ⟨?_, hB, t2.bsub⟩, fun v hv w' hw' hi => ?_, ?_⟩
  · have : B.length ≤ n := by
      have hb : B.Nodup := hB.imp fun h => Nat.ne_of_lt h
      have := hb.length_le_of_subset (l₂ := List.range n) (fun x hx => List.mem_range.mpr (t2.bsub x hx))
      rwa [List.length_range] at this
    omega
  · have h1 := p.ins w' hw' v hi
    have h2 := t1.deg v (pl.2.2 v hv)
    simp only [capS, hv, if_true] at h2
    omega
  · exact G37.bar_num w.fo t2 (by rw [hTT]; exact p.num)
theorem places_tail {n x : Nat} {S : List Nat} (h : Places n (x :: S)) : Places n S := ⟨by have := h.1; simp at this; omega, (List.pairwise_cons.mp h.2.1).2, fun v hv => h.2.2 v (by simp [hv])⟩
theorem places_drop {n : Nat} {S : List Nat} (h : Places n S) : Places n (S.drop 1) := by
  cases S with
  | nil => exact h
  | cons x S => exact places_tail h
theorem places_nil (n : Nat) : Places n [] := ⟨by simp, by simp, by simp⟩
theorem places_one {n p : Nat} (h : p < n) : Places n [p] := ⟨by simp, by simp, by simpa using h⟩
theorem chain_ok {n : Nat} {es : List Ed} {S : List Nat} (h : Places n S) : ((n : Int) - (nu es cap2 : Int)) ≤ (n : Int) - (nu es (capS (S.drop 1)) : Int) ∧ ((n : Int) - (nu es (capS (S.drop 1)) : Int)) ≤ (n : Int) - (nu es (capS S) : Int) ∧ ((n : Int) - (nu es (capS S) : Int)) ≤ (n : Int) - (nu es (capS (S.drop 1)) : Int) + 1 := by
  have h1 := G37.nu_none es (S.drop 1)
  cases S with
  | nil => simp only [List.drop_nil] at *; omega
  | cons x S =>
    have h2 := G37.nu_ends es x S fun hx => Nat.lt_irrefl x ((List.pairwise_cons.mp h.2.1).1 x hx)
    simp only [List.drop_succ_cons, List.drop_zero] at *
    omega
theorem tail_ok {n : Nat} {es : List Ed} (h : es ≠ []) : ((n : Int) - (nu es cap2 : Int)) ≤ (n : Int) - (nu (es.drop 1) cap2 : Int) ∧ ((n : Int) - (nu (es.drop 1) cap2 : Int)) ≤ (n : Int) - (nu es cap2 : Int) + 1 := by
  cases es with
  | nil => exact absurd rfl h
  | cons e es =>
    have := G37.nu_tail e es cap2
    simp only [List.drop_succ_cons, List.drop_zero]
    omega
theorem web_drop {n : Nat} {es : List Ed} (h : Web n es) : Web n (es.drop 1) := by
  cases es with
  | nil => exact h
  | cons e es => exact h.tail
theorem one_ok {n p : Nat} {es : List Ed} {k : Bool} (hk : k = decide (nu es (capS [p]) = nu es cap2)) : ((n : Int) - (nu es (capS [p]) : Int)) = ((n : Int) - (nu es cap2 : Int)) + (if !k then 1 else 0 : Int) := by
  subst hk
  have a := G37.nu_none es [p]
  have b := (G37.nu_ends es p [] (by simp)).2
  rw [G37.capS_nil] at b
  by_cases h : nu es (capS [p]) = nu es cap2
  · rw [decide_eq_true h, h]; simp
  · rw [decide_eq_false h]; simp; omega
theorem hung_ok {n p : Nat} {es es' : List Ed} {k : Bool} (hf : G37.Fo n es) (hp : p < n) (h : es'.Perm ((p, n) :: es)) (hk : k = decide (nu es (capS [p]) = nu es cap2)) : (!decide (decide ((((n + 1 : Nat) : Int) - (nu es' cap2 : Int)) = ((n : Int) - (nu es cap2 : Int))) = k)) = false := by
  subst hk
  rw [G37.nu_perm h, G37.nu_hung hf hp]
  by_cases h : nu es (capS [p]) = nu es cap2
  · simp [h]; omega
  · simp [h]; omega
section
variable {K : PySem.W.Frag} {σ : L2.St} {H : Hp} {ta tb : TE} {R : PyData → Prop} {d : PyData}
/-- the first told, the second plain -/
theorem epa_two2 (h : EvP K ta σ H R) (h2 : EvD K tb σ H d) : EvPA K (tCons ta (tCons tb tNil)) σ H (fun ds => ∃ d', ds = [d', d] ∧ R d') := fun H1 e Q q =>
  h H1 e _ fun v H2 d' e2 r p => h2 H2 (e.trans e2) _ fun v2 H3 d2 e3 r2 p2 => by
    subst r2
    exact q [v, v2] H3 _ (e2.trans e3) ⟨d', rfl, r⟩ (.cons (p.up e3) (.one p2))
theorem ev_cget {t : TA} {E : XK} {n : Nat} {es : List Ed} (h : EvDA K t σ H [dWeb n es]) (hw : Web n es) (hn : n ≤ 10) (hb : Ev tb σ H (vN (n - nu es cap2))) : Ev (tDGet (tCall (sp_counted K) [] E t) tb) σ H (vN (cnt es cap2)) := fun H1 e Q q => h H1 e _ fun vs H2 ds e2 hr hd => by
  subst hr
  obtain ⟨L, hL⟩ := hw.fo.to
  rw [List.append_nil]
  exact ⟨n, es, L, hd, hw, hn, hL, fun a H3 g e3 hk hg => hb H3 ((e.trans e2).trans e3) _ fun H4 e4 => ⟨a, _, rfl, hg ▸ (hk.up e4).get, q H4 ((e2.trans e3).trans e4)⟩⟩
end
section
variable {P : Program} {w : World} {K : PySem.W.Frag} {mg : Str → Option Value} {base : Heap}
abbrev s_law : Stmt := top 67
theorem sc_law : FnScope ["_law_script", "_law_k", "_law_cell", "_law_web", "_law_few", "_law_ends", "_law_some_here", "_law_opened", "_law_place"] ["_law_script"] (defScope s_law) := ⟨rfl, rfl, rfl, by decide +kernel, rfl, by decide +kernel, by decide +kernel⟩
theorem fn_law {f : Addr} {fd : FuncData} (F : Fun K "law" "law" s_law f fd) (B : Bare mg) (h__law_cell_at : Kp P w K mg base "_law_cell_at" 1 ["_law_script", "_law_k"] (sp__law_cell_at K)) (h__law_forest : Kp P w K mg base "_law_forest" 2 ["_law_cell", "_law_most"] (sp__law_forest K)) (h_forest_fewest : Kp P w K mg base "forest_fewest" 7 ["web", "ends"] (sp_forest_fewest K)) (h__law_some : Kp P w K mg base "_law_some" 2 ["_law_cell", "_law_many", "_law_at"] (sp__law_some K)) (h_open_places : Kp P w K mg base "open_places" 6 ["web"] (sp_open_places K)) (h_is_bar_paper : Kp P w K mg base "is_bar_paper" 5 ["web", "thing"] (sp_is_bar_paper K)) (h_is_forest : Kp P w K mg base "is_forest" 5 ["web"] (sp_is_forest K)) (h__law_parts_right : Kp P w K mg base "_law_parts_right" 8 ["_law_web"] (sp__law_parts_right K)) (h_fewest : Kp P w K mg base "fewest" 26 ["web"] (sp_fewest K)) (h_forest_count : Kp P w K mg base "forest_count" 6 ["web"] (sp_forest_count K)) (h_forest_parting : Kp P w K mg base "forest_parting" 7 ["web", "ends"] (sp_forest_parting K)) (h_forest_bar : Kp P w K mg base "forest_bar" 7 ["web", "ends"] (sp_forest_bar K)) (h__law_hung : Kp P w K mg base "_law_hung" 1 ["_law_web", "_law_place"] (sp__law_hung K)) (h_counted : Kp P w K mg base "counted" 6 ["web"] (sp_counted K)) : FnOk P w K mg base CX0 27 f fd ["_law_script"] (sp_law K) := by
  obtain ⟨f__law_cell_at, fd__law_cell_at, F__law_cell_at, g__law_cell_at, k__law_cell_at, b__law_cell_at⟩ := h__law_cell_at
  obtain ⟨f__law_forest, fd__law_forest, F__law_forest, g__law_forest, k__law_forest, b__law_forest⟩ := h__law_forest
  obtain ⟨f_forest_fewest, fd_forest_fewest, F_forest_fewest, g_forest_fewest, k_forest_fewest, b_forest_fewest⟩ := h_forest_fewest
  obtain ⟨f__law_some, fd__law_some, F__law_some, g__law_some, k__law_some, b__law_some⟩ := h__law_some
  obtain ⟨f_open_places, fd_open_places, F_open_places, g_open_places, k_open_places, b_open_places⟩ := h_open_places
  obtain ⟨f_is_bar_paper, fd_is_bar_paper, F_is_bar_paper, g_is_bar_paper, k_is_bar_paper, b_is_bar_paper⟩ := h_is_bar_paper
  obtain ⟨f_is_forest, fd_is_forest, F_is_forest, g_is_forest, k_is_forest, b_is_forest⟩ := h_is_forest
  obtain ⟨f__law_parts_right, fd__law_parts_right, F__law_parts_right, g__law_parts_right, k__law_parts_right, b__law_parts_right⟩ := h__law_parts_right
  obtain ⟨f_fewest, fd_fewest, F_fewest, g_fewest, k_fewest, b_fewest⟩ := h_fewest
  obtain ⟨f_forest_count, fd_forest_count, F_forest_count, g_forest_count, k_forest_count, b_forest_count⟩ := h_forest_count
  obtain ⟨f_forest_parting, fd_forest_parting, F_forest_parting, g_forest_parting, k_forest_parting, b_forest_parting⟩ := h_forest_parting
  obtain ⟨f_forest_bar, fd_forest_bar, F_forest_bar, g_forest_bar, k_forest_bar, b_forest_bar⟩ := h_forest_bar
  obtain ⟨f__law_hung, fd__law_hung, F__law_hung, g__law_hung, k__law_hung, b__law_hung⟩ := h__law_hung
  obtain ⟨f_counted, fd_counted, F_counted, g_counted, k_counted, b_counted⟩ := h_counted
  refine F.ok sc_law (len_law K) (fun cdv A outer s H vs Q E hr h => ?_)
  refine ⟨_, (pss_cons (ps_for PassesOwn.never rfl (pi_range1 (by rfl) B.range (pa_cons (pe_callB (r := rMax2) (cr_max2 rfl) (by rfl) B.max (by decide +kernel) (pa_cons pe_int (pa_cons (pe_callB (r := rMin2) (cr_min2 rfl) (by rfl) B.min (by decide +kernel) (pa_cons (pe_callB (r := rLn K) cr_len (by rfl) B.len (by decide +kernel) (pa_cons (pv 0) pa_nil)) (pa_cons pe_int pa_nil))) pa_nil))) pa_nil)) (pg_name (i := 1) sc_law.nd (by rfl) (by first | exact Or.inl rfl | exact Or.inr rfl))
  (pss_cons (ps_set (i := 2) sc_law.nd (by rfl) (by first | exact Or.inl rfl | exact Or.inr rfl) (pe_call F__law_cell_at (hr.mono (by decide)) (by rfl) g__law_cell_at k__law_cell_at b__law_cell_at .nil pass0 (pa_cons (pv 0) (pa_cons (pv 1) pa_nil))))
  (pss_cons (ps_set (i := 3) sc_law.nd (by rfl) (by first | exact Or.inl rfl | exact Or.inr rfl) (pe_call F__law_forest (hr.mono (by decide)) (by rfl) g__law_forest k__law_forest b__law_forest .nil pass0 (pa_cons (pv 2) (pa_cons pe_int pa_nil))))
  (pss_cons (ps_set (i := 4) sc_law.nd (by rfl) (by first | exact Or.inl rfl | exact Or.inr rfl) (pe_call F_forest_fewest (hr.mono (by decide)) (by rfl) g_forest_fewest k_forest_fewest b_forest_fewest .nil pass0 (pa_cons (pv 3) (pa_cons (pe_tup pa_nil) pa_nil))))
  (pss_cons (ps_set (i := 5) sc_law.nd (by rfl) (by first | exact Or.inl rfl | exact Or.inr rfl) (pe_call F__law_some (hr.mono (by decide)) (by rfl) g__law_some k__law_some b__law_some .nil pass0 (pa_cons (pv 2) (pa_cons (pe_ix (r := rIx K) ix_seq (pv 3) pe_int (fun _ _ => rfl)) (pa_cons pe_int pa_nil)))))
  (pss_cons (ps_for PassesOwn.never rfl (pi_list (pe_lst (pa_cons (pe_tup pa_nil) (pa_cons (pv 5) (pa_cons (pe_slice (r := rSlA K) sl_tupA (pv 5) (po_some pe_int) po_none) pa_nil))))) (pg_name (i := 6) sc_law.nd (by rfl) (by first | exact Or.inl rfl | exact Or.inr rfl))
  (pss_one (ps_if (pt_cmpR op_notBl (pe_call F_is_bar_paper (hr.mono (by decide)) (by rfl) g_is_bar_paper k_is_bar_paper b_is_bar_paper .nil pass0 (pa_cons (pv 3) (pa_cons (pe_tup (pa_cons (pv 6) (pa_cons (pe_call F_forest_parting (hr.mono (by decide)) (by rfl) g_forest_parting k_forest_parting b_forest_parting .nil pass0 (pa_cons (pv 3) (pa_cons (pv 6) pa_nil))) (pa_cons (pe_call F_forest_bar (hr.mono (by decide)) (by rfl) g_forest_bar k_forest_bar b_forest_bar .nil pass0 (pa_cons (pv 3) (pa_cons (pv 6) pa_nil))) pa_nil)))) pa_nil))) pe_bl (by rfl))
  (pss_one (ps_ret pe_bl))
  pss_nil)))
  (pss_cons (ps_if (pt_not (pt_chain3 op_le op_le op_le (pv 4) (pe_call F_forest_fewest (hr.mono (by decide)) (by rfl) g_forest_fewest k_forest_fewest b_forest_fewest .nil pass0 (pa_cons (pv 3) (pa_cons (pe_slice (r := rSlA K) sl_tupA (pv 5) (po_some pe_int) po_none) pa_nil))) (pe_call F_forest_fewest (hr.mono (by decide)) (by rfl) g_forest_fewest k_forest_fewest b_forest_fewest .nil pass0 (pa_cons (pv 3) (pa_cons (pv 5) pa_nil))) (pe_op op_add (pe_call F_forest_fewest (hr.mono (by decide)) (by rfl) g_forest_fewest k_forest_fewest b_forest_fewest .nil pass0 (pa_cons (pv 3) (pa_cons (pe_slice (r := rSlA K) sl_tupA (pv 5) (po_some pe_int) po_none) pa_nil))) pe_int)))
  (pss_one (ps_ret pe_bl))
  pss_nil)
  (pss_cons (ps_if ((pw_or (pt_cmpR op_notBl (pe_call F_is_forest (hr.mono (by decide)) (by rfl) g_is_forest k_is_forest b_is_forest .nil pass0 (pa_cons (pv 3) pa_nil)) pe_bl (by rfl)) (pw_or1 (pt_not (pt_val (pe_call F__law_parts_right (hr.mono (by decide)) (by rfl) g__law_parts_right k__law_parts_right b__law_parts_right .nil pass0 (pa_cons (pv 3) pa_nil))))))).pt
  (pss_one (ps_ret pe_bl))
  pss_nil)
  (pss_cons (ps_set (i := 7) sc_law.nd (by rfl) (by first | exact Or.inl rfl | exact Or.inr rfl) (pe_call F_open_places (hr.mono (by decide)) (by rfl) g_open_places k_open_places b_open_places .nil pass0 (pa_cons (pv 3) pa_nil)))
  (pss_cons (ps_for PassesOwn.never rfl (pi_range1 (by rfl) B.range (pa_cons (pe_callB (r := rMin2) (cr_min2 rfl) (by rfl) B.min (by decide +kernel) (pa_cons (pe_ix (r := rIx K) ix_seq (pv 3) pe_int (fun _ _ => rfl)) (pa_cons pe_int pa_nil))) pa_nil)) (pg_name (i := 8) sc_law.nd (by rfl) (by first | exact Or.inl rfl | exact Or.inr rfl))
  (pss_cons (ps_if (pt_cmpR op_ne (pe_cmpR op_eq (pe_call F_forest_fewest (hr.mono (by decide)) (by rfl) g_forest_fewest k_forest_fewest b_forest_fewest .nil pass0 (pa_cons (pe_call F__law_hung (hr.mono (by decide)) (by rfl) g__law_hung k__law_hung b__law_hung .nil pass0 (pa_cons (pv 3) (pa_cons (pv 8) pa_nil))) (pa_cons (pe_tup pa_nil) pa_nil))) (pv 4) (by rfl)) (pe_cmpR (r := rIn K false) op_in_seq (pv 8) (pv 7) (by rfl)) (by rfl))
  (pss_one (ps_ret pe_bl))
  pss_nil)
  (pss_one (ps_if (pt_cmpR op_ne (pe_call F_forest_fewest (hr.mono (by decide)) (by rfl) g_forest_fewest k_forest_fewest b_forest_fewest .nil pass0 (pa_cons (pv 3) (pa_cons (pe_tup (pa_cons (pv 8) pa_nil)) pa_nil))) (pe_op op_add (pv 4) (pe_callTy call_int1 (by rfl) B.int (by decide +kernel) (pa_cons (pe_cmpR (r := rIn K true) op_notIn_seq (pv 8) (pv 7) (by rfl)) pa_nil))) (by rfl))
  (pss_one (ps_ret pe_bl))
  pss_nil))))
  (pss_cons (ps_if ((pw_and (pt_cmpR (r := rNeD K) (op_neD hr.units) (pe_ix (r := rIx K) ix_seq (pv 3) pe_int (fun _ _ => rfl)) (pe_tup pa_nil) (by rfl)) (pw_and1 (pt_not (pt_chain op_le op_le (pv 4) (pe_call F_forest_fewest (hr.mono (by decide)) (by rfl) g_forest_fewest k_forest_fewest b_forest_fewest .nil pass0 (pa_cons (pe_tup (pa_cons (pe_ix (r := rIx K) ix_seq (pv 3) pe_int (fun _ _ => rfl)) (pa_cons (pe_slice (r := rSlA K) sl_tupA (pe_ix (r := rIx K) ix_seq (pv 3) pe_int (fun _ _ => rfl)) (po_some pe_int) po_none) pa_nil))) (pa_cons (pe_tup pa_nil) pa_nil))) (pe_op op_add (pv 4) pe_int)))))).pt
  (pss_one (ps_ret pe_bl))
  pss_nil)
  (pss_one (ps_if ((pw_and (pt_cmpR op_lt (pe_ix (r := rIx K) ix_seq (pv 3) pe_int (fun _ _ => rfl)) pe_int (by rfl)) (pw_and1 ((pw_or (pt_cmpR op_ne (pe_call F_fewest (hr.mono (by decide)) (by rfl) g_fewest k_fewest b_fewest .nil pass0 (pa_cons (pv 3) pa_nil)) (pv 4) (by rfl)) (pw_or1 (pt_cmpR op_ne (pe_dget (hu_of hr) (pe_call F_counted (hr.mono (by decide)) (by rfl) g_counted k_counted b_counted .nil pass0 (pa_cons (pv 3) pa_nil)) (pv 4) (by intro _ _; rfl)) (pe_call F_forest_count (hr.mono (by decide)) (by rfl) g_forest_count k_forest_count b_forest_count .nil pass0 (pa_cons (pv 3) pa_nil)) (by rfl))))).pt))).pt
  (pss_one (ps_ret pe_bl))
  pss_nil)))))))))))))
  (pss_one (ps_ret pe_bl))), ?_⟩
  obtain ⟨a, ns, rfl, hs, hlen, q⟩ := h
  have hd : Dp K H (.ref a) (.list (ns.map PyData.int)) := sq_of_int hs
  have E0 : ∀ {H1 x1 x2 x3 x4 x5 x6 x7 x8}, Ex H H1 → EvD K (tVar 0) [some (.ref a), x1, x2, x3, x4, x5, x6, x7, x8] H1 (.list (ns.map PyData.int)) := fun e => ed_var rfl (hd.up e)
  have hlen2 : (ns.map PyData.int).length ≤ 63 := by rw [List.length_map]; exact hlen
  refine Evl.s_forR1 (ea_cons (ev_max2 (ev_c (v := .int 1)) (ev_min2 (ev_lenL (E0 (ex_r _))) (ev_c (v := .int 4)))) ea_nil) ⟨by omega, by omega⟩
    (fun i (σ' : L2.St) H' => ∃ x1 x2 x3 x4 x5 x6 x7 x8, σ' = [some (.ref a), x1, x2, x3, x4, x5, x6, x7, x8] ∧ Ex H H')
    (fun H1 e1 => ⟨none, none, none, none, none, none, none, none, rfl, e1⟩) (fun i σ' H' hi pv => ?_) fun σ' H' pv => ?_
  · obtain ⟨x1, x2, x3, x4, x5, x6, x7, x8, rfl, f1⟩ := pv
    refine sd_asg (K := K) (ed_call (ns, i) (eda_cons (E0 f1) (eda_cons (ed_int (ev_var rfl)) eda_nil)) trivial) fun v2 H1 r2 e1 hr2 hv2 => ?_
    obtain ⟨cell, rfl⟩ := hr2
    have hv2 := hv2.int_v
    subst hv2
    dsimp only
    refine sd_asg (K := K) (ed_call (cell, 30) (eda_cons (ed_int (ev_var rfl)) (eda_cons (ed_int ev_c) eda_nil)) (by dsimp only; omega)) fun vw H2 rw2 e2 hrw hvw => ?_
    obtain ⟨n, es, hw, hn, rfl⟩ := hrw
    dsimp only at hn
    dsimp only
    have hf : G37.Fo n es := hw.fo
    have EW : ∀ {H3 x1 x4 x5 x6 x7 x8}, Ex H2 H3 → EvD K (tVar 3) [some (.ref a), x1, some (.int cell), some vw, x4, x5, x6, x7, x8] H3 (dWeb n es) := fun e => ed_var rfl (hvw.up e)
    refine sd_asgV (ei_of (ed_call ((n, es), []) (eda_cons (EW (ex_r _)) (eda_cons (ed_tup eda_nil (by simp)) eda_nil)) ⟨hw, places_nil n⟩)) fun H3 e3 => ?_
    rw [G37.capS_nil]
    dsimp only
    refine sd_asg (K := K) (ed_call (cell, n, 5000) (eda_cons (ed_int (ev_var rfl)) (eda_cons (ed_int (ev_many (EW e3) ev_c)) (eda_cons (ed_int ev_c) eda_nil))) ⟨by dsimp only; omega, by dsimp only; omega⟩) fun vs H4 rs e4 hrs hvs => ?_
    obtain ⟨S, hS, rfl⟩ := hrs
    dsimp only at hS
    dsimp only
    have e24 := e3.trans e4
    have f4 := ((f1.trans e1).trans e2).trans e24
    have ES : ∀ {H5 x1 x4 x6 x7 x8}, Ex H4 H5 → EvD K (tVar 5) [some (.ref a), x1, some (.int cell), some vw, x4, some vs, x6, x7, x8] H5 (dT S) := fun e => ed_var rfl (hvs.up e)
    have ET : ∀ {H5 x1 x4 x6 x7 x8}, Ex H4 H5 → EvD K (tSl (rSlA K) (tVar 5) (tPart (tC (.int 1))) tNoPart) [some (.ref a), x1, some (.int cell), some vw, x4, some vs, x6, x7, x8] H5 (dT (S.drop 1)) := fun e => (ed_slA (ES e) (Evl.eo_some ev_c) Evl.eo_none).imp fun d h => by rw [h, cutA_tail, ← List.map_drop]
    refine sd_forL (K := K) [[], S, S.drop 1] dT noL_T (ed_lst (eda_cons (ed_tup eda_nil (by simp)) (eda_cons (ES (ex_r _)) (eda_cons (ET (ex_r _)) eda_nil))) (by simp))
      (fun H5 i σ' H' => ∃ x1 x6 x7 x8, σ' = [some (.ref a), x1, some (.int cell), some vw, some (.int ((n : Int) - (nu es cap2 : Int))), some vs, x6, x7, x8] ∧ Ex H5 H')
      (fun H5 e5 => ⟨_, _, _, _, rfl, ex_r _⟩) (fun H5 i σ' H' e5 pv => by obtain ⟨_, _, _, _, _, h⟩ := pv; exact tx_ex h) (fun H5 i σ' H' a xs e5 hs _ pv => by obtain ⟨_, _, _, _, _, h⟩ := pv; exact sqL_up h hs) (fun H5 j S' x σ' H' e5 hj pv hx => ?_) (fun H5 σ' H' e5 pv => ?_)
    · obtain ⟨y1, y6, y7, y8, rfl, g5⟩ := pv
      have hS' : Places n S' := by
        have := List.mem_of_getElem? hj
        simp only [List.mem_cons, List.not_mem_nil, or_false] at this
        rcases this with rfl | rfl | rfl
        · exact places_nil n
        · exact hS
        · exact places_drop hS
      have EX : ∀ {H6 y1 y7 y8}, Ex H' H6 → EvD K (tVar 6) [some (.ref a), y1, some (.int cell), some vw, some (.int ((n : Int) - (nu es cap2 : Int))), some vs, some x, y7, y8] H6 (dT S') := fun e => ed_var rfl (hx.up e)
      have e2' := e24.trans (e5.trans g5)
      refine sd_ifno (et_eq (et_test (eb_notB (eb_sp (ep_call (R := fun r => r = .bool true) (epa_two (EW e2') (ep_tup (R := fun d => ∃ Q B, Paper n es S' Q B ∧ d = .tuple [dT S', .tuple (Q.map dT), dT B]) (epa_three (EX (ex_r _)) (ed_call ((n, es), S') (eda_cons (EW e2') (eda_cons (EX (ex_r _)) eda_nil)) ⟨hw, hS'⟩) (ed_call ((n, es), S') (eda_cons (EW e2') (eda_cons (EX (ex_r _)) eda_nil)) ⟨hw, hS'⟩)) fun ds h => ?_)) fun ds h => ?_) fun d h => h) ev_c)) (by simp)) fun H6 e6 => ?_
      · obtain ⟨d2, d3, rfl, ⟨T, B1, Q1, t1, p1, rfl⟩, T2, B2, t2, hB, rfl⟩ := h
        exact ⟨by simp, Q1, B2, paper_ok hw hS' t1 p1 t2 hB, rfl⟩
      · obtain ⟨d', rfl, Q1, B2, hP, rfl⟩ := h
        exact ⟨((n, es), (S', Q1, B2)), rfl, hP, fun r hr => hr⟩
      exact ⟨_, _, _, _, rfl, g5.trans e6⟩
    · obtain ⟨y1, y6, y7, y8, rfl, g5⟩ := pv
      dsimp only
      have e4' := e5.trans g5
      have e2' := e24.trans e4'
      have f5 := f4.trans e4'
      have hch := chain_ok (es := es) hS
      refine sd_ifno (et_not (et_le3 (ev_var rfl) (ei_of (ed_call ((n, es), S.drop 1) (eda_cons (EW e2') (eda_cons (ET e4') eda_nil)) ⟨hw, places_drop hS⟩)) (ei_of (ed_call ((n, es), S) (eda_cons (EW e2') (eda_cons (ES e4') eda_nil)) ⟨hw, hS⟩)) (ei_op0 (g := fun i j => i + j) (ei_of (ed_call ((n, es), S.drop 1) (eda_cons (EW e2') (eda_cons (ET e4') eda_nil)) ⟨hw, places_drop hS⟩)) ev_c) hch.1 hch.2.1 hch.2.2)) fun H6 e6 => ?_
      dsimp only
      refine sd_ifno (et_eq (et_or (et_test (eb_notB (eb_of (ed_call (n, es) (eda_cons (EW (e2'.trans e6)) eda_nil) hw)) ev_c)) fun _ => et_not (et_B (eb_of (ed_call (n, es) (eda_cons (EW (e2'.trans e6)) eda_nil) hw)))) (by simp)) fun H7 e7 => ?_
      dsimp only
      have e27 := (e2'.trans e6).trans e7
      refine sd_asg (K := K) (ed_call (n, es) (eda_cons (EW e27) eda_nil) hw) fun vo H8 ro e8 hro hvo => ?_
      subst hro
      dsimp only
      have e28 := e27.trans e8
      have f8 := ((f5.trans e6).trans e7).trans e8
      refine Evl.s_forR1 (n := min (n : Int) 6) (ea_cons (ev_min2 (ev_many (EW e28) (ev_c (v := .int 0))) (ev_c (v := .int 6))) ea_nil) ⟨by omega, by omega⟩
        (fun i (σ' : L2.St) H' => ∃ y1 y6 y8, σ' = [some (.ref a), y1, some (.int cell), some vw, some (.int ((n : Int) - (nu es cap2 : Int))), some vs, y6, some vo, y8] ∧ Ex H8 H')
        (fun H9 e9 => ⟨_, _, _, rfl, e9⟩) (fun p σ' H' hp pv => ?_) fun σ' H' pv => ?_
      · obtain ⟨z1, z6, z8, rfl, g9⟩ := pv
        have hpn : p < n := by omega
        dsimp only
        have EP : ∀ {H9}, Ev (tVar 8) [some (.ref a), z1, some (.int cell), some vw, some (.int ((n : Int) - (nu es cap2 : Int))), some vs, z6, some vo, some (vN p)] H9 (vN p) := ev_var rfl
        have EO : ∀ {H9 z8}, Ex H8 H9 → EvD K (tVar 7) [some (.ref a), z1, some (.int cell), some vw, some (.int ((n : Int) - (nu es cap2 : Int))), some vs, z6, some vo, z8] H9 (dT ((List.range n).filter fun p => decide (nu es (capS [p]) = nu es cap2))) := fun e => ed_var rfl (hvo.up e)
        have hmem : decide (p ∈ (List.range n).filter fun p => decide (nu es (capS [p]) = nu es cap2)) = decide (nu es (capS [p]) = nu es cap2) := by
          simp only [List.mem_filter, List.mem_range, decide_eq_true_eq, hpn, true_and]
        have e29 := e28.trans g9
        refine sd_ifno (et_eq (et_test (eb_neB (eb_eqI (ei_of (ep_call (R := fun r => r = .int (((n + 1 : Nat) : Int) - (nu ((p, n) :: es) cap2 : Int))) (epa_two2 (ed_call ((n, es), p) (eda_cons (EW e29) (eda_cons (ed_int EP) eda_nil)) ⟨hw, by dsimp only; omega, hpn⟩) (ed_tup eda_nil (by simp))) fun ds h => ?_)) (ev_var (i := 4) rfl)) (eb_inT (neg := false) EP (EO g9)))) (hung_ok hf hpn (List.Perm.refl _) hmem)) fun H9 e9 => ?_
        · obtain ⟨d', rfl, es', h1, h2, rfl⟩ := h
          exact ⟨((n + 1, es'), []), rfl, ⟨h2, places_nil _⟩, fun r hr => by rw [hr]; dsimp only; rw [G37.capS_nil, G37.nu_perm h1]⟩
        dsimp only
        refine sd_ifno (et_eq (et_test (eb_neI (ei_of (ed_call ((n, es), [p]) (eda_cons (EW (e29.trans e9)) (eda_cons (ed_tup (eda_cons (ed_int EP) eda_nil) (by simp)) eda_nil)) ⟨hw, places_one hpn⟩)) (ei_op0 (g := fun i j => i + j) (ev_var (i := 4) rfl) (ei_int1 (eb_inT (neg := true) EP (EO (g9.trans e9))))))) (by
          have := one_ok (n := n) hmem
          simp only [if_true, decide_eq_true this, Bool.not_true])) fun H10 e10 => ?_
        exact ⟨_, _, _, rfl, (g9.trans e9).trans e10⟩
      · obtain ⟨z1, z6, z8, rfl, g9⟩ := pv
        dsimp only
        have e29 := e28.trans g9
        refine sd_ifno (et_eq (et_and (et_test (eb_neD (ed_ties (EW e29) ev_c) (ed_tup eda_nil (by simp)) (shaped_E es) rfl)) fun hne => et_not (et_le2 (ev_var (i := 4) rfl) (ei_of (ed_call ((n, es.drop 1), []) (eda_cons ((ed_tup (eda_cons (ed_int (ev_many (EW e29) ev_c)) (eda_cons (ed_slA (ed_ties (EW e29) ev_c) (Evl.eo_some ev_c) Evl.eo_none) eda_nil)) (by simp)).imp fun d h => by rw [h, cutA_tail, ← List.map_drop]) (eda_cons (ed_tup eda_nil (by simp)) eda_nil)) ⟨web_drop hw, places_nil n⟩)) (ei_op0 (g := fun i j => i + j) (ev_var (i := 4) rfl) ev_c) ?_ ?_)) (by simp)) fun H10 e10 => ?_
        · have hne : es ≠ [] := fun z => by subst z; exact absurd hne (by decide)
          dsimp only; rw [G37.capS_nil]; exact (tail_ok hne).1
        · have hne : es ≠ [] := fun z => by subst z; exact absurd hne (by decide)
          dsimp only; rw [G37.capS_nil]; exact (tail_ok hne).2
        dsimp only
        have e30 := e29.trans e10
        have hnu := hf.nu_le cap2
        refine sd_ifno (et_eq (et_and (et_test (eb_op0 (g := fun i j => decide (i < j)) (ev_many (EW e30) (ev_c (v := .int 0))) (ev_c (v := .int 11)))) fun h11 => et_or (et_test (eb_neI (ei_of (ed_call (n, es) (eda_cons (EW e30) eda_nil) ⟨hw, by have := of_decide_eq_true h11; dsimp only; omega⟩)) (ev_var (i := 4) rfl))) fun _ => et_test (eb_neI (ev_cget (eda_cons (EW e30) eda_nil) hw (by have := of_decide_eq_true h11; omega) (ei_eq (ev_var (i := 4) rfl) (by omega))) (ei_of (ed_call (n, es) (eda_cons (EW e30) eda_nil) hw)))) (by simp)) fun H11 e11 => ?_
        exact ⟨_, _, _, _, _, _, _, _, rfl, ((f8.trans g9).trans e10).trans e11⟩
  · obtain ⟨x1, x2, x3, x4, x5, x6, x7, x8, rfl, f1⟩ := pv
    dsimp only
    exact Evl.s_ret ev_c fun H2 e2 => q H2
end
end W37
/-! what the top has written -/
namespace W37
open PySem PySem.Spec PyProof.Rows L2
section
variable {K : PySem.W.Frag} {h : Heap} {mg : Str → Option Value}
theorem df_is_number {f : Addr} {oc kV doc pm cdv ct : Value} {od an : Option Addr} {osl : Array (Option Value)} (X : K.In h) (G : h.Ns mainGlobals mg) (a : PySem.W.nsIn K mainGlobals "is_number" = some (some (.ref f))) (l : K.lookup f = some ⟨oc, od, .func (PySem.W.fnOf "is_number" "is_number" (defArgs s_is_number) (defBody s_is_number) (defScope s_is_number) .none kV doc pm an cdv ct), osl⟩) (c : PySem.W.codeIn K cdv "is_number" = true) (k : PySem.W.keepIn K (.ref f) = true) : Df K mg "is_number" s_is_number ["thing", "least", "below"] := by
  have F := fun_mk (st := s_is_number) l c k
  exact ⟨f, _, F, PySem.W.mg_of X G a, F.binds (ps := ["thing", "least", "below"]) fun _ _ _ _ _ _ us hl => match us, hl with | [_, _, _], _ => rfl⟩
theorem df_is_pair {f : Addr} {oc kV doc pm cdv ct : Value} {od an : Option Addr} {osl : Array (Option Value)} (X : K.In h) (G : h.Ns mainGlobals mg) (a : PySem.W.nsIn K mainGlobals "is_pair" = some (some (.ref f))) (l : K.lookup f = some ⟨oc, od, .func (PySem.W.fnOf "is_pair" "is_pair" (defArgs s_is_pair) (defBody s_is_pair) (defScope s_is_pair) .none kV doc pm an cdv ct), osl⟩) (c : PySem.W.codeIn K cdv "is_pair" = true) (k : PySem.W.keepIn K (.ref f) = true) : Df K mg "is_pair" s_is_pair ["many", "thing"] := by
  have F := fun_mk (st := s_is_pair) l c k
  exact ⟨f, _, F, PySem.W.mg_of X G a, F.binds (ps := ["many", "thing"]) fun _ _ _ _ _ _ us hl => match us, hl with | [_, _], _ => rfl⟩
theorem df_rises {f : Addr} {oc kV doc pm cdv ct : Value} {od an : Option Addr} {osl : Array (Option Value)} (X : K.In h) (G : h.Ns mainGlobals mg) (a : PySem.W.nsIn K mainGlobals "rises" = some (some (.ref f))) (l : K.lookup f = some ⟨oc, od, .func (PySem.W.fnOf "rises" "rises" (defArgs s_rises) (defBody s_rises) (defScope s_rises) .none kV doc pm an cdv ct), osl⟩) (c : PySem.W.codeIn K cdv "rises" = true) (k : PySem.W.keepIn K (.ref f) = true) : Df K mg "rises" s_rises ["row"] := by
  have F := fun_mk (st := s_rises) l c k
  exact ⟨f, _, F, PySem.W.mg_of X G a, F.binds (ps := ["row"]) fun _ _ _ _ _ _ us hl => match us, hl with | [_], _ => rfl⟩
theorem df_is_web {f : Addr} {oc kV doc pm cdv ct : Value} {od an : Option Addr} {osl : Array (Option Value)} (X : K.In h) (G : h.Ns mainGlobals mg) (a : PySem.W.nsIn K mainGlobals "is_web" = some (some (.ref f))) (l : K.lookup f = some ⟨oc, od, .func (PySem.W.fnOf "is_web" "is_web" (defArgs s_is_web) (defBody s_is_web) (defScope s_is_web) .none kV doc pm an cdv ct), osl⟩) (c : PySem.W.codeIn K cdv "is_web" = true) (k : PySem.W.keepIn K (.ref f) = true) : Df K mg "is_web" s_is_web ["thing"] := by
  have F := fun_mk (st := s_is_web) l c k
  exact ⟨f, _, F, PySem.W.mg_of X G a, F.binds (ps := ["thing"]) fun _ _ _ _ _ _ us hl => match us, hl with | [_], _ => rfl⟩
theorem df_need_web {f : Addr} {oc kV doc pm cdv ct : Value} {od an : Option Addr} {osl : Array (Option Value)} (X : K.In h) (G : h.Ns mainGlobals mg) (a : PySem.W.nsIn K mainGlobals "need_web" = some (some (.ref f))) (l : K.lookup f = some ⟨oc, od, .func (PySem.W.fnOf "need_web" "need_web" (defArgs s_need_web) (defBody s_need_web) (defScope s_need_web) .none kV doc pm an cdv ct), osl⟩) (c : PySem.W.codeIn K cdv "need_web" = true) (k : PySem.W.keepIn K (.ref f) = true) : Df K mg "need_web" s_need_web ["thing"] := by
  have F := fun_mk (st := s_need_web) l c k
  exact ⟨f, _, F, PySem.W.mg_of X G a, F.binds (ps := ["thing"]) fun _ _ _ _ _ _ us hl => match us, hl with | [_], _ => rfl⟩
theorem df_is_places {f : Addr} {oc kV doc pm cdv ct : Value} {od an : Option Addr} {osl : Array (Option Value)} (X : K.In h) (G : h.Ns mainGlobals mg) (a : PySem.W.nsIn K mainGlobals "is_places" = some (some (.ref f))) (l : K.lookup f = some ⟨oc, od, .func (PySem.W.fnOf "is_places" "is_places" (defArgs s_is_places) (defBody s_is_places) (defScope s_is_places) .none kV doc pm an cdv ct), osl⟩) (c : PySem.W.codeIn K cdv "is_places" = true) (k : PySem.W.keepIn K (.ref f) = true) : Df K mg "is_places" s_is_places ["web", "thing"] := by
  have F := fun_mk (st := s_is_places) l c k
  exact ⟨f, _, F, PySem.W.mg_of X G a, F.binds (ps := ["web", "thing"]) fun _ _ _ _ _ _ us hl => match us, hl with | [_, _], _ => rfl⟩
theorem df_need_places {f : Addr} {oc kV doc pm cdv ct : Value} {od an : Option Addr} {osl : Array (Option Value)} (X : K.In h) (G : h.Ns mainGlobals mg) (a : PySem.W.nsIn K mainGlobals "need_places" = some (some (.ref f))) (l : K.lookup f = some ⟨oc, od, .func (PySem.W.fnOf "need_places" "need_places" (defArgs s_need_places) (defBody s_need_places) (defScope s_need_places) .none kV doc pm an cdv ct), osl⟩) (c : PySem.W.codeIn K cdv "need_places" = true) (k : PySem.W.keepIn K (.ref f) = true) : Df K mg "need_places" s_need_places ["web", "thing"] := by
  have F := fun_mk (st := s_need_places) l c k
  exact ⟨f, _, F, PySem.W.mg_of X G a, F.binds (ps := ["web", "thing"]) fun _ _ _ _ _ _ us hl => match us, hl with | [_, _], _ => rfl⟩
theorem df_near {f : Addr} {oc kV doc pm cdv ct : Value} {od an : Option Addr} {osl : Array (Option Value)} (X : K.In h) (G : h.Ns mainGlobals mg) (a : PySem.W.nsIn K mainGlobals "near" = some (some (.ref f))) (l : K.lookup f = some ⟨oc, od, .func (PySem.W.fnOf "near" "near" (defArgs s_near) (defBody s_near) (defScope s_near) .none kV doc pm an cdv ct), osl⟩) (c : PySem.W.codeIn K cdv "near" = true) (k : PySem.W.keepIn K (.ref f) = true) : Df K mg "near" s_near ["web"] := by
  have F := fun_mk (st := s_near) l c k
  exact ⟨f, _, F, PySem.W.mg_of X G a, F.binds (ps := ["web"]) fun _ _ _ _ _ _ us hl => match us, hl with | [_], _ => rfl⟩
theorem df_come_to {f : Addr} {oc kV doc pm cdv ct : Value} {od an : Option Addr} {osl : Array (Option Value)} (X : K.In h) (G : h.Ns mainGlobals mg) (a : PySem.W.nsIn K mainGlobals "come_to" = some (some (.ref f))) (l : K.lookup f = some ⟨oc, od, .func (PySem.W.fnOf "come_to" "come_to" (defArgs s_come_to) (defBody s_come_to) (defScope s_come_to) .none kV doc pm an cdv ct), osl⟩) (c : PySem.W.codeIn K cdv "come_to" = true) (k : PySem.W.keepIn K (.ref f) = true) : Df K mg "come_to" s_come_to ["beside", "place"] := by
  have F := fun_mk (st := s_come_to) l c k
  exact ⟨f, _, F, PySem.W.mg_of X G a, F.binds (ps := ["beside", "place"]) fun _ _ _ _ _ _ us hl => match us, hl with | [_, _], _ => rfl⟩
theorem df_parts_by {f : Addr} {oc kV doc pm cdv ct : Value} {od an : Option Addr} {osl : Array (Option Value)} (X : K.In h) (G : h.Ns mainGlobals mg) (a : PySem.W.nsIn K mainGlobals "parts_by" = some (some (.ref f))) (l : K.lookup f = some ⟨oc, od, .func (PySem.W.fnOf "parts_by" "parts_by" (defArgs s_parts_by) (defBody s_parts_by) (defScope s_parts_by) .none kV doc pm an cdv ct), osl⟩) (c : PySem.W.codeIn K cdv "parts_by" = true) (k : PySem.W.keepIn K (.ref f) = true) : Df K mg "parts_by" s_parts_by ["beside"] := by
  have F := fun_mk (st := s_parts_by) l c k
  exact ⟨f, _, F, PySem.W.mg_of X G a, F.binds (ps := ["beside"]) fun _ _ _ _ _ _ us hl => match us, hl with | [_], _ => rfl⟩
theorem df_parts {f : Addr} {oc kV doc pm cdv ct : Value} {od an : Option Addr} {osl : Array (Option Value)} (X : K.In h) (G : h.Ns mainGlobals mg) (a : PySem.W.nsIn K mainGlobals "parts" = some (some (.ref f))) (l : K.lookup f = some ⟨oc, od, .func (PySem.W.fnOf "parts" "parts" (defArgs s_parts) (defBody s_parts) (defScope s_parts) .none kV doc pm an cdv ct), osl⟩) (c : PySem.W.codeIn K cdv "parts" = true) (k : PySem.W.keepIn K (.ref f) = true) : Df K mg "parts" s_parts ["web"] := by
  have F := fun_mk (st := s_parts) l c k
  exact ⟨f, _, F, PySem.W.mg_of X G a, F.binds (ps := ["web"]) fun _ _ _ _ _ _ us hl => match us, hl with | [_], _ => rfl⟩
theorem df_left_over {f : Addr} {oc kV doc pm cdv ct : Value} {od an : Option Addr} {osl : Array (Option Value)} (X : K.In h) (G : h.Ns mainGlobals mg) (a : PySem.W.nsIn K mainGlobals "left_over" = some (some (.ref f))) (l : K.lookup f = some ⟨oc, od, .func (PySem.W.fnOf "left_over" "left_over" (defArgs s_left_over) (defBody s_left_over) (defScope s_left_over) .none kV doc pm an cdv ct), osl⟩) (c : PySem.W.codeIn K cdv "left_over" = true) (k : PySem.W.keepIn K (.ref f) = true) : Df K mg "left_over" s_left_over ["web", "places"] := by
  have F := fun_mk (st := s_left_over) l c k
  exact ⟨f, _, F, PySem.W.mg_of X G a, F.binds (ps := ["web", "places"]) fun _ _ _ _ _ _ us hl => match us, hl with | [_, _], _ => rfl⟩
theorem df_without {f : Addr} {oc kV doc pm cdv ct : Value} {od an : Option Addr} {osl : Array (Option Value)} (X : K.In h) (G : h.Ns mainGlobals mg) (a : PySem.W.nsIn K mainGlobals "without" = some (some (.ref f))) (l : K.lookup f = some ⟨oc, od, .func (PySem.W.fnOf "without" "without" (defArgs s_without) (defBody s_without) (defScope s_without) .none kV doc pm an cdv ct), osl⟩) (c : PySem.W.codeIn K cdv "without" = true) (k : PySem.W.keepIn K (.ref f) = true) : Df K mg "without" s_without ["web", "places"] := by
  have F := fun_mk (st := s_without) l c k
  exact ⟨f, _, F, PySem.W.mg_of X G a, F.binds (ps := ["web", "places"]) fun _ _ _ _ _ _ us hl => match us, hl with | [_, _], _ => rfl⟩
theorem df_tie_of {f : Addr} {oc kV doc pm cdv ct : Value} {od an : Option Addr} {osl : Array (Option Value)} (X : K.In h) (G : h.Ns mainGlobals mg) (a : PySem.W.nsIn K mainGlobals "tie_of" = some (some (.ref f))) (l : K.lookup f = some ⟨oc, od, .func (PySem.W.fnOf "tie_of" "tie_of" (defArgs s_tie_of) (defBody s_tie_of) (defScope s_tie_of) .none kV doc pm an cdv ct), osl⟩) (c : PySem.W.codeIn K cdv "tie_of" = true) (k : PySem.W.keepIn K (.ref f) = true) : Df K mg "tie_of" s_tie_of ["one", "other"] := by
  have F := fun_mk (st := s_tie_of) l c k
  exact ⟨f, _, F, PySem.W.mg_of X G a, F.binds (ps := ["one", "other"]) fun _ _ _ _ _ _ us hl => match us, hl with | [_, _], _ => rfl⟩
theorem df_lesser {f : Addr} {oc kV doc pm cdv ct : Value} {od an : Option Addr} {osl : Array (Option Value)} (X : K.In h) (G : h.Ns mainGlobals mg) (a : PySem.W.nsIn K mainGlobals "lesser" = some (some (.ref f))) (l : K.lookup f = some ⟨oc, od, .func (PySem.W.fnOf "lesser" "lesser" (defArgs s_lesser) (defBody s_lesser) (defScope s_lesser) .none kV doc pm an cdv ct), osl⟩) (c : PySem.W.codeIn K cdv "lesser" = true) (k : PySem.W.keepIn K (.ref f) = true) : Df K mg "lesser" s_lesser ["way"] := by
  have F := fun_mk (st := s_lesser) l c k
  exact ⟨f, _, F, PySem.W.mg_of X G a, F.binds (ps := ["way"]) fun _ _ _ _ _ _ us hl => match us, hl with | [_], _ => rfl⟩
theorem df_goes {f : Addr} {oc kV doc pm cdv ct : Value} {od an : Option Addr} {osl : Array (Option Value)} (X : K.In h) (G : h.Ns mainGlobals mg) (a : PySem.W.nsIn K mainGlobals "goes" = some (some (.ref f))) (l : K.lookup f = some ⟨oc, od, .func (PySem.W.fnOf "goes" "goes" (defArgs s_goes) (defBody s_goes) (defScope s_goes) .none kV doc pm an cdv ct), osl⟩) (c : PySem.W.codeIn K cdv "goes" = true) (k : PySem.W.keepIn K (.ref f) = true) : Df K mg "goes" s_goes ["web", "thing"] := by
  have F := fun_mk (st := s_goes) l c k
  exact ⟨f, _, F, PySem.W.mg_of X G a, F.binds (ps := ["web", "thing"]) fun _ _ _ _ _ _ us hl => match us, hl with | [_, _], _ => rfl⟩
theorem df_parts_all {f : Addr} {oc kV doc pm cdv ct : Value} {od an : Option Addr} {osl : Array (Option Value)} (X : K.In h) (G : h.Ns mainGlobals mg) (a : PySem.W.nsIn K mainGlobals "parts_all" = some (some (.ref f))) (l : K.lookup f = some ⟨oc, od, .func (PySem.W.fnOf "parts_all" "parts_all" (defArgs s_parts_all) (defBody s_parts_all) (defScope s_parts_all) .none kV doc pm an cdv ct), osl⟩) (c : PySem.W.codeIn K cdv "parts_all" = true) (k : PySem.W.keepIn K (.ref f) = true) : Df K mg "parts_all" s_parts_all ["web", "thing"] := by
  have F := fun_mk (st := s_parts_all) l c k
  exact ⟨f, _, F, PySem.W.mg_of X G a, F.binds (ps := ["web", "thing"]) fun _ _ _ _ _ _ us hl => match us, hl with | [_, _], _ => rfl⟩
theorem df_plain_form {f : Addr} {oc kV doc pm cdv ct : Value} {od an : Option Addr} {osl : Array (Option Value)} (X : K.In h) (G : h.Ns mainGlobals mg) (a : PySem.W.nsIn K mainGlobals "plain_form" = some (some (.ref f))) (l : K.lookup f = some ⟨oc, od, .func (PySem.W.fnOf "plain_form" "plain_form" (defArgs s_plain_form) (defBody s_plain_form) (defScope s_plain_form) .none kV doc pm an cdv ct), osl⟩) (c : PySem.W.codeIn K cdv "plain_form" = true) (k : PySem.W.keepIn K (.ref f) = true) : Df K mg "plain_form" s_plain_form ["parting"] := by
  have F := fun_mk (st := s_plain_form) l c k
  exact ⟨f, _, F, PySem.W.mg_of X G a, F.binds (ps := ["parting"]) fun _ _ _ _ _ _ us hl => match us, hl with | [_], _ => rfl⟩
theorem df_joined_by {f : Addr} {oc kV doc pm cdv ct : Value} {od an : Option Addr} {osl : Array (Option Value)} (X : K.In h) (G : h.Ns mainGlobals mg) (a : PySem.W.nsIn K mainGlobals "joined_by" = some (some (.ref f))) (l : K.lookup f = some ⟨oc, od, .func (PySem.W.fnOf "joined_by" "joined_by" (defArgs s_joined_by) (defBody s_joined_by) (defScope s_joined_by) .none kV doc pm an cdv ct), osl⟩) (c : PySem.W.codeIn K cdv "joined_by" = true) (k : PySem.W.keepIn K (.ref f) = true) : Df K mg "joined_by" s_joined_by ["many", "ties"] := by
  have F := fun_mk (st := s_joined_by) l c k
  exact ⟨f, _, F, PySem.W.mg_of X G a, F.binds (ps := ["many", "ties"]) fun _ _ _ _ _ _ us hl => match us, hl with | [_, _], _ => rfl⟩
theorem df_has_no_ring {f : Addr} {oc kV doc pm cdv ct : Value} {od an : Option Addr} {osl : Array (Option Value)} (X : K.In h) (G : h.Ns mainGlobals mg) (a : PySem.W.nsIn K mainGlobals "has_no_ring" = some (some (.ref f))) (l : K.lookup f = some ⟨oc, od, .func (PySem.W.fnOf "has_no_ring" "has_no_ring" (defArgs s_has_no_ring) (defBody s_has_no_ring) (defScope s_has_no_ring) .none kV doc pm an cdv ct), osl⟩) (c : PySem.W.codeIn K cdv "has_no_ring" = true) (k : PySem.W.keepIn K (.ref f) = true) : Df K mg "has_no_ring" s_has_no_ring ["web"] := by
  have F := fun_mk (st := s_has_no_ring) l c k
  exact ⟨f, _, F, PySem.W.mg_of X G a, F.binds (ps := ["web"]) fun _ _ _ _ _ _ us hl => match us, hl with | [_], _ => rfl⟩
theorem df_is_forest {f : Addr} {oc kV doc pm cdv ct : Value} {od an : Option Addr} {osl : Array (Option Value)} (X : K.In h) (G : h.Ns mainGlobals mg) (a : PySem.W.nsIn K mainGlobals "is_forest" = some (some (.ref f))) (l : K.lookup f = some ⟨oc, od, .func (PySem.W.fnOf "is_forest" "is_forest" (defArgs s_is_forest) (defBody s_is_forest) (defScope s_is_forest) .none kV doc pm an cdv ct), osl⟩) (c : PySem.W.codeIn K cdv "is_forest" = true) (k : PySem.W.keepIn K (.ref f) = true) : Df K mg "is_forest" s_is_forest ["web"] := by
  have F := fun_mk (st := s_is_forest) l c k
  exact ⟨f, _, F, PySem.W.mg_of X G a, F.binds (ps := ["web"]) fun _ _ _ _ _ _ us hl => match us, hl with | [_], _ => rfl⟩
theorem df_need_forest {f : Addr} {oc kV doc pm cdv ct : Value} {od an : Option Addr} {osl : Array (Option Value)} (X : K.In h) (G : h.Ns mainGlobals mg) (a : PySem.W.nsIn K mainGlobals "need_forest" = some (some (.ref f))) (l : K.lookup f = some ⟨oc, od, .func (PySem.W.fnOf "need_forest" "need_forest" (defArgs s_need_forest) (defBody s_need_forest) (defScope s_need_forest) .none kV doc pm an cdv ct), osl⟩) (c : PySem.W.codeIn K cdv "need_forest" = true) (k : PySem.W.keepIn K (.ref f) = true) : Df K mg "need_forest" s_need_forest ["web"] := by
  have F := fun_mk (st := s_need_forest) l c k
  exact ⟨f, _, F, PySem.W.mg_of X G a, F.binds (ps := ["web"]) fun _ _ _ _ _ _ us hl => match us, hl with | [_], _ => rfl⟩
theorem df_from_roots {f : Addr} {oc kV doc pm cdv ct : Value} {od an : Option Addr} {osl : Array (Option Value)} (X : K.In h) (G : h.Ns mainGlobals mg) (a : PySem.W.nsIn K mainGlobals "from_roots" = some (some (.ref f))) (l : K.lookup f = some ⟨oc, od, .func (PySem.W.fnOf "from_roots" "from_roots" (defArgs s_from_roots) (defBody s_from_roots) (defScope s_from_roots) .none kV doc pm an cdv ct), osl⟩) (c : PySem.W.codeIn K cdv "from_roots" = true) (k : PySem.W.keepIn K (.ref f) = true) : Df K mg "from_roots" s_from_roots ["web"] := by
  have F := fun_mk (st := s_from_roots) l c k
  exact ⟨f, _, F, PySem.W.mg_of X G a, F.binds (ps := ["web"]) fun _ _ _ _ _ _ us hl => match us, hl with | [_], _ => rfl⟩
theorem df_taken_up {f : Addr} {oc kV doc pm cdv ct : Value} {od an : Option Addr} {osl : Array (Option Value)} (X : K.In h) (G : h.Ns mainGlobals mg) (a : PySem.W.nsIn K mainGlobals "taken_up" = some (some (.ref f))) (l : K.lookup f = some ⟨oc, od, .func (PySem.W.fnOf "taken_up" "taken_up" (defArgs s_taken_up) (defBody s_taken_up) (defScope s_taken_up) .none kV doc pm an cdv ct), osl⟩) (c : PySem.W.codeIn K cdv "taken_up" = true) (k : PySem.W.keepIn K (.ref f) = true) : Df K mg "taken_up" s_taken_up ["web", "ends"] := by
  have F := fun_mk (st := s_taken_up) l c k
  exact ⟨f, _, F, PySem.W.mg_of X G a, F.binds (ps := ["web", "ends"]) fun _ _ _ _ _ _ us hl => match us, hl with | [_, _], _ => rfl⟩
theorem df_need_both {f : Addr} {oc kV doc pm cdv ct : Value} {od an : Option Addr} {osl : Array (Option Value)} (X : K.In h) (G : h.Ns mainGlobals mg) (a : PySem.W.nsIn K mainGlobals "need_both" = some (some (.ref f))) (l : K.lookup f = some ⟨oc, od, .func (PySem.W.fnOf "need_both" "need_both" (defArgs s_need_both) (defBody s_need_both) (defScope s_need_both) .none kV doc pm an cdv ct), osl⟩) (c : PySem.W.codeIn K cdv "need_both" = true) (k : PySem.W.keepIn K (.ref f) = true) : Df K mg "need_both" s_need_both ["web", "ends"] := by
  have F := fun_mk (st := s_need_both) l c k
  exact ⟨f, _, F, PySem.W.mg_of X G a, F.binds (ps := ["web", "ends"]) fun _ _ _ _ _ _ us hl => match us, hl with | [_, _], _ => rfl⟩
theorem df_few_in {f : Addr} {oc kV doc pm cdv ct : Value} {od an : Option Addr} {osl : Array (Option Value)} (X : K.In h) (G : h.Ns mainGlobals mg) (a : PySem.W.nsIn K mainGlobals "few_in" = some (some (.ref f))) (l : K.lookup f = some ⟨oc, od, .func (PySem.W.fnOf "few_in" "few_in" (defArgs s_few_in) (defBody s_few_in) (defScope s_few_in) .none kV doc pm an cdv ct), osl⟩) (c : PySem.W.codeIn K cdv "few_in" = true) (k : PySem.W.keepIn K (.ref f) = true) : Df K mg "few_in" s_few_in ["web", "ends"] := by
  have F := fun_mk (st := s_few_in) l c k
  exact ⟨f, _, F, PySem.W.mg_of X G a, F.binds (ps := ["web", "ends"]) fun _ _ _ _ _ _ us hl => match us, hl with | [_, _], _ => rfl⟩
theorem df_forest_fewest {f : Addr} {oc kV doc pm cdv ct : Value} {od an : Option Addr} {osl : Array (Option Value)} (X : K.In h) (G : h.Ns mainGlobals mg) (a : PySem.W.nsIn K mainGlobals "forest_fewest" = some (some (.ref f))) (l : K.lookup f = some ⟨oc, od, .func (PySem.W.fnOf "forest_fewest" "forest_fewest" (defArgs s_forest_fewest) (defBody s_forest_fewest) (defScope s_forest_fewest) .none kV doc pm an cdv ct), osl⟩) (c : PySem.W.codeIn K cdv "forest_fewest" = true) (k : PySem.W.keepIn K (.ref f) = true) : Df K mg "forest_fewest" s_forest_fewest ["web", "ends"] := by
  have F := fun_mk (st := s_forest_fewest) l c k
  exact ⟨f, _, F, PySem.W.mg_of X G a, F.binds (ps := ["web", "ends"]) fun _ _ _ _ _ _ us hl => match us, hl with | [_, _], _ => rfl⟩
theorem df_forest_parting {f : Addr} {oc kV doc pm cdv ct : Value} {od an : Option Addr} {osl : Array (Option Value)} (X : K.In h) (G : h.Ns mainGlobals mg) (a : PySem.W.nsIn K mainGlobals "forest_parting" = some (some (.ref f))) (l : K.lookup f = some ⟨oc, od, .func (PySem.W.fnOf "forest_parting" "forest_parting" (defArgs s_forest_parting) (defBody s_forest_parting) (defScope s_forest_parting) .none kV doc pm an cdv ct), osl⟩) (c : PySem.W.codeIn K cdv "forest_parting" = true) (k : PySem.W.keepIn K (.ref f) = true) : Df K mg "forest_parting" s_forest_parting ["web", "ends"] := by
  have F := fun_mk (st := s_forest_parting) l c k
  exact ⟨f, _, F, PySem.W.mg_of X G a, F.binds (ps := ["web", "ends"]) fun _ _ _ _ _ _ us hl => match us, hl with | [_, _], _ => rfl⟩
theorem df_forest_bar {f : Addr} {oc kV doc pm cdv ct : Value} {od an : Option Addr} {osl : Array (Option Value)} (X : K.In h) (G : h.Ns mainGlobals mg) (a : PySem.W.nsIn K mainGlobals "forest_bar" = some (some (.ref f))) (l : K.lookup f = some ⟨oc, od, .func (PySem.W.fnOf "forest_bar" "forest_bar" (defArgs s_forest_bar) (defBody s_forest_bar) (defScope s_forest_bar) .none kV doc pm an cdv ct), osl⟩) (c : PySem.W.codeIn K cdv "forest_bar" = true) (k : PySem.W.keepIn K (.ref f) = true) : Df K mg "forest_bar" s_forest_bar ["web", "ends"] := by
  have F := fun_mk (st := s_forest_bar) l c k
  exact ⟨f, _, F, PySem.W.mg_of X G a, F.binds (ps := ["web", "ends"]) fun _ _ _ _ _ _ us hl => match us, hl with | [_, _], _ => rfl⟩
theorem df_better {f : Addr} {oc kV doc pm cdv ct : Value} {od an : Option Addr} {osl : Array (Option Value)} (X : K.In h) (G : h.Ns mainGlobals mg) (a : PySem.W.nsIn K mainGlobals "better" = some (some (.ref f))) (l : K.lookup f = some ⟨oc, od, .func (PySem.W.fnOf "better" "better" (defArgs s_better) (defBody s_better) (defScope s_better) .none kV doc pm an cdv ct), osl⟩) (c : PySem.W.codeIn K cdv "better" = true) (k : PySem.W.keepIn K (.ref f) = true) : Df K mg "better" s_better ["one", "other"] := by
  have F := fun_mk (st := s_better) l c k
  exact ⟨f, _, F, PySem.W.mg_of X G a, F.binds (ps := ["one", "other"]) fun _ _ _ _ _ _ us hl => match us, hl with | [_, _], _ => rfl⟩
theorem df_both {f : Addr} {oc kV doc pm cdv ct : Value} {od an : Option Addr} {osl : Array (Option Value)} (X : K.In h) (G : h.Ns mainGlobals mg) (a : PySem.W.nsIn K mainGlobals "both" = some (some (.ref f))) (l : K.lookup f = some ⟨oc, od, .func (PySem.W.fnOf "both" "both" (defArgs s_both) (defBody s_both) (defScope s_both) .none kV doc pm an cdv ct), osl⟩) (c : PySem.W.codeIn K cdv "both" = true) (k : PySem.W.keepIn K (.ref f) = true) : Df K mg "both" s_both ["one", "other"] := by
  have F := fun_mk (st := s_both) l c k
  exact ⟨f, _, F, PySem.W.mg_of X G a, F.binds (ps := ["one", "other"]) fun _ _ _ _ _ _ us hl => match us, hl with | [_, _], _ => rfl⟩
theorem df_with_below {f : Addr} {oc kV doc pm cdv ct : Value} {od an : Option Addr} {osl : Array (Option Value)} (X : K.In h) (G : h.Ns mainGlobals mg) (a : PySem.W.nsIn K mainGlobals "with_below" = some (some (.ref f))) (l : K.lookup f = some ⟨oc, od, .func (PySem.W.fnOf "with_below" "with_below" (defArgs s_with_below) (defBody s_with_below) (defScope s_with_below) .none kV doc pm an cdv ct), osl⟩) (c : PySem.W.codeIn K cdv "with_below" = true) (k : PySem.W.keepIn K (.ref f) = true) : Df K mg "with_below" s_with_below ["rows", "below"] := by
  have F := fun_mk (st := s_with_below) l c k
  exact ⟨f, _, F, PySem.W.mg_of X G a, F.binds (ps := ["rows", "below"]) fun _ _ _ _ _ _ us hl => match us, hl with | [_, _], _ => rfl⟩
theorem df_forest_count {f : Addr} {oc kV doc pm cdv ct : Value} {od an : Option Addr} {osl : Array (Option Value)} (X : K.In h) (G : h.Ns mainGlobals mg) (a : PySem.W.nsIn K mainGlobals "forest_count" = some (some (.ref f))) (l : K.lookup f = some ⟨oc, od, .func (PySem.W.fnOf "forest_count" "forest_count" (defArgs s_forest_count) (defBody s_forest_count) (defScope s_forest_count) .none kV doc pm an cdv ct), osl⟩) (c : PySem.W.codeIn K cdv "forest_count" = true) (k : PySem.W.keepIn K (.ref f) = true) : Df K mg "forest_count" s_forest_count ["web"] := by
  have F := fun_mk (st := s_forest_count) l c k
  exact ⟨f, _, F, PySem.W.mg_of X G a, F.binds (ps := ["web"]) fun _ _ _ _ _ _ us hl => match us, hl with | [_], _ => rfl⟩
theorem df_open_places {f : Addr} {oc kV doc pm cdv ct : Value} {od an : Option Addr} {osl : Array (Option Value)} (X : K.In h) (G : h.Ns mainGlobals mg) (a : PySem.W.nsIn K mainGlobals "open_places" = some (some (.ref f))) (l : K.lookup f = some ⟨oc, od, .func (PySem.W.fnOf "open_places" "open_places" (defArgs s_open_places) (defBody s_open_places) (defScope s_open_places) .none kV doc pm an cdv ct), osl⟩) (c : PySem.W.codeIn K cdv "open_places" = true) (k : PySem.W.keepIn K (.ref f) = true) : Df K mg "open_places" s_open_places ["web"] := by
  have F := fun_mk (st := s_open_places) l c k
  exact ⟨f, _, F, PySem.W.mg_of X G a, F.binds (ps := ["web"]) fun _ _ _ _ _ _ us hl => match us, hl with | [_], _ => rfl⟩
theorem df_shown {f : Addr} {oc kV doc pm cdv ct : Value} {od an : Option Addr} {osl : Array (Option Value)} (X : K.In h) (G : h.Ns mainGlobals mg) (a : PySem.W.nsIn K mainGlobals "shown" = some (some (.ref f))) (l : K.lookup f = some ⟨oc, od, .func (PySem.W.fnOf "shown" "shown" (defArgs s_shown) (defBody s_shown) (defScope s_shown) .none kV doc pm an cdv ct), osl⟩) (c : PySem.W.codeIn K cdv "shown" = true) (k : PySem.W.keepIn K (.ref f) = true) : Df K mg "shown" s_shown ["web", "bar"] := by
  have F := fun_mk (st := s_shown) l c k
  exact ⟨f, _, F, PySem.W.mg_of X G a, F.binds (ps := ["web", "bar"]) fun _ _ _ _ _ _ us hl => match us, hl with | [_, _], _ => rfl⟩
theorem df_shown_with {f : Addr} {oc kV doc pm cdv ct : Value} {od an : Option Addr} {osl : Array (Option Value)} (X : K.In h) (G : h.Ns mainGlobals mg) (a : PySem.W.nsIn K mainGlobals "shown_with" = some (some (.ref f))) (l : K.lookup f = some ⟨oc, od, .func (PySem.W.fnOf "shown_with" "shown_with" (defArgs s_shown_with) (defBody s_shown_with) (defScope s_shown_with) .none kV doc pm an cdv ct), osl⟩) (c : PySem.W.codeIn K cdv "shown_with" = true) (k : PySem.W.keepIn K (.ref f) = true) : Df K mg "shown_with" s_shown_with ["web", "ends", "bar"] := by
  have F := fun_mk (st := s_shown_with) l c k
  exact ⟨f, _, F, PySem.W.mg_of X G a, F.binds (ps := ["web", "ends", "bar"]) fun _ _ _ _ _ _ us hl => match us, hl with | [_, _, _], _ => rfl⟩
theorem df_kept {f : Addr} {oc kV doc pm cdv ct : Value} {od an : Option Addr} {osl : Array (Option Value)} (X : K.In h) (G : h.Ns mainGlobals mg) (a : PySem.W.nsIn K mainGlobals "kept" = some (some (.ref f))) (l : K.lookup f = some ⟨oc, od, .func (PySem.W.fnOf "kept" "kept" (defArgs s_kept) (defBody s_kept) (defScope s_kept) .none kV doc pm an cdv ct), osl⟩) (c : PySem.W.codeIn K cdv "kept" = true) (k : PySem.W.keepIn K (.ref f) = true) : Df K mg "kept" s_kept ["ends", "parting"] := by
  have F := fun_mk (st := s_kept) l c k
  exact ⟨f, _, F, PySem.W.mg_of X G a, F.binds (ps := ["ends", "parting"]) fun _ _ _ _ _ _ us hl => match us, hl with | [_, _], _ => rfl⟩
theorem df_is_bar_paper {f : Addr} {oc kV doc pm cdv ct : Value} {od an : Option Addr} {osl : Array (Option Value)} (X : K.In h) (G : h.Ns mainGlobals mg) (a : PySem.W.nsIn K mainGlobals "is_bar_paper" = some (some (.ref f))) (l : K.lookup f = some ⟨oc, od, .func (PySem.W.fnOf "is_bar_paper" "is_bar_paper" (defArgs s_is_bar_paper) (defBody s_is_bar_paper) (defScope s_is_bar_paper) .none kV doc pm an cdv ct), osl⟩) (c : PySem.W.codeIn K cdv "is_bar_paper" = true) (k : PySem.W.keepIn K (.ref f) = true) : Df K mg "is_bar_paper" s_is_bar_paper ["web", "thing"] := by
  have F := fun_mk (st := s_is_bar_paper) l c k
  exact ⟨f, _, F, PySem.W.mg_of X G a, F.binds (ps := ["web", "thing"]) fun _ _ _ _ _ _ us hl => match us, hl with | [_, _], _ => rfl⟩
theorem df_need_small {f : Addr} {oc kV doc pm cdv ct : Value} {od an : Option Addr} {osl : Array (Option Value)} (X : K.In h) (G : h.Ns mainGlobals mg) (a : PySem.W.nsIn K mainGlobals "need_small" = some (some (.ref f))) (l : K.lookup f = some ⟨oc, od, .func (PySem.W.fnOf "need_small" "need_small" (defArgs s_need_small) (defBody s_need_small) (defScope s_need_small) .none kV doc pm an cdv ct), osl⟩) (c : PySem.W.codeIn K cdv "need_small" = true) (k : PySem.W.keepIn K (.ref f) = true) : Df K mg "need_small" s_need_small ["web"] := by
  have F := fun_mk (st := s_need_small) l c k
  exact ⟨f, _, F, PySem.W.mg_of X G a, F.binds (ps := ["web"]) fun _ _ _ _ _ _ us hl => match us, hl with | [_], _ => rfl⟩
theorem df_within {f : Addr} {oc kV doc pm cdv ct : Value} {od an : Option Addr} {osl : Array (Option Value)} (X : K.In h) (G : h.Ns mainGlobals mg) (a : PySem.W.nsIn K mainGlobals "within" = some (some (.ref f))) (l : K.lookup f = some ⟨oc, od, .func (PySem.W.fnOf "within" "within" (defArgs s_within) (defBody s_within) (defScope s_within) .none kV doc pm an cdv ct), osl⟩) (c : PySem.W.codeIn K cdv "within" = true) (k : PySem.W.keepIn K (.ref f) = true) : Df K mg "within" s_within ["bits"] := by
  have F := fun_mk (st := s_within) l c k
  exact ⟨f, _, F, PySem.W.mg_of X G a, F.binds (ps := ["bits"]) fun _ _ _ _ _ _ us hl => match us, hl with | [_], _ => rfl⟩
theorem df_ways_by {f : Addr} {oc kV doc pm cdv ct : Value} {od an : Option Addr} {osl : Array (Option Value)} (X : K.In h) (G : h.Ns mainGlobals mg) (a : PySem.W.nsIn K mainGlobals "ways_by" = some (some (.ref f))) (l : K.lookup f = some ⟨oc, od, .func (PySem.W.fnOf "ways_by" "ways_by" (defArgs s_ways_by) (defBody s_ways_by) (defScope s_ways_by) .none kV doc pm an cdv ct), osl⟩) (c : PySem.W.codeIn K cdv "ways_by" = true) (k : PySem.W.keepIn K (.ref f) = true) : Df K mg "ways_by" s_ways_by ["web"] := by
  have F := fun_mk (st := s_ways_by) l c k
  exact ⟨f, _, F, PySem.W.mg_of X G a, F.binds (ps := ["web"]) fun _ _ _ _ _ _ us hl => match us, hl with | [_], _ => rfl⟩
theorem df_through {f : Addr} {oc kV doc pm cdv ct : Value} {od an : Option Addr} {osl : Array (Option Value)} (X : K.In h) (G : h.Ns mainGlobals mg) (a : PySem.W.nsIn K mainGlobals "through" = some (some (.ref f))) (l : K.lookup f = some ⟨oc, od, .func (PySem.W.fnOf "through" "through" (defArgs s_through) (defBody s_through) (defScope s_through) .none kV doc pm an cdv ct), osl⟩) (c : PySem.W.codeIn K cdv "through" = true) (k : PySem.W.keepIn K (.ref f) = true) : Df K mg "through" s_through ["web"] := by
  have F := fun_mk (st := s_through) l c k
  exact ⟨f, _, F, PySem.W.mg_of X G a, F.binds (ps := ["web"]) fun _ _ _ _ _ _ us hl => match us, hl with | [_], _ => rfl⟩
theorem df_counted {f : Addr} {oc kV doc pm cdv ct : Value} {od an : Option Addr} {osl : Array (Option Value)} (X : K.In h) (G : h.Ns mainGlobals mg) (a : PySem.W.nsIn K mainGlobals "counted" = some (some (.ref f))) (l : K.lookup f = some ⟨oc, od, .func (PySem.W.fnOf "counted" "counted" (defArgs s_counted) (defBody s_counted) (defScope s_counted) .none kV doc pm an cdv ct), osl⟩) (c : PySem.W.codeIn K cdv "counted" = true) (k : PySem.W.keepIn K (.ref f) = true) : Df K mg "counted" s_counted ["web"] := by
  have F := fun_mk (st := s_counted) l c k
  exact ⟨f, _, F, PySem.W.mg_of X G a, F.binds (ps := ["web"]) fun _ _ _ _ _ _ us hl => match us, hl with | [_], _ => rfl⟩
theorem df_fewest {f : Addr} {oc kV doc pm cdv ct : Value} {od an : Option Addr} {osl : Array (Option Value)} (X : K.In h) (G : h.Ns mainGlobals mg) (a : PySem.W.nsIn K mainGlobals "fewest" = some (some (.ref f))) (l : K.lookup f = some ⟨oc, od, .func (PySem.W.fnOf "fewest" "fewest" (defArgs s_fewest) (defBody s_fewest) (defScope s_fewest) .none kV doc pm an cdv ct), osl⟩) (c : PySem.W.codeIn K cdv "fewest" = true) (k : PySem.W.keepIn K (.ref f) = true) : Df K mg "fewest" s_fewest ["web"] := by
  have F := fun_mk (st := s_fewest) l c k
  exact ⟨f, _, F, PySem.W.mg_of X G a, F.binds (ps := ["web"]) fun _ _ _ _ _ _ us hl => match us, hl with | [_], _ => rfl⟩
theorem df__law_cell_at {f : Addr} {oc kV doc pm cdv ct : Value} {od an : Option Addr} {osl : Array (Option Value)} (X : K.In h) (G : h.Ns mainGlobals mg) (a : PySem.W.nsIn K mainGlobals "_law_cell_at" = some (some (.ref f))) (l : K.lookup f = some ⟨oc, od, .func (PySem.W.fnOf "_law_cell_at" "_law_cell_at" (defArgs s__law_cell_at) (defBody s__law_cell_at) (defScope s__law_cell_at) .none kV doc pm an cdv ct), osl⟩) (c : PySem.W.codeIn K cdv "_law_cell_at" = true) (k : PySem.W.keepIn K (.ref f) = true) : Df K mg "_law_cell_at" s__law_cell_at ["_law_script", "_law_k"] := by
  have F := fun_mk (st := s__law_cell_at) l c k
  exact ⟨f, _, F, PySem.W.mg_of X G a, F.binds (ps := ["_law_script", "_law_k"]) fun _ _ _ _ _ _ us hl => match us, hl with | [_, _], _ => rfl⟩
theorem df__law_draw {f : Addr} {oc kV doc pm cdv ct : Value} {od an : Option Addr} {osl : Array (Option Value)} (X : K.In h) (G : h.Ns mainGlobals mg) (a : PySem.W.nsIn K mainGlobals "_law_draw" = some (some (.ref f))) (l : K.lookup f = some ⟨oc, od, .func (PySem.W.fnOf "_law_draw" "_law_draw" (defArgs s__law_draw) (defBody s__law_draw) (defScope s__law_draw) .none kV doc pm an cdv ct), osl⟩) (c : PySem.W.codeIn K cdv "_law_draw" = true) (k : PySem.W.keepIn K (.ref f) = true) : Df K mg "_law_draw" s__law_draw ["_law_cell", "_law_k", "_law_bound"] := by
  have F := fun_mk (st := s__law_draw) l c k
  exact ⟨f, _, F, PySem.W.mg_of X G a, F.binds (ps := ["_law_cell", "_law_k", "_law_bound"]) fun _ _ _ _ _ _ us hl => match us, hl with | [_, _, _], _ => rfl⟩
theorem df__law_some {f : Addr} {oc kV doc pm cdv ct : Value} {od an : Option Addr} {osl : Array (Option Value)} (X : K.In h) (G : h.Ns mainGlobals mg) (a : PySem.W.nsIn K mainGlobals "_law_some" = some (some (.ref f))) (l : K.lookup f = some ⟨oc, od, .func (PySem.W.fnOf "_law_some" "_law_some" (defArgs s__law_some) (defBody s__law_some) (defScope s__law_some) .none kV doc pm an cdv ct), osl⟩) (c : PySem.W.codeIn K cdv "_law_some" = true) (k : PySem.W.keepIn K (.ref f) = true) : Df K mg "_law_some" s__law_some ["_law_cell", "_law_many", "_law_at"] := by
  have F := fun_mk (st := s__law_some) l c k
  exact ⟨f, _, F, PySem.W.mg_of X G a, F.binds (ps := ["_law_cell", "_law_many", "_law_at"]) fun _ _ _ _ _ _ us hl => match us, hl with | [_, _, _], _ => rfl⟩
theorem df__law_forest {f : Addr} {oc kV doc pm cdv ct : Value} {od an : Option Addr} {osl : Array (Option Value)} (X : K.In h) (G : h.Ns mainGlobals mg) (a : PySem.W.nsIn K mainGlobals "_law_forest" = some (some (.ref f))) (l : K.lookup f = some ⟨oc, od, .func (PySem.W.fnOf "_law_forest" "_law_forest" (defArgs s__law_forest) (defBody s__law_forest) (defScope s__law_forest) .none kV doc pm an cdv ct), osl⟩) (c : PySem.W.codeIn K cdv "_law_forest" = true) (k : PySem.W.keepIn K (.ref f) = true) : Df K mg "_law_forest" s__law_forest ["_law_cell", "_law_most"] := by
  have F := fun_mk (st := s__law_forest) l c k
  exact ⟨f, _, F, PySem.W.mg_of X G a, F.binds (ps := ["_law_cell", "_law_most"]) fun _ _ _ _ _ _ us hl => match us, hl with | [_, _], _ => rfl⟩
theorem df__law_parts_right {f : Addr} {oc kV doc pm cdv ct : Value} {od an : Option Addr} {osl : Array (Option Value)} (X : K.In h) (G : h.Ns mainGlobals mg) (a : PySem.W.nsIn K mainGlobals "_law_parts_right" = some (some (.ref f))) (l : K.lookup f = some ⟨oc, od, .func (PySem.W.fnOf "_law_parts_right" "_law_parts_right" (defArgs s__law_parts_right) (defBody s__law_parts_right) (defScope s__law_parts_right) .none kV doc pm an cdv ct), osl⟩) (c : PySem.W.codeIn K cdv "_law_parts_right" = true) (k : PySem.W.keepIn K (.ref f) = true) : Df K mg "_law_parts_right" s__law_parts_right ["_law_web"] := by
  have F := fun_mk (st := s__law_parts_right) l c k
  exact ⟨f, _, F, PySem.W.mg_of X G a, F.binds (ps := ["_law_web"]) fun _ _ _ _ _ _ us hl => match us, hl with | [_], _ => rfl⟩
theorem df__law_hung {f : Addr} {oc kV doc pm cdv ct : Value} {od an : Option Addr} {osl : Array (Option Value)} (X : K.In h) (G : h.Ns mainGlobals mg) (a : PySem.W.nsIn K mainGlobals "_law_hung" = some (some (.ref f))) (l : K.lookup f = some ⟨oc, od, .func (PySem.W.fnOf "_law_hung" "_law_hung" (defArgs s__law_hung) (defBody s__law_hung) (defScope s__law_hung) .none kV doc pm an cdv ct), osl⟩) (c : PySem.W.codeIn K cdv "_law_hung" = true) (k : PySem.W.keepIn K (.ref f) = true) : Df K mg "_law_hung" s__law_hung ["_law_web", "_law_place"] := by
  have F := fun_mk (st := s__law_hung) l c k
  exact ⟨f, _, F, PySem.W.mg_of X G a, F.binds (ps := ["_law_web", "_law_place"]) fun _ _ _ _ _ _ us hl => match us, hl with | [_, _], _ => rfl⟩
/-- a method as the top left it -/
def Dm (K : PySem.W.Frag) (C : Addr) (x q : Str) (st : Stmt) (ps : List Str) : Prop := ∃ f fd, Fun K x q st f fd ∧ Meth K C x f ∧ Binds K fd ps []
theorem dm_init {C f : Addr} {oc kV doc pm cdv ct : Value} {od an : Option Addr} {osl : Array (Option Value)} (a : PySem.W.findIn K (.ref C) "__init__" = some (some (.ref f))) (i : PySem.W.isFn K (.ref f) = true) (l : K.lookup f = some ⟨oc, od, .func (PySem.W.fnOf "__init__" "Trial.__init__" (defArgs s_init) (defBody s_init) (defScope s_init) .none kV doc pm an cdv ct), osl⟩) (c : PySem.W.codeIn K cdv "Trial.__init__" = true) (k : PySem.W.keepIn K (.ref f) = true) : Dm K C "__init__" "Trial.__init__" s_init ["self", "web"] := by
  have F := fun_mk (st := s_init) l c k
  exact ⟨f, _, F, ⟨a, i, k⟩, F.binds (ps := ["self", "web"]) fun _ _ _ _ _ _ us hl => match us, hl with | [_, _], _ => rfl⟩
theorem dm_places_in {C f : Addr} {oc kV doc pm cdv ct : Value} {od an : Option Addr} {osl : Array (Option Value)} (a : PySem.W.findIn K (.ref C) "places_in" = some (some (.ref f))) (i : PySem.W.isFn K (.ref f) = true) (l : K.lookup f = some ⟨oc, od, .func (PySem.W.fnOf "places_in" "Trial.places_in" (defArgs s_places_in) (defBody s_places_in) (defScope s_places_in) .none kV doc pm an cdv ct), osl⟩) (c : PySem.W.codeIn K cdv "Trial.places_in" = true) (k : PySem.W.keepIn K (.ref f) = true) : Dm K C "places_in" "Trial.places_in" s_places_in ["self", "bits"] := by
  have F := fun_mk (st := s_places_in) l c k
  exact ⟨f, _, F, ⟨a, i, k⟩, F.binds (ps := ["self", "bits"]) fun _ _ _ _ _ _ us hl => match us, hl with | [_, _], _ => rfl⟩
theorem dm_least_for {C f : Addr} {oc kV doc pm cdv ct : Value} {od an : Option Addr} {osl : Array (Option Value)} (a : PySem.W.findIn K (.ref C) "least_for" = some (some (.ref f))) (i : PySem.W.isFn K (.ref f) = true) (l : K.lookup f = some ⟨oc, od, .func (PySem.W.fnOf "least_for" "Trial.least_for" (defArgs s_least_for) (defBody s_least_for) (defScope s_least_for) .none kV doc pm an cdv ct), osl⟩) (c : PySem.W.codeIn K cdv "Trial.least_for" = true) (k : PySem.W.keepIn K (.ref f) = true) : Dm K C "least_for" "Trial.least_for" s_least_for ["self", "bits"] := by
  have F := fun_mk (st := s_least_for) l c k
  exact ⟨f, _, F, ⟨a, i, k⟩, F.binds (ps := ["self", "bits"]) fun _ _ _ _ _ _ us hl => match us, hl with | [_, _], _ => rfl⟩
theorem dm_led_on {C f : Addr} {oc kV doc pm cdv ct : Value} {od an : Option Addr} {osl : Array (Option Value)} (a : PySem.W.findIn K (.ref C) "led_on" = some (some (.ref f))) (i : PySem.W.isFn K (.ref f) = true) (l : K.lookup f = some ⟨oc, od, .func (PySem.W.fnOf "led_on" "Trial.led_on" (defArgs s_led_on) (defBody s_led_on) (defScope s_led_on) .none kV doc pm an cdv ct), osl⟩) (c : PySem.W.codeIn K cdv "Trial.led_on" = true) (k : PySem.W.keepIn K (.ref f) = true) : Dm K C "led_on" "Trial.led_on" s_led_on ["self", "bits", "end"] := by
  have F := fun_mk (st := s_led_on) l c k
  exact ⟨f, _, F, ⟨a, i, k⟩, F.binds (ps := ["self", "bits", "end"]) fun _ _ _ _ _ _ us hl => match us, hl with | [_, _, _], _ => rfl⟩
theorem bare_mk (X : K.In h) (G : h.Ns mainGlobals mg) (n_isinstance : PySem.W.nsIn K mainGlobals "isinstance" = some none) (n_int : PySem.W.nsIn K mainGlobals "int" = some none) (n_bool : PySem.W.nsIn K mainGlobals "bool" = some none) (n_tuple : PySem.W.nsIn K mainGlobals "tuple" = some none) (n_len : PySem.W.nsIn K mainGlobals "len" = some none) (n_all : PySem.W.nsIn K mainGlobals "all" = some none) (n_range : PySem.W.nsIn K mainGlobals "range" = some none) (n_sorted : PySem.W.nsIn K mainGlobals "sorted" = some none) (n_dict : PySem.W.nsIn K mainGlobals "dict" = some none) (n_min : PySem.W.nsIn K mainGlobals "min" = some none) (n_max : PySem.W.nsIn K mainGlobals "max" = some none) (n_set : PySem.W.nsIn K mainGlobals "set" = some none) (n_list : PySem.W.nsIn K mainGlobals "list" = some none) (n_reversed : PySem.W.nsIn K mainGlobals "reversed" = some none) (n_sum : PySem.W.nsIn K mainGlobals "sum" = some none) (n_enumerate : PySem.W.nsIn K mainGlobals "enumerate" = some none) : Bare mg :=
  ⟨PySem.W.mg_none_of X G n_isinstance, PySem.W.mg_none_of X G n_int, PySem.W.mg_none_of X G n_bool, PySem.W.mg_none_of X G n_tuple, PySem.W.mg_none_of X G n_len, PySem.W.mg_none_of X G n_all, PySem.W.mg_none_of X G n_range, PySem.W.mg_none_of X G n_sorted, PySem.W.mg_none_of X G n_dict, PySem.W.mg_none_of X G n_min, PySem.W.mg_none_of X G n_max, PySem.W.mg_none_of X G n_set, PySem.W.mg_none_of X G n_list, PySem.W.mg_none_of X G n_reversed, PySem.W.mg_none_of X G n_sum, PySem.W.mg_none_of X G n_enumerate⟩
theorem trial_mk {C : Addr} (X : K.In h) (G : h.Ns mainGlobals mg) (aC : PySem.W.nsIn K mainGlobals "Trial" = some (some (.ref C))) (pg : PySem.W.plainGet K C Str.empty = true) (hd : PySem.W.hasDictIn K C = true) (po : PySem.W.plainOver K C = true) (sa : PySem.W.findIn K (.ref C) "__setattr__" = some (some (.builtin "object.__setattr__")))
    (nM : PySem.W.findIn K (.ref C) "many" = some none) (nB : PySem.W.findIn K (.ref C) "beside" = some none) (nF : PySem.W.findIn K (.ref C) "few" = some none) (nL : PySem.W.findIn K (.ref C) "led" = some none) : TTxt K mg C := ⟨⟨pg, hd, po, sa⟩, nM, nB, nF, nL, PySem.W.mg_of X G aC⟩
end
theorem all_mk {l : PySem.W.OpenLaw} {w : World} {K : PySem.W.Frag} {h : Heap} {mg : Str → Option Value} {fa C f : Addr} (X : K.In h) (G : h.Ns mainGlobals mg) (hfa : mg "law" = some (.ref fa))
    {oc kV doc pm cdv ct : Value} {od an : Option Addr} {osl : Array (Option Value)} (B : Bare mg) (T : TTxt K mg C) (mk : PySem.W.makesIn K C = true) (kc : PySem.W.keepIn K (.ref C) = true)
    {tP tT : Tok} (aP : PySem.W.nsIn K mainGlobals "MOST_PLACES" = some (some (.int 60 tP))) (aT : PySem.W.nsIn K mainGlobals "MOST_TRIED" = some (some (.int 10 tT)))
    (D_is_number : Df K mg "is_number" s_is_number ["thing", "least", "below"])
    (D_is_pair : Df K mg "is_pair" s_is_pair ["many", "thing"])
    (D_rises : Df K mg "rises" s_rises ["row"])
    (D_is_web : Df K mg "is_web" s_is_web ["thing"])
    (D_need_web : Df K mg "need_web" s_need_web ["thing"])
    (D_is_places : Df K mg "is_places" s_is_places ["web", "thing"])
    (D_need_places : Df K mg "need_places" s_need_places ["web", "thing"])
    (D_near : Df K mg "near" s_near ["web"])
    (D_come_to : Df K mg "come_to" s_come_to ["beside", "place"])
    (D_parts_by : Df K mg "parts_by" s_parts_by ["beside"])
    (D_parts : Df K mg "parts" s_parts ["web"])
    (D_left_over : Df K mg "left_over" s_left_over ["web", "places"])
    (D_without : Df K mg "without" s_without ["web", "places"])
    (D_tie_of : Df K mg "tie_of" s_tie_of ["one", "other"])
    (D_lesser : Df K mg "lesser" s_lesser ["way"])
    (D_goes : Df K mg "goes" s_goes ["web", "thing"])
    (D_parts_all : Df K mg "parts_all" s_parts_all ["web", "thing"])
    (D_plain_form : Df K mg "plain_form" s_plain_form ["parting"])
    (D_joined_by : Df K mg "joined_by" s_joined_by ["many", "ties"])
    (D_has_no_ring : Df K mg "has_no_ring" s_has_no_ring ["web"])
    (D_is_forest : Df K mg "is_forest" s_is_forest ["web"])
    (D_need_forest : Df K mg "need_forest" s_need_forest ["web"])
    (D_from_roots : Df K mg "from_roots" s_from_roots ["web"])
    (D_taken_up : Df K mg "taken_up" s_taken_up ["web", "ends"])
    (D_need_both : Df K mg "need_both" s_need_both ["web", "ends"])
    (D_few_in : Df K mg "few_in" s_few_in ["web", "ends"])
    (D_forest_fewest : Df K mg "forest_fewest" s_forest_fewest ["web", "ends"])
    (D_forest_parting : Df K mg "forest_parting" s_forest_parting ["web", "ends"])
    (D_forest_bar : Df K mg "forest_bar" s_forest_bar ["web", "ends"])
    (D_better : Df K mg "better" s_better ["one", "other"])
    (D_both : Df K mg "both" s_both ["one", "other"])
    (D_with_below : Df K mg "with_below" s_with_below ["rows", "below"])
    (D_forest_count : Df K mg "forest_count" s_forest_count ["web"])
    (D_open_places : Df K mg "open_places" s_open_places ["web"])
    (D_shown : Df K mg "shown" s_shown ["web", "bar"])
    (D_shown_with : Df K mg "shown_with" s_shown_with ["web", "ends", "bar"])
    (D_kept : Df K mg "kept" s_kept ["ends", "parting"])
    (D_is_bar_paper : Df K mg "is_bar_paper" s_is_bar_paper ["web", "thing"])
    (D_need_small : Df K mg "need_small" s_need_small ["web"])
    (D_within : Df K mg "within" s_within ["bits"])
    (D_ways_by : Df K mg "ways_by" s_ways_by ["web"])
    (D_through : Df K mg "through" s_through ["web"])
    (D_counted : Df K mg "counted" s_counted ["web"])
    (D_fewest : Df K mg "fewest" s_fewest ["web"])
    (D__law_cell_at : Df K mg "_law_cell_at" s__law_cell_at ["_law_script", "_law_k"])
    (D__law_draw : Df K mg "_law_draw" s__law_draw ["_law_cell", "_law_k", "_law_bound"])
    (D__law_some : Df K mg "_law_some" s__law_some ["_law_cell", "_law_many", "_law_at"])
    (D__law_forest : Df K mg "_law_forest" s__law_forest ["_law_cell", "_law_most"])
    (D__law_parts_right : Df K mg "_law_parts_right" s__law_parts_right ["_law_web"])
    (D__law_hung : Df K mg "_law_hung" s__law_hung ["_law_web", "_law_place"])
    (D_init : Dm K C "__init__" "Trial.__init__" s_init ["self", "web"])
    (D_places_in : Dm K C "places_in" "Trial.places_in" s_places_in ["self", "bits"])
    (D_least_for : Dm K C "least_for" "Trial.least_for" s_least_for ["self", "bits"])
    (D_led_on : Dm K C "led_on" "Trial.led_on" s_led_on ["self", "bits", "end"])
    (a : PySem.W.nsIn K mainGlobals "law" = some (some (.ref f))) (l1 : K.lookup f = some ⟨oc, od, .func (PySem.W.fnOf "law" "law" (defArgs s_law) (defBody s_law) (defScope s_law) .none kV doc pm an cdv ct), osl⟩) (c : PySem.W.codeIn K cdv "law" = true) (k : PySem.W.keepIn K (.ref f) = true) :
    ∃ fd : FuncData, (∀ (s : Shared) (v : Value), BindsTo s fd ⟨[v], []⟩ [("_law_script", v)]) ∧ ∀ base : Heap, K.In base → base.Ns mainGlobals mg → FnOk l.prog w K mg base CX0 27 fa fd ["_law_script"] (sp_law K) := by
  have e := hfa.symm.trans (PySem.W.mg_of X G a)
  cases e
  have F := fun_mk (st := s_law) l1 c k
  refine ⟨PySem.W.fnOf "law" "law" (defArgs s_law) (defBody s_law) (defScope s_law) .none kV doc pm an cdv ct, fun s v => .of_eq rfl, fun base _ _ => ?_⟩
  obtain ⟨f_init, fd_init, FI, MI, bI⟩ := D_init
  obtain ⟨f_places, fd_places, FP, MP, bP⟩ := D_places_in
  obtain ⟨f_least, fd_least, FL, ML, bL⟩ := D_least_for
  obtain ⟨f_led, fd_led, FE, ME, bE⟩ := D_led_on
  have h_is_number := kp_is_number (P := l.prog) (w := w) (base := base) D_is_number B 
  have h_is_pair := kp_is_pair (P := l.prog) (w := w) (base := base) D_is_pair B h_is_number
  have h_rises := kp_rises (P := l.prog) (w := w) (base := base) D_rises B 
  have h_is_web := kp_is_web (P := l.prog) (w := w) (base := base) D_is_web B h_rises h_is_number h_is_pair (PySem.W.mg_of X G aP)
  have h_need_web := kp_need_web (P := l.prog) (w := w) (base := base) D_need_web B h_is_web
  have h_is_places := kp_is_places (P := l.prog) (w := w) (base := base) D_is_places B h_rises h_is_number
  have h_need_places := kp_need_places (P := l.prog) (w := w) (base := base) D_need_places B h_is_places
  have h_near := kp_near (P := l.prog) (w := w) (base := base) D_near B 
  have h_come_to := kp_come_to (P := l.prog) (w := w) (base := base) D_come_to B 
  have h_parts_by := kp_parts_by (P := l.prog) (w := w) (base := base) D_parts_by B h_come_to
  have h_parts := kp_parts (P := l.prog) (w := w) (base := base) D_parts B h_need_web h_parts_by h_near
  have h_left_over := kp_left_over (P := l.prog) (w := w) (base := base) D_left_over B 
  have h_without := kp_without (P := l.prog) (w := w) (base := base) D_without B h_need_web h_need_places h_left_over
  have h_tie_of := kp_tie_of (P := l.prog) (w := w) (base := base) D_tie_of B 
  have h_lesser := kp_lesser (P := l.prog) (w := w) (base := base) D_lesser B 
  have h_goes := kp_goes (P := l.prog) (w := w) (base := base) D_goes B h_tie_of h_is_number
  have h_parts_all := kp_parts_all (P := l.prog) (w := w) (base := base) D_parts_all B h_goes
  have h_plain_form := kp_plain_form (P := l.prog) (w := w) (base := base) D_plain_form B h_lesser
  have h_joined_by := kp_joined_by (P := l.prog) (w := w) (base := base) D_joined_by B h_near h_plain_form
  have h_has_no_ring := kp_has_no_ring (P := l.prog) (w := w) (base := base) D_has_no_ring B h_parts_by h_near
  have h_is_forest := kp_is_forest (P := l.prog) (w := w) (base := base) D_is_forest B h_need_web h_has_no_ring
  have h_need_forest := kp_need_forest (P := l.prog) (w := w) (base := base) D_need_forest B h_need_web h_has_no_ring
  have h_from_roots := kp_from_roots (P := l.prog) (w := w) (base := base) D_from_roots B h_near h_parts_by
  have h_taken_up := kp_taken_up (P := l.prog) (w := w) (base := base) D_taken_up B h_from_roots
  have h_need_both := kp_need_both (P := l.prog) (w := w) (base := base) D_need_both B h_need_forest h_need_places
  have h_few_in := kp_few_in (P := l.prog) (w := w) (base := base) D_few_in B h_taken_up
  have h_forest_fewest := kp_forest_fewest (P := l.prog) (w := w) (base := base) D_forest_fewest B h_need_both h_few_in
  have h_forest_parting := kp_forest_parting (P := l.prog) (w := w) (base := base) D_forest_parting B h_need_both h_joined_by h_taken_up
  have h_forest_bar := kp_forest_bar (P := l.prog) (w := w) (base := base) D_forest_bar B h_need_both h_taken_up
  have h_better := kp_better (P := l.prog) (w := w) (base := base) D_better B 
  have h_both := kp_both (P := l.prog) (w := w) (base := base) D_both B 
  have h_with_below := kp_with_below (P := l.prog) (w := w) (base := base) D_with_below B h_better h_both
  have h_forest_count := kp_forest_count (P := l.prog) (w := w) (base := base) D_forest_count B h_need_forest h_from_roots h_with_below h_better
  have h_open_places := kp_open_places (P := l.prog) (w := w) (base := base) D_open_places B h_need_forest h_few_in
  have h_shown := kp_shown (P := l.prog) (w := w) (base := base) D_shown B h_parts_by h_near h_left_over
  have h_shown_with := kp_shown_with (P := l.prog) (w := w) (base := base) D_shown_with B h_shown
  have h_kept := kp_kept (P := l.prog) (w := w) (base := base) D_kept B 
  have h_is_bar_paper := kp_is_bar_paper (P := l.prog) (w := w) (base := base) D_is_bar_paper B h_need_web h_kept h_is_places h_parts_all h_shown_with
  have h_need_small := kp_need_small (P := l.prog) (w := w) (base := base) D_need_small B h_need_web (PySem.W.mg_of X G aT)
  have h_within := kp_within (P := l.prog) (w := w) (base := base) D_within B 
  have h_ways_by := kp_ways_by (P := l.prog) (w := w) (base := base) D_ways_by B h_near
  have h_through := kp_through (P := l.prog) (w := w) (base := base) D_through B h_ways_by
  have h_counted := kp_counted (P := l.prog) (w := w) (base := base) D_counted B h_need_small h_through h_within
  have h_fewest := kp_fewest (P := l.prog) (w := w) (base := base) D_fewest B h_need_small T ⟨mk, MI.at_, MI.fn, kc⟩ (fn_init FI h_near T) bI (fn_rec FP bP MP FL bL ML FE bE ME B T 21).1 bL ML
  have h__law_cell_at := kp__law_cell_at (P := l.prog) (w := w) (base := base) D__law_cell_at B 
  have h__law_draw := kp__law_draw (P := l.prog) (w := w) (base := base) D__law_draw B 
  have h__law_some := kp__law_some (P := l.prog) (w := w) (base := base) D__law_some B h__law_draw
  have h__law_forest := kp__law_forest (P := l.prog) (w := w) (base := base) D__law_forest B h__law_draw
  have h__law_parts_right := kp__law_parts_right (P := l.prog) (w := w) (base := base) D__law_parts_right B h_parts h_without h_forest_fewest h_forest_count
  have h__law_hung := kp__law_hung (P := l.prog) (w := w) (base := base) D__law_hung B 
  exact fn_law F B h__law_cell_at h__law_forest h_forest_fewest h__law_some h_open_places h_is_bar_paper h_is_forest h__law_parts_right h_fewest h_forest_count h_forest_parting h_forest_bar h__law_hung h_counted
theorem walk {l : PySem.W.OpenLaw} {q : Program} {loose : List Str} {XP : (Str → Option Value) → Heap → Prop} {YP : World → Heap → Prop} {d : DefRec} {K : Params → PySem.W.Frag} (hn : l.most = some 63) (hdf : d.params.defaults = [])
    (hY : ∀ (w : World) (h : Heap), YP w h → (K w.params).In h)
    (F : ∀ (w : World) (mg : Str → Option Value) (fa : Addr) (h : Heap), (K w.params).In h → h.Ns mainGlobals mg → mg d.name = some (.ref fa) →
      ∃ fd : FuncData, (∀ (s : Shared) (u : Value), BindsTo s fd ⟨[u], []⟩ [("_law_script", u)]) ∧ ∀ base : Heap, (K w.params).In base → base.Ns mainGlobals mg → FnOk l.prog w (K w.params) mg base CX0 27 fa fd ["_law_script"] (sp_law (K w.params))) :
    PySem.W.WalkO q loose XP YP l.row.toRowW d [] (fun f vs => PySem.call f vs) :=
  L2.walk_of (n := 63) (k := 27) (x := "_law_script") (CX := fun _ => CX0) (sp := fun w => sp_law (K w.params)) hn (by decide) hdf ⟨rfl, by decide, by decide⟩ hY F (fun _ _ a ns hl _ hS => ⟨a, ns, rfl, hS, hl, fun _ => rfl⟩) fun _ _ _ _ _ z => z
end W37
open PySem PySem.W PyProof.Rows
set_option maxRecDepth 100000 in
set_option maxHeartbeats 0 in
theorem PySem.Challenge.cw_fewways_k37_whole_forests_holds : PySem.Challenge.rw_fewways_k37_whole_forests.Holds := by
  w_on; o_law; k_head; (case hw => w_witness2)
  k_fill
  refine W37.walk (l := PySem.Challenge.rw_fewways_k37_whole_forests) rfl rfl (fun w h Y => PySem.W.kIn_of Y) ?F
  case F =>
    intro w mg fa h KX G hmg
    refine' W37.all_mk KX G hmg (W37.bare_mk KX G ?n1 ?n2 ?n3 ?n4 ?n5 ?n6 ?n7 ?n8 ?n9 ?n10 ?n11 ?n12 ?n13 ?n14 ?n15 ?n16)
      (W37.trial_mk KX G ?t17 ?t18 ?t19 ?t20 ?t21 ?t22 ?t23 ?t24 ?t25)
      ?m26
      ?m27
      ?v28
      ?v29
      (W37.df_is_number KX G ?a30 ?l31 ?c32 ?k33)
      (W37.df_is_pair KX G ?a34 ?l35 ?c36 ?k37)
      (W37.df_rises KX G ?a38 ?l39 ?c40 ?k41)
      (W37.df_is_web KX G ?a42 ?l43 ?c44 ?k45)
      (W37.df_need_web KX G ?a46 ?l47 ?c48 ?k49)
      (W37.df_is_places KX G ?a50 ?l51 ?c52 ?k53)
      (W37.df_need_places KX G ?a54 ?l55 ?c56 ?k57)
      (W37.df_near KX G ?a58 ?l59 ?c60 ?k61)
      (W37.df_come_to KX G ?a62 ?l63 ?c64 ?k65)
      (W37.df_parts_by KX G ?a66 ?l67 ?c68 ?k69)
      (W37.df_parts KX G ?a70 ?l71 ?c72 ?k73)
      (W37.df_left_over KX G ?a74 ?l75 ?c76 ?k77)
      (W37.df_without KX G ?a78 ?l79 ?c80 ?k81)
      (W37.df_tie_of KX G ?a82 ?l83 ?c84 ?k85)
      (W37.df_lesser KX G ?a86 ?l87 ?c88 ?k89)
      (W37.df_goes KX G ?a90 ?l91 ?c92 ?k93)
      (W37.df_parts_all KX G ?a94 ?l95 ?c96 ?k97)
      (W37.df_plain_form KX G ?a98 ?l99 ?c100 ?k101)
      (W37.df_joined_by KX G ?a102 ?l103 ?c104 ?k105)
      (W37.df_has_no_ring KX G ?a106 ?l107 ?c108 ?k109)
      (W37.df_is_forest KX G ?a110 ?l111 ?c112 ?k113)
      (W37.df_need_forest KX G ?a114 ?l115 ?c116 ?k117)
      (W37.df_from_roots KX G ?a118 ?l119 ?c120 ?k121)
      (W37.df_taken_up KX G ?a122 ?l123 ?c124 ?k125)
      (W37.df_need_both KX G ?a126 ?l127 ?c128 ?k129)
      (W37.df_few_in KX G ?a130 ?l131 ?c132 ?k133)
      (W37.df_forest_fewest KX G ?a134 ?l135 ?c136 ?k137)
      (W37.df_forest_parting KX G ?a138 ?l139 ?c140 ?k141)
      (W37.df_forest_bar KX G ?a142 ?l143 ?c144 ?k145)
      (W37.df_better KX G ?a146 ?l147 ?c148 ?k149)
      (W37.df_both KX G ?a150 ?l151 ?c152 ?k153)
      (W37.df_with_below KX G ?a154 ?l155 ?c156 ?k157)
      (W37.df_forest_count KX G ?a158 ?l159 ?c160 ?k161)
      (W37.df_open_places KX G ?a162 ?l163 ?c164 ?k165)
      (W37.df_shown KX G ?a166 ?l167 ?c168 ?k169)
      (W37.df_shown_with KX G ?a170 ?l171 ?c172 ?k173)
      (W37.df_kept KX G ?a174 ?l175 ?c176 ?k177)
      (W37.df_is_bar_paper KX G ?a178 ?l179 ?c180 ?k181)
      (W37.df_need_small KX G ?a182 ?l183 ?c184 ?k185)
      (W37.df_within KX G ?a186 ?l187 ?c188 ?k189)
      (W37.df_ways_by KX G ?a190 ?l191 ?c192 ?k193)
      (W37.df_through KX G ?a194 ?l195 ?c196 ?k197)
      (W37.df_counted KX G ?a198 ?l199 ?c200 ?k201)
      (W37.df_fewest KX G ?a202 ?l203 ?c204 ?k205)
      (W37.df__law_cell_at KX G ?a206 ?l207 ?c208 ?k209)
      (W37.df__law_draw KX G ?a210 ?l211 ?c212 ?k213)
      (W37.df__law_some KX G ?a214 ?l215 ?c216 ?k217)
      (W37.df__law_forest KX G ?a218 ?l219 ?c220 ?k221)
      (W37.df__law_parts_right KX G ?a222 ?l223 ?c224 ?k225)
      (W37.df__law_hung KX G ?a226 ?l227 ?c228 ?k229)
      (W37.dm_init ?a230 ?i231 ?l232 ?c233 ?k234)
      (W37.dm_places_in ?a235 ?i236 ?l237 ?c238 ?k239)
      (W37.dm_least_for ?a240 ?i241 ?l242 ?c243 ?k244)
      (W37.dm_led_on ?a245 ?i246 ?l247 ?c248 ?k249)
      ?a250
      ?l251
      ?c252
      ?k253
    (case n1 => k_is); (case n2 => k_is); (case n3 => k_is); (case n4 => k_is); (case n5 => k_is); (case n6 => k_is)
    (case n7 => k_is); (case n8 => k_is); (case n9 => k_is); (case n10 => k_is); (case n11 => k_is); (case n12 => k_is)
    (case n13 => k_is); (case n14 => k_is); (case n15 => k_is); (case n16 => k_is); (case t17 => k_is); (case t18 => k_is)
    (case t19 => k_is); (case t20 => k_is); (case t21 => k_is); (case t22 => k_is); (case t23 => k_is); (case t24 => k_is)
    (case t25 => k_is); (case m26 => k_is); (case m27 => k_is); (case v28 => k_is); (case v29 => k_is); (case a30 => k_is)
    (case l31 => k_is); (case c32 => k_is); (case k33 => k_is); (case a34 => k_is); (case l35 => k_is); (case c36 => k_is)
    (case k37 => k_is); (case a38 => k_is); (case l39 => k_is); (case c40 => k_is); (case k41 => k_is); (case a42 => k_is)
    (case l43 => k_is); (case c44 => k_is); (case k45 => k_is); (case a46 => k_is); (case l47 => k_is); (case c48 => k_is)
    (case k49 => k_is); (case a50 => k_is); (case l51 => k_is); (case c52 => k_is); (case k53 => k_is); (case a54 => k_is)
    (case l55 => k_is); (case c56 => k_is); (case k57 => k_is); (case a58 => k_is); (case l59 => k_is); (case c60 => k_is)
    (case k61 => k_is); (case a62 => k_is); (case l63 => k_is); (case c64 => k_is); (case k65 => k_is); (case a66 => k_is)
    (case l67 => k_is); (case c68 => k_is); (case k69 => k_is); (case a70 => k_is); (case l71 => k_is); (case c72 => k_is)
    (case k73 => k_is); (case a74 => k_is); (case l75 => k_is); (case c76 => k_is); (case k77 => k_is); (case a78 => k_is)
    (case l79 => k_is); (case c80 => k_is); (case k81 => k_is); (case a82 => k_is); (case l83 => k_is); (case c84 => k_is)
    (case k85 => k_is); (case a86 => k_is); (case l87 => k_is); (case c88 => k_is); (case k89 => k_is); (case a90 => k_is)
    (case l91 => k_is); (case c92 => k_is); (case k93 => k_is); (case a94 => k_is); (case l95 => k_is); (case c96 => k_is)
    (case k97 => k_is); (case a98 => k_is); (case l99 => k_is); (case c100 => k_is); (case k101 => k_is); (case a102 => k_is)
    (case l103 => k_is); (case c104 => k_is); (case k105 => k_is); (case a106 => k_is); (case l107 => k_is); (case c108 => k_is)
    (case k109 => k_is); (case a110 => k_is); (case l111 => k_is); (case c112 => k_is); (case k113 => k_is); (case a114 => k_is)
    (case l115 => k_is); (case c116 => k_is); (case k117 => k_is); (case a118 => k_is); (case l119 => k_is); (case c120 => k_is)
    (case k121 => k_is); (case a122 => k_is); (case l123 => k_is); (case c124 => k_is); (case k125 => k_is); (case a126 => k_is)
    (case l127 => k_is); (case c128 => k_is); (case k129 => k_is); (case a130 => k_is); (case l131 => k_is); (case c132 => k_is)
    (case k133 => k_is); (case a134 => k_is); (case l135 => k_is); (case c136 => k_is); (case k137 => k_is); (case a138 => k_is)
    (case l139 => k_is); (case c140 => k_is); (case k141 => k_is); (case a142 => k_is); (case l143 => k_is); (case c144 => k_is)
    (case k145 => k_is); (case a146 => k_is); (case l147 => k_is); (case c148 => k_is); (case k149 => k_is); (case a150 => k_is)
    (case l151 => k_is); (case c152 => k_is); (case k153 => k_is); (case a154 => k_is); (case l155 => k_is); (case c156 => k_is)
    (case k157 => k_is); (case a158 => k_is); (case l159 => k_is); (case c160 => k_is); (case k161 => k_is); (case a162 => k_is)
    (case l163 => k_is); (case c164 => k_is); (case k165 => k_is); (case a166 => k_is); (case l167 => k_is); (case c168 => k_is)
    (case k169 => k_is); (case a170 => k_is); (case l171 => k_is); (case c172 => k_is); (case k173 => k_is); (case a174 => k_is)
    (case l175 => k_is); (case c176 => k_is); (case k177 => k_is); (case a178 => k_is); (case l179 => k_is); (case c180 => k_is)
    (case k181 => k_is); (case a182 => k_is); (case l183 => k_is); (case c184 => k_is); (case k185 => k_is); (case a186 => k_is)
    (case l187 => k_is); (case c188 => k_is); (case k189 => k_is); (case a190 => k_is); (case l191 => k_is); (case c192 => k_is)
    (case k193 => k_is); (case a194 => k_is); (case l195 => k_is); (case c196 => k_is); (case k197 => k_is); (case a198 => k_is)
    (case l199 => k_is); (case c200 => k_is); (case k201 => k_is); (case a202 => k_is); (case l203 => k_is); (case c204 => k_is)
    (case k205 => k_is); (case a206 => k_is); (case l207 => k_is); (case c208 => k_is); (case k209 => k_is); (case a210 => k_is)
    (case l211 => k_is); (case c212 => k_is); (case k213 => k_is); (case a214 => k_is); (case l215 => k_is); (case c216 => k_is)
    (case k217 => k_is); (case a218 => k_is); (case l219 => k_is); (case c220 => k_is); (case k221 => k_is); (case a222 => k_is)
    (case l223 => k_is); (case c224 => k_is); (case k225 => k_is); (case a226 => k_is); (case l227 => k_is); (case c228 => k_is)
    (case k229 => k_is); (case a230 => k_is); (case i231 => k_is); (case l232 => k_is); (case c233 => k_is); (case k234 => k_is)
    (case a235 => k_is); (case i236 => k_is); (case l237 => k_is); (case c238 => k_is); (case k239 => k_is); (case a240 => k_is)
    (case i241 => k_is); (case l242 => k_is); (case c243 => k_is); (case k244 => k_is); (case a245 => k_is); (case i246 => k_is)
    (case l247 => k_is); (case c248 => k_is); (case k249 => k_is); (case a250 => k_is); (case l251 => k_is); (case c252 => k_is)
    (case k253 => k_is)
