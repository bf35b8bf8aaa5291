import PyProof.Rows.All
import Wide.All
import OpenK.AllK
import Wide.FinOn
import KE.KSortTup
import PySem.Challenge.RW_uf020024_04
set_option Elab.async false
set_option linter.all false
namespace Bn
abbrev Net := List (List (Nat × Nat))
def rising (n : Nat) : Nat → List (Nat × Nat) → Prop
  | _, [] => True
  | lo, (l, h) :: r => l < h ∧ h < n ∧ lo ≤ h ∧ rising n (h + 1) r
def okLayer (n : Nat) (layer : List (Nat × Nat)) : Prop := layer ≠ [] ∧ rising n 0 layer
def okNet (n : Nat) (net : Net) : Prop := net.length ≤ 80 ∧ ∀ layer ∈ net, okLayer n layer
theorem rising_len {n : Nat} : ∀ {layer : List (Nat × Nat)} {lo : Nat}, rising n lo layer → layer ≠ [] → layer.length + lo ≤ n ∧ (0 < lo ∨ layer.length < n)
  | [], _, _, hn => absurd rfl hn
  | (l, h) :: r, lo, hr, _ => by
    obtain ⟨h1, h2, h3, h4⟩ := hr
    by_cases hn : r = []
    · subst hn; simp only [List.length_cons, List.length_nil]; omega
    · have := rising_len h4 hn
      simp only [List.length_cons]
      omega
def padTo (n : Nat) (lays : Net) : Net := lays ++ List.replicate (n - lays.length) []
def putLay (lays : Net) (i : Nat) (p : Nat × Nat) : Net := (padTo (i + 1) lays).set i ((padTo (i + 1) lays).getD i [] ++ [p])
def g0 (xs : List Nat) (i : Nat) : Nat := xs.getD i 0
def placeAt (done read : List Nat) (l h : Nat) : Nat := max (max (g0 done l) (g0 done h)) (g0 read h)
end Bn
namespace Bn
def stepL {α : Type} (f : α → α → α) (layer : List (Nat × Nat)) (σ : Nat → α) : Nat → α := fun x => match layer.find? (fun p => p.2 == x) with
  | some p => f (σ p.1) (σ x)
  | none => σ x
def runN {α : Type} (f : α → α → α) : List (List (Nat × Nat)) → (Nat → α) → Nat → α
  | [], σ => σ
  | layer :: r, σ => runN f r (stepL f layer σ)
def step1 {α : Type} (f : α → α → α) (l h : Nat) (σ : Nat → α) : Nat → α := fun x => if x = h then f (σ l) (σ h) else σ x
def run1 {α : Type} (f : α → α → α) : List (Nat × Nat) → (Nat → α) → Nat → α
  | [], σ => σ
  | p :: r, σ => run1 f r (step1 f p.1 p.2 σ)
section
variable {α : Type} {f : α → α → α}
theorem runN_append : ∀ (a b : List (List (Nat × Nat))) (σ : Nat → α), runN f (a ++ b) σ = runN f b (runN f a σ)
  | [], _, _ => rfl
  | _ :: a, b, _ => runN_append a b _
theorem run1_append : ∀ (a b : List (Nat × Nat)) (σ : Nat → α), run1 f (a ++ b) σ = run1 f b (run1 f a σ)
  | [], _, _ => rfl
  | _ :: a, b, _ => run1_append a b _
theorem stepL_not {layer : List (Nat × Nat)} {σ : Nat → α} {x : Nat} (h : ∀ p ∈ layer, p.2 ≠ x) : stepL f layer σ x = σ x := by
  unfold stepL
  have : layer.find? (fun p => p.2 == x) = none := by
    rw [List.find?_eq_none]
    intro p hp
    simpa using h p hp
  rw [this]
theorem runN_not : ∀ {net : List (List (Nat × Nat))} {σ : Nat → α} {x : Nat}, (∀ layer ∈ net, ∀ p ∈ layer, p.2 ≠ x) → runN f net σ x = σ x
  | [], _, _, _ => rfl
  | layer :: r, σ, x, h => by
    simp only [runN]
    rw [runN_not fun l hl => h l (List.mem_cons_of_mem _ hl), stepL_not (h layer List.mem_cons_self)]
theorem stepL_agree {layer : List (Nat × Nat)} {σ τ : Nat → α} {h : Nat} (ha : ∀ x, x ≠ h → σ x = τ x) (hr : ∀ p ∈ layer, p.1 ≠ h ∧ p.2 ≠ h) : ∀ x, x ≠ h → stepL f layer σ x = stepL f layer τ x := by
  intro x hx
  unfold stepL
  cases hf : layer.find? (fun p => p.2 == x) with
  | none => exact ha x hx
  | some p =>
    have hp := List.mem_of_find?_eq_some hf
    simp only
    rw [ha p.1 (hr p hp).1, ha x hx]
theorem runN_agree : ∀ {net : List (List (Nat × Nat))} {σ τ : Nat → α} {h : Nat}, (∀ x, x ≠ h → σ x = τ x) → (∀ layer ∈ net, ∀ p ∈ layer, p.1 ≠ h ∧ p.2 ≠ h) → ∀ x, x ≠ h → runN f net σ x = runN f net τ x
  | [], _, _, _, ha, _ => ha
  | layer :: r, σ, τ, h, ha, hr => by
    simp only [runN]
    exact runN_agree (net := r) (stepL_agree ha (hr layer List.mem_cons_self)) fun l hl => hr l (List.mem_cons_of_mem _ hl)
theorem insert_run {pre post : List (List (Nat × Nat))} {layer layer' : List (Nat × Nat)} {l h : Nat} (hperm : ∀ p, p ∈ layer' ↔ p = (l, h) ∨ p ∈ layer) (hnd : ∀ p ∈ layer, ∀ q ∈ layer, p.2 = q.2 → p = q)
    (h1 : ∀ p ∈ layer, p.2 ≠ h ∧ p.2 ≠ l) (h2 : ∀ lay ∈ post, ∀ p ∈ lay, p.1 ≠ h ∧ p.2 ≠ h ∧ p.2 ≠ l) (hlh : l ≠ h) (σ : Nat → α) :
    runN f (pre ++ layer' :: post) σ = step1 f l h (runN f (pre ++ layer :: post) σ) := by
  rw [runN_append, runN_append]
  generalize runN f pre σ = τ
  simp only [runN]
  have find_eq : ∀ x, x ≠ h → (layer'.find? (fun p => p.2 == x)) = layer.find? (fun p => p.2 == x) := by
    intro x hx
    cases hf : layer.find? (fun p => p.2 == x) with
    | none =>
      rw [List.find?_eq_none] at hf ⊢
      intro p hp
      rcases (hperm p).mp hp with rfl | hp
      · simpa using Ne.symm hx
      · exact hf p hp
    | some p =>
      have hp := List.mem_of_find?_eq_some hf
      have hpx : p.2 = x := by have := List.find?_some hf; simpa using this
      cases hf' : layer'.find? (fun p => p.2 == x) with
      | none =>
        rw [List.find?_eq_none] at hf'
        exact absurd (by simpa using hpx) (hf' p ((hperm p).mpr (.inr hp)))
      | some p' =>
        have hp' := List.mem_of_find?_eq_some hf'
        have hpx' : p'.2 = x := by have := List.find?_some hf'; simpa using this
        rcases (hperm p').mp hp' with rfl | hp'
        · exact absurd hpx' (Ne.symm hx)
        · rw [hnd p hp p' hp' (hpx.trans hpx'.symm)]
  have agree : ∀ x, x ≠ h → stepL f layer' τ x = stepL f layer τ x := by
    intro x hx
    unfold stepL
    rw [find_eq x hx]
  have athigh : stepL f layer' τ h = f (τ l) (τ h) := by
    unfold stepL
    cases hf : layer'.find? (fun p => p.2 == h) with
    | none =>
      rw [List.find?_eq_none] at hf
      exact absurd (by simp) (hf (l, h) ((hperm _).mpr (.inl rfl)))
    | some p =>
      have hp := List.mem_of_find?_eq_some hf
      have hpx : p.2 = h := by have := List.find?_some hf; simpa using this
      rcases (hperm p).mp hp with rfl | hp
      · rfl
      · exact absurd hpx (h1 p hp).1
  funext x
  unfold step1
  by_cases hx : x = h
  · subst hx
    rw [if_pos rfl, runN_not (fun lay hl p hp => (h2 lay hl p hp).2.1), athigh]
    rw [runN_not (fun lay hl p hp => (h2 lay hl p hp).2.2), runN_not (fun lay hl p hp => (h2 lay hl p hp).2.1)]
    rw [stepL_not (fun p hp => (h1 p hp).2), stepL_not (fun p hp => (h1 p hp).1)]
  · rw [if_neg hx]
    exact runN_agree agree (fun lay hl p hp => ⟨(h2 lay hl p hp).1, (h2 lay hl p hp).2.1⟩) x hx
end
end Bn
namespace Bn
structure PS where
  lays : Net
  done : List Nat
  read : List Nat
def PS.put (s : PS) (p : Nat × Nat) : PS :=
  ⟨putLay s.lays (placeAt s.done s.read p.1 p.2) p, s.done.set p.2 (placeAt s.done s.read p.1 p.2 + 1), s.read.set p.1 (max (g0 s.read p.1) (placeAt s.done s.read p.1 p.2))⟩
def PS.puts (s : PS) (js : List (Nat × Nat)) : PS := js.foldl PS.put s
def PS.init (n : Nat) : PS := ⟨[], List.replicate n 0, List.replicate n 0⟩
theorem PS.puts_append (s : PS) (a b : List (Nat × Nat)) : s.puts (a ++ b) = (s.puts a).puts b := List.foldl_append
theorem putLay_eq {lays : Net} {i : Nat} {p : Nat × Nat} (h : i ≤ lays.length) : putLay lays i p = lays.take i ++ (lays.getD i [] ++ [p]) :: lays.drop (i + 1) := by
  unfold putLay
  by_cases hi : i < lays.length
  · have e : padTo (i + 1) lays = lays := by simp [padTo, show i + 1 - lays.length = 0 by omega]
    rw [e, List.set_eq_take_append_cons_drop, if_pos hi]
  · have hi : i = lays.length := by omega
    subst hi
    have e : padTo (lays.length + 1) lays = lays ++ [[]] := by simp [padTo, show lays.length + 1 - lays.length = 1 by omega]
    rw [e, List.set_append_right _ _ (Nat.le_refl _)]
    simp [List.getD_eq_getElem?_getD]
theorem stepL_nil {α : Type} {f : α → α → α} {σ : Nat → α} : stepL f [] σ = σ := rfl
theorem run_split {α : Type} {f : α → α → α} {σ : Nat → α} {lays : Net} {i : Nat} (h : i ≤ lays.length) : runN f lays σ = runN f (lays.take i ++ lays.getD i [] :: lays.drop (i + 1)) σ := by
  by_cases hi : i < lays.length
  · have : lays.take i ++ lays.getD i [] :: lays.drop (i + 1) = lays := by
      rw [List.getD_eq_getElem?_getD, List.getElem?_eq_getElem hi]
      simp
    rw [this]
  · have hi : i = lays.length := by omega
    subst hi
    rw [runN_append, List.drop_eq_nil_of_le (Nat.le_succ _)]
    simp [runN, stepL_nil, List.getD_eq_getElem?_getD]
theorem g0_set {xs : List Nat} {i v x : Nat} (hi : i < xs.length) : g0 (xs.set i v) x = if x = i then v else g0 xs x := by
  unfold g0
  rw [List.getD_eq_getElem?_getD, List.getElem?_set, List.getD_eq_getElem?_getD]
  by_cases h : x = i
  · subst h; simp [hi]
  · rw [if_neg (Ne.symm h), if_neg h]
structure Laid (n : Nat) (s : PS) (js : List (Nat × Nat)) : Prop where
  dl : s.done.length = n
  rl : s.read.length = n
  hi : ∀ i y, s.lays[i]? = some y → ∀ p ∈ y, i < g0 s.done p.2 ∧ i ≤ g0 s.read p.1 ∧ p.1 < p.2 ∧ p.2 < n
  ne : ∀ y ∈ s.lays, y ≠ []
  nd : ∀ y ∈ s.lays, (y.map (·.2)).Nodup
  dm : ∀ x, g0 s.done x ≤ s.lays.length ∧ g0 s.read x ≤ s.lays.length
  run : ∀ {α : Type} (f : α → α → α) (σ : Nat → α), runN f s.lays σ = run1 f js σ
theorem g0_zero (n x : Nat) : g0 (List.replicate n 0) x = 0 := by
  unfold g0; rw [List.getD_eq_getElem?_getD, List.getElem?_replicate]; split <;> rfl
theorem Laid.init (n : Nat) : Laid n (PS.init n) [] where
  dl := by simp [PS.init]
  rl := by simp [PS.init]
  hi := by simp [PS.init]
  ne := by simp [PS.init]
  nd := by simp [PS.init]
  dm := by intro x; simp [PS.init, g0_zero]
  run := by intros; rfl
theorem nodup_inj {y : List (Nat × Nat)} (h : (y.map (·.2)).Nodup) : ∀ p ∈ y, ∀ q ∈ y, p.2 = q.2 → p = q := by
  induction y with
  | nil => intro p hp; cases hp
  | cons a r ih =>
    simp only [List.map_cons, List.nodup_cons, List.mem_map, not_exists, not_and] at h
    intro p hp q hq e
    rcases List.mem_cons.mp hp with hp1 | hp1 <;> rcases List.mem_cons.mp hq with hq1 | hq1
    · rw [hp1, hq1]
    · exact absurd (e.symm.trans (by rw [hp1])) (h.1 q hq1)
    · exact absurd (e.trans (by rw [hq1])) (h.1 p hp1)
    · exact ih h.2 p hp1 q hq1 e
theorem Laid.at_le {n : Nat} {s : PS} {js : List (Nat × Nat)} (L : Laid n s js) (l h : Nat) : placeAt s.done s.read l h ≤ s.lays.length := by
  have := L.dm l; have := L.dm h; unfold placeAt; omega
theorem Laid.put {n : Nat} {s : PS} {js : List (Nat × Nat)} (L : Laid n s js) {l h : Nat} (hlh : l < h) (hn : h < n) : Laid n (s.put (l, h)) (js ++ [(l, h)]) := by
  have hat := L.at_le l h
  have e1 : g0 s.done l ≤ placeAt s.done s.read l h := by unfold placeAt; omega
  have e2 : g0 s.done h ≤ placeAt s.done s.read l h := by unfold placeAt; omega
  have e3 : g0 s.read h ≤ placeAt s.done s.read l h := by unfold placeAt; omega
  generalize hk : placeAt s.done s.read l h = k at hat e1 e2 e3
  have hput : s.put (l, h) = ⟨s.lays.take k ++ (s.lays.getD k [] ++ [(l, h)]) :: s.lays.drop (k + 1), s.done.set h (k + 1), s.read.set l (max (g0 s.read l) k)⟩ := by
    simp only [PS.put, hk, putLay_eq hat]
  rw [hput]
  have dl := L.dl; have rl := L.rl
  have hgd : ∀ x, g0 (s.done.set h (k + 1)) x = if x = h then k + 1 else g0 s.done x := fun x => g0_set (by omega)
  have hgr : ∀ x, g0 (s.read.set l (max (g0 s.read l) k)) x = if x = l then max (g0 s.read l) k else g0 s.read x := fun x => g0_set (by omega)
  have hlen : (s.lays.take k ++ (s.lays.getD k [] ++ [(l, h)]) :: s.lays.drop (k + 1)).length = max s.lays.length (k + 1) := by simp; omega
  have old : ∀ i y, s.lays[i]? = some y → ∀ p ∈ y, i < g0 (s.done.set h (k + 1)) p.2 ∧ i ≤ g0 (s.read.set l (max (g0 s.read l) k)) p.1 ∧ p.1 < p.2 ∧ p.2 < n := by
    intro i y hy p hp
    obtain ⟨a1, a2, a3, a4⟩ := L.hi i y hy p hp
    rw [hgd, hgr]
    refine ⟨?_, ?_, a3, a4⟩
    · split
      · rename_i e; rw [e] at a1; omega
      · exact a1
    · split
      · rename_i e; rw [e] at a2; omega
      · exact a2
  have hgetk : ∀ p, p ∈ s.lays.getD k [] → ∃ y, s.lays[k]? = some y ∧ p ∈ y := by
    intro p hp
    rw [List.getD_eq_getElem?_getD] at hp
    cases hy : s.lays[k]? with
    | none => rw [hy] at hp; cases hp
    | some y => rw [hy] at hp; exact ⟨y, rfl, hp⟩
  have hidx : ∀ i, (s.lays.take k ++ (s.lays.getD k [] ++ [(l, h)]) :: s.lays.drop (k + 1))[i]? = if i = k then some (s.lays.getD k [] ++ [(l, h)]) else s.lays[i]? := by
    intro i
    rcases Nat.lt_trichotomy i k with hi | hi | hi
    · rw [List.getElem?_append_left (by simp; omega), List.getElem?_take, if_pos hi, if_neg (by omega)]
    · subst hi; rw [List.getElem?_append_right (by simp; omega), List.length_take, Nat.min_eq_left hat, Nat.sub_self, if_pos rfl]; rfl
    · rw [List.getElem?_append_right (by simp; omega), if_neg (by omega)]
      have : i - (s.lays.take k).length = (i - k - 1) + 1 := by simp; omega
      rw [this, List.getElem?_cons_succ, List.getElem?_drop]
      congr 1; omega
  have hmem : ∀ y, y ∈ (s.lays.take k ++ (s.lays.getD k [] ++ [(l, h)]) :: s.lays.drop (k + 1)) → y = s.lays.getD k [] ++ [(l, h)] ∨ y ∈ s.lays := by
    intro y hy
    rcases List.mem_append.mp hy with hy | hy
    · exact .inr (List.mem_of_mem_take hy)
    · rcases List.mem_cons.mp hy with hy | hy
      · exact .inl hy
      · exact .inr (List.mem_of_mem_drop hy)
  have hkh : ∀ p ∈ s.lays.getD k [], p.2 ≠ h ∧ p.2 ≠ l := by
    intro p hp
    obtain ⟨y, hy, hp⟩ := hgetk p hp
    obtain ⟨a1, _⟩ := L.hi k y hy p hp
    constructor
    · intro e; rw [e] at a1; omega
    · intro e; rw [e] at a1; omega
  have hknd : ((s.lays.getD k []).map (·.2)).Nodup := by
    rw [List.getD_eq_getElem?_getD]
    cases hy : s.lays[k]? with
    | none => exact List.nodup_nil
    | some y => exact L.nd y (List.mem_of_getElem? hy)
  exact {
    dl := by simp [dl]
    rl := by simp [rl]
    hi := by
      intro i y hy p hp
      rw [hidx] at hy
      split at hy
      · rename_i e; subst e
        cases hy
        rcases List.mem_append.mp hp with hp | hp
        · obtain ⟨y, hy, hp⟩ := hgetk p hp
          exact old _ y hy p hp
        · rw [List.mem_singleton.mp hp, hgd, hgr, if_pos rfl, if_pos rfl]
          exact ⟨by omega, by omega, hlh, hn⟩
      · exact old _ y hy p hp
    ne := by
      intro y hy
      rcases hmem y hy with rfl | hy
      · simp
      · exact L.ne y hy
    nd := by
      intro y hy
      rcases hmem y hy with rfl | hy
      · rw [List.map_append, List.nodup_append]
        refine ⟨hknd, by simp, ?_⟩
        intro a ha b hb
        obtain ⟨p, hp, rfl⟩ := List.mem_map.mp ha
        simp only [List.map_cons, List.map_nil, List.mem_singleton] at hb
        rw [hb]
        exact (hkh p hp).1
      · exact L.nd y hy
    dm := by
      intro x
      rw [hlen, hgd, hgr]
      have d1 := L.dm x; have d2 := L.dm l
      constructor <;> split <;> omega
    run := by
      intro α f σ
      rw [run1_append, ← L.run f σ, run_split hat]
      refine insert_run (l := l) (h := h) ?_ (nodup_inj hknd) hkh ?_ (by omega) σ
      · intro p; simp only [List.mem_append, List.mem_singleton]; exact Or.comm
      · intro lay hlay p hp
        obtain ⟨i, hi, e⟩ := List.mem_iff_getElem.mp hlay
        have hy : s.lays[k + 1 + i]? = some lay := by
          rw [← List.getElem?_drop, List.getElem?_eq_getElem hi, e]
        obtain ⟨a1, a2, a3, a4⟩ := L.hi _ lay hy p hp
        refine ⟨?_, ?_, ?_⟩ <;> intro e
        · rw [e] at a2; omega
        · rw [e] at a1; omega
        · rw [e] at a1; omega }
theorem Laid.puts {n : Nat} : ∀ {ks : List (Nat × Nat)} {s : PS} {js : List (Nat × Nat)}, Laid n s js → (∀ p ∈ ks, p.1 < p.2 ∧ p.2 < n) → Laid n (s.puts ks) (js ++ ks)
  | [], s, js, L, _ => by simpa [PS.puts] using L
  | (l, h) :: r, s, js, L, hk => by
    have hp := hk (l, h) List.mem_cons_self
    have := Laid.puts (ks := r) (L.put hp.1 hp.2) fun p hp => hk p (List.mem_cons_of_mem _ hp)
    rw [List.append_assoc] at this
    exact this
def batch : List Nat → List Nat → List (Nat × Nat) → Prop
  | _, _, [] => True
  | wr, rd, (l, h) :: r => l ∉ wr ∧ h ∉ wr ∧ h ∉ rd ∧ batch (h :: wr) (l :: rd) r
theorem put_len {s : PS} {n : Nat} {js : List (Nat × Nat)} (L : Laid n s js) (l h : Nat) : (s.put (l, h)).lays.length = max s.lays.length (placeAt s.done s.read l h + 1) := by
  simp only [PS.put, putLay_eq (L.at_le l h)]
  have := L.at_le l h
  simp; omega
theorem batch_len {n M : Nat} : ∀ {ks : List (Nat × Nat)} {s : PS} {js : List (Nat × Nat)} {wr rd : List Nat}, Laid n s js → (∀ p ∈ ks, p.1 < p.2 ∧ p.2 < n) → batch wr rd ks →
    (∀ x, (x ∉ wr → g0 s.done x ≤ M) ∧ (x ∉ wr → x ∉ rd → g0 s.read x ≤ M)) → s.lays.length ≤ M + 1 → (s.puts ks).lays.length ≤ M + 1
  | [], s, js, wr, rd, L, _, _, _, hs => hs
  | (l, h) :: r, s, js, wr, rd, L, hk, hb, hx, hs => by
    have hp := hk (l, h) List.mem_cons_self
    obtain ⟨b1, b2, b3, b4⟩ := hb
    have x1 := (hx l).1 b1
    have x2 := (hx h).1 b2
    have x3 := (hx h).2 b2 b3
    have hat : placeAt s.done s.read l h ≤ M := by unfold placeAt; omega
    refine batch_len (ks := r) (L.put hp.1 hp.2) (fun p hp => hk p (List.mem_cons_of_mem _ hp)) b4 ?_ ?_
    · intro x
      have dl := L.dl; have rl := L.rl; simp only at hp
      simp only [PS.put]
      rw [g0_set (by omega), g0_set (by omega)]
      constructor
      · intro hw
        have : x ≠ h := fun e => hw (e ▸ List.mem_cons_self)
        rw [if_neg this]
        exact (hx x).1 fun hw' => hw (List.mem_cons_of_mem _ hw')
      · intro hw hr
        have : x ≠ l := fun e => hr (e ▸ List.mem_cons_self)
        rw [if_neg this]
        exact (hx x).2 (fun hw' => hw (List.mem_cons_of_mem _ hw')) (fun hr' => hr (List.mem_cons_of_mem _ hr'))
    · rw [put_len L]; omega
theorem Laid.batch {n : Nat} {ks : List (Nat × Nat)} {s : PS} {js : List (Nat × Nat)} (L : Laid n s js) (hk : ∀ p ∈ ks, p.1 < p.2 ∧ p.2 < n) (hb : Bn.batch [] [] ks) : (s.puts ks).lays.length ≤ s.lays.length + 1 :=
  batch_len L hk hb (fun x => ⟨fun _ => (L.dm x).1, fun _ _ => (L.dm x).2⟩) (by omega)
end Bn
namespace Bn
def upd (B : Nat → Nat) (h v : Nat) : Nat → Nat := fun x => if x = h then v else B x
theorem upd_ne {B : Nat → Nat} {h v x : Nat} (e : x ≠ h) : upd B h v x = B x := if_neg e
theorem upd_eq {B : Nat → Nat} {h v : Nat} : upd B h v h = v := if_pos rfl
def Plays (B : Nat → Nat) : List (Nat × Nat) → (Nat → Nat) → Prop
  | [], B' => B = B'
  | (l, h) :: r, B' => l + 1 = B h ∧ Plays (upd B h (B l)) r B'
theorem Plays.append : ∀ {a b : List (Nat × Nat)} {B B1 B2 : Nat → Nat}, Plays B a B1 → Plays B1 b B2 → Plays B (a ++ b) B2
  | [], b, B, B1, B2, h1, h2 => by cases h1; exact h2
  | (l, h) :: r, b, B, B1, B2, h1, h2 => ⟨h1.1, h1.2.append h2⟩
def ran (b x : Nat) : List Nat := List.range' b (x + 1 - b)
theorem ran_join {b l h : Nat} (h1 : b ≤ l) (h2 : l < h) : ran b l ++ ran (l + 1) h = ran b h := by
  unfold ran
  have e : l + 1 = b + 1 * (l + 1 - b) := by omega
  rw [show List.range' (l + 1) (h + 1 - (l + 1)) = List.range' (b + 1 * (l + 1 - b)) (h + 1 - (l + 1)) by rw [← e], List.range'_append]
  congr 1; omega
theorem plays_run : ∀ {js : List (Nat × Nat)} {B B' : Nat → Nat}, Plays B js B' → (∀ x, B x ≤ x) → (∀ x, B' x ≤ x) ∧ run1 (· ++ ·) js (fun x => ran (B x) x) = fun x => ran (B' x) x
  | [], B, B', h, hb => by cases h; exact ⟨hb, rfl⟩
  | (l, h) :: r, B, B', hp, hb => by
    obtain ⟨h1, h2⟩ := hp
    have hlh : l < h := by have := hb h; omega
    have hb' : ∀ x, upd B h (B l) x ≤ x := by
      intro x; unfold upd; split
      · have := hb l; omega
      · exact hb x
    obtain ⟨i1, i2⟩ := plays_run h2 hb'
    refine ⟨i1, ?_⟩
    rw [← i2]
    simp only [run1]
    congr 1
    funext x
    unfold step1
    by_cases e : x = h
    · subst e; rw [if_pos rfl, upd_eq]; show ran (B l) l ++ ran (B x) x = _; rw [← h1, ran_join (hb l) hlh]
    · rw [if_neg e, upd_ne e]
theorem plays_lt : ∀ {js : List (Nat × Nat)} {B B' : Nat → Nat}, Plays B js B' → (∀ x, B x ≤ x) → ∀ p ∈ js, p.1 < p.2
  | [], _, _, _, _, p, hp => by cases hp
  | (l, h) :: r, B, B', hp, hb, p, hm => by
    obtain ⟨h1, h2⟩ := hp
    have hlh : l < h := by have := hb h; omega
    rcases List.mem_cons.mp hm with rfl | hm
    · exact hlh
    · refine plays_lt h2 ?_ p hm
      intro x; unfold upd; split
      · have := hb l; omega
      · exact hb x
def Chain (B : Nat → Nat) : Nat → List Nat → Prop
  | _, [] => True
  | s, x :: r => B x = s ∧ s ≤ x ∧ Chain B (x + 1) r
theorem Chain.ge {B : Nat → Nat} : ∀ {xs : List Nat} {s : Nat}, Chain B s xs → ∀ x ∈ xs, s ≤ x
  | [], _, _, x, hx => by cases hx
  | y :: r, s, h, x, hx => by
    rcases List.mem_cons.mp hx with rfl | hx
    · exact h.2.1
    · have := h.2.2.ge x hx; have := h.2.1; omega
theorem Chain.congr {B B' : Nat → Nat} : ∀ {xs : List Nat} {s : Nat}, Chain B s xs → (∀ x ∈ xs, B' x = B x) → Chain B' s xs
  | [], _, _, _ => trivial
  | y :: r, s, h, hx => ⟨(hx y List.mem_cons_self).trans h.1, h.2.1, h.2.2.congr fun x hm => hx x (List.mem_cons_of_mem _ hm)⟩
def thin (cond : Nat → Bool) : Nat → Nat → List Nat → List (Nat × Nat) × List (Nat × Nat) × List Nat
  | _, _, [] => ([], [], [])
  | _, _, [x] => ([], [], [x])
  | k, s, x :: y :: r => if cond k then ((x, y) :: (thin cond (k + 2) (y + 1) r).1, (if s = 0 then [] else [(s - 1, x)]) ++ (thin cond (k + 2) (y + 1) r).2.1, y :: (thin cond (k + 2) (y + 1) r).2.2)
    else ((thin cond (k + 1) (x + 1) (y :: r)).1, (thin cond (k + 1) (x + 1) (y :: r)).2.1, x :: (thin cond (k + 1) (x + 1) (y :: r)).2.2)
structure ThinOk (B : Nat → Nat) (s : Nat) (rest : List Nat) (t : List (Nat × Nat) × List (Nat × Nat) × List Nat) (B1 : Nat → Nat) : Prop where
  plays : Plays B t.1 B1
  same : ∀ x, x ∉ rest → B1 x = B x
  chain : Chain B1 s t.2.2
  sub : ∀ x ∈ t.2.2, x ∈ rest
  mem : ∀ p ∈ t.1, p.1 ∈ rest ∧ p.2 ∈ rest
  lmem : ∀ p ∈ t.2.1, (p.1 ∈ rest ∨ p.1 + 1 = s) ∧ p.2 ∈ rest
  batch : ∀ wr rd : List Nat, (∀ z ∈ wr, z < s) → (∀ z ∈ rd, z < s) → batch wr rd t.1
  len : t.2.2.length + t.1.length = rest.length ∧ t.2.1.length ≤ t.1.length
  fill : ∀ B2, (∀ x ∈ t.2.2, B2 x = 0) → (∀ x ∈ rest, x ∉ t.2.2 → B2 x = B1 x) → (s = 0 ∨ B2 (s - 1) = 0) → ∃ B3, Plays B2 t.2.1.reverse B3 ∧ (∀ x ∈ rest, B3 x = 0) ∧ ∀ x, x ∉ rest → B3 x = B2 x
theorem thin_ok (cond : Nat → Bool) : ∀ (k s : Nat) (rest : List Nat) (B : Nat → Nat), Chain B s rest → ∃ B1, ThinOk B s rest (thin cond k s rest) B1
  | k, s, [], B, _ => ⟨B, { plays := rfl, same := fun _ _ => rfl, chain := trivial, sub := fun x hx => (by cases hx), mem := fun p hp => (by cases hp), lmem := fun p hp => (by cases hp)
                            batch := fun _ _ _ _ => trivial, len := ⟨rfl, Nat.le_refl _⟩, fill := fun B2 _ _ _ => ⟨B2, rfl, fun x hx => (by cases hx), fun _ _ => rfl⟩ }⟩
  | k, s, [x], B, hc => ⟨B, { plays := rfl, same := fun _ _ => rfl, chain := hc, sub := fun x hx => hx, mem := fun p hp => (by cases hp), lmem := fun p hp => (by cases hp)
                              batch := fun _ _ _ _ => trivial, len := ⟨rfl, Nat.le_refl _⟩, fill := fun B2 h _ _ => ⟨B2, rfl, h, fun _ _ => rfl⟩ }⟩
  | k, s, x :: y :: r, B, hc => by
    obtain ⟨c1, c2, c3, c4, c5⟩ := hc
    unfold thin
    by_cases hk : cond k = true
    · rw [if_pos hk]
      have hr : ∀ z ∈ r, y < z := fun z hz => by have := c5.ge z hz; omega
      obtain ⟨B1, T⟩ := thin_ok cond (k + 2) (y + 1) r (upd B y (B x)) (c5.congr fun z hz => upd_ne (by have := hr z hz; omega))
      generalize thin cond (k + 2) (y + 1) r = t at T
      have hyr : y ∉ r := fun h => by have := hr y h; omega
      have hxr : x ∉ r := fun h => by have := hr x h; omega
      have hy1 : B1 y = s := by rw [T.same y hyr, upd_eq, c1]
      have hx1 : B1 x = s := by rw [T.same x hxr, upd_ne (by omega), c1]
      refine ⟨B1, ?_⟩
      exact {
        plays := ⟨by omega, T.plays⟩
        same := fun z hz => by
          simp only [List.mem_cons, not_or] at hz
          rw [T.same z hz.2.2, upd_ne hz.2.1]
        chain := ⟨hy1, by omega, T.chain⟩
        sub := fun z hz => by
          rcases List.mem_cons.mp hz with rfl | hz
          · simp
          · exact List.mem_cons_of_mem _ (List.mem_cons_of_mem _ (T.sub z hz))
        mem := fun p hp => by
          rcases List.mem_cons.mp hp with rfl | hp
          · simp
          · have := T.mem p hp; simp [this]
        lmem := fun p hp => by
          rcases List.mem_append.mp hp with hp | hp
          · by_cases hs : s = 0
            · rw [if_pos hs] at hp; cases hp
            · rw [if_neg hs] at hp
              rw [List.mem_singleton.mp hp]
              exact ⟨.inr (by simp only; omega), by simp⟩
          · have := T.lmem p hp
            refine ⟨.inl ?_, by simp [this.2]⟩
            rcases this.1 with h | h
            · simp [h]
            · have : p.1 = y := by omega
              simp [this]
        batch := fun wr rd hw hrd => by
          refine ⟨fun h => ?_, fun h => ?_, fun h => ?_, T.batch _ _ ?_ ?_⟩
          · have := hw _ h; omega
          · have := hw _ h; omega
          · have := hrd _ h; omega
          · intro z hz; rcases List.mem_cons.mp hz with rfl | hz
            · omega
            · have := hw z hz; omega
          · intro z hz; rcases List.mem_cons.mp hz with rfl | hz
            · omega
            · have := hrd z hz; omega
        len := by
          have := T.len
          simp only [List.length_cons, List.length_append]
          split <;> simp <;> omega
        fill := fun B2 h0 h1 hs => by
          have hsub : ∀ z, z ∉ r → z ∉ t.2.2 := fun z hz h => hz (T.sub z h)
          have hB2x : B2 x = s := by rw [h1 x List.mem_cons_self (by simp only [List.mem_cons, not_or]; exact ⟨by omega, hsub x hxr⟩), hx1]
          obtain ⟨B3, P3, Z3, S3⟩ := T.fill B2 (fun z hz => h0 z (List.mem_cons_of_mem _ hz)) (fun z hzr hz => h1 z (List.mem_cons_of_mem _ (List.mem_cons_of_mem _ hzr)) (by
            simp only [List.mem_cons, not_or]; exact ⟨fun e => hyr (e ▸ hzr), hz⟩)) (.inr (by rw [show y + 1 - 1 = y by omega]; exact h0 y List.mem_cons_self))
          have h3y : B3 y = 0 := by rw [S3 y hyr]; exact h0 y List.mem_cons_self
          by_cases e0 : s = 0
          · refine ⟨B3, by simpa [e0] using P3, ?_, ?_⟩
            · intro z hz
              rcases List.mem_cons.mp hz with rfl | hz
              · rw [S3 z hxr, hB2x, e0]
              · rcases List.mem_cons.mp hz with rfl | hz
                · exact h3y
                · exact Z3 z hz
            · intro z hz
              simp only [List.mem_cons, not_or] at hz
              exact S3 z hz.2.2
          · have hsr : s - 1 ∉ r := fun h => by have := hr _ h; omega
            have h30 : B3 (s - 1) = 0 := by rw [S3 _ hsr]; exact hs.resolve_left e0
            refine ⟨upd B3 x (B3 (s - 1)), ?_, ?_, ?_⟩
            · simp only [if_neg e0, List.reverse_append, List.reverse_cons, List.reverse_nil, List.nil_append]
              exact P3.append ⟨by rw [S3 x hxr, hB2x]; omega, rfl⟩
            · intro z hz
              unfold upd
              split
              · exact h30
              · rename_i e
                rcases List.mem_cons.mp hz with rfl | hz
                · exact absurd rfl e
                · rcases List.mem_cons.mp hz with rfl | hz
                  · exact h3y
                  · exact Z3 z hz
            · intro z hz
              simp only [List.mem_cons, not_or] at hz
              rw [upd_ne hz.1, S3 z hz.2.2] }
    · rw [if_neg hk]
      obtain ⟨B1, T⟩ := thin_ok cond (k + 1) (x + 1) (y :: r) B ⟨c3, c4, c5⟩
      generalize thin cond (k + 1) (x + 1) (y :: r) = t at T
      have hcy : ∀ z ∈ y :: r, x < z := fun z hz => by
        have hcc : Chain B (x + 1) (y :: r) := ⟨c3, c4, c5⟩
        have := hcc.ge z hz
        omega
      have hxr : x ∉ y :: r := fun h => by have := hcy x h; omega
      refine ⟨B1, ?_⟩
      exact {
        plays := T.plays
        same := fun z hz => T.same z fun h => hz (List.mem_cons_of_mem _ h)
        chain := ⟨by rw [T.same x hxr, c1], c2, T.chain⟩
        sub := fun z hz => by
          rcases List.mem_cons.mp hz with rfl | hz
          · simp
          · exact List.mem_cons_of_mem _ (T.sub z hz)
        mem := fun p hp => ⟨List.mem_cons_of_mem _ (T.mem p hp).1, List.mem_cons_of_mem _ (T.mem p hp).2⟩
        lmem := fun p hp => by
          have := T.lmem p hp
          refine ⟨.inl ?_, List.mem_cons_of_mem _ this.2⟩
          rcases this.1 with h | h
          · exact List.mem_cons_of_mem _ h
          · have : p.1 = x := by omega
            simp [this]
        batch := fun wr rd hw hrd => T.batch _ _ (fun z hz => by have := hw z hz; omega) (fun z hz => by have := hrd z hz; omega)
        len := by
          have := T.len
          simp only [List.length_cons] at this ⊢
          omega
        fill := fun B2 h0 h1 hs => by
          obtain ⟨B3, P3, Z3, S3⟩ := T.fill B2 (fun z hz => h0 z (List.mem_cons_of_mem _ hz)) (fun z hzr hz => h1 z (List.mem_cons_of_mem _ hzr) (by
            simp only [List.mem_cons, not_or]; exact ⟨fun e => hxr (e ▸ hzr), hz⟩)) (.inr (by rw [show x + 1 - 1 = x by omega]; exact h0 x List.mem_cons_self))
          refine ⟨B3, P3, ?_, ?_⟩
          · intro z hz
            rcases List.mem_cons.mp hz with rfl | hz
            · rw [S3 z hxr]; exact h0 z List.mem_cons_self
            · exact Z3 z hz
          · intro z hz
            exact S3 z fun h => hz (List.mem_cons_of_mem _ h) }
def GChain (B : Nat → Nat) : Nat → List (List Nat) → Prop
  | _, [] => True
  | s, g :: r => (∀ x ∈ g, B x = s ∧ s ≤ x) ∧ g.Pairwise (· < ·) ∧ ∃ m, g.getLast? = some m ∧ GChain B (m + 1) r
theorem last_ge : ∀ {g : List Nat} {m : Nat}, g.Pairwise (· < ·) → g.getLast? = some m → ∀ x ∈ g, x ≤ m
  | [], _, _, h, _, _ => by cases h
  | [a], m, _, h, x, hx => by simp at h hx; omega
  | a :: b :: r, m, hp, h, x, hx => by
    rw [List.pairwise_cons] at hp
    have hm : (b :: r).getLast? = some m := by rw [← h]; simp [List.getLast?_cons]
    rcases List.mem_cons.mp hx with rfl | hx
    · have := hp.1 b List.mem_cons_self
      have := last_ge hp.2 hm b List.mem_cons_self
      omega
    · exact last_ge hp.2 hm x hx
theorem GChain.ge {B : Nat → Nat} : ∀ {gs : List (List Nat)} {s : Nat}, GChain B s gs → ∀ g ∈ gs, ∀ x ∈ g, s ≤ x
  | [], _, _, g, hg, _, _ => by cases hg
  | g :: r, s, h, g', hg, x, hx => by
    obtain ⟨h1, h2, m, h3, h4⟩ := h
    rcases List.mem_cons.mp hg with rfl | hg
    · exact (h1 x hx).2
    · have := h4.ge g' hg x hx
      have hm : m ∈ g := List.mem_of_getLast? h3
      have := (h1 m hm).2
      omega
theorem GChain.congr {B B' : Nat → Nat} : ∀ {gs : List (List Nat)} {s : Nat}, GChain B s gs → (∀ g ∈ gs, ∀ x ∈ g, B' x = B x) → GChain B' s gs
  | [], _, _, _ => trivial
  | g :: r, s, ⟨h1, h2, m, h3, h4⟩, hx => ⟨fun x hm => by rw [hx g List.mem_cons_self x hm]; exact h1 x hm, h2, m, h3, h4.congr fun g' hg => hx g' (List.mem_cons_of_mem _ hg)⟩
theorem GChain.of {B : Nat → Nat} : ∀ {xs : List Nat} {s : Nat}, Chain B s xs → GChain B s (xs.map fun x => [x])
  | [], _, _ => trivial
  | x :: r, s, ⟨h1, h2, h3⟩ => ⟨fun y hy => by rw [List.mem_singleton.mp hy]; exact ⟨h1, h2⟩, by simp, x, rfl, GChain.of h3⟩
theorem group_plays {m : Nat} : ∀ {h : List Nat} {B : Nat → Nat}, (∀ x ∈ h, B x = m + 1) → m ∉ h → h.Nodup → ∃ B', Plays B (h.map fun y => (m, y)) B' ∧ (∀ x ∈ h, B' x = B m) ∧ ∀ x, x ∉ h → B' x = B x
  | [], B, _, _, _ => ⟨B, rfl, fun x hx => (by cases hx), fun _ _ => rfl⟩
  | y :: r, B, hB, hm, hnd => by
    rw [List.nodup_cons] at hnd
    simp only [List.mem_cons, not_or] at hm
    obtain ⟨B', h1, h2, h3⟩ := group_plays (h := r) (B := upd B y (B m)) (fun x hx => by
      have hxy : x ≠ y := fun e => hnd.1 (e ▸ hx)
      rw [upd_ne hxy]; exact hB x (List.mem_cons_of_mem _ hx)) hm.2 hnd.2
    have hmm : upd B y (B m) m = B m := upd_ne hm.1
    refine ⟨B', ⟨(hB y List.mem_cons_self).symm, h1⟩, ?_, ?_⟩
    · intro x hx
      rcases List.mem_cons.mp hx with rfl | hx
      · rw [h3 x hnd.1, upd_eq]
      · rw [h2 x hx, hmm]
    · intro x hx
      simp only [List.mem_cons, not_or] at hx
      rw [h3 x hx.2, upd_ne hx.1]
theorem group_batch {m : Nat} : ∀ {h : List Nat} {wr rd : List Nat}, h.Nodup → m ∉ h → m ∉ wr → (∀ x ∈ h, x ∉ wr ∧ x ∉ rd) → batch wr rd (h.map fun y => (m, y))
  | [], _, _, _, _, _, _ => trivial
  | y :: r, wr, rd, hnd, hm, hw, hx => by
    rw [List.nodup_cons] at hnd
    simp only [List.mem_cons, not_or] at hm
    have h1 := hx y List.mem_cons_self
    refine ⟨hw, h1.1, h1.2, group_batch hnd.2 hm.2 ?_ ?_⟩
    · simp only [List.mem_cons, not_or]; exact ⟨hm.1, hw⟩
    · intro x hxr
      have h2 := hx x (List.mem_cons_of_mem _ hxr)
      simp only [List.mem_cons, not_or]
      exact ⟨⟨fun e => hnd.1 (e ▸ hxr), h2.1⟩, fun e => hm.2 (e ▸ hxr), h2.2⟩
theorem lt_nodup {g : List Nat} (h : g.Pairwise (· < ·)) : g.Nodup := h.imp (fun h => by omega)
theorem merge_ok {a b : List Nat} : ∀ {pre post : List (List Nat)} {s : Nat} {B : Nat → Nat}, GChain B s (pre ++ a :: b :: post) → ∃ m, a.getLast? = some m ∧ m ∉ b ∧ b.Nodup ∧ ∃ B', Plays B (b.map fun y => (m, y)) B' ∧
    GChain B' s (pre ++ (a ++ b) :: post) ∧ ∀ x, x ∉ b → B' x = B x
  | [], post, s, B, ⟨h1, h2, m, h3, h4, h5, m', h6, h7⟩ => by
    have hm := (h1 m (List.mem_of_getLast? h3))
    have hmb : m ∉ b := fun h => by have := (h4 m h).2; omega
    obtain ⟨B', p1, p2, p3⟩ := group_plays (B := B) (m := m) (fun x hx => (h4 x hx).1) hmb (lt_nodup h5)
    refine ⟨m, h3, hmb, lt_nodup h5, B', p1, ⟨?_, ?_, m', ?_, h7.congr fun g hg x hx => p3 x fun hb => ?_⟩, p3⟩
    · intro x hx
      rcases List.mem_append.mp hx with hx | hx
      · rw [p3 x fun hb => ?_]
        · exact h1 x hx
        · have := last_ge h2 h3 x hx
          have := (h4 x hb).2
          omega
      · rw [p2 x hx]
        have := (h4 x hx).2
        exact ⟨hm.1, by omega⟩
    · rw [List.pairwise_append]
      refine ⟨h2, h5, fun x hx y hy => ?_⟩
      have := last_ge h2 h3 x hx
      have := (h4 y hy).2
      omega
    · rw [List.getLast?_append, h6]; rfl
    · have := h7.ge g hg x hx
      have := last_ge h5 h6 x hb
      omega
  | g :: pre, post, s, B, ⟨h1, h2, m, h3, h4⟩ => by
    obtain ⟨m', a1, a2, a3, B', a4, a5, a6⟩ := merge_ok h4
    refine ⟨m', a1, a2, a3, B', a4, ⟨?_, h2, m, h3, a5⟩, a6⟩
    intro x hx
    rw [a6 x fun hb => ?_]
    · exact h1 x hx
    · have := h4.ge b (by simp) x hb
      have := last_ge h2 h3 x hx
      omega
end Bn
namespace Bn
def layTell (B : Nat → Nat) (y : List (Nat × Nat)) : Bool := y.all fun p => p.1 + 1 == B p.2
def tellN : Net → (Nat → Nat) → Option (Nat → Nat)
  | [], B => some B
  | y :: r, B => if layTell B y then tellN r (stepL (fun l _ => l) y B) else none
def doesTell (n : Nat) (net : Net) : Bool := match tellN net id with
  | none => false
  | some B => (List.range n).all fun x => B x == 0
def rowsN (net : Net) : Nat → List Nat := runN (· ++ ·) net fun x => [x]
def Fair (n : Nat) (net : Net) : Prop := ∀ y ∈ net, (∀ p ∈ y, p.1 < p.2 ∧ p.2 < n) ∧ (y.map (·.2)).Nodup
theorem stepL_case {α : Type} (f : α → α → α) (y : List (Nat × Nat)) (σ : Nat → α) (x : Nat) : (∃ p ∈ y, p.2 = x ∧ stepL f y σ x = f (σ p.1) (σ x)) ∨ stepL f y σ x = σ x := by
  unfold stepL
  cases h : y.find? (fun p => p.2 == x) with
  | none => exact .inr rfl
  | some p =>
    have := List.find?_some h
    exact .inl ⟨p, List.mem_of_find?_eq_some h, by simpa using this, rfl⟩
theorem stepL_at {α : Type} (f : α → α → α) {y : List (Nat × Nat)} (σ : Nat → α) (hn : (y.map (·.2)).Nodup) {p : Nat × Nat} (hp : p ∈ y) : stepL f y σ p.2 = f (σ p.1) (σ p.2) := by
  unfold stepL
  cases h : y.find? (fun q => q.2 == p.2) with
  | none =>
    rw [List.find?_eq_none] at h
    exact absurd (by simp) (h p hp)
  | some q =>
    have := List.find?_some h
    have := nodup_inj hn q (List.mem_of_find?_eq_some h) p hp (by simpa using this)
    rw [this]
theorem run_suffix : ∀ (net : Net) (σ : Nat → List Nat) (x : Nat), ∃ pre, runN (· ++ ·) net σ x = pre ++ σ x
  | [], σ, x => ⟨[], rfl⟩
  | y :: r, σ, x => by
    obtain ⟨pre, h⟩ := run_suffix r (stepL (· ++ ·) y σ) x
    rw [runN, h]
    rcases stepL_case (· ++ ·) y σ x with ⟨p, _, _, e⟩ | e
    · rw [e]; exact ⟨pre ++ σ p.1, by simp⟩
    · rw [e]; exact ⟨pre, rfl⟩
theorem step_ran {n : Nat} {y : List (Nat × Nat)} {B : Nat → Nat} (hb : ∀ x, B x ≤ x) (hy : ∀ p ∈ y, p.1 < p.2 ∧ p.2 < n) (ht : layTell B y = true) :
    (∀ x, stepL (fun l _ => l) y B x ≤ x) ∧ stepL (· ++ ·) y (fun x => ran (B x) x) = fun x => ran (stepL (fun l _ => l) y B x) x := by
  constructor
  · intro x
    rcases stepL_case (fun l _ => l) y B x with ⟨p, hp, hx, e⟩ | e
    · rw [e]; have := hy p hp; have := hb p.1; omega
    · rw [e]; exact hb x
  · funext x
    unfold stepL
    cases h : y.find? (fun p => p.2 == x) with
    | none => rfl
    | some p =>
      have hp := List.mem_of_find?_eq_some h
      have hx : p.2 = x := by simpa using List.find?_some h
      have h1 : p.1 + 1 = B p.2 := by
        have := List.all_eq_true.mp ht p hp
        simpa using this
      subst hx
      show ran (B p.1) p.1 ++ ran (B p.2) p.2 = ran (B p.1) p.2
      rw [← h1, ran_join (hb p.1) (hy p hp).1]
theorem tellN_some {n : Nat} : ∀ {net : Net} {B B' : Nat → Nat}, Fair n net → (∀ x, B x ≤ x) → tellN net B = some B' → (∀ x, B' x ≤ x) ∧ runN (· ++ ·) net (fun x => ran (B x) x) = fun x => ran (B' x) x
  | [], B, B', _, hb, h => by cases h; exact ⟨hb, rfl⟩
  | y :: r, B, B', hf, hb, h => by
    unfold tellN at h
    split at h
    · rename_i ht
      obtain ⟨s1, s2⟩ := step_ran hb (hf y List.mem_cons_self).1 ht
      have := tellN_some (fun z hz => hf z (List.mem_cons_of_mem _ hz)) s1 h
      refine ⟨this.1, ?_⟩
      rw [runN, s2]; exact this.2
    · cases h
theorem range_next {P S : List Nat} {a b m : Nat} (h : P ++ a :: b :: S = List.range m) : b = a + 1 := by
  have h1 : (P ++ a :: b :: S)[P.length]? = some a := by simp
  have h2 : (P ++ a :: b :: S)[P.length + 1]? = some b := by simp
  rw [h, List.getElem?_range] at h1 h2
  · cases h1; cases h2; rfl
  all_goals
    have := congrArg List.length h
    simp at this
    omega
theorem tellN_none {n : Nat} : ∀ {net : Net} {B : Nat → Nat}, Fair n net → (∀ x, B x ≤ x) → tellN net B = none → ∃ x, x < n ∧ runN (· ++ ·) net (fun x => ran (B x) x) x ≠ List.range (x + 1)
  | [], B, _, hb, h => by cases h
  | y :: r, B, hf, hb, h => by
    unfold tellN at h
    split at h
    · rename_i ht
      obtain ⟨s1, s2⟩ := step_ran hb (hf y List.mem_cons_self).1 ht
      have := tellN_none (fun z hz => hf z (List.mem_cons_of_mem _ hz)) s1 h
      rw [runN, s2]; exact this
    · rename_i ht
      have hfy := hf y List.mem_cons_self
      have : ∃ p ∈ y, p.1 + 1 ≠ B p.2 := by
        refine Classical.byContradiction fun hno => ht ?_
        simp only [layTell, List.all_eq_true, beq_iff_eq]
        exact fun p hp => Classical.byContradiction fun hne => hno ⟨p, hp, hne⟩
      obtain ⟨p, hp, hne⟩ := this
      refine ⟨p.2, (hfy.1 p hp).2, fun hr => hne ?_⟩
      obtain ⟨pre, hs⟩ := run_suffix r (stepL (· ++ ·) y fun x => ran (B x) x) p.2
      rw [runN, hs, stepL_at _ _ hfy.2 hp] at hr
      have e1 : ran (B p.1) p.1 = List.range' (B p.1) (p.1 - B p.1) ++ [p.1] := by
        unfold ran
        have := hb p.1
        rw [show p.1 + 1 - B p.1 = (p.1 - B p.1) + 1 by omega, List.range'_concat]
        congr 2; omega
      have e2 : ran (B p.2) p.2 = B p.2 :: List.range' (B p.2 + 1) (p.2 - B p.2) := by
        unfold ran
        have := hb p.2
        rw [show p.2 + 1 - B p.2 = (p.2 - B p.2) + 1 by omega, List.range'_succ]
      simp only [e1, e2] at hr
      have hr' : (pre ++ List.range' (B p.1) (p.1 - B p.1)) ++ p.1 :: B p.2 :: List.range' (B p.2 + 1) (p.2 - B p.2) = List.range (p.2 + 1) := by
        rw [← hr]; simp
      exact (range_next hr').symm
theorem ran_whole {b x : Nat} (hb : b ≤ x) : ran b x = List.range (x + 1) ↔ b = 0 := by
  constructor
  · intro h
    have := congrArg List.length h
    simp [ran] at this
    omega
  · rintro rfl; simp [ran, List.range_eq_range']
theorem tell_iff {n : Nat} {net : Net} (hf : Fair n net) : doesTell n net = true ↔ ∀ x, x < n → rowsN net x = List.range (x + 1) := by
  have e0 : (fun x : Nat => [x]) = fun x => ran (id x) x := by funext x; simp [ran]
  have hb : ∀ x : Nat, id x ≤ x := fun x => Nat.le_refl _
  unfold doesTell rowsN
  rw [e0]
  cases h : tellN net id with
  | none =>
    obtain ⟨x, hx, hne⟩ := tellN_none hf hb h
    simp only [Bool.false_eq_true, false_iff]
    exact fun hall => hne (hall x hx)
  | some B =>
    obtain ⟨s1, s2⟩ := tellN_some hf hb h
    rw [s2]
    simp only [List.all_eq_true, List.mem_range, beq_iff_eq]
    exact ⟨fun h x hx => (ran_whole (s1 x)).mpr (h x hx), fun h x hx => (ran_whole (s1 x)).mp (h x hx)⟩
theorem rising_fair {n : Nat} : ∀ {y : List (Nat × Nat)} {lo : Nat}, rising n lo y → (∀ p ∈ y, p.1 < p.2 ∧ p.2 < n ∧ lo ≤ p.2) ∧ (y.map (·.2)).Nodup
  | [], _, _ => ⟨fun p hp => (by cases hp), List.nodup_nil⟩
  | (l, h) :: r, lo, ⟨h1, h2, h3, h4⟩ => by
    obtain ⟨i1, i2⟩ := rising_fair h4
    refine ⟨fun p hp => ?_, ?_⟩
    · rcases List.mem_cons.mp hp with rfl | hp
      · exact ⟨h1, h2, h3⟩
      · have := i1 p hp; omega
    · rw [List.map_cons, List.nodup_cons]
      refine ⟨fun hm => ?_, i2⟩
      obtain ⟨p, hp, e⟩ := List.mem_map.mp hm
      have := i1 p hp
      simp only at e
      omega
theorem okNet.fair {n : Nat} {net : Net} (h : okNet n net) : Fair n net := fun y hy => by
  have := rising_fair (h.2 y hy).2
  exact ⟨fun p hp => ⟨(this.1 p hp).1, (this.1 p hp).2.1⟩, this.2⟩
theorem stepL_perm {α : Type} (f : α → α → α) {y z : List (Nat × Nat)} (σ : Nat → α) (hn : (y.map (·.2)).Nodup) (hp : y.Perm z) : stepL f z σ = stepL f y σ := by
  have hz : (z.map (·.2)).Nodup := (hp.map _).nodup_iff.mp hn
  funext x
  rcases stepL_case f y σ x with ⟨p, h1, h2, e⟩ | e
  · subst h2
    rw [e, stepL_at f σ hz (hp.mem_iff.mp h1)]
  · rcases stepL_case f z σ x with ⟨p, h1, h2, e'⟩ | e'
    · subst h2
      rw [e', stepL_at f σ hn (hp.mem_iff.mpr h1)]
    · rw [e, e']
theorem runN_perm {α : Type} (f : α → α → α) {s : List (Nat × Nat) → List (Nat × Nat)} : ∀ {a : Net} (σ : Nat → α), (∀ y ∈ a, (y.map (·.2)).Nodup) → (∀ y ∈ a, y.Perm (s y)) → runN f (a.map s) σ = runN f a σ
  | [], σ, _, _ => rfl
  | y :: r, σ, hn, hp => by
    rw [List.map_cons, runN, runN, stepL_perm f σ (hn y List.mem_cons_self) (hp y List.mem_cons_self)]
    exact runN_perm f _ (fun y hy => hn y (List.mem_cons_of_mem _ hy)) (fun y hy => hp y (List.mem_cons_of_mem _ hy))
end Bn
namespace Bn
def hiLe (a b : Nat × Nat) : Bool := decide (a.2 < b.2) || (decide (a.2 = b.2) && decide (a.1 ≤ b.1))
def sortL (y : List (Nat × Nat)) : List (Nat × Nat) := y.mergeSort hiLe
theorem sortL_perm (y : List (Nat × Nat)) : y.Perm (sortL y) := (List.mergeSort_perm y hiLe).symm
theorem sortL_pairwise (y : List (Nat × Nat)) : (sortL y).Pairwise fun a b => hiLe a b = true := by
  refine List.pairwise_mergeSort ?_ ?_ y
  · intro a b c; simp only [hiLe, Bool.or_eq_true, Bool.and_eq_true, decide_eq_true_eq]; omega
  · intro a b; simp only [hiLe, Bool.or_eq_true, Bool.and_eq_true, decide_eq_true_eq]; omega
theorem rising_of {n : Nat} : ∀ {y : List (Nat × Nat)} {lo : Nat}, (y.Pairwise fun a b => hiLe a b = true) → (y.map (·.2)).Nodup → (∀ p ∈ y, p.1 < p.2 ∧ p.2 < n ∧ lo ≤ p.2) → rising n lo y
  | [], _, _, _, _ => trivial
  | (l, h) :: r, lo, hp, hn, hy => by
    have h1 := hy (l, h) List.mem_cons_self
    rw [List.pairwise_cons] at hp
    rw [List.map_cons, List.nodup_cons] at hn
    refine ⟨h1.1, h1.2.1, h1.2.2, rising_of hp.2 hn.2 fun p hm => ?_⟩
    have h2 := hy p (List.mem_cons_of_mem _ hm)
    have h3 := hp.1 p hm
    have h4 : p.2 ≠ h := fun e => hn.1 (List.mem_map.mpr ⟨p, hm, e⟩)
    simp only [hiLe, Bool.or_eq_true, Bool.and_eq_true, decide_eq_true_eq] at h3
    exact ⟨h2.1, h2.2.1, by omega⟩
theorem sortL_rising {n : Nat} {y : List (Nat × Nat)} (hn : (y.map (·.2)).Nodup) (hy : ∀ p ∈ y, p.1 < p.2 ∧ p.2 < n) : rising n 0 (sortL y) := by
  refine rising_of (sortL_pairwise y) (((sortL_perm y).map _).nodup_iff.mp hn) fun p hp => ?_
  have := hy p ((sortL_perm y).mem_iff.mpr hp)
  exact ⟨this.1, this.2, Nat.zero_le _⟩
theorem sortL_ne {y : List (Nat × Nat)} (h : y ≠ []) : sortL y ≠ [] := by
  intro e
  have := (sortL_perm y).length_eq
  rw [e] at this
  exact h (List.length_eq_zero_iff.mp this)
theorem nodup_len : ∀ {n : Nat} {xs : List Nat}, xs.Nodup → (∀ x ∈ xs, x < n) → xs.length ≤ n
  | 0, [], _, _ => Nat.le_refl _
  | 0, x :: _, _, h => absurd (h x List.mem_cons_self) (by omega)
  | n + 1, xs, hn, h => by
    by_cases hm : n ∈ xs
    · have := nodup_len (n := n) (xs := xs.erase n) (hn.erase n) fun x hx => by
        rw [hn.mem_erase_iff] at hx
        have := h x hx.2
        omega
      rw [List.length_erase_of_mem hm] at this
      omega
    · have := nodup_len (n := n) hn fun x hx => by
        have := h x hx
        have : x ≠ n := fun e => hm (e ▸ hx)
        omega
      omega
theorem Laid.wide {n : Nat} {s : PS} {js : List (Nat × Nat)} (L : Laid n s js) : ∀ y ∈ s.lays, y.length ≤ n := by
  intro y hy
  obtain ⟨i, hi, e⟩ := List.mem_iff_getElem.mp hy
  have hiy : s.lays[i]? = some y := by rw [List.getElem?_eq_getElem hi, e]
  have := nodup_len (L.nd y hy) fun x hx => by
    obtain ⟨p, hp, rfl⟩ := List.mem_map.mp hx
    exact (L.hi i y hiy p hp).2.2.2
  simpa using this
theorem puts_len {n : Nat} : ∀ {ks : List (Nat × Nat)} {s : PS} {js : List (Nat × Nat)}, Laid n s js → (∀ p ∈ ks, p.1 < p.2 ∧ p.2 < n) → (s.puts ks).lays.length ≤ s.lays.length + ks.length
  | [], s, js, _, _ => Nat.le_refl _
  | (l, h) :: r, s, js, L, hk => by
    have hp := hk (l, h) List.mem_cons_self
    have := puts_len (ks := r) (L.put hp.1 hp.2) fun p hp => hk p (List.mem_cons_of_mem _ hp)
    rw [put_len L] at this
    have := L.at_le l h
    simp only [PS.puts, List.foldl_cons, List.length_cons] at *
    omega
structure Told (n : Nat) (net : Net) : Prop where
  ok : ∀ y ∈ net, okLayer n y
  len : net.length ≤ n + 3
  whole : ∀ x, x < n → rowsN net x = List.range (x + 1)
theorem told_of {n : Nat} {s : PS} {js : List (Nat × Nat)} {B : Nat → Nat} (L : Laid n s js) (P : Plays id js B) (h0 : ∀ x, x < n → B x = 0) (hl : s.lays.length ≤ n + 3) : Told n (s.lays.map sortL) where
  ok := by
    intro y hy
    obtain ⟨z, hz, rfl⟩ := List.mem_map.mp hy
    obtain ⟨i, hi, e⟩ := List.mem_iff_getElem.mp hz
    have hiz : s.lays[i]? = some z := by rw [List.getElem?_eq_getElem hi, e]
    exact ⟨sortL_ne (L.ne z hz), sortL_rising (L.nd z hz) fun p hp => (L.hi i z hiz p hp).2.2⟩
  len := by simpa using hl
  whole := by
    intro x hx
    unfold rowsN
    rw [runN_perm _ _ L.nd fun y _ => sortL_perm y, L.run]
    have e0 : (fun x : Nat => [x]) = fun x => ran (id x) x := by funext x; simp [ran]
    have := (plays_run P fun x => Nat.le_refl _)
    rw [e0, this.2]
    exact (ran_whole (this.1 x)).mpr (h0 x hx)
def FillOk (n : Nat) (B : Nat → Nat) (A : List Nat) (left : List (Nat × Nat)) : Prop :=
  ∀ B2, (∀ x ∈ A, B2 x = 0) → (∀ x, x ∉ A → B2 x = B x) → ∃ B3, Plays B2 left.reverse B3 ∧ ∀ x, x < n → B3 x = 0
structure TurnInv (n t : Nat) (s : PS) (left : List (Nat × Nat)) (active : List Nat) : Prop where
  ex : ∃ js B, Laid n s js ∧ Plays id js B ∧ Chain B 0 active ∧ FillOk n B active left
  lt : ∀ x ∈ active, x < n
  llt : ∀ p ∈ left, p.1 < n ∧ p.2 < n
  len : active.length + left.length ≤ n
  lay : s.lays.length ≤ t
theorem chain_id : ∀ (k s : Nat), Chain id s (List.range' s k)
  | 0, _ => trivial
  | k + 1, s => ⟨rfl, Nat.le_refl _, chain_id k (s + 1)⟩
theorem TurnInv.init (n : Nat) : TurnInv n 0 (PS.init n) [] (List.range n) where
  ex := ⟨[], id, Laid.init n, rfl, by rw [List.range_eq_range']; exact chain_id n 0, fun B2 h _ => ⟨B2, rfl, fun x hx => h x (by simpa using hx)⟩⟩
  lt := by simp
  llt := by simp
  len := by simp
  lay := by simp [PS.init]
theorem TurnInv.thin {n t : Nat} {s : PS} {left : List (Nat × Nat)} {active : List Nat} (I : TurnInv n t s left active) (cond : Nat → Bool) :
    TurnInv n (t + 1) (s.puts (thin cond 0 0 active).1) (left ++ (Bn.thin cond 0 0 active).2.1) (Bn.thin cond 0 0 active).2.2 ∧ ∀ p ∈ (Bn.thin cond 0 0 active).1, p.1 < p.2 ∧ p.2 < n := by
  obtain ⟨js, B, L, P, C, F⟩ := I.ex
  obtain ⟨B1, T⟩ := thin_ok cond 0 0 active B C
  generalize Bn.thin cond 0 0 active = th at T
  have hb := (plays_run P fun x => Nat.le_refl _).1
  have hlt : ∀ p ∈ th.1, p.1 < p.2 ∧ p.2 < n := fun p hp => ⟨plays_lt T.plays hb p hp, I.lt _ (T.mem p hp).2⟩
  refine ⟨⟨⟨js ++ th.1, B1, L.puts hlt, P.append T.plays, T.chain, ?_⟩, fun x hx => I.lt x (T.sub x hx), ?_, ?_, ?_⟩, hlt⟩
  · intro B2 h0 h1
    obtain ⟨B3, P3, Z3, S3⟩ := T.fill B2 h0 (fun x _ hx => h1 x hx) (.inl rfl)
    obtain ⟨B4, P4, Z4⟩ := F B3 Z3 fun x hx => by rw [S3 x hx, h1 x fun h => hx (T.sub x h), T.same x hx]
    exact ⟨B4, by rw [List.reverse_append]; exact P3.append P4, Z4⟩
  · intro p hp
    rcases List.mem_append.mp hp with hp | hp
    · exact I.llt p hp
    · have := T.lmem p hp
      exact ⟨I.lt _ (this.1.resolve_right (by omega)), I.lt _ this.2⟩
  · have := I.len; have := T.len; simp; omega
  · have := L.batch hlt (T.batch [] [] (by simp) (by simp))
    have := I.lay
    omega
structure GInv (n M : Nat) (s : PS) (left : List (Nat × Nat)) (gs : List (List Nat)) : Prop where
  ex : ∃ js B, Laid n s js ∧ Plays id js B ∧ GChain B 0 gs ∧ FillOk n B gs.flatten left
  lt : ∀ g ∈ gs, ∀ x ∈ g, x < n
  llt : ∀ p ∈ left, p.1 < n ∧ p.2 < n
  lay : s.lays.length + gs.length + left.length ≤ M
theorem GInv.of {n t : Nat} {s : PS} {left : List (Nat × Nat)} {active : List Nat} (I : TurnInv n t s left active) : GInv n (n + t) s left (active.map fun x => [x]) := by
  obtain ⟨js, B, L, P, C, F⟩ := I.ex
  refine ⟨⟨js, B, L, P, GChain.of C, ?_⟩, ?_, I.llt, ?_⟩
  · have : ∀ l : List Nat, (l.map fun x => [x]).flatten = l := by intro l; induction l <;> simp_all
    rw [this]; exact F
  · intro g hg x hx
    obtain ⟨y, hy, rfl⟩ := List.mem_map.mp hg
    rw [List.mem_singleton.mp hx]; exact I.lt y hy
  · have := I.len; have := I.lay; simp; omega
theorem GInv.merge {n M : Nat} {s : PS} {left : List (Nat × Nat)} {pre post : List (List Nat)} {a b : List Nat} (I : GInv n M s left (pre ++ a :: b :: post)) :
    ∃ m, a.getLast? = some m ∧ GInv n M (s.puts (b.map fun y => (m, y))) left (pre ++ (a ++ b) :: post) ∧ (∀ p ∈ b.map (fun y => (m, y)), p.1 < p.2 ∧ p.2 < n) := by
  obtain ⟨js, B, L, P, C, F⟩ := I.ex
  obtain ⟨m, h1, h2, h3, B', h4, h5, h6⟩ := merge_ok C
  have hb := (plays_run P fun x => Nat.le_refl _).1
  have hlt : ∀ p ∈ b.map (fun y => (m, y)), p.1 < p.2 ∧ p.2 < n := fun p hp => ⟨plays_lt h4 hb p hp, by
    obtain ⟨y, hy, rfl⟩ := List.mem_map.mp hp
    exact I.lt b (by simp) y hy⟩
  refine ⟨m, h1, ⟨⟨js ++ _, B', L.puts hlt, P.append h4, h5, ?_⟩, ?_, I.llt, ?_⟩, hlt⟩
  · have e : (pre ++ (a ++ b) :: post).flatten = (pre ++ a :: b :: post).flatten := by simp
    rw [e]
    intro B2 z0 z1
    refine F B2 z0 fun x hx => ?_
    rw [z1 x hx, h6 x fun hb => hx ?_]
    simp [hb]
  · intro g hg x hx
    simp only [List.mem_append, List.mem_cons] at hg
    rcases hg with hg | rfl | hg
    · exact I.lt g (by simp [hg]) x hx
    · rcases List.mem_append.mp hx with hx | hx
      · exact I.lt a (by simp) x hx
      · exact I.lt b (by simp) x hx
    · exact I.lt g (by simp [hg]) x hx
  · have := L.batch hlt (group_batch h3 h2 (by simp) (by simp))
    have := I.lay
    simp only [List.length_append, List.length_cons] at *
    omega
theorem GInv.fin {n M : Nat} {s : PS} {left : List (Nat × Nat)} {gs : List (List Nat)} (I : GInv n M s left gs) (h1 : gs.length ≤ 1) (hM : M ≤ n + 3) :
    Told n ((s.puts left.reverse).lays.map sortL) ∧ (∃ js, Laid n s js) ∧ (∀ p ∈ left.reverse, p.1 < p.2 ∧ p.2 < n) := by
  obtain ⟨js, B, L, P, C, F⟩ := I.ex
  have hz : ∀ x ∈ gs.flatten, B x = 0 := by
    match gs, h1, C with
    | [], _, _ => intro x hx; cases hx
    | [g], _, C => intro x hx; exact (C.1 x (by simpa using hx)).1
  obtain ⟨B3, P3, Z3⟩ := F B hz fun _ _ => rfl
  have hb := (plays_run P fun x => Nat.le_refl _).1
  have hlt : ∀ p ∈ left.reverse, p.1 < p.2 ∧ p.2 < n := fun p hp => ⟨plays_lt P3 hb p hp, (I.llt p (by simpa using hp)).2⟩
  refine ⟨told_of (L.puts hlt) (P.append P3) Z3 ?_, ⟨js, L⟩, hlt⟩
  have := puts_len L hlt
  have := I.lay
  simp at *
  omega
end Bn
namespace Bn
theorem rising_mono {n : Nat} {y : List (Nat × Nat)} {lo lo' : Nat} (h : lo ≤ lo') (hr : rising n lo' y) : rising n lo y := by
  cases y with
  | nil => trivial
  | cons p r => obtain ⟨a, b, c, d⟩ := hr; exact ⟨a, b, by omega, d⟩
theorem rising_erase {n : Nat} : ∀ {y : List (Nat × Nat)} {lo : Nat} (i : Nat), rising n lo y → rising n lo (y.eraseIdx i)
  | [], _, _, _ => trivial
  | (l, h) :: r, lo, 0, ⟨a, b, c, d⟩ => rising_mono (by omega) d
  | (l, h) :: r, lo, i + 1, ⟨a, b, c, d⟩ => ⟨a, b, c, rising_erase i d⟩
def keepNe (net : Net) : Net := net.filter fun y => decide (y ≠ [])
theorem ok_filter {n : Nat} {net : Net} (h : ∀ y ∈ net, rising n 0 y) (hl : net.length ≤ 80) : okNet n (keepNe net) := by
  refine ⟨Nat.le_trans (List.length_filter_le _ _) hl, fun y hy => ?_⟩
  have := List.mem_filter.mp hy
  exact ⟨by simpa using this.2, h y this.1⟩
def withHas (net : Net) (i h : Nat) : Bool := ((net ++ [[]]).getD i []).any fun p => p.2 == h
def withN (net : Net) (i l h : Nat) : Net := if withHas net i h then keepNe (net ++ [[]]) else keepNe ((net ++ [[]]).set i (sortL ((net ++ [[]]).getD i [] ++ [(l, h)])))
theorem rise_add {n : Nat} {net : Net} (h : ∀ y ∈ net, rising n 0 y) : ∀ y ∈ net ++ [[]], rising n 0 y := by
  intro y hy
  rcases List.mem_append.mp hy with hy | hy
  · exact h y hy
  · rw [List.mem_singleton.mp hy]; trivial
theorem rise_getD {n : Nat} {net : Net} (h : ∀ y ∈ net, rising n 0 y) (i : Nat) : rising n 0 (net.getD i []) := by
  rw [List.getD_eq_getElem?_getD]
  cases e : net[i]? with
  | none => trivial
  | some y => exact h y (List.mem_of_getElem? e)
theorem withN_ok {n : Nat} {net : Net} (hr : ∀ y ∈ net, rising n 0 y) (hl : net.length ≤ 79) {i l h : Nat} (hlh : l < h) (hn : h < n) : okNet n (withN net i l h) := by
  have hr' := rise_add hr
  unfold withN
  split
  · exact ok_filter hr' (by simp; omega)
  · rename_i hh
    refine ok_filter (fun y hy => ?_) (by simp; omega)
    rcases List.mem_or_eq_of_mem_set hy with hy | rfl
    · exact hr' y hy
    · have hy := rising_fair (rise_getD hr' i)
      generalize hg : (net ++ [[]]).getD i [] = y at *
      refine sortL_rising ?_ ?_
      · rw [List.map_append, List.nodup_append]
        refine ⟨hy.2, by simp, ?_⟩
        intro a ha b hb
        obtain ⟨p, hp, rfl⟩ := List.mem_map.mp ha
        simp only [List.map_cons, List.map_nil, List.mem_singleton] at hb
        rw [hb]
        intro e
        apply hh
        unfold withHas
        rw [hg]
        exact List.any_eq_true.mpr ⟨p, hp, by simpa using e⟩
      · intro p hp
        rcases List.mem_append.mp hp with hp | hp
        · have := hy.1 p hp; exact ⟨this.1, this.2.1⟩
        · rw [List.mem_singleton.mp hp]; exact ⟨hlh, hn⟩
theorem ok_rise {n : Nat} {net : Net} (h : okNet n net) : ∀ y ∈ net, rising n 0 y := fun y hy => (h.2 y hy).2
theorem rise_less {n : Nat} {net : Net} (h : ∀ y ∈ net, rising n 0 y) {i : Nat} {y : List (Nat × Nat)} (hy : net[i]? = some y) (k : Nat) : ∀ z ∈ net.set i (y.eraseIdx k), rising n 0 z := by
  intro z hz
  rcases List.mem_or_eq_of_mem_set hz with hz | rfl
  · exact h z hz
  · exact rising_erase k (h y (List.mem_of_getElem? hy))
theorem ok_swap {n : Nat} {net : Net} (h : okNet n net) {i : Nat} {y : List (Nat × Nat)} (hy : net[i]? = some y) : okNet n (net.take i ++ (net.drop (i + 1)).take 1 ++ [y] ++ net.drop (i + 2)) := by
  have hi := (List.getElem?_eq_some_iff.mp hy).1
  refine ⟨?_, fun z hz => h.2 z ?_⟩
  · have := h.1
    simp only [List.length_append, List.length_take, List.length_drop, List.length_cons, List.length_nil]
    omega
  · simp only [List.mem_append, List.mem_singleton] at hz
    rcases hz with ((hz | hz) | hz) | hz
    · exact List.mem_of_mem_take hz
    · exact List.mem_of_mem_drop (List.mem_of_mem_take hz)
    · rw [hz]; exact List.mem_of_getElem? hy
    · exact List.mem_of_mem_drop hz
def tri : Nat → Nat
  | 0 => 0
  | n + 1 => (n + 1) + tri n
theorem tri_le : ∀ n, n ≤ 11 → tri n ≤ 66 := by decide
theorem ok_one {n l h : Nat} (h1 : l < h) (h2 : h < n) : okLayer n [(l, h)] := ⟨by simp, h1, h2, Nat.zero_le _, trivial⟩
theorem Told.net {n : Nat} {net : Net} (T : Told n net) (hn : n ≤ 77) : okNet n net := ⟨by have := T.len; omega, T.ok⟩
end Bn
namespace Bn
def Tells (n : Nat) (net : Net) : Prop := ∃ B, tellN net id = some B ∧ ∀ x, x < n → B x = 0
theorem Tells.whole {n : Nat} {net : Net} (hf : Fair n net) (h : Tells n net) : ∀ x, x < n → rowsN net x = List.range (x + 1) := by
  refine (tell_iff hf).mp ?_
  obtain ⟨B, h1, h2⟩ := h
  unfold doesTell
  rw [h1]
  simpa using h2
theorem Tells.of {n : Nat} {net : Net} (hf : Fair n net) (h : ∀ x, x < n → rowsN net x = List.range (x + 1)) : Tells n net := by
  have := (tell_iff hf).mpr h
  unfold doesTell at this
  cases e : tellN net id with
  | none => rw [e] at this; cases this
  | some B => rw [e] at this; exact ⟨B, e, by simpa using this⟩
theorem Told.tells {n : Nat} {net : Net} (T : Told n net) : Tells n net := Tells.of (fun y hy => by
  have := rising_fair (T.ok y hy).2
  exact ⟨fun p hp => ⟨(this.1 p hp).1, (this.1 p hp).2.1⟩, this.2⟩) T.whole
theorem tellN_append : ∀ (a b : Net) (B : Nat → Nat), tellN (a ++ b) B = (tellN a B).bind (tellN b)
  | [], b, B => rfl
  | y :: r, b, B => by
    simp only [List.cons_append, tellN]
    split
    · exact tellN_append r b _
    · rfl
theorem tell_layer {B B' : Nat → Nat} {y : List (Nat × Nat)} (hn : (y.map (·.2)).Nodup) (ht : ∀ p ∈ y, p.1 + 1 = B p.2) (h1 : ∀ p ∈ y, B' p.2 = B p.1) (h2 : ∀ x, (∀ p ∈ y, p.2 ≠ x) → B' x = B x) : tellN [y] B = some B' := by
  have : layTell B y = true := by
    simp only [layTell, List.all_eq_true, beq_iff_eq]; exact ht
  simp only [tellN, this, if_true]
  congr 1
  funext x
  rcases stepL_case (fun l _ => l) y B x with ⟨p, hp, rfl, e⟩ | e
  · rw [e, h1 p hp]
  · by_cases hx : ∀ p ∈ y, p.2 ≠ x
    · rw [e, h2 x hx]
    · have : ∃ p ∈ y, p.2 = x := Classical.byContradiction fun hno => hx fun p hp e => hno ⟨p, hp, e⟩
      obtain ⟨p, hp, rfl⟩ := this
      rw [stepL_at _ _ hn hp, h1 p hp]
def oneByOne (n : Nat) : Net := (List.range (n - 1)).map fun i => [(i, i + 1)]
theorem tells_range {f : Nat → List (Nat × Nat)} {S : Nat → Nat → Nat} (k : Nat) (step : ∀ i, i < k → tellN [f i] (S i) = some (S (i + 1))) : tellN ((List.range k).map f) (S 0) = some (S k) := by
  induction k with
  | zero => rfl
  | succ k ih =>
    rw [List.range_succ, List.map_append, tellN_append, ih fun i hi => step i (by omega)]
    exact step k (by omega)
theorem oneByOne_tells (n : Nat) : Tells n (oneByOne n) := by
  have := tells_range (f := fun i => [(i, i + 1)]) (S := fun k x => if x ≤ k then 0 else x) (n - 1) fun i hi => by
    refine tell_layer (by simp) ?_ ?_ ?_
    · intro p hp; rw [List.mem_singleton.mp hp]; show i + 1 = if i + 1 ≤ i then 0 else i + 1; rw [if_neg (by omega)]
    · intro p hp; rw [List.mem_singleton.mp hp]; simp
    · intro x hx
      have := hx _ List.mem_cons_self
      simp only at this
      show (if x ≤ i + 1 then 0 else x) = if x ≤ i then 0 else x
      repeat' split
      all_goals omega
  have e0 : (fun x : Nat => if x ≤ 0 then 0 else x) = id := by funext x; show (if x ≤ 0 then 0 else x) = x; split <;> omega
  rw [e0] at this
  exact ⟨_, this, fun x hx => by simp; omega⟩
theorem oneByOne_ok (n : Nat) : ∀ y ∈ oneByOne n, okLayer n y := by
  intro y hy
  obtain ⟨i, hi, rfl⟩ := List.mem_map.mp hy
  rw [List.mem_range] at hi
  exact ok_one (by omega) (by omega)
def dblLayer (n s : Nat) : List (Nat × Nat) := (List.range (n - s)).map fun i => (i, i + s)
theorem dbl_step {n s : Nat} (hs : 1 ≤ s) : tellN [dblLayer n s] (fun x => if x < n then x + 1 - s else x) = some (fun x => if x < n then x + 1 - 2 * s else x) := by
  have hmem : ∀ p ∈ dblLayer n s, p.2 = p.1 + s ∧ p.2 < n := by
    intro p hp
    obtain ⟨i, hi, rfl⟩ := List.mem_map.mp hp
    rw [List.mem_range] at hi
    exact ⟨rfl, by show i + s < n; omega⟩
  refine tell_layer ?_ ?_ ?_ ?_
  · unfold dblLayer
    rw [List.map_map]
    have : ((fun p : Nat × Nat => p.2) ∘ fun i => (i, i + s)) = fun i => i + s := rfl
    rw [this]
    exact List.Pairwise.map _ (fun a b (h : a ≠ b) => by omega) List.nodup_range
  · intro p hp
    obtain ⟨h1, h2⟩ := hmem p hp
    rw [if_pos h2]; omega
  · intro p hp
    obtain ⟨h1, h2⟩ := hmem p hp
    rw [if_pos h2, if_pos (by omega)]; omega
  · intro x hx
    by_cases hxn : x < n
    · rw [if_pos hxn, if_pos hxn]
      by_cases hxs : s ≤ x
      · exact absurd (show x - s + s = x by omega) (hx (x - s, x - s + s) (List.mem_map.mpr ⟨x - s, by simp; omega, rfl⟩))
      · omega
    · rw [if_neg hxn, if_neg hxn]
theorem dbl_ok {n s : Nat} (hs : 1 ≤ s) (hsn : s < n) : okLayer n (dblLayer n s) := by
  refine ⟨?_, ?_⟩
  · unfold dblLayer; intro h; have := congrArg List.length h; simp at this; omega
  · unfold dblLayer
    have : ∀ (k a : Nat), a + k + s ≤ n → rising n (a + s) ((List.range' a k).map fun i => (i, i + s)) := by
      intro k
      induction k with
      | zero => intro a _; trivial
      | succ k ih =>
        intro a h
        refine ⟨by omega, by omega, Nat.le_refl _, ?_⟩
        have := ih (a + 1) (by omega)
        rw [show a + 1 + s = a + s + 1 by omega] at this
        exact this
    have := this (n - s) 0 (by omega)
    rw [← List.range_eq_range'] at this
    exact rising_mono (by omega) this
def shiftL (m : Nat) (y : List (Nat × Nat)) : List (Nat × Nat) := y.map fun p => (p.1 + m, p.2 + m)
def mergeN : Net → Net → Net
  | [], b => b
  | a, [] => a
  | x :: a, y :: b => (x ++ y) :: mergeN a b
def BothB (m : Nat) (Ba Bb B : Nat → Nat) : Prop := (∀ x, x < m → B x = Ba x) ∧ ∀ y, B (m + y) = m + Bb y
theorem layTell_iff {B : Nat → Nat} {y : List (Nat × Nat)} : layTell B y = true ↔ ∀ p ∈ y, p.1 + 1 = B p.2 := by
  simp only [layTell, List.all_eq_true, beq_iff_eq]
theorem both_step {m n : Nat} {Ba Bb B : Nat → Nat} (h : BothB m Ba Bb B) {x y : List (Nat × Nat)} (hx : ∀ p ∈ x, p.1 < p.2 ∧ p.2 < m) (hy : ∀ p ∈ y, p.1 < p.2 ∧ p.2 < n) (nx : (x.map (·.2)).Nodup) (ny : (y.map (·.2)).Nodup) (tx : layTell Ba x = true) (ty : layTell Bb y = true) :
    layTell B (x ++ shiftL m y) = true ∧ BothB m (stepL (fun l _ => l) x Ba) (stepL (fun l _ => l) y Bb) (stepL (fun l _ => l) (x ++ shiftL m y) B) := by
  rw [layTell_iff] at tx ty
  have hmem : ∀ p ∈ x ++ shiftL m y, p ∈ x ∨ ∃ q ∈ y, p = (q.1 + m, q.2 + m) := by
    intro p hp
    rcases List.mem_append.mp hp with hp | hp
    · exact .inl hp
    · obtain ⟨q, hq, rfl⟩ := List.mem_map.mp hp; exact .inr ⟨q, hq, rfl⟩
  have nd : ((x ++ shiftL m y).map (·.2)).Nodup := by
    rw [List.map_append, List.nodup_append]
    refine ⟨nx, ?_, ?_⟩
    · unfold shiftL
      rw [List.map_map]
      have : ((fun p : Nat × Nat => p.2) ∘ fun p : Nat × Nat => (p.1 + m, p.2 + m)) = (fun k => k + m) ∘ fun p : Nat × Nat => p.2 := rfl
      rw [this, ← List.map_map]
      exact List.Pairwise.map _ (fun a b (h : a ≠ b) => by omega) ny
    · intro a ha b hb
      obtain ⟨p, hp, rfl⟩ := List.mem_map.mp ha
      obtain ⟨q, hq, rfl⟩ := List.mem_map.mp hb
      obtain ⟨r, hr, rfl⟩ := List.mem_map.mp hq
      have := (hx p hp).2
      show p.2 ≠ r.2 + m
      omega
  refine ⟨?_, ?_, ?_⟩
  · rw [layTell_iff]
    intro p hp
    rcases hmem p hp with hp | ⟨q, hq, rfl⟩
    · rw [h.1 _ (hx p hp).2]; exact tx p hp
    · show q.1 + m + 1 = B (q.2 + m)
      rw [Nat.add_comm q.2 m, h.2]
      have := ty q hq
      omega
  · intro z hz
    rcases stepL_case (fun l _ => l) x Ba z with ⟨p, hp, rfl, e⟩ | e
    · rw [e, stepL_at _ _ nd (List.mem_append_left _ hp)]
      exact h.1 _ (by have := hx p hp; omega)
    · rw [e]
      rcases stepL_case (fun l _ => l) (x ++ shiftL m y) B z with ⟨p, hp, rfl, e'⟩ | e'
      · rcases hmem p hp with hp | ⟨q, hq, rfl⟩
        · rw [stepL_at _ _ nx hp] at e
          rw [e', h.1 _ (by have := hx p hp; omega), e]
        · exact absurd hz (by show ¬ q.2 + m < m; omega)
      · rw [e', h.1 z hz]
  · intro z
    rcases stepL_case (fun l _ => l) y Bb z with ⟨p, hp, rfl, e⟩ | e
    · rw [e, show m + p.2 = ((p.1 + m, p.2 + m) : Nat × Nat).2 by show m + p.2 = p.2 + m; omega, stepL_at _ _ nd (List.mem_append_right _ (List.mem_map.mpr ⟨p, hp, rfl⟩))]
      show B (p.1 + m) = _
      rw [Nat.add_comm p.1 m, h.2]
    · rw [e]
      rcases stepL_case (fun l _ => l) (x ++ shiftL m y) B (m + z) with ⟨p, hp, e0, e'⟩ | e'
      · rcases hmem p hp with hp | ⟨q, hq, rfl⟩
        · have := (hx p hp).2; omega
        · have hqz : q.2 = z := by simp only at e0; omega
          subst hqz
          rw [stepL_at _ _ ny hq] at e
          rw [e']
          show B (q.1 + m) = _
          rw [Nat.add_comm q.1 m, h.2, e]
      · rw [e', h.2]
theorem both_run {m n : Nat} : ∀ {a b : Net} {Ba Bb B Ba' Bb' : Nat → Nat}, BothB m Ba Bb B → Fair m a → Fair n b → tellN a Ba = some Ba' → tellN b Bb = some Bb' → ∃ B', tellN (mergeN a (b.map (shiftL m))) B = some B' ∧ BothB m Ba' Bb' B'
  | [], [], Ba, Bb, B, _, _, h, _, _, ha, hb => by cases ha; cases hb; exact ⟨B, rfl, h⟩
  | [], y :: b, Ba, Bb, B, Ba', Bb', h, fa, fb, ha, hb => by
    unfold tellN at hb
    split at hb
    · rename_i ht
      have hy := fb y List.mem_cons_self
      have st := both_step (x := []) h (by simp) hy.1 (by simp) hy.2 rfl ht
      obtain ⟨B', h1, h2⟩ := both_run (a := []) (b := b) st.2 fa (fun z hz => fb z (List.mem_cons_of_mem _ hz)) (by exact ha) hb
      refine ⟨B', ?_, h2⟩
      simp only [mergeN, List.map_cons, tellN] at h1 ⊢
      rw [List.nil_append] at st
      rw [if_pos st.1]
      exact h1
    · cases hb
  | x :: a, [], Ba, Bb, B, Ba', Bb', h, fa, fb, ha, hb => by
    unfold tellN at ha
    split at ha
    · rename_i ht
      have hx := fa x List.mem_cons_self
      have st := both_step (y := []) (n := n) h hx.1 (by simp) hx.2 (by simp) ht rfl
      obtain ⟨B', h1, h2⟩ := both_run (a := a) (b := []) st.2 (fun z hz => fa z (List.mem_cons_of_mem _ hz)) fb ha (by exact hb)
      refine ⟨B', ?_, h2⟩
      have e : mergeN (x :: a) ([].map (shiftL m)) = x :: a := rfl
      have e2 : ∀ a : Net, mergeN a ([].map (shiftL m)) = a := fun a => by cases a <;> rfl
      rw [e2] at h1
      rw [e]
      have e3 : x ++ shiftL m [] = x := List.append_nil x
      rw [e3] at st h1
      simp only [tellN]
      rw [if_pos st.1]
      exact h1
    · cases ha
  | x :: a, y :: b, Ba, Bb, B, Ba', Bb', h, fa, fb, ha, hb => by
    unfold tellN at ha hb
    split at ha
    · split at hb
      · rename_i tx ty
        have hx := fa x List.mem_cons_self
        have hy := fb y List.mem_cons_self
        have st := both_step h hx.1 hy.1 hx.2 hy.2 tx ty
        obtain ⟨B', h1, h2⟩ := both_run st.2 (fun z hz => fa z (List.mem_cons_of_mem _ hz)) (fun z hz => fb z (List.mem_cons_of_mem _ hz)) ha hb
        refine ⟨B', ?_, h2⟩
        simp only [List.map_cons, mergeN, tellN]
        rw [if_pos st.1]
        exact h1
      · cases hb
    · cases ha
def lastLayer (m n : Nat) : List (Nat × Nat) := (List.range n).map fun i => (m - 1, m + i)
def partedN (m : Nat) (a : Net) (n : Nat) (b : Net) : Net := mergeN a (b.map (shiftL m)) ++ [lastLayer m n]
theorem parted_tells {m n : Nat} {a b : Net} (hm : 1 ≤ m) (fa : Fair m a) (fb : Fair n b) (ta : Tells m a) (tb : Tells n b) : Tells (m + n) (partedN m a n b) := by
  obtain ⟨Ba, a1, a2⟩ := ta
  obtain ⟨Bb, b1, b2⟩ := tb
  obtain ⟨B, h1, h2⟩ := both_run (m := m) (n := n) (Ba := id) (Bb := id) (B := id) ⟨fun _ _ => rfl, fun _ => rfl⟩ fa fb a1 b1
  refine ⟨fun x => if m ≤ x ∧ x < m + n then 0 else B x, ?_, ?_⟩
  · unfold partedN
    rw [tellN_append, h1]
    show tellN [lastLayer m n] B = _
    have hmem : ∀ p ∈ lastLayer m n, ∃ i, i < n ∧ p = (m - 1, m + i) := by
      intro p hp
      obtain ⟨i, hi, rfl⟩ := List.mem_map.mp hp
      exact ⟨i, by simpa using hi, rfl⟩
    refine tell_layer ?_ ?_ ?_ ?_
    · unfold lastLayer
      rw [List.map_map]
      have : ((fun p : Nat × Nat => p.2) ∘ fun i => (m - 1, m + i)) = fun i => m + i := rfl
      rw [this]
      exact List.Pairwise.map _ (fun a b (h : a ≠ b) => by omega) List.nodup_range
    · intro p hp
      obtain ⟨i, hi, rfl⟩ := hmem p hp
      show m - 1 + 1 = B (m + i)
      rw [h2.2, b2 i hi]; omega
    · intro p hp
      obtain ⟨i, hi, rfl⟩ := hmem p hp
      show (if m ≤ m + i ∧ m + i < m + n then 0 else B (m + i)) = B (m - 1)
      rw [if_pos ⟨by omega, by omega⟩, h2.1 _ (by omega), a2 _ (by omega)]
    · intro x hx
      rw [if_neg]
      intro h
      exact hx (m - 1, m + (x - m)) (List.mem_map.mpr ⟨x - m, by simp; omega, rfl⟩) (by show m + (x - m) = x; omega)
  · intro x hx
    by_cases h : m ≤ x
    · simp only [h, hx, and_self, if_true]
    · simp only [h, false_and, if_false]
      rw [h2.1 x (by omega), a2 x (by omega)]
def oddL (y : List (Nat × Nat)) : List (Nat × Nat) := y.map fun p => (2 * p.1 + 1, 2 * p.2 + 1)
def Odd (k : Nat) (Bn B : Nat → Nat) : Prop := (∀ i, i < k → B (2 * i + 1) = 2 * Bn i) ∧ ∀ i, B (2 * i) = 2 * i
theorem odd_run {k : Nat} : ∀ {a : Net} {Bn B Bn' : Nat → Nat}, Odd k Bn B → Fair k a → tellN a Bn = some Bn' → ∃ B', tellN (a.map oddL) B = some B' ∧ Odd k Bn' B'
  | [], Bn, B, _, h, _, ht => by cases ht; exact ⟨B, rfl, h⟩
  | y :: r, Bn, B, Bn', h, hf, ht => by
    unfold tellN at ht
    split at ht
    · rename_i hl
      have hy := hf y List.mem_cons_self
      rw [layTell_iff] at hl
      have nd : ((oddL y).map (·.2)).Nodup := by
        unfold oddL
        rw [List.map_map]
        have : ((fun p : Nat × Nat => p.2) ∘ fun p : Nat × Nat => (2 * p.1 + 1, 2 * p.2 + 1)) = (fun k => 2 * k + 1) ∘ fun p : Nat × Nat => p.2 := rfl
        rw [this, ← List.map_map]
        exact List.Pairwise.map _ (fun a b (h : a ≠ b) => by omega) hy.2
      have t1 : layTell B (oddL y) = true := by
        rw [layTell_iff]
        intro p hp
        obtain ⟨q, hq, rfl⟩ := List.mem_map.mp hp
        show 2 * q.1 + 1 + 1 = B (2 * q.2 + 1)
        rw [h.1 _ (hy.1 q hq).2]
        have := hl q hq
        omega
      have st : Odd k (stepL (fun l _ => l) y Bn) (stepL (fun l _ => l) (oddL y) B) := by
        constructor
        · intro i hi
          rcases stepL_case (fun l _ => l) y Bn i with ⟨p, hp, rfl, e⟩ | e
          · rw [e, show 2 * p.2 + 1 = ((2 * p.1 + 1, 2 * p.2 + 1) : Nat × Nat).2 from rfl, stepL_at _ _ nd (List.mem_map.mpr ⟨p, hp, rfl⟩)]
            exact h.1 _ (by have := hy.1 p hp; omega)
          · rw [e]
            rcases stepL_case (fun l _ => l) (oddL y) B (2 * i + 1) with ⟨p, hp, e0, e'⟩ | e'
            · obtain ⟨q, hq, rfl⟩ := List.mem_map.mp hp
              have hqi : q.2 = i := by simp only at e0; omega
              subst hqi
              rw [stepL_at _ _ hy.2 hq] at e
              rw [e']
              show B (2 * q.1 + 1) = _
              rw [h.1 _ (by have := hy.1 q hq; omega), e]
            · rw [e', h.1 i hi]
        · intro i
          rcases stepL_case (fun l _ => l) (oddL y) B (2 * i) with ⟨p, hp, e0, e'⟩ | e'
          · obtain ⟨q, hq, rfl⟩ := List.mem_map.mp hp
            simp only at e0; omega
          · rw [e', h.2]
      obtain ⟨B', h1, h2⟩ := odd_run st (fun z hz => hf z (List.mem_cons_of_mem _ hz)) ht
      refine ⟨B', ?_, h2⟩
      simp only [List.map_cons, tellN]
      rw [if_pos t1]
      exact h1
    · cases ht
def evenL (n : Nat) : List (Nat × Nat) := (List.range (n / 2)).map fun i => (2 * i, 2 * i + 1)
def endL (n : Nat) : List (Nat × Nat) := (List.range ((n - 1) / 2)).map fun i => (2 * i + 1, 2 * i + 2)
def pairedN (n : Nat) (a : Net) : Net := [evenL n] ++ a.map oddL ++ (if 2 < n then [endL n] else [])
theorem paired_tells {n : Nat} {a : Net} (fa : Fair (n / 2) a) (ta : Tells (n / 2) a) : Tells n (pairedN n a) := by
  obtain ⟨Ba, a1, a2⟩ := ta
  have h0 : tellN [evenL n] id = some (fun x => if x % 2 = 1 ∧ x < 2 * (n / 2) then x - 1 else x) := by
    have hmem : ∀ p ∈ evenL n, ∃ i, i < n / 2 ∧ p = (2 * i, 2 * i + 1) := by
      intro p hp
      obtain ⟨i, hi, rfl⟩ := List.mem_map.mp hp
      exact ⟨i, by simpa using hi, rfl⟩
    refine tell_layer ?_ ?_ ?_ ?_
    · unfold evenL
      rw [List.map_map]
      have : ((fun p : Nat × Nat => p.2) ∘ fun i => (2 * i, 2 * i + 1)) = fun i => 2 * i + 1 := rfl
      rw [this]
      exact List.Pairwise.map _ (fun a b (h : a ≠ b) => by omega) List.nodup_range
    · intro p hp; obtain ⟨i, hi, rfl⟩ := hmem p hp; rfl
    · intro p hp
      obtain ⟨i, hi, rfl⟩ := hmem p hp
      show (if (2 * i + 1) % 2 = 1 ∧ 2 * i + 1 < 2 * (n / 2) then 2 * i + 1 - 1 else 2 * i + 1) = 2 * i
      rw [if_pos ⟨by omega, by omega⟩]; omega
    · intro x hx
      rw [if_neg]; rfl
      intro h
      exact hx (2 * (x / 2), 2 * (x / 2) + 1) (List.mem_map.mpr ⟨x / 2, by simp; omega, rfl⟩) (by show 2 * (x / 2) + 1 = x; omega)
  obtain ⟨B, h1, h2⟩ := odd_run (k := n / 2) (Bn := id) (B := fun x => if x % 2 = 1 ∧ x < 2 * (n / 2) then x - 1 else x) ⟨fun i hi => by
    show (if (2 * i + 1) % 2 = 1 ∧ 2 * i + 1 < 2 * (n / 2) then 2 * i + 1 - 1 else 2 * i + 1) = 2 * i
    rw [if_pos ⟨by omega, by omega⟩]; omega, fun i => by
    show (if (2 * i) % 2 = 1 ∧ 2 * i < 2 * (n / 2) then 2 * i - 1 else 2 * i) = 2 * i
    rw [if_neg (by omega)]⟩ fa a1
  have hodd : ∀ x, x % 2 = 1 → x < n → B x = 0 := by
    intro x h3 h4
    have := h2.1 (x / 2) (by omega)
    rw [show 2 * (x / 2) + 1 = x by omega, a2 _ (by omega)] at this
    exact this
  have heven : ∀ x, x % 2 = 0 → B x = x := by
    intro x h3
    have := h2.2 (x / 2)
    rw [show 2 * (x / 2) = x by omega] at this
    exact this
  by_cases hn : 2 < n
  · refine ⟨fun x => if x < n then 0 else B x, ?_, fun x hx => by simp only [hx, if_true]⟩
    unfold pairedN
    rw [if_pos hn, tellN_append, tellN_append, h0]
    show (tellN (a.map oddL) _).bind (tellN [endL n]) = _
    rw [h1]
    show tellN [endL n] B = _
    have hmem : ∀ p ∈ endL n, ∃ i, i < (n - 1) / 2 ∧ p = (2 * i + 1, 2 * i + 2) := by
      intro p hp
      obtain ⟨i, hi, rfl⟩ := List.mem_map.mp hp
      exact ⟨i, by simpa using hi, rfl⟩
    refine tell_layer ?_ ?_ ?_ ?_
    · unfold endL
      rw [List.map_map]
      have : ((fun p : Nat × Nat => p.2) ∘ fun i => (2 * i + 1, 2 * i + 2)) = fun i => 2 * i + 2 := rfl
      rw [this]
      exact List.Pairwise.map _ (fun a b (h : a ≠ b) => by omega) List.nodup_range
    · intro p hp
      obtain ⟨i, hi, rfl⟩ := hmem p hp
      show 2 * i + 1 + 1 = B (2 * i + 2)
      rw [heven _ (by omega)]
    · intro p hp
      obtain ⟨i, hi, rfl⟩ := hmem p hp
      show (if 2 * i + 2 < n then 0 else B (2 * i + 2)) = B (2 * i + 1)
      rw [if_pos (by omega), hodd _ (by omega) (by omega)]
    · intro x hx
      by_cases hxn : x < n
      · rw [if_pos hxn]
        by_cases h3 : x % 2 = 1
        · rw [hodd x h3 hxn]
        · by_cases h4 : x = 0
          · rw [h4, heven 0 rfl]
          · exact absurd (show 2 * (x / 2 - 1) + 2 = x by omega) (hx (2 * (x / 2 - 1) + 1, 2 * (x / 2 - 1) + 2) (List.mem_map.mpr ⟨x / 2 - 1, by simp; omega, rfl⟩))
      · rw [if_neg hxn]
  · refine ⟨B, ?_, ?_⟩
    · unfold pairedN
      rw [if_neg hn, List.append_nil, tellN_append, h0]
      exact h1
    · intro x hx
      by_cases h3 : x % 2 = 1
      · exact hodd x h3 hx
      · rw [heven x (by omega)]; omega
def cutL (m : Nat) (y : List (Nat × Nat)) : List (Nat × Nat) := (y.filter fun p => decide (m ≤ p.1)).map fun p => (p.1 - m, p.2 - m)
theorem cut_run {m n : Nat} : ∀ {a : Net} {B Bc B' : Nat → Nat}, (∀ x, Bc x = B (m + x) - m) → Fair n a → (∀ x, B x ≤ x) → tellN a B = some B' → ∃ Bc', tellN (a.map (cutL m)) Bc = some Bc' ∧ ∀ x, Bc' x = B' (m + x) - m
  | [], B, Bc, _, h, _, _, ht => by cases ht; exact ⟨Bc, rfl, h⟩
  | y :: r, B, Bc, B', h, hf, hb, ht => by
    unfold tellN at ht
    split at ht
    · rename_i hl
      have hy := hf y List.mem_cons_self
      have hb' := (step_ran hb hy.1 hl).1
      rw [layTell_iff] at hl
      have hmem : ∀ p ∈ cutL m y, ∃ q ∈ y, m ≤ q.1 ∧ p = (q.1 - m, q.2 - m) := by
        intro p hp
        obtain ⟨q, hq, rfl⟩ := List.mem_map.mp hp
        obtain ⟨h1, h2⟩ := List.mem_filter.mp hq
        exact ⟨q, h1, by simpa using h2, rfl⟩
      have nd : ((cutL m y).map (·.2)).Nodup := by
        unfold cutL
        rw [List.map_map]
        have e : ((fun p : Nat × Nat => p.2) ∘ fun p : Nat × Nat => (p.1 - m, p.2 - m)) = fun p : Nat × Nat => p.2 - m := rfl
        rw [e]
        have hn : y.Pairwise (fun p q => p.2 ≠ q.2) := List.pairwise_map.mp hy.2
        refine List.pairwise_map.mpr ?_
        refine (hn.filter _).imp_of_mem ?_
        intro p q hp hq hne
        obtain ⟨p1, p2⟩ := List.mem_filter.mp hp
        obtain ⟨q1, q2⟩ := List.mem_filter.mp hq
        have := (hy.1 p p1).1
        have := (hy.1 q q1).1
        simp only [decide_eq_true_eq] at p2 q2
        omega
      have t1 : layTell Bc (cutL m y) = true := by
        rw [layTell_iff]
        intro p hp
        obtain ⟨q, hq, hm, rfl⟩ := hmem p hp
        have := hl q hq
        have := (hy.1 q hq).1
        show q.1 - m + 1 = Bc (q.2 - m)
        rw [h, show m + (q.2 - m) = q.2 by omega]
        omega
      have st : ∀ x, stepL (fun l _ => l) (cutL m y) Bc x = stepL (fun l _ => l) y B (m + x) - m := by
        intro x
        rcases stepL_case (fun l _ => l) y B (m + x) with ⟨q, hq, e0, e⟩ | e
        · rw [e]
          by_cases hm : m ≤ q.1
          · have hx : x = ((q.1 - m, q.2 - m) : Nat × Nat).2 := by show x = q.2 - m; omega
            rw [hx, stepL_at _ _ nd (List.mem_map.mpr ⟨q, List.mem_filter.mpr ⟨hq, by simpa using hm⟩, rfl⟩)]
            show Bc (q.1 - m) = _
            rw [h, show m + (q.1 - m) = q.1 by omega]
          · have hBq : B q.1 - m = 0 := by have := hb q.1; omega
            rw [hBq]
            rcases stepL_case (fun l _ => l) (cutL m y) Bc x with ⟨p, hp, e1, e'⟩ | e'
            · obtain ⟨q', hq', hm', rfl⟩ := hmem p hp
              have hlt := (hy.1 q' hq').1
              have : q'.2 = q.2 := by simp only at e1; omega
              have := nodup_inj hy.2 q' hq' q hq this
              rw [this] at hm'
              exact absurd hm' hm
            · rw [e', h, ← e0]
              have := hl q hq
              omega
        · rcases stepL_case (fun l _ => l) (cutL m y) Bc x with ⟨p, hp, e1, e'⟩ | e'
          · obtain ⟨q', hq', hm', rfl⟩ := hmem p hp
            have hlt := (hy.1 q' hq').1
            have hx : q'.2 = m + x := by simp only at e1; omega
            rw [e']
            show Bc (q'.1 - m) = _
            rw [h, show m + (q'.1 - m) = q'.1 by omega, ← hx, stepL_at _ _ hy.2 hq']
          · rw [e', e, h]
      obtain ⟨Bc', h1, h2⟩ := cut_run st (fun z hz => hf z (List.mem_cons_of_mem _ hz)) hb' ht
      refine ⟨Bc', ?_, h2⟩
      simp only [List.map_cons, tellN]
      rw [if_pos t1]
      exact h1
    · cases ht
theorem tellN_keepNe : ∀ (a : Net) (B : Nat → Nat), tellN (keepNe a) B = tellN a B
  | [], B => rfl
  | y :: r, B => by
    unfold keepNe
    by_cases h : y = []
    · subst h
      simp only [List.filter_cons, ne_eq, not_true, decide_false, Bool.false_eq_true, if_false]
      have : tellN ([] :: r) B = tellN r B := rfl
      rw [this]
      exact tellN_keepNe r B
    · simp only [List.filter_cons, ne_eq, h, not_false_eq_true, decide_true, if_true, tellN]
      split
      · exact tellN_keepNe r _
      · rfl
theorem cut_tells {m n : Nat} {a : Net} (fa : Fair (m + n) a) (ta : Tells (m + n) a) : Tells n (keepNe (a.map (cutL m))) := by
  obtain ⟨B, h1, h2⟩ := ta
  obtain ⟨Bc, c1, c2⟩ := cut_run (m := m) (Bc := id) (fun x => by show x = m + x - m; omega) fa (fun x => Nat.le_refl _) h1
  exact ⟨Bc, by rw [tellN_keepNe]; exact c1, fun x hx => by rw [c2, h2 _ (by omega)]; omega⟩
end Bn
namespace Bn
def lenN (net : Net) : Nat → Nat := runN (· + ·) net fun _ => 1
theorem hom_run {α β : Type} {f : α → α → α} {g : β → β → β} {k : α → β} (hk : ∀ a b, k (f a b) = g (k a) (k b)) : ∀ (net : Net) (σ : Nat → α) (x : Nat), k (runN f net σ x) = runN g net (fun y => k (σ y)) x
  | [], σ, x => rfl
  | y :: r, σ, x => by
    rw [runN, hom_run hk r]
    have : (fun z => k (stepL f y σ z)) = stepL g y fun z => k (σ z) := by
      funext z
      unfold stepL
      cases y.find? fun p => p.2 == z with
      | none => rfl
      | some p => exact hk _ _
    rw [this]; rfl
theorem rows_len (net : Net) (x : Nat) : (rowsN net x).length = lenN net x := by
  unfold rowsN lenN
  exact hom_run (k := List.length) (fun a b => List.length_append) net _ x
theorem step_scale {C : Nat} {y : List (Nat × Nat)} {σ τ : Nat → Nat} (h : ∀ x, σ x ≤ C * τ x) : ∀ x, stepL (· + ·) y σ x ≤ C * stepL (· + ·) y τ x := by
  intro x
  unfold stepL
  cases y.find? fun p => p.2 == x with
  | none => exact h x
  | some p =>
    have := h p.1; have := h x
    show σ p.1 + σ x ≤ C * (τ p.1 + τ x)
    rw [Nat.mul_add]; omega
theorem run_scale {C : Nat} : ∀ {net : Net} {σ τ : Nat → Nat}, (∀ x, σ x ≤ C * τ x) → ∀ x, runN (· + ·) net σ x ≤ C * runN (· + ·) net τ x
  | [], σ, τ, h, x => h x
  | y :: r, σ, τ, h, x => run_scale (net := r) (step_scale h) x
theorem step_ge {y : List (Nat × Nat)} {σ : Nat → Nat} (x : Nat) : σ x ≤ stepL (· + ·) y σ x := by
  unfold stepL
  cases y.find? fun p => p.2 == x with
  | none => exact Nat.le_refl _
  | some p => show σ x ≤ σ p.1 + σ x; omega
theorem run_ge : ∀ {net : Net} {σ : Nat → Nat} (x : Nat), σ x ≤ runN (· + ·) net σ x
  | [], _, _ => Nat.le_refl _
  | y :: r, σ, x => Nat.le_trans (step_ge x) (run_ge (net := r) x)
theorem step_twice {y : List (Nat × Nat)} {σ : Nat → Nat} {M : Nat} (h : ∀ x, σ x ≤ M) (x : Nat) : stepL (· + ·) y σ x ≤ 2 * M := by
  unfold stepL
  cases y.find? fun p => p.2 == x with
  | none => have := h x; show σ x ≤ 2 * M; omega
  | some p => have := h x; have := h p.1; show σ p.1 + σ x ≤ 2 * M; omega
theorem len_take {net : Net} {N : Nat} (h : ∀ x, lenN net x ≤ N) (i x : Nat) : lenN (net.take i) x ≤ N := by
  have := h x
  unfold lenN at this ⊢
  rw [← List.take_append_drop i net, runN_append] at this
  exact Nat.le_trans (run_ge x) this
theorem len_keepNe : ∀ (net : Net) (σ : Nat → Nat), runN (· + ·) (keepNe net) σ = runN (· + ·) net σ
  | [], _ => rfl
  | y :: r, σ => by
    unfold keepNe
    by_cases h : y = []
    · subst h
      simp only [List.filter_cons, ne_eq, not_true, decide_false, Bool.false_eq_true, if_false]
      exact len_keepNe r σ
    · simp only [List.filter_cons, ne_eq, h, not_false_eq_true, decide_true, if_true, runN]
      exact len_keepNe r _
theorem near_len {N : Nat} {pre mid mid' post : Net} (h : ∀ x, lenN (pre ++ mid ++ post) x ≤ N) (hm : mid'.length ≤ 2) (x : Nat) : lenN (pre ++ mid' ++ post) x ≤ 4 * N * N := by
  have h1 : ∀ y, lenN pre y ≤ N := fun y => by
    have := len_take h pre.length y
    rw [List.append_assoc, List.take_left] at this
    exact this
  unfold lenN at h h1 ⊢
  rw [runN_append, runN_append]
  have e : ∀ y, runN (· + ·) (pre ++ mid ++ post) (fun _ => 1) y = runN (· + ·) post (runN (· + ·) mid (runN (· + ·) pre fun _ => 1)) y := fun y => by rw [runN_append, runN_append]
  have h2 : ∀ y, runN (· + ·) mid' (runN (· + ·) pre fun _ => 1) y ≤ 4 * N := by
    match mid', hm with
    | [], _ => intro y; have := h1 y; simp only [runN]; omega
    | [a], _ => intro y; have := step_twice (y := a) h1 y; simp only [runN]; omega
    | [a, b], _ => intro y; have := step_twice (y := b) (step_twice (y := a) h1) y; simp only [runN]; omega
  have h3 : ∀ y, 1 ≤ runN (· + ·) mid (runN (· + ·) pre fun _ => 1) y := fun y => by
    have a1 : 1 ≤ runN (· + ·) pre (fun _ => 1) y := run_ge (net := pre) (σ := fun _ => 1) y
    exact Nat.le_trans a1 (run_ge y)
  have := run_scale (C := 4 * N) (net := post) (σ := runN (· + ·) mid' (runN (· + ·) pre fun _ => 1)) (τ := runN (· + ·) mid (runN (· + ·) pre fun _ => 1)) (fun y => Nat.le_trans (h2 y) (Nat.le_mul_of_pos_right _ (h3 y))) x
  refine Nat.le_trans this ?_
  have := h x
  rw [e] at this
  exact Nat.mul_le_mul_left _ this
theorem fine_len {n : Nat} {net : Net} (hf : Fair n net) (hn : 1 ≤ n) (hw : ∀ x, x < n → rowsN net x = List.range (x + 1)) (x : Nat) : lenN net x ≤ n := by
  by_cases h : x < n
  · rw [← rows_len, hw x h, List.length_range]; omega
  · unfold lenN
    rw [runN_not (fun y hy p hp => by have := ((hf y hy).1 p hp).2; omega)]
    exact hn
theorem split_at {net : Net} {i : Nat} {y : List (Nat × Nat)} (h : net[i]? = some y) : net = net.take i ++ [y] ++ net.drop (i + 1) := by
  obtain ⟨h1, h2⟩ := List.getElem?_eq_some_iff.mp h
  rw [List.append_assoc]
  show net = net.take i ++ y :: net.drop (i + 1)
  rw [← h2, ← List.drop_eq_getElem_cons h1, List.take_append_drop]
def blockN (p : Nat × List Nat) : Net := p.2.map fun l => [(l, p.1)]
theorem block_run {h : Nat} : ∀ {ls : List Nat} {σ : Nat → Nat}, (∀ l ∈ ls, l < h) → (∀ y, y < h → σ y = 1) → ∀ x, runN (· + ·) (blockN (h, ls)) σ x = if x = h then ls.length + σ h else σ x
  | [], σ, _, _, x => by
    show σ x = if x = h then 0 + σ h else σ x
    split
    · rename_i e; rw [e]; omega
    · rfl
  | l :: r, σ, hl, hs, x => by
    have hlh := hl l List.mem_cons_self
    have st : ∀ y, stepL (· + ·) [(l, h)] σ y = if y = h then 1 + σ h else σ y := by
      intro y
      rcases stepL_case (· + ·) [(l, h)] σ y with ⟨p, hp, rfl, e⟩ | e
      · rw [List.mem_singleton.mp hp] at e ⊢
        rw [if_pos rfl, e, hs l hlh]
      · by_cases hy : y = h
        · subst hy
          rw [if_pos rfl, show y = ((l, y) : Nat × Nat).2 from rfl, stepL_at (· + ·) σ (by simp) List.mem_cons_self, hs l hlh]
        · rw [if_neg hy, e]
    show runN (· + ·) (blockN (h, r)) (stepL (· + ·) [(l, h)] σ) x = _
    rw [block_run (ls := r) (fun l hm => hl l (List.mem_cons_of_mem _ hm)) (fun y hy => by rw [st, if_neg (by omega)]; exact hs y hy) x, st, st]
    rw [if_pos rfl]
    by_cases e : x = h
    · rw [if_pos e, if_pos e, List.length_cons]; omega
    · rw [if_neg e, if_neg e, if_neg e]
theorem slow_len {M : Nat} : ∀ {bs : List (Nat × List Nat)} {h : Nat} {σ : Nat → Nat}, (∀ (i : Nat) (p : Nat × List Nat), bs[i]? = some p → p.1 + i + 1 = h ∧ ∀ l ∈ p.2, l < p.1) → (∀ (i : Nat) (p : Nat × List Nat), bs[i]? = some p → p.2.length ≤ M) → (∀ y, y < h → σ y = 1) → (∀ y, σ y ≤ M + 1) → ∀ x, runN (· + ·) (bs.flatMap blockN) σ x ≤ M + 1
  | [], _, σ, _, _, _, hb, x => hb x
  | p :: r, h, σ, h1, h2, h3, hb, x => by
    rw [List.flatMap_cons, runN_append]
    obtain ⟨a1, a2⟩ := h1 0 p rfl
    have a3 := h2 0 p rfl
    have br := block_run (h := p.1) (ls := p.2) (σ := σ) a2 (fun y hy => h3 y (by omega))
    refine slow_len (bs := r) (h := p.1) (fun i q hq => ?_) (fun i q hq => h2 (i + 1) q (by simpa using hq)) (fun y hy => ?_) (fun y => ?_) x
    · obtain ⟨b1, b2⟩ := h1 (i + 1) q (by simpa using hq)
      exact ⟨by omega, b2⟩
    · rw [show p = (p.1, p.2) from rfl, br, if_neg (by omega)]; exact h3 y (by omega)
    · rw [show p = (p.1, p.2) from rfl, br]
      split
      · rw [h3 p.1 (by omega)]; omega
      · exact hb y
end Bn
namespace Bn
structure BentOk (n N : Nat) (net : Net) : Prop where
  ok : okNet n net
  len : ∀ x, lenN net x ≤ 4 * N * N
theorem near_window {N lo : Nat} {L X : Net} (h1 : X.take lo = L.take lo) (h2 : X.drop (lo + 2) = L.drop (lo + 2)) (hN : ∀ x, lenN L x ≤ N) (x : Nat) : lenN X x ≤ 4 * N * N := by
  have e : ∀ Y : Net, Y = Y.take lo ++ (Y.drop lo).take 2 ++ Y.drop (lo + 2) := fun Y => by
    rw [List.append_assoc, ← List.drop_drop, List.take_append_drop, List.take_append_drop]
  rw [e X, h1, h2]
  refine near_len (mid := (L.drop lo).take 2) ?_ (by simp; omega) x
  rw [← e L]; exact hN
theorem len_nil_layer {net : Net} {N : Nat} (hN : ∀ x, lenN net x ≤ N) (x : Nat) : lenN (net ++ [[]]) x ≤ N := by
  have : lenN (net ++ [[]]) x = lenN net x := by unfold lenN; rw [runN_append]; rfl
  rw [this]; exact hN x
theorem take_set_out {L : Net} {i lo : Nat} {y : List (Nat × Nat)} (h : lo ≤ i) : (L.set i y).take lo = L.take lo := by
  rw [List.take_set, List.set_eq_of_length_le (by simp; omega)]
theorem drop_set_out {L : Net} {i lo : Nat} {y : List (Nat × Nat)} (h : i < lo) : (L.set i y).drop lo = L.drop lo := List.drop_set_of_lt h
theorem bent0 {n N i k : Nat} {net : Net} {y : List (Nat × Nat)} (ho : okNet n net) (hN : ∀ x, lenN net x ≤ N) (hy : net[i]? = some y) : BentOk n N (keepNe (net.set i (y.eraseIdx k))) := by
  refine ⟨ok_filter (rise_less (ok_rise ho) hy k) (by simpa using ho.1), fun x => ?_⟩
  unfold lenN
  rw [len_keepNe]
  exact near_window (lo := i) (take_set_out (Nat.le_refl _)) (drop_set_out (by omega)) hN x
theorem with_len {N i l h lo : Nat} {net less : Net} (hN : ∀ x, lenN net x ≤ N) (h1 : (less ++ [[]]).take lo = (net ++ [[]]).take lo) (h2 : (less ++ [[]]).drop (lo + 2) = (net ++ [[]]).drop (lo + 2)) (h3 : lo ≤ i) (h4 : i < lo + 2) (x : Nat) : lenN (withN less i l h) x ≤ 4 * N * N := by
  unfold withN
  split
  · unfold lenN; rw [len_keepNe]
    exact near_window h1 h2 (len_nil_layer hN) x
  · unfold lenN; rw [len_keepNe]
    exact near_window (by rw [take_set_out h3]; exact h1) (by rw [drop_set_out h4]; exact h2) (len_nil_layer hN) x
theorem bentW {n N i k j l h : Nat} {net : Net} {y : List (Nat × Nat)} (ho : okNet n net) (hz : net.length ≤ 79) (hN : ∀ x, lenN net x ≤ N) (hy : net[i]? = some y) (h1 : i ≤ j + 1) (h2 : j ≤ i + 1) (hlh : l < h) (hn : h < n) : BentOk n N (withN (net.set i (y.eraseIdx k)) j l h) := by
  have hi := (List.getElem?_eq_some_iff.mp hy).1
  refine ⟨withN_ok (rise_less (ok_rise ho) hy k) (by simpa using hz) hlh hn, fun x => ?_⟩
  have e : net.set i (y.eraseIdx k) ++ [[]] = (net ++ [[]]).set i (y.eraseIdx k) := by rw [List.set_append_left _ _ hi]
  refine with_len (lo := min i j) hN (by rw [e, take_set_out (by omega)]) (by rw [e, drop_set_out (by omega)]) (by omega) (by omega) x
theorem bent4 {n N j l h : Nat} {net : Net} (ho : okNet n net) (hz : net.length ≤ 79) (hN : ∀ x, lenN net x ≤ N) (hlh : l < h) (hn : h < n) : BentOk n N (withN net j l h) :=
  ⟨withN_ok (ok_rise ho) hz hlh hn, fun x => with_len (lo := j) hN rfl rfl (Nat.le_refl _) (by omega) x⟩
theorem bent5 {n N i : Nat} {net : Net} {y : List (Nat × Nat)} (ho : okNet n net) (hN : ∀ x, lenN net x ≤ N) (hy : net[i]? = some y) : BentOk n N (net.take i ++ (net.drop (i + 1)).take 1 ++ [y] ++ net.drop (i + 2)) := by
  refine ⟨ok_swap ho hy, fun x => ?_⟩
  have e1 : net = net.take i ++ ([y] ++ (net.drop (i + 1)).take 1) ++ net.drop (i + 2) := by
    have h0 := split_at hy
    have h1 : net.drop (i + 1) = (net.drop (i + 1)).take 1 ++ net.drop (i + 2) := by
      have := (List.take_append_drop 1 (net.drop (i + 1))).symm
      rw [List.drop_drop] at this
      exact this
    calc net = net.take i ++ [y] ++ net.drop (i + 1) := h0
      _ = net.take i ++ [y] ++ ((net.drop (i + 1)).take 1 ++ net.drop (i + 2)) := by rw [← h1]
      _ = _ := by simp only [List.append_assoc]
  rw [show net.take i ++ (net.drop (i + 1)).take 1 ++ [y] ++ net.drop (i + 2) = net.take i ++ ((net.drop (i + 1)).take 1 ++ [y]) ++ net.drop (i + 2) by simp only [List.append_assoc]]
  refine near_len (mid := [y] ++ (net.drop (i + 1)).take 1) ?_ (by simp; omega) x
  rw [← e1]; exact hN
end Bn
namespace Bn
open PySem
inductive V where
  | none
  | bool (b : Bool)
  | int (i : Int)
  | str (s : Str)
  | tup (l : List V)
  | lst (a : Nat)
  | scr (l : List Int)
  | dict0
  | rng (lo hi st : Int)
  | exc (c : Str) (x : V)
  deriving Inhabited
abbrev Hp := List (List V)
abbrev Loc := List (Option V)
def IntsL : List Int → List Value → Prop
  | [], [] => True
  | i :: is, r :: rs => (∃ t, r = .int i t) ∧ IntsL is rs
  | _, _ => False
structure Cx where
  prog : Program
  w : World
  h0 : Heap
  g : Str → Option Value
  b : Str → Option Value
  lam : Nat → FuncData → Str → Prop
mutual
def Rep (c : Cx) (φ : List Addr) (h : Heap) : V → Value → Prop
  | .none, r => r = .none
  | .bool b, r => r = .bool b
  | .int i, r => ∃ t, r = .int i t
  | .str s, r => ∃ t, r = .str s t
  | .tup l, r => ∃ a o vs n, r = .ref a ∧ a ∉ φ ∧ h.get? a = some o ∧ o.cls = .type "tuple" ∧ o.data = .seq vs n ∧ l.length ≤ sizeLine ∧ RepL c φ h l vs.toList
  | .lst i, r => ∃ a, r = .ref a ∧ φ[i]? = some a
  | .scr l, r => ∃ a o vs n, r = .ref a ∧ a ∉ φ ∧ c.h0.get? a = some o ∧ h.get? a = some o ∧ o.cls = .type "list" ∧ o.data = .seq vs n ∧ l.length ≤ sizeLine ∧ IntsL l vs.toList
  | .dict0, r => ∃ a o es n, r = .ref a ∧ a ∉ φ ∧ h.get? a = some o ∧ o.cls = .type "dict" ∧ o.data = .dict es n
  | .rng lo hi st, r => ∃ a t u v, r = .ref a ∧ a ∉ φ ∧ IsRange h a lo hi st t u v ∧ lo.natAbs < 2 ^ 31 ∧ hi.natAbs < 2 ^ 31 ∧ 0 < st ∧ st < 2 ^ 31
  | .exc cn x, r => ∃ a o vs, r = .ref a ∧ a ∉ φ ∧ c.h0.get? a = Option.none ∧ h.get? a = some o ∧ (∃ C, o.cls = .ref C) ∧ c.g cn = some o.cls ∧ o.data = .fields vs ∧
      (cn = Str.ofString "BadNet" → ∃ d od es n ra, o.dict = some d ∧ d ∉ φ ∧ h.get? d = some od ∧ od.cls = .type "dict" ∧ od.data = .dict es n ∧ nsFind es (Str.ofString "at") = some ra ∧ Rep c φ h x ra)
def RepL (c : Cx) (φ : List Addr) (h : Heap) : List V → List Value → Prop
  | [], [] => True
  | x :: xs, r :: rs => Rep c φ h x r ∧ RepL c φ h xs rs
  | _, _ => False
end
structure Sim (c : Cx) (φ : List Addr) (H : Hp) (s : Shared) : Prop where
  stays : ∀ b o, c.h0.get? b = some o → s.heap.get? b = some o
  fresh : ∀ a ∈ φ, c.h0.get? a = none
  nodup : φ.Nodup
  len : φ.length = H.length
  lists : ∀ (i : Nat) xs, H[i]? = some xs → ∃ a o vs n, φ[i]? = some a ∧ s.heap.get? a = some o ∧ o.cls = .type "list" ∧ o.data = .seq vs n ∧ RepL c φ s.heap xs vs.toList ∧ xs.length ≤ sizeLine ∧ o.dict = none ∧ o.slots = #[]
  gens : s.gens = #[]
structure Kp (X φ : List Addr) (h : Heap) (φ' : List Addr) (h' : Heap) : Prop where
  pre : φ <+: φ'
  keep : ∀ b o, h.get? b = some o → b ∉ φ → b ∉ X → o.cls ≠ .type "frame" → h'.get? b = some o
  new : ∀ a ∈ φ', a ∈ φ ∨ h.get? a = none
  dict : ∀ b o es n, h.get? b = some o → b ∉ φ → o.data = .dict es n → ∃ o' es' n', h'.get? b = some o' ∧ o'.data = .dict es' n' ∧ o'.cls = o.cls
  exc : ∀ b o vs C, h.get? b = some o → b ∉ φ → o.cls = .ref C → o.data = .fields vs → ∃ vs', h'.get? b = some { o with data := .fields vs' }
structure Ext (X φ : List Addr) (s : Shared) (φ' : List Addr) (s' : Shared) : Prop extends Kp X φ s.heap φ' s'.heap where
  frame : ∀ b o, s.heap.get? b = some o → b ∉ φ → b ∉ X → ∃ sl, s'.heap.get? b = some { o with slots := sl }
  alive : ∀ b o, s.heap.get? b = some o → b ∈ X → ∃ o', s'.heap.get? b = some o'
  os : s'.os = s.os
theorem Kp.notin {X φ φ' : List Addr} {h h' : Heap} (e : Kp X φ h φ' h') {b : Addr} {o : Obj} (hb : h.get? b = some o) (hn : b ∉ φ) : b ∉ φ' := fun hm =>
  (e.new b hm).elim hn fun hle => by rw [hle] at hb; cases hb
theorem Ext.refl {X φ} {s : Shared} : Ext X φ s φ s where
  pre := List.prefix_rfl
  keep := fun _ _ h _ _ _ => h
  new := fun _ h => .inl h
  frame := fun _ o h _ _ => ⟨o.slots, h⟩
  dict := fun _ o es n h _ hd => ⟨o, es, n, h, hd, rfl⟩
  exc := fun _ o vs _ h _ _ hd => ⟨vs, by rw [← hd]; exact h⟩
  alive := fun _ o h _ => ⟨o, h⟩
  os := rfl
theorem Ext.trans {X φ φ₁ φ₂ : List Addr} {s s₁ s₂ : Shared} (e : Ext X φ s φ₁ s₁) (f : Ext X φ₁ s₁ φ₂ s₂) : Ext X φ s φ₂ s₂ where
  pre := e.pre.trans f.pre
  keep b o h hφ hX hc := f.keep b o (e.keep b o h hφ hX hc) (e.notin h hφ) hX hc
  frame b o h hφ hX := by
    obtain ⟨sl, h₁⟩ := e.frame b o h hφ hX
    obtain ⟨sl', h₂⟩ := f.frame b _ h₁ (e.notin h hφ) hX
    exact ⟨sl', h₂⟩
  dict b o es n h hφ hd := by
    obtain ⟨o₁, es₁, n₁, h₁, d₁, c₁⟩ := e.dict b o es n h hφ hd
    obtain ⟨o₂, es₂, n₂, h₂, d₂, c₂⟩ := f.dict b o₁ es₁ n₁ h₁ (e.notin h hφ) d₁
    exact ⟨o₂, es₂, n₂, h₂, d₂, c₂.trans c₁⟩
  exc b o vs C h hφ hc hd := by
    obtain ⟨vs₁, h₁⟩ := e.exc b o vs C h hφ hc hd
    obtain ⟨vs₂, h₂⟩ := f.exc b _ vs₁ C h₁ (e.notin h hφ) hc rfl
    exact ⟨vs₂, h₂⟩
  new a ha := (f.new a ha).elim (fun h => e.new a h) fun h => by
    cases ho : s.heap.get? a with
    | none => exact .inr rfl
    | some o =>
      by_cases hφ : a ∈ φ
      · exact .inl hφ
      · by_cases hX : a ∈ X
        · obtain ⟨o', h'⟩ := e.alive a o ho hX
          rw [h] at h'; cases h'
        · obtain ⟨sl, h'⟩ := e.frame a o ho hφ hX
          rw [h] at h'; cases h'
  alive b o h hX := by
    obtain ⟨o', h'⟩ := e.alive b o h hX
    exact f.alive b o' h' hX
  os := f.os.trans e.os
theorem Ext.weaken {X Y φ φ' : List Addr} {s s' : Shared} (e : Ext X φ s φ' s') (h : ∀ b ∈ X, b ∈ Y) (hY : ∀ b ∈ Y, b ∉ φ) : Ext Y φ s φ' s' where
  pre := e.pre
  keep b o hb hφ hY hc := e.keep b o hb hφ (fun hx => hY (h b hx)) hc
  new := e.new
  frame b o hb hφ hY := e.frame b o hb hφ fun hx => hY (h b hx)
  dict := e.dict
  exc := e.exc
  alive b o hb hm := by
    by_cases hX : b ∈ X
    · exact e.alive b o hb hX
    · obtain ⟨sl, h'⟩ := e.frame b o hb (hY b hm) hX
      exact ⟨_, h'⟩
  os := e.os
theorem Ext.drop {X φ φ' : List Addr} {s s' : Shared} (e : Ext X φ s φ' s') (h : ∀ b ∈ X, s.heap.get? b = none) : Ext [] φ s φ' s' where
  pre := e.pre
  keep b o hb hφ _ hc := e.keep b o hb hφ (fun hx => by rw [h b hx] at hb; cases hb) hc
  new := e.new
  frame b o hb hφ _ := e.frame b o hb hφ (fun hx => by rw [h b hx] at hb; cases hb)
  dict := e.dict
  exc := e.exc
  alive _ _ _ hx := nomatch hx
  os := e.os
theorem Ext.of_heap {X φ : List Addr} {s s' : Shared} (hh : s'.heap = s.heap) (ho : s'.os = s.os) : Ext X φ s φ s' where
  pre := List.prefix_rfl
  keep _ _ h _ _ _ := by rw [hh]; exact h
  new _ h := .inl h
  frame _ o h _ _ := ⟨o.slots, by rw [hh]; exact h⟩
  dict _ o es n h _ hd := ⟨o, es, n, by rw [hh]; exact h, hd, rfl⟩
  exc _ o vs _ h _ _ hd := ⟨vs, by rw [hh, ← hd]; exact h⟩
  alive _ o h _ := ⟨o, by rw [hh]; exact h⟩
  os := ho
theorem Ext.of_sameBut {X φ : List Addr} {s s' : Shared} {a : Addr} (hs : Heap.SameBut a s.heap s'.heap) (ha : a ∈ φ) (hX : a ∉ X) (ho : s'.os = s.os) : Ext X φ s φ s' where
  pre := List.prefix_rfl
  keep b o h hφ _ _ := (hs.2 b fun e => hφ (e ▸ ha)).trans h
  new _ h := .inl h
  frame b o h hφ _ := ⟨o.slots, (hs.2 b fun e => hφ (e ▸ ha)).trans h⟩
  dict b o es n h hφ hd := ⟨o, es, n, (hs.2 b fun e => hφ (e ▸ ha)).trans h, hd, rfl⟩
  exc b o vs _ h hφ _ hd := ⟨vs, by rw [← hd]; exact (hs.2 b fun e => hφ (e ▸ ha)).trans h⟩
  alive b o h hb := ⟨o, (hs.2 b fun e => hX (e ▸ hb)).trans h⟩
  os := ho
theorem Ext.of_keeps {X φ : List Addr} {s s' : Shared} (hk : ∀ b o, s.heap.get? b = some o → s'.heap.get? b = some o) (ho : s'.os = s.os) : Ext X φ s φ s' where
  pre := List.prefix_rfl
  keep b o h _ _ _ := hk b o h
  new _ h := .inl h
  frame b o h _ _ := ⟨o.slots, hk b o h⟩
  dict b o es n h _ hd := ⟨o, es, n, hk b o h, hd, rfl⟩
  exc b o vs _ h _ _ hd := ⟨vs, by rw [← hd]; exact hk b o h⟩
  alive b o h _ := ⟨o, hk b o h⟩
  os := ho
theorem Ext.of_own {X φ : List Addr} {s s' : Shared} {a : Addr} (hs : Heap.SameBut a s.heap s'.heap) (ha : a ∈ X) (hd : ∀ o es n, s.heap.get? a = some o → o.data = .dict es n → ∃ o' es' n', s'.heap.get? a = some o' ∧ o'.data = .dict es' n' ∧ o'.cls = o.cls)
    (hal : ∃ o', s'.heap.get? a = some o') (ho : s'.os = s.os) (hf : ∀ o vs, s.heap.get? a = some o → o.data ≠ .fields vs) : Ext X φ s φ s' where
  pre := List.prefix_rfl
  keep b o h _ hX _ := (hs.2 b fun e => hX (e ▸ ha)).trans h
  new _ h := .inl h
  frame b o h _ hX := ⟨o.slots, (hs.2 b fun e => hX (e ▸ ha)).trans h⟩
  dict b o es n h _ hdd := by
    by_cases e : b = a
    · subst e; exact hd o es n h hdd
    · exact ⟨o, es, n, (hs.2 b e).trans h, hdd, rfl⟩
  exc b o vs _ h _ _ hdd := by
    by_cases e : b = a
    · subst e; exact absurd hdd (hf o vs h)
    · exact ⟨vs, by rw [← hdd]; exact (hs.2 b e).trans h⟩
  alive b o h _ := by
    by_cases e : b = a
    · subst e; exact hal
    · exact ⟨o, (hs.2 b e).trans h⟩
  os := ho
def hid : Value → Bool
  | .type t => ["frame", "cell", "traceback", "list_iterator", "tuple_iterator", "range_iterator", "longrange_iterator", "str_iterator", "str_ascii_iterator", "enumerate", "zip", "list_reverseiterator"].contains t
  | _ => false
def own (c : Cx) (b : Addr) (o : Obj) : Prop :=
  hid o.cls = true ∨ (o.cls = .type "list" ∧ c.h0.get? b = none) ∨ (o.cls = .type "dict" ∧ ∃ es n, o.data = .dict es n ∧ nsFind es (Str.ofString "at") = none) ∨ (∃ C, o.cls = .ref C)
theorem own_no {c : Cx} {b : Addr} {o : Obj} {T : String} (h0 : o.cls = .type T) (h1 : hid (.type T) = false) (h2 : T ≠ "list") (h3 : T ≠ "dict") : ¬ own c b o := fun h => by
  rcases h with h | h | h | ⟨C, h⟩
  · rw [h0, h1] at h; cases h
  · rw [h0] at h; injection h.1 with h; exact h2 h
  · rw [h0] at h; injection h.1 with h; exact h3 h
  · rw [h0] at h; cases h
def OwnX (c : Cx) (X : List Addr) (h : Heap) : Prop := ∀ b ∈ X, ∀ o, h.get? b = some o → own c b o
theorem OwnX.nil {c : Cx} {h : Heap} : OwnX c [] h := fun _ hb => nomatch hb
theorem prefix_get {α : Type} {l l' : List α} (h : l <+: l') {i : Nat} {a : α} (e : l[i]? = some a) : l'[i]? = some a := by
  obtain ⟨t, rfl⟩ := h
  rw [List.getElem?_append_left (List.getElem?_eq_some_iff.mp e).1]; exact e
section
variable {c : Cx} {X φ φ' : List Addr} {s s' : Shared}
theorem keepO {h h' : Heap} (e : Kp X φ h φ' h') (hX : OwnX c X h) {a : Addr} {o : Obj} (ho : h.get? a = some o) (ha : a ∉ φ) (hc : ¬ own c a o) : h'.get? a = some o :=
  e.keep a o ho ha (fun hx => hc (hX a hx o ho)) (fun q => hc (.inl (by rw [q]; decide)))
mutual
theorem Rep.mono {h h' : Heap} (e : Kp X φ h φ' h') (hX : OwnX c X h) : ∀ {v : V} {r : Value}, Rep c φ h v r → Rep c φ' h' v r
  | .none, _, h => by simpa [Rep] using h
  | .bool _, _, h => by simpa [Rep] using h
  | .int _, _, h => by simpa [Rep] using h
  | .str _, _, h => by simpa [Rep] using h
  | .tup l, r, h => by
    simp only [Rep] at h ⊢
    obtain ⟨a, o, vs, n, hr, ha, ho, hc, hd, hz, hl⟩ := h
    exact ⟨a, o, vs, n, hr, e.notin ho ha, keepO e hX ho ha (own_no hc (by decide) (by decide) (by decide)), hc, hd, hz, RepL.mono e hX hl⟩
  | .lst i, r, h => by
    simp only [Rep] at h ⊢
    obtain ⟨a, hr, ha⟩ := h
    exact ⟨a, hr, prefix_get e.pre ha⟩
  | .scr l, r, h => by
    simp only [Rep] at h ⊢
    obtain ⟨a, o, vs, n, hr, ha, h0, ho, hc, hd, hz, hl⟩ := h
    refine ⟨a, o, vs, n, hr, e.notin ho ha, h0, keepO e hX ho ha (fun q => ?_), hc, hd, hz, hl⟩
    rcases q with q | q | q | ⟨C, q⟩
    · rw [hc] at q; revert q; decide
    · rw [h0] at q; cases q.2
    · rw [hc] at q; exact absurd q.1 (by decide)
    · rw [hc] at q; cases q
  | .dict0, r, h => by
    simp only [Rep] at h ⊢
    obtain ⟨a, o, es, n, hr, ha, ho, hc, hd⟩ := h
    obtain ⟨o', es', n', h1, h2, h3⟩ := e.dict a o es n ho ha hd
    exact ⟨a, o', es', n', hr, e.notin ho ha, h1, h3.trans hc, h2⟩
  | .rng lo hi st, r, h => by
    simp only [Rep] at h ⊢
    obtain ⟨a, t, u, v, hr, ha, ho, hb⟩ := h
    exact ⟨a, t, u, v, hr, e.notin ho ha, keepO e hX ho ha (own_no (T := "range") rfl (by decide) (by decide) (by decide)), hb⟩
  | .exc cn x, r, h => by
    simp only [Rep] at h ⊢
    obtain ⟨a, o, vs, hr, ha, h0, ho, ⟨C, hC⟩, hg, hd, hn⟩ := h
    obtain ⟨vs', ho'⟩ := e.exc a o vs C ho ha hC hd
    refine ⟨a, _, vs', hr, e.notin ho ha, h0, ho', ⟨C, hC⟩, hg, rfl, fun q => ?_⟩
    obtain ⟨d, od, es, n, ra, h1, h2, h3, h4, h5, h6, h7⟩ := hn q
    refine ⟨d, od, es, n, ra, h1, e.notin h3 h2, keepO e hX h3 h2 (fun q => ?_), h4, h5, h6, Rep.mono e hX h7⟩
    rcases q with q | q | ⟨_, es', n', q, q''⟩ | ⟨C', q⟩
    · rw [h4] at q; revert q; decide
    · rw [h4] at q; exact absurd q.1 (by decide)
    · rw [h5] at q; cases q; rw [h6] at q''; cases q''
    · rw [h4] at q; cases q
theorem RepL.mono {h h' : Heap} (e : Kp X φ h φ' h') (hX : OwnX c X h) : ∀ {l : List V} {rs : List Value}, RepL c φ h l rs → RepL c φ' h' l rs
  | [], [], _ => by simp only [RepL]
  | [], _ :: _, h => by simp only [RepL] at h
  | _ :: _, [], h => by simp only [RepL] at h
  | x :: xs, r :: rs, h => by
    simp only [RepL] at h ⊢
    exact ⟨Rep.mono e hX h.1, RepL.mono e hX h.2⟩
end
section
variable {h : Heap} {a : Addr} {oa : Obj}
theorem notin_adopt {b : Addr} {o : Obj} (ha : h.get? a = some oa) (hla : oa.cls = .type "list") (hb : h.get? b = some o) (hc : o.cls ≠ .type "list") (hn : b ∉ φ) : b ∉ φ ++ [a] := fun hm =>
  (List.mem_append.mp hm).elim hn fun e => by
    rw [List.mem_singleton.mp e, ha] at hb; cases hb; exact hc hla
mutual
theorem Rep.adopt (ha : h.get? a = some oa) (hla : oa.cls = .type "list") (h0 : c.h0.get? a = none) : ∀ {v : V} {r : Value}, Rep c φ h v r → Rep c (φ ++ [a]) h v r
  | .none, _, q => by simpa [Rep] using q
  | .bool _, _, q => by simpa [Rep] using q
  | .int _, _, q => by simpa [Rep] using q
  | .str _, _, q => by simpa [Rep] using q
  | .tup l, r, q => by
    simp only [Rep] at q ⊢
    obtain ⟨b, o, vs, n, hr, hb, ho, hc, hd, hz, hl⟩ := q
    exact ⟨b, o, vs, n, hr, notin_adopt ha hla ho (by rw [hc]; decide) hb, ho, hc, hd, hz, RepL.adopt ha hla h0 hl⟩
  | .lst i, r, q => by
    simp only [Rep] at q ⊢
    obtain ⟨b, hr, hb⟩ := q
    exact ⟨b, hr, prefix_get (List.prefix_append _ _) hb⟩
  | .scr l, r, q => by
    simp only [Rep] at q ⊢
    obtain ⟨b, o, vs, n, hr, hb, hb0, q⟩ := q
    refine ⟨b, o, vs, n, hr, fun hm => (List.mem_append.mp hm).elim hb fun e => ?_, hb0, q⟩
    rw [List.mem_singleton.mp e, h0] at hb0; cases hb0
  | .dict0, r, q => by
    simp only [Rep] at q ⊢
    obtain ⟨b, o, es, n, hr, hb, ho, hc, hd⟩ := q
    exact ⟨b, o, es, n, hr, notin_adopt ha hla ho (by rw [hc]; decide) hb, ho, hc, hd⟩
  | .rng lo hi st, r, q => by
    simp only [Rep] at q ⊢
    obtain ⟨b, t, u, v, hr, hb, ho, hs⟩ := q
    exact ⟨b, t, u, v, hr, notin_adopt ha hla ho (by show Value.type "range" ≠ _; decide) hb, ho, hs⟩
  | .exc cn x, r, q => by
    simp only [Rep] at q ⊢
    obtain ⟨b, o, vs, hr, hb, hb0, ho, ⟨C, hC⟩, hg, hd, hn⟩ := q
    refine ⟨b, o, vs, hr, notin_adopt ha hla ho (by rw [hC]; intro q; cases q) hb, hb0, ho, ⟨C, hC⟩, hg, hd, fun q => ?_⟩
    obtain ⟨d, od, es, n, ra, h1, h2, h3, h4, h5, h6, h7⟩ := hn q
    exact ⟨d, od, es, n, ra, h1, notin_adopt ha hla h3 (by rw [h4]; decide) h2, h3, h4, h5, h6, Rep.adopt ha hla h0 h7⟩
theorem RepL.adopt (ha : h.get? a = some oa) (hla : oa.cls = .type "list") (h0 : c.h0.get? a = none) : ∀ {l : List V} {rs : List Value}, RepL c φ h l rs → RepL c (φ ++ [a]) h l rs
  | [], [], _ => by simp only [RepL]
  | [], _ :: _, q => by simp only [RepL] at q
  | _ :: _, [], q => by simp only [RepL] at q
  | x :: xs, r :: rs, q => by
    simp only [RepL] at q ⊢
    exact ⟨Rep.adopt ha hla h0 q.1, RepL.adopt ha hla h0 q.2⟩
end
end
theorem RepL.length : ∀ {l : List V} {rs : List Value} {φ : List Addr} {h : Heap}, RepL c φ h l rs → rs.length = l.length
  | [], [], _, _, _ => rfl
  | [], _ :: _, _, _, h => by simp only [RepL] at h
  | _ :: _, [], _, _, h => by simp only [RepL] at h
  | _ :: xs, _ :: rs, _, _, h => by simp only [RepL] at h; simp [RepL.length h.2]
theorem RepL.get {φ : List Addr} {h : Heap} : ∀ {l : List V} {rs : List Value}, RepL c φ h l rs → ∀ {i : Nat} {v : V}, l[i]? = some v → ∃ r, rs[i]? = some r ∧ Rep c φ h v r
  | [], [], _, _, _, e => by simp at e
  | [], _ :: _, h, _, _, _ => by simp only [RepL] at h
  | _ :: _, [], h, _, _, _ => by simp only [RepL] at h
  | x :: xs, r :: rs, h, 0, v, e => by
    simp only [RepL] at h; simp at e; subst e; exact ⟨r, by simp, h.1⟩
  | x :: xs, r :: rs, h, i + 1, v, e => by
    simp only [RepL] at h; simp at e ⊢; exact RepL.get h.2 e
theorem RepL.append {φ : List Addr} {h : Heap} : ∀ {l l' : List V} {rs rs' : List Value}, RepL c φ h l rs → RepL c φ h l' rs' → RepL c φ h (l ++ l') (rs ++ rs')
  | [], _, [], _, _, h' => h'
  | [], _, _ :: _, _, h, _ => by simp only [RepL] at h
  | _ :: _, _, [], _, h, _ => by simp only [RepL] at h
  | x :: xs, _, r :: rs, _, h, h' => by
    simp only [RepL] at h
    simp only [List.cons_append, RepL]
    exact ⟨h.1, RepL.append h.2 h'⟩
theorem RepL.set {φ : List Addr} {h : Heap} : ∀ {l : List V} {rs : List Value}, RepL c φ h l rs → ∀ (i : Nat) {v : V} {r : Value}, Rep c φ h v r → RepL c φ h (l.set i v) (rs.set i r)
  | [], [], _, _, _, _, _ => by simp [RepL]
  | [], _ :: _, h, _, _, _, _ => by simp only [RepL] at h
  | _ :: _, [], h, _, _, _, _ => by simp only [RepL] at h
  | x :: xs, r :: rs, h, 0, v, r', hv => by
    simp only [RepL] at h
    simp only [List.set_cons_zero, RepL]
    exact ⟨hv, h.2⟩
  | x :: xs, r :: rs, h, i + 1, v, r', hv => by
    simp only [RepL] at h
    simp only [List.set_cons_succ, RepL]
    exact ⟨h.1, RepL.set h.2 i hv⟩
theorem Sim.lt {H : Hp} (S : Sim c φ H s) {a : Addr} (ha : a ∈ φ) : a < s.heap.objs.size := by
  obtain ⟨i, hi, rfl⟩ := List.mem_iff_getElem.mp ha
  have hi' : i < H.length := S.len ▸ hi
  obtain ⟨a, o, _, _, h1, h2, _⟩ := S.lists i H[i] (List.getElem?_eq_getElem hi')
  rw [List.getElem?_eq_getElem hi] at h1; cases h1
  exact Heap.lt_size h2
theorem Sim.isList {H : Hp} (S : Sim c φ H s) {a : Addr} (ha : a ∈ φ) : ∃ o, s.heap.get? a = some o ∧ o.cls = .type "list" := by
  obtain ⟨i, hi, rfl⟩ := List.mem_iff_getElem.mp ha
  have hi' : i < H.length := S.len ▸ hi
  obtain ⟨a, o, _, _, h1, h2, h3, _⟩ := S.lists i H[i] (List.getElem?_eq_getElem hi')
  rw [List.getElem?_eq_getElem hi] at h1; cases h1
  exact ⟨o, h2, h3⟩
theorem Sim.new {H : Hp} (S : Sim c φ H s) : s.heap.objs.size ∉ φ := fun h => Nat.lt_irrefl _ (S.lt h)
theorem Sim.h0_new {H : Hp} (S : Sim c φ H s) {a : Addr} (ha : s.heap.objs.size ≤ a) : c.h0.get? a = none := by
  cases e : c.h0.get? a with
  | none => rfl
  | some o => exact absurd (Heap.lt_size (S.stays a o e)) (Nat.not_lt.mpr ha)
theorem Sim.mono {H : Hp} (S : Sim c φ H s) (e : Kp X φ s.heap φ s'.heap) (hX : OwnX c X s.heap) (hXb : ∀ b ∈ X, c.h0.get? b = none)
    (hl : ∀ a ∈ φ, ∀ o, s.heap.get? a = some o → s'.heap.get? a = some o) (hst : ∀ b o, c.h0.get? b = some o → o.cls = .type "frame" → s'.heap.get? b = some o) (hg : s'.gens = #[]) : Sim c φ H s' where
  stays b o h := by
    by_cases hf : o.cls = .type "frame"
    · exact hst b o h hf
    · have hb := S.stays b o h
      exact e.keep b o hb (fun hm => by rw [S.fresh b hm] at h; cases h) (fun hm => by rw [hXb b hm] at h; cases h) hf
  fresh := S.fresh
  nodup := S.nodup
  len := S.len
  lists i xs h := by
    obtain ⟨a, o, vs, n, h1, h2, h3, h4, h5, h6⟩ := S.lists i xs h
    exact ⟨a, o, vs, n, h1, hl a (List.mem_of_getElem? h1) o h2, h3, h4, RepL.mono e hX h5, h6⟩
  gens := hg
theorem Sim.keeps {H : Hp} (S : Sim c φ H s) (hk : ∀ b o, s.heap.get? b = some o → s'.heap.get? b = some o) (hg : s'.gens = s.gens) : Sim c φ H s' :=
  S.mono (X := []) ⟨List.prefix_rfl, fun b o h _ _ _ => hk b o h, fun _ h => .inl h, fun b o es n h _ hd => ⟨o, es, n, hk b o h, hd, rfl⟩, fun b o vs _ h _ _ hd => ⟨vs, by rw [← hd]; exact hk b o h⟩⟩ OwnX.nil (by simp) (fun a _ o h => hk a o h) (fun b o h _ => hk b o (S.stays b o h)) (hg.trans S.gens)
theorem Sim.tok {H : Hp} (S : Sim c φ H s) (t : Nat) : Sim c φ H { s with toks := t } := ⟨S.stays, S.fresh, S.nodup, S.len, S.lists, S.gens⟩
theorem Sim.push {H : Hp} (S : Sim c φ H s) (o : Obj) : Sim c φ H { s with heap := s.heap.push o } :=
  S.keeps (fun _ _ h => Heap.get?_push_of_some _ h) rfl
theorem Ext.push {o : Obj} : Ext X φ s φ { s with heap := s.heap.push o } :=
  Ext.of_keeps (fun _ _ h => Heap.get?_push_of_some _ h) rfl
theorem Sim.adopt {H : Hp} (S : Sim c φ H s) {a : Addr} {o : Obj} {vs : Array Value} {n : Nat} {xs : List V} (ha : a ∉ φ) (h0 : c.h0.get? a = none) (ho : s.heap.get? a = some o) (hc : o.cls = .type "list")
    (hd : o.data = .seq vs n) (hp : o.dict = none ∧ o.slots = #[]) (hr : RepL c φ s.heap xs vs.toList) (hz : xs.length ≤ sizeLine) : Sim c (φ ++ [a]) (H ++ [xs]) s where
  stays := S.stays
  fresh b hb := by
    rcases List.mem_append.mp hb with h | h
    · exact S.fresh b h
    · rw [List.mem_singleton.mp h]; exact h0
  nodup := by
    rw [List.nodup_append]
    refine ⟨S.nodup, by simp, fun x hx y hy => ?_⟩
    rw [List.mem_singleton.mp hy]; rintro rfl; exact ha hx
  len := by simp [S.len]
  lists i ys h := by
    by_cases hi : i < H.length
    · rw [List.getElem?_append_left hi] at h
      obtain ⟨b, o', vs', n', h1, h2, h3, h4, h5, h6⟩ := S.lists i ys h
      exact ⟨b, o', vs', n', by rw [List.getElem?_append_left (S.len ▸ hi)]; exact h1, h2, h3, h4, RepL.adopt ho hc h0 h5, h6⟩
    · have hlt : i < (H ++ [xs]).length := (List.getElem?_eq_some_iff.mp h).1
      have : i = H.length := by simp at hlt; omega
      subst this
      rw [List.getElem?_append_right (Nat.le_refl _)] at h
      simp at h; subst h
      exact ⟨a, o, vs, n, by rw [List.getElem?_append_right (Nat.le_of_eq S.len)]; simp [S.len], ho, hc, hd, RepL.adopt ho hc h0 hr, hz, hp⟩
  gens := S.gens
theorem Sim.newList {H : Hp} (S : Sim c φ H s) {xs : List V} {vs : List Value} (hr : RepL c φ s.heap xs vs) (hz : xs.length ≤ sizeLine) {o : Obj} (ho : o = { cls := .type "list", data := .seq vs.toArray }) :
    Ext [] φ s (φ ++ [s.heap.objs.size]) { s with heap := s.heap.push o } ∧ Sim c (φ ++ [s.heap.objs.size]) (H ++ [xs]) { s with heap := s.heap.push o } := by
  subst ho
  have e : Ext [] φ s (φ ++ [s.heap.objs.size]) { s with heap := s.heap.push { cls := .type "list", data := .seq vs.toArray } } :=
    { (Ext.push (X := []) (φ := φ) (s := s) (o := { cls := .type "list", data := .seq vs.toArray })) with
      pre := List.prefix_append _ _
      new := fun a ha => (List.mem_append.mp ha).elim .inl fun h => .inr (by rw [List.mem_singleton.mp h]; exact Heap.get?_none_of_le (Nat.le_refl _)) }
  refine ⟨e, ?_⟩
  have S' := S.push { cls := .type "list", data := .seq vs.toArray }
  refine S'.adopt (o := { cls := .type "list", data := .seq vs.toArray }) (vs := vs.toArray) (n := 0) S.new (S.h0_new (Nat.le_refl _)) (Heap.get?_push_size _ rfl) rfl rfl ⟨rfl, rfl⟩ ?_ hz
  have := RepL.mono (Ext.push (X := []) (φ := φ) (s := s) (o := { cls := .type "list", data := .seq vs.toArray })).toKp OwnX.nil hr
  simpa using this
end
end Bn
namespace Bn
open PySem
inductive Op | add | sub | mul | div | mod | pow
  deriving DecidableEq
inductive Cm | lt | le | gt | ge | eq | ne | isIn | notIn | is | isNot
  deriving DecidableEq
inductive Bl | len | max | min | range | list | tuple | sum | all | sorted | abs | int
  deriving DecidableEq
inductive Me | append | extend | pop | count | index | join
  deriving DecidableEq
inductive Tc | int | bool | str | list | tuple | own (cn : Str)
  deriving DecidableEq
inductive Tg | one (i : Nat) | two (i j : Nat)
inductive Ex where
  | lit (v : V)
  | var (i : Nat)
  | tup (es : List Ex)
  | list (es : List Ex)
  | dict0
  | bin (op : Op) (a b : Ex)
  | neg (a : Ex)
  | not (a : Ex)
  | cmp (a : Ex) (os : List Cm) (bs : List Ex)
  | and (es : List Ex)
  | or (es : List Ex)
  | idx (a i : Ex)
  | slice (a lo hi : Ex)
  | rev (a : Ex)
  | call (f : Str) (es : List Ex)
  | callL (f : Str) (es : List Ex) (k : Nat) (i : Nat)
  | callv (es : List Ex)
  | blt (b : Bl) (es : List Ex)
  | minD (a b : Ex)
  | meth (m : Me) (o : Ex) (es : List Ex)
  | isi (a : Ex) (t : Tc)
  | comp (elt : Ex) (t : Tg) (src : Ex) (ifs : List Ex)
  | attr (a : Ex) (x : Str)
  deriving Inhabited
inductive Sr where
  | val (e : Ex)
  | enum (e : Ex)
  | rev (e : Ex)
  | zip (a b : Ex)
  deriving Inhabited
inductive St where
  | set (i : Nat) (e : Ex)
  | unp (is : List Nat) (e : Ex)
  | put (o i e : Ex)
  | expr (e : Ex)
  | ret (e : Ex)
  | ite (t : Ex) (a b : List St)
  | whil (t : Ex) (b : List St)
  | loop (t : Tg) (s : Sr) (b : List St)
  | rais (cn : Str) (es : List Ex)
  | tri (b : List St) (cn : Str) (i : Nat) (h : List St)
  | stuck
  deriving Inhabited
inductive Fl where
  | next
  | ret (v : V)
def truth : V → Option Bool
  | .bool b => some b
  | _ => none
def toP : Nat → Hp → V → Option PyData
  | _, _, .none => some PyData.none
  | _, _, .bool b => some (PyData.bool b)
  | _, _, .int i => some (PyData.int i)
  | _, _, .str s => some (PyData.str s)
  | n + 1, H, .tup l => (l.mapM (toP n H)).map PyData.tuple
  | n + 1, H, .lst a => (H[a]?.bind fun xs => xs.mapM (toP n H)).map PyData.list
  | _, _, _ => none
def eqV (H : Hp) : V → V → Option Bool
  | .int a, .int b => some (decide (a = b))
  | .str a, .str b => some (decide (a = b))
  | v, w => match toP 9 H v, toP 9 H w with
    | some a, some b => if a.canLay0 && b.canLay0 then some (PyData.eqv a b) else none
    | _, _ => none
def ix (i : Int) (n : Nat) : Option Nat :=
  if 0 ≤ i then (if i < n then some i.toNat else none) else (if -(n : Int) ≤ i then some (i + n).toNat else none)
def strAt (s : Str) (j : Nat) : Option V := s.cps[j]?.map fun c => .str ⟨#[c]⟩
def itemsV (H : Hp) : V → Option (List V)
  | .lst a => H[a]?
  | .tup l => some l
  | .scr l => some (l.map .int)
  | _ => none
def idxV (H : Hp) : V → V → Option V
  | .str s, .int i => if s.cps.size ≤ sizeLine then (ix i s.cps.size).bind (strAt s) else none
  | v, .int i => (itemsV H v).bind fun xs => (ix i xs.length).bind fun j => xs[j]?
  | _, _ => none
def intsV : List V → Option (List Int)
  | [] => some []
  | .int i :: r => (intsV r).map (i :: ·)
  | _ => none
def boolsV : List V → Option (List Bool)
  | [] => some []
  | .bool i :: r => (boolsV r).map (i :: ·)
  | _ => none
def strsV : List V → Option (List Str)
  | [] => some []
  | .str i :: r => (strsV r).map (i :: ·)
  | _ => none
def cmpV (H : Hp) : Cm → V → V → Option Bool
  | .lt, .int a, .int b => some (decide (a < b))
  | .le, .int a, .int b => some (decide (a ≤ b))
  | .gt, .int a, .int b => some (decide (a > b))
  | .ge, .int a, .int b => some (decide (a ≥ b))
  | .eq, a, b => eqV H a b
  | .ne, a, b => (eqV H a b).map (!·)
  | .isIn, .str x, .str t => match x.cps.toList with
    | [k] => some (decide (k ∈ t.cps.toList))
    | _ => none
  | .isIn, .int k, .lst b => (H[b]?.bind intsV).map fun l => decide (k ∈ l)
  | .isIn, .str k, .tup l => (strsV l).map fun l => decide (k ∈ l)
  | .notIn, .int k, .lst b => (H[b]?.bind intsV).map fun l => !decide (k ∈ l)
  | .notIn, .str k, .tup l => (strsV l).map fun l => !decide (k ∈ l)
  | .is, .none, .none => some true
  | .is, .bool _, .none => some false
  | .is, .int _, .none => some false
  | .is, .str _, .none => some false
  | .is, .tup _, .none => some false
  | .is, .lst _, .none => some false
  | _, _, _ => none
def small (i : Int) : Bool := decide (i.natAbs < 2 ^ 63)
def rep {α : Type} (l : List α) : Nat → List α
  | 0 => []
  | n + 1 => l ++ rep l n
def binV (H : Hp) : Op → V → V → Option (V × Hp)
  | .add, .int a, .int b => some (.int (a + b), H)
  | .sub, .int a, .int b => some (.int (a - b), H)
  | .mul, .int a, .int b => if small a || small b then some (.int (a * b), H) else none
  | .div, .int a, .int b => if b = 0 then none else some (.int (a.fdiv b), H)
  | .mod, .int a, .int b => if b = 0 then none else some (.int (a.fmod b), H)
  | .pow, .int a, .int b => if 0 ≤ b ∧ b ≤ 100 ∧ small a then some (.int (a ^ b.toNat), H) else none
  | .add, .str a, .str b => if a.length + b.length ≤ sizeLine then some (.str (a ++ b), H) else none
  | .add, .tup a, .tup b => if a.length + b.length ≤ sizeLine then some (.tup (a ++ b), H) else none
  | .add, .lst a, .lst b => match H[a]?, H[b]? with
    | some x, some y => if x.length + y.length ≤ sizeLine then some (.lst H.length, H ++ [x ++ y]) else none
    | _, _ => none
  | .mul, .lst a, .int n => match H[a]? with
    | some x => if 0 ≤ n ∧ n ≤ 1000000 ∧ n.toNat * x.length ≤ sizeLine then some (.lst H.length, H ++ [rep x n.toNat]) else none
    | none => none
  | .mul, .tup _, .int _ => none
  | .mul, .str _, .int _ => none
  | _, _, _ => none
def clampI (i : Int) (n : Nat) : Nat := if i < 0 then (i + n).toNat else min i.toNat n
def bound? (n : Nat) (d : Nat) : V → Option Nat
  | .none => some d
  | .int i => some (clampI i n)
  | _ => none
def sliceV (H : Hp) : V → V → V → Option (V × Hp)
  | .lst a, lo, hi => match H[a]? with
    | some xs => match bound? xs.length 0 lo, bound? xs.length xs.length hi with
      | some i, some j => some (.lst H.length, H ++ [(xs.drop i).take (j - i)])
      | _, _ => none
    | none => none
  | _, _, _ => none
def revV (H : Hp) : V → Option (V × Hp)
  | .lst a => match H[a]? with
    | some xs => some (.lst H.length, H ++ [xs.reverse])
    | none => none
  | _ => none
def rangeL (lo hi st : Int) : List V := (List.range (if 0 < st ∧ lo < hi then ((hi - lo - 1) / st + 1).toNat else 0)).map fun (i : Nat) => V.int (lo + (i : Int) * st)
def srcV (H : Hp) : V → Option (List V)
  | .lst a => H[a]?
  | .tup l => some l
  | .rng lo hi st => some (rangeL lo hi st)
  | .str s => some (s.cps.toList.map fun c => .str ⟨#[c]⟩)
  | _ => none
def okV (v : V) (items : List V) (H : Hp) : Prop := match v with
  | .lst a => H[a]? = some items
  | _ => True
def pairsV : List V → Option (List (Int × Int))
  | [] => some []
  | .tup [.int i, .int j] :: r => (pairsV r).map ((i, j) :: ·)
  | _ => none
def pairLe (a b : Int × Int) : Bool := decide (a.1 < b.1) || (decide (a.1 = b.1) && decide (a.2 ≤ b.2))
def sortOk (l : List (Int × Int)) : Bool := decide (l.length < 64) && decide l.Nodup && l.all fun p => decide (p.1.natAbs < 2 ^ 31) && decide (p.2.natAbs < 2 ^ 31)
def pairV (p : Int × Int) : V := .tup [.int p.1, .int p.2]
def smallAll (l : List Int) : Bool := l.all fun i => decide (i.natAbs < 2 ^ 31)
def bltV (H : Hp) : Bl → List V → Option (V × Hp)
  | .len, [.lst a] => H[a]?.map fun xs => (.int xs.length, H)
  | .len, [.tup l] => some (.int l.length, H)
  | .len, [.scr l] => some (.int l.length, H)
  | .len, [.str s] => if s.length ≤ sizeLine then some (.int s.length, H) else none
  | .max, [.int a, .int b] => some (.int (if a < b then b else a), H)
  | .max, [.int a, .int b, .int c] => some (.int (if (if a < b then b else a) < c then c else (if a < b then b else a)), H)
  | .min, [.int a, .int b] => some (.int (if b < a then b else a), H)
  | .range, [.int n] => if n.natAbs < 2 ^ 31 then some (.rng 0 n 1, H) else none
  | .range, [.int a, .int b] => if a.natAbs < 2 ^ 31 ∧ b.natAbs < 2 ^ 31 then some (.rng a b 1, H) else none
  | .range, [.int a, .int b, .int c] => if a.natAbs < 2 ^ 31 ∧ b.natAbs < 2 ^ 31 ∧ 0 < c ∧ c < 2 ^ 31 then some (.rng a b c, H) else none
  | .list, [.lst a] => H[a]?.map fun xs => (.lst H.length, H ++ [xs])
  | .list, [.rng lo hi st] => if (rangeL lo hi st).length ≤ sizeLine then some (.lst H.length, H ++ [rangeL lo hi st]) else none
  | .tuple, [.lst a] => H[a]?.map fun xs => (.tup xs, H)
  | .tuple, [.rng _ _ _] => none
  | .sum, [.lst a] => match H[a]?.bind intsV with
    | some l => if smallAll l then some (.int l.sum, H) else none
    | none => none
  | .all, [.lst a] => match H[a]?.bind boolsV with
    | some l => some (.bool (l.all id), H)
    | none => none
  | .sorted, [.lst a] => match H[a]?.bind pairsV with
    | some l => if sortOk l = true then some (.lst H.length, H ++ [(l.mergeSort pairLe).map pairV]) else none
    | none => none
  | .abs, [.int a] => some (.int (if a < 0 then -a else a), H)
  | .int, [.bool b] => some (.int (if b then 1 else 0), H)
  | _, _ => none
def minDV (H : Hp) : V → V → Option V
  | .lst a, .int d => match H[a]?.bind intsV with
    | some [] => some (.int d)
    | some (x :: r) => some (.int (r.foldl (fun m y => if y < m then y else m) x))
    | none => none
  | _, _ => none
def methV (H : Hp) : Me → V → List V → Option (V × Hp)
  | .append, .lst a, [v] => match H[a]? with
    | some xs => if xs.length < sizeLine then some (.none, H.set a (xs ++ [v])) else none
    | none => none
  | .extend, .lst a, [.lst b] => match H[a]?, H[b]? with
    | some xs, some ys => if xs.length + ys.length ≤ sizeLine then some (.none, H.set a (xs ++ ys)) else none
    | _, _ => none
  | .pop, .lst a, [] => match H[a]? with
    | some xs => match xs.getLast? with
      | some v => some (v, H.set a xs.dropLast)
      | none => none
    | none => none
  | .pop, .lst a, [.int i] => match H[a]? with
    | some xs => match (if 0 ≤ i then xs[i.toNat]? else none) with
      | some v => some (v, H.set a (xs.eraseIdx i.toNat))
      | none => none
    | none => none
  | .count, .lst a, [.bool true] => (H[a]?.bind boolsV).map fun l => (.int (l.count true), H)
  | .index, .lst a, [.bool true] => match H[a]?.bind boolsV with
    | some l => if true ∈ l then some (.int (l.idxOf true), H) else none
    | none => none
  | .join, .str _, [.lst _] => none
  | _, _, _ => none
def methOk : Me → V → Bool
  | .join, .str _ => true
  | .join, _ => false
  | _, .lst _ => true
  | _, _ => false
def netKids : List String := ["BadNet", "BadLines", "BadThing", "BadKind", "NoNet"]
def excUnder (c p : Str) : Bool := c = p || (p = Str.ofString "ValueError") || (p = Str.ofString "NetError")
def isiV : V → Tc → Option Bool
  | .exc e _, .own c => some (excUnder e c)
  | _, .own _ => none
  | .none, _ => some false
  | .bool _, t => some (decide (t = .bool) || decide (t = .int))
  | .int _, t => some (decide (t = .int))
  | .str _, t => some (decide (t = .str))
  | .tup _, t => some (decide (t = .tuple))
  | .lst _, t => some (decide (t = .list))
  | .dict0, _ => some false
  | _, _ => none
def putV (H : Hp) : V → V → V → Option Hp
  | .lst a, .int i, v => match H[a]? with
    | some xs => if 0 ≤ i ∧ i < xs.length then some (H.set a (xs.set i.toNat v)) else none
    | none => none
  | _, _, _ => none
def bindT : Tg → V → Loc → Option Loc
  | .one i, x, l => some (l.set i (some x))
  | .two i j, .tup [a, b], l => some ((l.set i (some a)).set j (some b))
  | _, _, _ => none
def bindL : List Nat → List V → Loc → Option Loc
  | [], [], l => some l
  | i :: is, v :: vs, l => bindL is vs (l.set i (some v))
  | _, _, _ => none
abbrev Clo := Option (Nat × V)
abbrev XPost := V → Hp → Prop
abbrev CallT := Bool → Nat → Str → List V → Clo → (V → Hp → Prop) → XPost → Hp → Prop
def wpIter {σ : Type} (ok : Hp → Prop) (step : V → σ → (σ → Hp → Prop) → Hp → Prop) : List V → σ → (σ → Hp → Prop) → Hp → Prop
  | [], a, Q, H => Q a H
  | x :: xs, a, Q, H => step x a (fun a' H' => ok H' ∧ wpIter ok step xs a' Q H') H
def noX : XPost := fun _ _ => False
def cloArgs (k : Nat) (x y z : V) : List V :=
  let p := fun (i : Nat) => if i = 0 then x else if i = 1 then y else z
  [p (k / 9), p (k / 3 % 3), p (k % 3)]
mutual
def wpE (C : CallT) (q : Bool) (d : Nat) (k : Clo) : Ex → Loc → (V → Hp → Prop) → XPost → Hp → Prop
  | .lit v, _, Q, _, H => Q v H
  | .var i, l, Q, _, H => match l.getD i none with
    | some v => Q v H
    | none => False
  | .tup es, l, Q, E, H => wpL C q d k es l (fun vs H => Q (.tup vs) H) E H
  | .list es, l, Q, E, H => wpL C q d k es l (fun vs H => Q (.lst H.length) (H ++ [vs])) E H
  | .dict0, _, Q, _, H => Q .dict0 H
  | .bin op a b, l, Q, E, H => wpE C q d k a l (fun x H => wpE C q d k b l (fun y H => match binV H op x y with
      | some (v, H') => Q v H'
      | none => False) E H) E H
  | .neg a, l, Q, E, H => wpE C q d k a l (fun x H => match x with
      | .int i => Q (.int (-i)) H
      | _ => False) E H
  | .not a, l, Q, E, H => wpE C q d k a l (fun x H => match x with
      | .bool b => Q (.bool !b) H
      | _ => False) E H
  | .cmp a os bs, l, Q, E, H => wpE C q d k a l (fun x H => wpC C q d k x os bs l (fun b H => Q (.bool b) H) E H) E H
  | .and es, l, Q, E, H => wpAnd C q d k es l Q E H
  | .or es, l, Q, E, H => wpOr C q d k es l Q E H
  | .idx a i, l, Q, E, H => wpE C q d k a l (fun x H => wpE C q d k i l (fun y H => match idxV H x y with
      | some v => Q v H
      | none => False) E H) E H
  | .slice a lo hi, l, Q, E, H => wpE C q d k a l (fun x H => wpE C q d k lo l (fun y H => wpE C q d k hi l (fun z H => match sliceV H x y z with
      | some (v, H') => Q v H'
      | none => False) E H) E H) E H
  | .rev a, l, Q, E, H => wpE C q d k a l (fun x H => match revV H x with
      | some (v, H') => Q v H'
      | none => False) E H
  | .call f es, l, Q, E, H => wpL C q d k es l (fun vs H => C q d f vs none Q E H) E H
  | .callL f es kk i, l, Q, E, H => wpL C q d k es l (fun vs H => match l.getD i none with
      | some v => C q d f vs (some (kk, v)) Q E H
      | none => False) E H
  | .callv es, l, Q, E, H => wpL C q d k es l (fun vs H => match vs, k, d with
      | [x, y], some (kk, z), d + 1 => C q d (Str.ofString "put_together") (cloArgs kk x y z) none Q noX H
      | _, _, _ => False) E H
  | .blt b es, l, Q, E, H => wpL C q d k es l (fun vs H => match bltV H b vs with
      | some (v, H') => q = true ∧ Q v H'
      | none => False) E H
  | .minD a b, l, Q, E, H => wpE C q d k a l (fun x H => wpE C q d k b l (fun y H => match minDV H x y with
      | some v => q = true ∧ Q v H
      | none => False) E H) E H
  | .meth m o es, l, Q, E, H => wpE C q d k o l (fun x H => match methOk m x with
      | true => wpL C q d k es l (fun vs H => match methV H m x vs with
          | some (v, H') => Q v H'
          | none => False) E H
      | false => False) E H
  | .isi a t, l, Q, E, H => wpE C q d k a l (fun x H => match isiV x t with
      | some b => Q (.bool b) H
      | none => False) E H
  | .comp elt t src ifs, l, Q, E, H => wpE C q d k src l (fun sv H => match srcV H sv with
      | some items => q = true ∧ items.length ≤ sizeLine ∧ wpIter (okV sv items) (fun x acc K H => match bindT t x l with
          | some l' => wpI C q d none ifs l' (fun b H => match b with
              | true => wpE C q d none elt l' (fun v H => K (acc ++ [v]) H) noX H
              | false => K acc H) H
          | none => False) items [] (fun acc H' => Q (.lst H'.length) (H' ++ [acc])) H
      | none => False) E H
  | .attr a x, l, Q, E, H => wpE C q d k a l (fun v H => match v with
      | .exc _ w => if x = Str.ofString "at" then Q w H else False
      | _ => False) E H
def wpL (C : CallT) (q : Bool) (d : Nat) (k : Clo) : List Ex → Loc → (List V → Hp → Prop) → XPost → Hp → Prop
  | [], _, Q, _, H => Q [] H
  | e :: es, l, Q, E, H => wpE C q d k e l (fun v H => wpL C q d k es l (fun vs H => Q (v :: vs) H) E H) E H
def wpAnd (C : CallT) (q : Bool) (d : Nat) (k : Clo) : List Ex → Loc → (V → Hp → Prop) → XPost → Hp → Prop
  | [], _, _, _, _ => False
  | e :: es, l, Q, E, H => wpE C q d k e l (fun v H => match es, truth v with
      | [], _ => Q v H
      | _ :: _, some true => wpAnd C q d k es l Q E H
      | _ :: _, some false => Q v H
      | _ :: _, none => False) E H
def wpOr (C : CallT) (q : Bool) (d : Nat) (k : Clo) : List Ex → Loc → (V → Hp → Prop) → XPost → Hp → Prop
  | [], _, _, _, _ => False
  | e :: es, l, Q, E, H => wpE C q d k e l (fun v H => match es, truth v with
      | [], _ => Q v H
      | _ :: _, some false => wpOr C q d k es l Q E H
      | _ :: _, some true => Q v H
      | _ :: _, none => False) E H
def wpC (C : CallT) (q : Bool) (d : Nat) (k : Clo) : V → List Cm → List Ex → Loc → (Bool → Hp → Prop) → XPost → Hp → Prop
  | x, o :: os, e :: es, l, Q, E, H => wpE C q d k e l (fun y H => match cmpV H o x y with
      | some b => (match es, b with
          | [], _ => Q b H
          | _ :: _, true => wpC C q d k y os es l Q E H
          | _ :: _, false => Q false H)
      | none => False) E H
  | _, _, _, _, _, _, _ => False
def wpI (C : CallT) (q : Bool) (d : Nat) (k : Clo) : List Ex → Loc → (Bool → Hp → Prop) → Hp → Prop
  | [], _, Q, H => Q true H
  | e :: es, l, Q, H => wpE C q d k e l (fun v H => match truth v with
      | some true => wpI C q d k es l Q H
      | some false => Q false H
      | none => False) noX H
end
def truthP (Q : Bool → Hp → Prop) (v : V) (H : Hp) : Prop := match truth v with
  | some b => Q b H
  | none => False
def wpT (C : CallT) (q : Bool) (d : Nat) (k : Clo) (e : Ex) (l : Loc) (Q : Bool → Hp → Prop) (E : XPost) (H : Hp) : Prop := wpE C q d k e l (truthP Q) E H
abbrev SPost := Fl → Loc → Hp → Prop
abbrev SX := V → Loc → Hp → Prop
def wpFor (ok : Hp → Prop) (body : V → Loc → SPost → Hp → Prop) : List V → Loc → SPost → Hp → Prop
  | [], l, Q, H => Q .next l H
  | x :: xs, l, Q, H => body x l (fun f l' H' => match f with
      | .next => ok H' ∧ wpFor ok body xs l' Q H'
      | .ret v => Q (.ret v) l' H') H
def wpWhile (test : Loc → (Bool → Hp → Prop) → Hp → Prop) (body : Loc → SPost → Hp → Prop) (l : Loc) (Q : SPost) (H : Hp) : Prop :=
  ∃ I : Nat → Loc → Hp → Prop, (∃ n, I n l H) ∧ ∀ n l H, I n l H → test l (fun b H' => match b with
    | true => body l (fun f l' H'' => match f with
        | .next => ∃ m, m < n ∧ I m l' H''
        | .ret v => Q (.ret v) l' H'') H'
    | false => Q .next l H') H
def enumFrom (n : Int) : List V → List V
  | [] => []
  | x :: xs => .tup [.int n, x] :: enumFrom (n + 1) xs
def zipV : List V → List V → List V
  | x :: xs, y :: ys => .tup [x, y] :: zipV xs ys
  | _, _ => []
def wpSr (C : CallT) (q : Bool) (d : Nat) (k : Clo) : Sr → Loc → (List V → (Hp → Prop) → Hp → Prop) → XPost → Hp → Prop
  | .val e, l, Q, E, H => wpE C q d k e l (fun v H => match srcV H v with
      | some items => Q items (okV v items) H
      | none => False) E H
  | .enum e, l, Q, E, H => wpE C q d k e l (fun v H => match v with
      | .lst a => (match H[a]? with
        | some items => Q (enumFrom 0 items) (okV v items) H
        | none => False)
      | _ => False) E H
  | .rev e, l, Q, E, H => wpE C q d k e l (fun v H => match v with
      | .lst a => (match H[a]? with
        | some items => Q items.reverse (okV v items) H
        | none => False)
      | _ => False) E H
  | .zip a b, l, Q, E, H => wpE C q d k a l (fun v H => wpE C q d k b l (fun w H => match v, w with
      | .lst a, .lst b => (match H[a]?, H[b]? with
        | some x, some y => Q (zipV x y) (fun H => okV v x H ∧ okV w y H) H
        | _, _ => False)
      | _, _ => False) E H) E H
def atOf (cn : Str) (vs : List V) : V := if cn = Str.ofString "BadNet" then vs.headD .none else .none
mutual
def wpS (C : CallT) (q : Bool) (d : Nat) (k : Clo) : St → Loc → SPost → SX → Hp → Prop
  | .set i e, l, Q, E, H => wpE C q d k e l (fun v H => Q .next (l.set i (some v)) H) (fun x H => E x l H) H
  | .unp is e, l, Q, E, H => q = true ∧ wpE C q d k e l (fun v H => match v with
      | .tup vs => (match bindL is vs l with
        | some l' => Q .next l' H
        | none => False)
      | _ => False) (fun x H => E x l H) H
  | .put o i e, l, Q, E, H => wpE C q d k e l (fun v H => wpE C q d k o l (fun a H => wpE C q d k i l (fun j H => match putV H a j v with
      | some H' => Q .next l H'
      | none => False) (fun x H => E x l H) H) (fun x H => E x l H) H) (fun x H => E x l H) H
  | .expr e, l, Q, E, H => wpE C q d k e l (fun _ H => Q .next l H) (fun x H => E x l H) H
  | .ret e, l, Q, E, H => wpE C q d k e l (fun v H => Q (.ret v) l H) (fun x H => E x l H) H
  | .ite t a b, l, Q, E, H => wpT C q d k t l (fun c H => match c with
      | true => wpSs C q d k a l Q E H
      | false => wpSs C q d k b l Q E H) (fun x H => E x l H) H
  | .whil t b, l, Q, _, H => q = true ∧ wpWhile (fun l Q H => wpT C q d k t l Q noX H) (fun l Q H => wpSs C q d k b l Q (fun _ _ _ => False) H) l Q H
  | .loop t s b, l, Q, E, H => q = true ∧ wpSr C q d k s l (fun items ok H => wpFor ok (fun x l Q H => match bindT t x l with
      | some l' => wpSs C q d k b l' Q E H
      | none => False) items l Q H) (fun x H => E x l H) H
  | .rais cn es, l, _, E, H => q = true ∧ wpL C q d k es l (fun vs H => E (.exc cn (atOf cn vs)) l H) noX H
  | .tri b cn i h, l, Q, E, H => q = true ∧ wpSs C q d k b l Q (fun x l' H => match x with
      | .exc c _ => if excUnder c cn then wpSs C false d k h (l'.set i (some x)) (fun f l'' H => Q f (l''.set i none) H) (fun _ _ _ => False) H else E x l' H
      | _ => False) H
  | .stuck, _, _, _, _ => False
def wpSs (C : CallT) (q : Bool) (d : Nat) (k : Clo) : List St → Loc → SPost → SX → Hp → Prop
  | [], l, Q, _, H => Q .next l H
  | s :: ss, l, Q, E, H => wpS C q d k s l (fun f l' H' => match f with
      | .next => wpSs C q d k ss l' Q E H'
      | .ret v => Q (.ret v) l' H') E H
end
end Bn
namespace Bn
open PySem
structure Res where
  fr : Bool
  n : Nat
  t : List (Str × Nat)
def Res.lookup (r : Res) (x : Str) : Option Nat := r.t.lookup x
def EnvOk (c : Cx) (φ : List Addr) (h : Heap) (env : Env) : Prop :=
  (env.scope.kind ≠ .module ∧ env.scope.isGenerator = false ∧ env.scope.isCoroutine = false ∧ env.builtins = builtinsNs ∧ env.globals = mainGlobals) ∧
  ∃ L o es n, env.frame = some L ∧ c.h0.get? L = none ∧ L ∉ φ ∧ h.get? L = some o ∧ o.data = .dict es n ∧ o.cls = .type "frame"
structure OkA (c : Cx) (A : Around) (q : Bool) (d : Nat) (φ : List Addr) (h : Heap) : Prop where
  dep : A.depth + d ≤ 890
  un : A.units + 10 * d ≤ 9000
  hd : q = true → A.handled = none
  fr : ∃ l, A.frames = some l ∧ ∀ env ∈ l, EnvOk c φ h env
structure OkF (c : Cx) (A : Around) (q : Bool) (d : Nat) (φ : List Addr) (h : Heap) : Prop extends OkA c A q d φ h where
  ne : A.frames ≠ some []
theorem OkA.mono {c : Cx} {A : Around} {q : Bool} {d : Nat} {X φ φ' : List Addr} {s s' : Shared} (h : OkA c A q d φ s.heap) (e : Ext X φ s φ' s') : OkA c A q d φ' s'.heap where
  dep := h.dep
  un := h.un
  hd := h.hd
  fr := by
    obtain ⟨l, h1, h2⟩ := h.fr
    refine ⟨l, h1, fun env he => ?_⟩
    obtain ⟨h3, L, o, es, n, h4, h5, h6, h7, h8, h9⟩ := h2 env he
    obtain ⟨o', es', n', g1, g2, g3⟩ := e.dict L o es n h7 h6 h8
    exact ⟨h3, L, o', es', n', h4, h5, e.notin h7 h6, g1, g2, g3.trans h9⟩
theorem OkF.mono {c : Cx} {A : Around} {q : Bool} {d : Nat} {X φ φ' : List Addr} {s s' : Shared} (h : OkF c A q d φ s.heap) (e : Ext X φ s φ' s') : OkF c A q d φ' s'.heap := ⟨h.toOkA.mono e, h.ne⟩
def SlotAt (c : Cx) (φ : List Addr) (h : Heap) (env : Env) (m : Str → Option Value) (x : Str) (ov : Option V) : Prop :=
  match env.kindOf x with
  | some .local => (match ov with
    | some v => ∃ r, m x = some r ∧ Rep c φ h v r
    | none => m x = none)
  | some .cell | some .free => ∃ ca r, env.cells.lookup x = some ca ∧ h.IsCell ca r ∧ (match ov with
    | some v => ∃ r', r = some r' ∧ Rep c φ h v r'
    | none => r = none)
  | _ => False
def CloRep (c : Cx) (φ : List Addr) (h : Heap) (B : Nat) (kk : Nat) (z : V) (fv : Value) : Prop :=
  ∃ a o fd nm ca oc rv, fv = .ref a ∧ a ∉ φ ∧ h.get? a = some o ∧ o.cls = .type "function" ∧ o.data = .func fd ∧ c.lam kk fd nm ∧ fd.closure = [(nm, ca)] ∧ ca ∉ φ ∧ ca < B ∧
    h.get? ca = some oc ∧ oc.cls = .type "cell" ∧ oc.data = .cell (some rv) ∧ Rep c φ h z rv
def joinName : Str := Str.ofString "join"
structure FSim (c : Cx) (env : Env) (res : Res) (k : Clo) (loc : Loc) (φ : List Addr) (h : Heap) : Prop where
  fn : env.scope.kind = .function
  gl : env.globals = mainGlobals
  bl : env.builtins = builtinsNs
  ns : ∃ m, (h.Ns env.locals m ∧ ∃ o, h.get? env.locals = some o ∧ ((o.cls = .type "frame" ∧ res.fr = true) ∨ (o.cls = .type "dict" ∧ m (Str.ofString "at") = none ∧ res.fr = false))) ∧ (∀ x i, res.lookup x = some i → SlotAt c φ h env m x (loc.getD i none)) ∧
    (∀ kk z, k = some (kk, z) → env.kindOf joinName = some .local ∧ ∃ fv, m joinName = some fv ∧ CloRep c φ h env.locals kk z fv)
  len : res.n ≤ loc.length
  Lφ : env.locals ∉ φ
  L0 : c.h0.get? env.locals = none
  cells : ∀ x ca, env.cells.lookup x = some ca → ca ∉ φ ∧ c.h0.get? ca = none ∧ ∃ o, h.get? ca = some o ∧ o.cls = .type "cell"
section
variable {c : Cx} {φ φ' : List Addr} {s s' : Shared}
theorem Ns_slots {h h' : Heap} {L : Addr} {m : Str → Option Value} (hn : h.Ns L m) (hk : ∀ o, h.get? L = some o → ∃ sl, h'.get? L = some { o with slots := sl }) : h'.Ns L m := by
  obtain ⟨o, es, ep, ho, hd, r⟩ := hn
  obtain ⟨sl, h1⟩ := hk o ho
  exact ⟨_, es, ep, h1, hd, r⟩
structure Off (env : Env) (X : List Addr) (s : Shared) : Prop where
  loc : env.locals ∉ X
  cells : ∀ x ca, env.cells.lookup x = some ca → ca ∉ X
  clo : ∀ ca o, s.heap.get? ca = some o → o.cls = .type "cell" → ca < env.locals → ca ∉ X
theorem Off.nil {env : Env} {s : Shared} : Off env [] s := ⟨by simp, by simp, by simp⟩
theorem CloRep.mono {X : List Addr} {B : Nat} {kk z fv} (e : Kp X φ s.heap φ' s'.heap) (hX : OwnX c X s.heap) (hB : ∀ ca o, s.heap.get? ca = some o → o.cls = .type "cell" → ca < B → ca ∉ X) (h : CloRep c φ s.heap B kk z fv) : CloRep c φ' s'.heap B kk z fv := by
  obtain ⟨a, o, fd, nm, ca, oc, rv, hr, ha, ho, hc, hd, hk, hcl, hca, hlt, hoc, hcc, hdc, hx⟩ := h
  exact ⟨a, o, fd, nm, ca, oc, rv, hr, e.notin ho ha, keepO e hX ho ha (own_no hc (by decide) (by decide) (by decide)), hc, hd, hk, hcl, e.notin hoc hca, hlt,
    e.keep ca oc hoc hca (hB ca oc hoc hcc hlt) (by rw [hcc]; decide), hcc, hdc, Rep.mono e hX hx⟩
theorem SlotAt.mono {X : List Addr} {env : Env} {m : Str → Option Value} {x : Str} {ov : Option V} (e : Kp X φ s.heap φ' s'.heap) (hX : OwnX c X s.heap) (hc : ∀ x ca, env.cells.lookup x = some ca → ca ∉ X ∧ ca ∉ φ ∧ c.h0.get? ca = none ∧ ∃ o, s.heap.get? ca = some o ∧ o.cls = .type "cell")
    (h : SlotAt c φ s.heap env m x ov) : SlotAt c φ' s'.heap env m x ov := by
  unfold SlotAt at h ⊢
  split at h
  · cases ov with
    | none => exact h
    | some v => obtain ⟨r, h1, h2⟩ := h; exact ⟨r, h1, Rep.mono e hX h2⟩
  · obtain ⟨ca, r, h1, ⟨o, h2, h2'⟩, h3⟩ := h
    obtain ⟨k0, k1, k2, o', k3, k4⟩ := hc x ca h1
    rw [h2] at k3; cases k3
    refine ⟨ca, r, h1, ⟨o, e.keep ca o h2 k1 k0 (by rw [k4]; decide), h2'⟩, ?_⟩
    cases ov with
    | none => exact h3
    | some v => obtain ⟨r', h4, h5⟩ := h3; exact ⟨r', h4, Rep.mono e hX h5⟩
  · obtain ⟨ca, r, h1, ⟨o, h2, h2'⟩, h3⟩ := h
    obtain ⟨k0, k1, k2, o', k3, k4⟩ := hc x ca h1
    rw [h2] at k3; cases k3
    refine ⟨ca, r, h1, ⟨o, e.keep ca o h2 k1 k0 (by rw [k4]; decide), h2'⟩, ?_⟩
    cases ov with
    | none => exact h3
    | some v => obtain ⟨r', h4, h5⟩ := h3; exact ⟨r', h4, Rep.mono e hX h5⟩
  · exact h
theorem FSim.off {X : List Addr} {env : Env} {res : Res} {k : Clo} {loc : Loc} (F : FSim c env res k loc φ s.heap) (e : Kp X φ s.heap φ' s'.heap) (hX : OwnX c X s.heap) (hO : Off env X s)
    (hL : ∀ o, s.heap.get? env.locals = some o → ∃ sl, s'.heap.get? env.locals = some { o with slots := sl }) : FSim c env res k loc φ' s'.heap where
  fn := F.fn
  gl := F.gl
  bl := F.bl
  len := F.len
  ns := by
    obtain ⟨m, hn, h1, h2⟩ := F.ns
    refine ⟨m, ⟨Ns_slots hn.1 hL, by obtain ⟨o, ho, hc⟩ := hn.2; obtain ⟨sl, h'⟩ := hL o ho; exact ⟨_, h', hc⟩⟩, fun x i hx => (h1 x i hx).mono e hX fun x ca h => ⟨hO.cells x ca h, F.cells x ca h⟩, fun kk z hk => ?_⟩
    obtain ⟨h3, fv, h4, h5⟩ := h2 kk z hk
    exact ⟨h3, fv, h4, h5.mono e hX hO.clo⟩
  Lφ := by
    obtain ⟨m, ⟨⟨o, _, _, ho, _⟩, _⟩, _⟩ := F.ns
    exact e.notin ho F.Lφ
  L0 := F.L0
  cells x ca h := by
    obtain ⟨h1, h2, o, h3, h4⟩ := F.cells x ca h
    exact ⟨e.notin h3 h1, h2, o, e.keep ca o h3 h1 (hO.cells x ca h) (by rw [h4]; decide), h4⟩
theorem FSim.mono {env : Env} {res : Res} {k : Clo} {loc : Loc} (F : FSim c env res k loc φ s.heap) (e : Ext [] φ s φ' s') : FSim c env res k loc φ' s'.heap :=
  F.off e.toKp OwnX.nil Off.nil fun o ho => e.frame _ o ho F.Lφ (by simp)
end
def Out (c : Cx) (φ : List Addr) (s : Shared) (Q : V → Hp → Prop) (r : Value) (s' : Shared) : Prop :=
  ∃ φ' H' v, Ext [] φ s φ' s' ∧ Sim c φ' H' s' ∧ Rep c φ' s'.heap v r ∧ Q v H'
def XRep (c : Cx) (φ : List Addr) (s : Shared) (h : Heap) (x : V) (e : Value) : Prop :=
  Rep c φ h x e ∧ (∃ cn y, x = .exc cn y) ∧ ∃ a o vs, e = .ref a ∧ s.heap.get? a = none ∧ h.get? a = some o ∧ o.data = .fields vs ∧
    (vs[1]? = some .none ∨ ∃ T oT ts, vs[1]? = some (.ref T) ∧ s.heap.get? T = none ∧ T ∉ φ ∧ c.h0.get? T = none ∧ h.get? T = some oT ∧ oT.cls = .type "traceback" ∧ oT.data = .fields ts ∧ 3 < ts.size)
def OutX (c : Cx) (φ : List Addr) (s : Shared) (E : XPost) (e : Value) (s' : Shared) : Prop :=
  ∃ φ' H' x, Ext [] φ s φ' s' ∧ Sim c φ' H' s' ∧ XRep c φ' s s'.heap x e ∧ E x H'
theorem Ext.fresh {c : Cx} {X φ φ₁ : List Addr} {H : Hp} {s s₁ : Shared} (e : Ext X φ s φ₁ s₁) (S : Sim c φ₁ H s₁) {b : Addr} (hb : s₁.heap.get? b = none) : s.heap.get? b = none := by
  cases q : s.heap.get? b with
  | none => rfl
  | some o =>
    by_cases hφ : b ∈ φ
    · obtain ⟨o', h1, _⟩ := S.isList (e.pre.subset hφ)
      rw [hb] at h1; cases h1
    · by_cases hX : b ∈ X
      · obtain ⟨o', h1⟩ := e.alive b o q hX
        rw [hb] at h1; cases h1
      · obtain ⟨sl, h1⟩ := e.frame b o q hφ hX
        rw [hb] at h1; cases h1
theorem XRep.lift {c : Cx} {X φ φ₁ φ₂ : List Addr} {H : Hp} {s s₁ : Shared} {h : Heap} {x : V} {r : Value} (e : Ext X φ s φ₁ s₁) (S : Sim c φ₁ H s₁) (q : XRep c φ₂ s₁ h x r) : XRep c φ₂ s h x r := by
  obtain ⟨h1, h2, a, o, vs, h3, h4, h5, h6, h7⟩ := q
  refine ⟨h1, h2, a, o, vs, h3, e.fresh S h4, h5, h6, h7.imp id ?_⟩
  rintro ⟨T, oT, ts, g1, g2, g3⟩
  exact ⟨T, oT, ts, g1, e.fresh S g2, g3⟩
theorem Out.lift {c : Cx} {φ φ₁ : List Addr} {s s₁ s₂ : Shared} {Q : V → Hp → Prop} {r : Value} (e : Ext [] φ s φ₁ s₁) (h : Out c φ₁ s₁ Q r s₂) : Out c φ s Q r s₂ :=
  let ⟨φ', H', v, e', S, R, hq⟩ := h; ⟨φ', H', v, e.trans e', S, R, hq⟩
theorem OutX.lift {c : Cx} {φ φ₁ : List Addr} {H : Hp} {s s₁ s₂ : Shared} {E : XPost} {r : Value} (e : Ext [] φ s φ₁ s₁) (S₁ : Sim c φ₁ H s₁) (h : OutX c φ₁ s₁ E r s₂) : OutX c φ s E r s₂ :=
  let ⟨φ', H', v, e', S, R, hq⟩ := h; ⟨φ', H', v, e.trans e', S, R.lift e S₁, hq⟩
theorem Out.mono {c : Cx} {φ : List Addr} {s s₂ : Shared} {Q Q' : V → Hp → Prop} {r : Value} (hq : ∀ v H, Q v H → Q' v H) (h : Out c φ s Q r s₂) : Out c φ s Q' r s₂ :=
  let ⟨φ', H', v, e', S, R, h⟩ := h; ⟨φ', H', v, e', S, R, hq _ _ h⟩
theorem OutX.mono {c : Cx} {φ : List Addr} {s s₂ : Shared} {Q Q' : XPost} {r : Value} (hq : ∀ v H, Q v H → Q' v H) (h : OutX c φ s Q r s₂) : OutX c φ s Q' r s₂ :=
  let ⟨φ', H', v, e', S, R, h⟩ := h; ⟨φ', H', v, e', S, R, hq _ _ h⟩
theorem OutX.no {c : Cx} {φ : List Addr} {s s₂ : Shared} {P : Prop} {r : Value} (h : OutX c φ s noX r s₂) : P :=
  let ⟨_, _, _, _, _, _, h⟩ := h; h.elim
def CloArg (c : Cx) (φ : List Addr) (h : Heap) : Clo → List Value → Prop
  | none, l => l = []
  | some (kk, z), l => ∃ fv, l = [fv] ∧ CloRep c φ h h.objs.size kk z fv
def Ends (c : Cx) (φ : List Addr) (s : Shared) (Q : V → Hp → Prop) (E : XPost) (r : Result) (s' : Shared) : Prop :=
  match r with
  | .ok (.ret v) => Out c φ s Q v s'
  | .ok _ => False
  | .error e => OutX c φ s E e s'
def Calls (c : Cx) : CallT := fun q d f vs k Q E H =>
  ∃ a o fd, c.g f = some (.ref a) ∧ c.h0.get? a = some o ∧ o.data = .func fd ∧
    ∀ A φ s args extra, OkA c A q d φ s.heap → Sim c φ H s → RepL c φ s.heap vs args → CloArg c φ s.heap k extra →
      codeAny (model c.prog c.w) A (.call (.ref a) ⟨args ++ extra, []⟩) (Ends c φ s Q E) s
def SoundE (c : Cx) (env : Env) (res : Res) (e : Expr) (x : Ex) : Prop :=
  ∀ A q d k loc φ H s Q E, OkF c A q d φ s.heap → FSim c env res k loc φ s.heap → Sim c φ H s → wpE (Calls c) q d k x loc Q E H →
    wpAny (model c.prog c.w) A (eval e env) (Out c φ s Q) (OutX c φ s E) s
def Does (c : Cx) (A : Around) (φ : List Addr) (s : Shared) (m : Sem Value) (v : V) (H' : Hp) : Prop :=
  ∀ E : Value → Shared → Prop, wpAny (model c.prog c.w) A m (Out c φ s fun x H => x = v ∧ H = H') E s
theorem Does.use {c : Cx} {A : Around} {φ φ₀ : List Addr} {s s₀ : Shared} {m : Sem Value} {v : V} {H' : Hp} {Q : V → Hp → Prop} {E : Value → Shared → Prop} (h : Does c A φ s m v H') (e : Ext [] φ₀ s₀ φ s) (hq : Q v H') :
    wpAny (model c.prog c.w) A m (Out c φ₀ s₀ Q) E s :=
  wpAny_mono (h E) (fun _ _ h => Out.lift e (Out.mono (fun _ _ ⟨h1, h2⟩ => by rw [h1, h2]; exact hq) h)) fun _ _ h => h
theorem Out.at {c : Cx} {φ : List Addr} {H : Hp} {s : Shared} {v : V} {r : Value} {t : Nat} {Q : V → Hp → Prop} (S : Sim c φ H s) (R : Rep c φ s.heap v r) (hq : Q v H) : Out c φ s Q r { s with toks := t } :=
  ⟨φ, H, v, Ext.of_heap rfl rfl, S.tok t, R, hq⟩
theorem Out.at' {c : Cx} {φ : List Addr} {H : Hp} {s : Shared} {v : V} {r : Value} {Q : V → Hp → Prop} (S : Sim c φ H s) (R : Rep c φ s.heap v r) (hq : Q v H) : Out c φ s Q r s :=
  ⟨φ, H, v, Ext.refl, S, R, hq⟩
theorem Out.eq {c : Cx} {φ : List Addr} {s s' : Shared} {v : V} {H' : Hp} {r : Value} {Q : V → Hp → Prop} (h : Out c φ s (fun x H => x = v ∧ H = H') r s') (hq : Q v H') : Out c φ s Q r s' :=
  Out.mono (fun _ _ h => by rw [h.1, h.2]; exact hq) h
theorem Out.same {c : Cx} {φ : List Addr} {H : Hp} {s : Shared} {v : V} {r : Value} {t : Nat} (S : Sim c φ H s) (R : Rep c φ s.heap v r) : Out c φ s (fun x H' => x = v ∧ H' = H) r { s with toks := t } :=
  ⟨φ, H, v, Ext.of_heap rfl rfl, S.tok t, R, rfl, rfl⟩
theorem Out.same' {c : Cx} {φ : List Addr} {H : Hp} {s : Shared} {v : V} {r : Value} (S : Sim c φ H s) (R : Rep c φ s.heap v r) : Out c φ s (fun x H' => x = v ∧ H' = H) r s :=
  ⟨φ, H, v, Ext.refl, S, R, rfl, rfl⟩
end Bn
namespace Bn
open PySem PyProof.Rows
structure Cx.Ok (c : Cx) : Prop where
  lim : c.h0.NoLimit
  gl : c.h0.Ns mainGlobals c.g
  bl : c.h0.Ns builtinsNs c.b
  seer : c.h0.NoSeer
  tree : c.prog.given.tree = none
def Op.real : Op → Operator
  | .add => .Add | .sub => .Sub | .mul => .Mult | .div => .FloorDiv | .mod => .Mod | .pow => .Pow
section
variable {c : Cx} {A : Around} {q : Bool} {d : Nat} {φ : List Addr} {H H' : Hp} {s : Shared}
theorem Sim.lim (S : Sim c φ H s) (O : c.Ok) : s.heap.NoLimit := O.lim.keeps S.stays
theorem OkF.seer (O : c.Ok) (hA : OkF c A q d φ s.heap) (S : Sim c φ H s) : SeerAt (model c.prog c.w) A s.heap := by
  obtain ⟨l, h1, h2⟩ := hA.fr
  cases l with
  | nil => exact absurd h1 hA.ne
  | cons env l =>
    obtain ⟨⟨_, g1, g2, g3, g4⟩, _⟩ := h2 env List.mem_cons_self
    exact SeerAt.of (O.seer.keeps S.stays) O.tree h1 g1 g2 g3 g4
theorem Sim.get (S : Sim c φ H s) {i : Nat} {r : Value} {xs : List V} (R : Rep c φ s.heap (.lst i) r) (h : H[i]? = some xs) :
    ∃ a o vs n, r = .ref a ∧ φ[i]? = some a ∧ s.heap.get? a = some o ∧ o.cls = .type "list" ∧ o.data = .seq vs n ∧ RepL c φ s.heap xs vs.toList ∧ xs.length ≤ sizeLine ∧ vs.size = xs.length ∧ s.heap.IsList a vs := by
  simp only [Rep] at R
  obtain ⟨a, hr, ha⟩ := R
  obtain ⟨a', o, vs, n, h1, h2, h3, h4, h5, h6⟩ := S.lists i xs h
  rw [ha] at h1; cases h1
  exact ⟨a, o, vs, n, hr, ha, h2, h3, h4, h5, h6.1, by rw [← Array.length_toList, h5.length], ⟨o, h2, h3, n, h4⟩⟩
abbrev lobj (vs : Array Value) (n : Nat) : Obj := { cls := .type "list", data := .seq vs n }
theorem Sim.getP (S : Sim c φ H s) {i : Nat} {r : Value} {xs : List V} (R : Rep c φ s.heap (.lst i) r) (h : H[i]? = some xs) :
    ∃ a vs n, r = .ref a ∧ φ[i]? = some a ∧ s.heap.get? a = some (lobj vs n) ∧ RepL c φ s.heap xs vs.toList ∧ xs.length ≤ sizeLine ∧ vs.size = xs.length := by
  simp only [Rep] at R
  obtain ⟨a, hr, ha⟩ := R
  obtain ⟨a', ⟨cls, dd, data, sl⟩, vs, n, h1, h2, h3, h4, h5, h6, h7, h8⟩ := S.lists i xs h
  rw [ha] at h1; cases h1
  simp only at h3 h4 h7 h8
  subst h3 h4 h7 h8
  exact ⟨a, vs, n, hr, ha, h2, h5, h6, by rw [← Array.length_toList, h5.length]⟩
theorem nodup_get {l : List Addr} (h : l.Nodup) {i j : Nat} {a : Addr} (hi : l[i]? = some a) (hj : l[j]? = some a) : i = j := by
  obtain ⟨h1, e1⟩ := List.getElem?_eq_some_iff.mp hi
  obtain ⟨h2, e2⟩ := List.getElem?_eq_some_iff.mp hj
  rcases Nat.lt_trichotomy i j with hlt | hlt | hlt
  · exact absurd (e1.trans e2.symm) (List.pairwise_iff_getElem.mp h i j h1 h2 hlt)
  · exact hlt
  · exact absurd (e2.trans e1.symm) (List.pairwise_iff_getElem.mp h j i h2 h1 hlt)
theorem Sim.put (S : Sim c φ H s) {i : Nat} {a : Addr} {xs : List V} {vs : Array Value} {n : Nat} {h' : Heap} (ha : φ[i]? = some a) (hs : Heap.SameBut a s.heap h') (hn : h'.get? a = some (lobj vs n)) (hr : RepL c φ s.heap xs vs.toList) (hz : xs.length ≤ sizeLine) :
    Ext [] φ s φ { s with heap := h' } ∧ Sim c φ (H.set i xs) { s with heap := h' } := by
  have ham : a ∈ φ := List.mem_of_getElem? ha
  have e : Ext [] φ s φ { s with heap := h' } := Ext.of_sameBut (s' := { s with heap := h' }) hs ham (by simp) rfl
  refine ⟨e, ⟨fun b o h => ?_, S.fresh, S.nodup, by simp [S.len], fun j ys h => ?_, S.gens⟩⟩
  · exact (hs.2 b fun q => by rw [q, S.fresh a ham] at h; cases h).trans (S.stays b o h)
  · by_cases hji : j = i
    · subst hji
      have hlt : j < H.length := by rw [← S.len]; exact (List.getElem?_eq_some_iff.mp ha).1
      rw [List.getElem?_set_self hlt] at h
      cases h
      exact ⟨a, _, vs, n, ha, hn, rfl, rfl, RepL.mono e.toKp OwnX.nil hr, hz, rfl, rfl⟩
    · rw [List.getElem?_set_ne (Ne.symm hji)] at h
      obtain ⟨b, o, us, k, h1, h2, h3, h4, h5, h6⟩ := S.lists j ys h
      refine ⟨b, o, us, k, h1, (hs.2 b fun q => hji (nodup_get S.nodup (q ▸ h1) ha)).trans h2, h3, h4, RepL.mono e.toKp OwnX.nil h5, h6⟩
theorem out_newList (S : Sim c φ H s) {xs : List V} {vs : List Value} (hr : RepL c φ s.heap xs vs) (hz : xs.length ≤ sizeLine) :
    Out c φ s (fun x H' => x = .lst H.length ∧ H' = H ++ [xs]) (.ref s.heap.objs.size) { s with heap := s.heap.push { cls := .type "list", data := .seq vs.toArray } } := by
  obtain ⟨e, S'⟩ := S.newList hr hz rfl
  refine ⟨_, _, .lst H.length, e, S', ?_, rfl, rfl⟩
  simp only [Rep]
  exact ⟨_, rfl, by rw [List.getElem?_append_right (Nat.le_of_eq S.len)]; simp [S.len]⟩
theorem out_newList' (S : Sim c φ H s) {xs : List V} {vs : Array Value} (hr : RepL c φ s.heap xs vs.toList) (hz : xs.length ≤ sizeLine) :
    Out c φ s (fun x H' => x = .lst H.length ∧ H' = H ++ [xs]) (.ref s.heap.objs.size) { s with heap := s.heap.push { cls := .type "list", data := .seq vs } } := by
  have := out_newList S hr hz
  simpa using this
theorem out_newTuple (S : Sim c φ H s) {xs : List V} {vs : Array Value} (hr : RepL c φ s.heap xs vs.toList) (hz : xs.length ≤ sizeLine) {n : Nat} :
    Out c φ s (fun x H' => x = .tup xs ∧ H' = H) (.ref s.heap.objs.size) { s with heap := s.heap.push { cls := .type "tuple", data := .seq vs n } } := by
  refine ⟨φ, H, .tup xs, Ext.push, S.push _, ?_, rfl, rfl⟩
  simp only [Rep]
  exact ⟨_, _, vs, n, rfl, S.new, Heap.get?_push_size _ rfl, rfl, rfl, hz, RepL.mono (Ext.push (X := [])).toKp OwnX.nil hr⟩
theorem small_bits {a : Int} (h : small a = true) : Builtin.Int.intBits a ≤ 64 := by
  simp only [small, decide_eq_true_eq] at h
  unfold Builtin.Int.intBits
  split
  · exact Nat.zero_le _
  · rename_i h0
    have h1 : a ≠ 0 := by simpa using h0
    have : a.natAbs.log2 < 63 := (Nat.log2_lt (by omega)).mpr h
    omega
theorem repV {l : List V} {n : Nat} : rep l n = (List.replicate n l).flatten := by
  induction n with
  | zero => rfl
  | succ n ih => rw [rep, List.replicate_succ, List.flatten_cons, ih]
theorem rep_eq {α : Type} {l : List α} {n : Nat} : rep l n = (List.replicate n l).flatten := by
  induction n with
  | zero => rfl
  | succ n ih => rw [rep, List.replicate_succ, List.flatten_cons, ih]
theorem rep_length {α : Type} (l : List α) (n : Nat) : (rep l n).length = n * l.length := by
  induction n with
  | zero => simp [rep]
  | succ n ih => rw [rep, List.length_append, ih, Nat.succ_mul]; omega
theorem RepL.rep {h : Heap} {l : List V} {rs : List Value} (hr : RepL c φ h l rs) : ∀ n, RepL c φ h (rep l n) (rep rs n)
  | 0 => by simp [Bn.rep, RepL]
  | n + 1 => by rw [Bn.rep, Bn.rep]; exact hr.append (RepL.rep hr n)
theorem foldl_rep (vs : Array Value) (n : Nat) : ∀ acc : Array Value, (List.foldl (fun x1 x2 => x1 ++ x2) acc (List.replicate n vs)).toList = acc.toList ++ rep vs.toList n := by
  induction n with
  | zero => intro acc; simp [rep]
  | succ n ih => intro acc; rw [List.replicate_succ, List.foldl_cons, ih, rep]; simp
theorem do_bin (O : c.Ok) (hA : OkF c A q d φ s.heap) (S : Sim c φ H s) {op : Op} {v w u : V} {x y : Value} (R1 : Rep c φ s.heap v x) (R2 : Rep c φ s.heap w y)
    (e : binV H op v w = some (u, H')) : Does c A φ s (binaryOp op.real x y) u H' := by
  intro E
  have hroom : A.depth + 0 < recursionLimit := by have := hA.dep; show _ < 1000; omega
  unfold binV at e
  split at e
  · cases e
    simp only [Rep] at R1 R2
    obtain ⟨t1, rfl⟩ := R1; obtain ⟨t2, rfl⟩ := R2
    exact add_int (Out.same S (by simp [Rep]))
  · cases e
    simp only [Rep] at R1 R2
    obtain ⟨t1, rfl⟩ := R1; obtain ⟨t2, rfl⟩ := R2
    exact PyProof.Rows.sub_int (Out.same S (by simp [Rep]))
  · split at e
    · cases e
      simp only [Rep] at R1 R2
      obtain ⟨t1, rfl⟩ := R1; obtain ⟨t2, rfl⟩ := R2
      rename_i a b hs
      refine PyProof.Rows.mul_int (Out.same S (by simp [Rep])) ?_
      rcases Bool.or_eq_true_iff.mp hs with h | h
      · exact IntMulOk.of_left (small_bits h)
      · exact IntMulOk.of_right (small_bits h)
    · cases e
  · split at e
    · cases e
    · cases e
      simp only [Rep] at R1 R2
      obtain ⟨t1, rfl⟩ := R1; obtain ⟨t2, rfl⟩ := R2
      rename_i hb
      exact floordiv_int hb (Out.same S (by simp [Rep])) (Or.inr (PySem.PylongRoom.of (S.lim O) (by have := hA.dep; show _ + 100 < 1000; omega) (hA.seer O S)))
  · split at e
    · cases e
    · cases e
      simp only [Rep] at R1 R2
      obtain ⟨t1, rfl⟩ := R1; obtain ⟨t2, rfl⟩ := R2
      rename_i hb
      exact mod_int' hb (Out.same S (by simp [Rep]))
  · split at e
    · cases e
      simp only [Rep] at R1 R2
      obtain ⟨t1, rfl⟩ := R1; obtain ⟨t2, rfl⟩ := R2
      rename_i h
      refine pow_int_small h.1 (by omega) ?_ (Out.same S (by simp [Rep]))
      have := h.2.2
      simp only [small, decide_eq_true_eq] at this
      exact Nat.lt_trans this (by decide)
    · cases e
  · split at e
    · cases e
      simp only [Rep] at R1 R2
      obtain ⟨t1, rfl⟩ := R1; obtain ⟨t2, rfl⟩ := R2
      rename_i hz
      exact PyProof.Rows.add_str (fun t' tk => Out.same S (by simp [Rep])) hz
    · cases e
  · split at e
    · cases e
      simp only [Rep] at R1 R2
      obtain ⟨a1, ⟨cls, dd, data, sl⟩, vs, n, rfl, ha1, ho, hc, hd, hz1, hr⟩ := R1
      obtain ⟨a2, ⟨cls2, dd2, data2, sl2⟩, ws, n2, rfl, ha2, ho2, hc2, hd2, hz2, hr2⟩ := R2
      simp only at hc hd hc2 hd2
      subst hc hd hc2 hd2
      rename_i l1 l2 hz
      have z1 : vs.size = l1.length := by rw [← Array.length_toList, hr.length]
      have z2 : ws.size = l2.length := by rw [← Array.length_toList, hr2.length]
      by_cases hv : vs.isEmpty = true
      · refine concat_meets ⟨_, ho, rfl⟩ ⟨_, ho2, rfl⟩ noFill_tuple_add seq_tuple_add PySem.F.slot_tuple_add PySem.F.entry_tuple_add (PySem.F.args_tuple_add_2 _ _)
          (tuple_addW0 a1 a2 vs ws n n2 dd dd2 sl sl2 hv) ⟨ho, ho2, ?_⟩
        have : l1 = [] := by
          have : l1.length = 0 := by rw [← z1]; simpa using hv
          exact List.length_eq_zero_iff.mp this
        subst this
        exact Out.same' S (by simp only [Rep, List.nil_append]; exact ⟨a2, _, ws, n2, rfl, ha2, ho2, rfl, rfl, hz2, hr2⟩)
      · by_cases hw : ws.isEmpty = true
        · refine concat_meets ⟨_, ho, rfl⟩ ⟨_, ho2, rfl⟩ noFill_tuple_add seq_tuple_add PySem.F.slot_tuple_add PySem.F.entry_tuple_add (PySem.F.args_tuple_add_2 _ _)
            (tuple_addW1 a1 a2 vs ws n n2 dd dd2 sl sl2 hv hw) ⟨ho, ho2, ?_⟩
          have : l2 = [] := by
            have : l2.length = 0 := by rw [← z2]; simpa using hw
            exact List.length_eq_zero_iff.mp this
          subst this
          exact Out.same' S (by simp only [Rep, List.append_nil]; exact ⟨a1, _, vs, n, rfl, ha1, ho, rfl, rfl, hz1, hr⟩)
        · refine concat_meets ⟨_, ho, rfl⟩ ⟨_, ho2, rfl⟩ noFill_tuple_add seq_tuple_add PySem.F.slot_tuple_add PySem.F.entry_tuple_add (PySem.F.args_tuple_add_2 _ _)
            (tuple_addW2 a1 a2 vs ws n n2 dd dd2 sl sl2 hv hw (by omega)) ⟨ho, ho2, ?_⟩
          exact out_newTuple S (by simpa using hr.append hr2) (by simpa using hz)
    · cases e
  · split at e
    · split at e
      · cases e
        rename_i x1 x2 e1 e2 hz
        obtain ⟨a1, ⟨cls, dd, data, sl⟩, vs, n, rfl, ha1, ho, hc, hd, hr, hz1, z1, _⟩ := S.get R1 e1
        obtain ⟨a2, ⟨cls2, dd2, data2, sl2⟩, ws, n2, rfl, ha2, ho2, hc2, hd2, hr2, hz2, z2, _⟩ := S.get R2 e2
        simp only at hc hd hc2 hd2
        subst hc hd hc2 hd2
        refine concat_meets ⟨_, ho, rfl⟩ ⟨_, ho2, rfl⟩ noFill_list_add seq_list_add PySem.F.slot_list_add PySem.F.entry_list_add (PySem.F.args_list_add_2 _ _) (list_addW a1 a2 vs ws n n2 dd dd2 sl sl2 (by omega)) ⟨ho, ho2, ?_⟩
        exact out_newList' S (by simpa using hr.append hr2) (by simpa using hz)
      · cases e
    · cases e
  · split at e
    · split at e
      · cases e
        simp only [Rep] at R2
        obtain ⟨t2, rfl⟩ := R2
        rename_i nn _ x1 e1 hz
        obtain ⟨a1, ⟨cls, dd, data, sl⟩, vs, n, rfl, ha1, ho, hc, hd, hr, hz1, z1, _⟩ := S.get R1 e1
        simp only at hc hd
        subst hc hd
        have hsz' : vs.size * nn.toNat ≤ 2 ^ 24 := by rw [z1, Nat.mul_comm]; exact hz.2.2
        refine wpAny_binaryOp_repeat_ref (T := "list") (U := "int") (by decide) ⟨_, ho, rfl⟩ (fun s' => typeIs_int s' nn t2) noFill_list_mul F.fills_int_mul F.slot_int_rmul repeat_list F.slot_int_index.lookup
          (call_meets F.slot_int_rmul (typeIs_int s nn t2) F.entry_int_rmul (F.args_int_rmul_2 _ _) (lm_int_rmul_list_any nn t2 a1 vs n dd sl)
            ⟨ho, rfl, ⟨_, ho, rfl⟩, call_meets F.slot_list_mul ⟨_, ho, rfl⟩ F.entry_list_mul (F.args_list_mul_2 _ _)
              (lm_list_mul_any a1 vs n dd sl nn t2 (by simp [Builtin.List.listFitsIndex]; omega) (by omega) (by simp [Builtin.List.listTooLong, sizeLine]; omega))
              ⟨ho, ?_⟩⟩)
        refine out_newList' S ?_ (by rw [rep_length]; exact hz.2.2)
        rw [foldl_rep]
        split
        · rename_i hem
          have h0 : x1 = [] := by
            have : x1.length = 0 := by rw [← z1]; simpa using hem
            exact List.length_eq_zero_iff.mp this
          subst h0
          have : ∀ k, rep ([] : List V) k = [] := fun k => List.length_eq_zero_iff.mp (by rw [rep_length]; simp)
          rw [this]; simp [rep, RepL]
        · simpa using hr.rep nn.toNat
      · cases e
    · cases e
  · cases e
  · cases e
  · cases e
end
end Bn
namespace Bn
open PySem PyProof.Rows
def Cm.real : Cm → CmpOp
  | .lt => .Lt | .le => .LtE | .gt => .Gt | .ge => .GtE | .eq => .Eq | .ne => .NotEq | .isIn => .In | .notIn => .NotIn | .is => .Is | .isNot => .IsNot
section
variable {c : Cx} {A : Around} {q : Bool} {d : Nat} {φ : List Addr} {H H' : Hp} {s : Shared}
theorem mapM_nil {α β : Type} {f : α → Option β} : List.mapM f [] = some [] := rfl
theorem mapM_cons {α β : Type} {f : α → Option β} {x : α} {xs : List α} {r : List β} (h : List.mapM f (x :: xs) = some r) : ∃ y ys, f x = some y ∧ List.mapM f xs = some ys ∧ r = y :: ys := by
  rw [List.mapM_cons] at h
  cases hx : f x with
  | none => rw [hx] at h; cases h
  | some y =>
    rw [hx] at h
    cases hs : List.mapM f xs with
    | none => rw [hs] at h; cases h
    | some ys => rw [hs] at h; cases h; exact ⟨y, ys, rfl, rfl, rfl⟩
theorem readsAll_of {f : V → Option PyData} {h : Heap} {n : Nat} (hf : ∀ v p r, f v = some p → Rep c φ h v r → (∃ as, Reads h r p as) ∧ p.depth ≤ n) :
    ∀ {xs : List V} {rs : List Value} {ps : List PyData}, List.mapM f xs = some ps → RepL c φ h xs rs → (∃ as, ReadsAll h rs ps as) ∧ PyData.depthAll ps ≤ n
  | [], [], ps, e, _ => by rw [mapM_nil] at e; cases e; exact ⟨⟨_, .nil⟩, by simp [PyData.depthAll]⟩
  | [], _ :: _, _, _, h => by simp only [RepL] at h
  | _ :: _, [], _, _, h => by simp only [RepL] at h
  | x :: xs, r :: rs, ps, e, h => by
    obtain ⟨y, ys, h1, h2, rfl⟩ := mapM_cons e
    simp only [RepL] at h
    obtain ⟨⟨as, ra⟩, da⟩ := hf x y r h1 h.1
    obtain ⟨⟨bs, rb⟩, db⟩ := readsAll_of hf h2 h.2
    exact ⟨⟨_, .cons ra rb⟩, by rw [PyData.depthAll]; omega⟩
theorem reads_of (S : Sim c φ H s) : ∀ (n : Nat) (v : V) (p : PyData) (r : Value), toP n H v = some p → Rep c φ s.heap v r → (∃ as, Reads s.heap r p as) ∧ p.depth ≤ n := by
  intro n
  induction n with
  | zero =>
    intro v p r e R
    cases v <;> simp only [toP] at e <;> first
      | (cases e; done)
      | (cases e; simp only [Rep] at R; subst R; exact ⟨⟨_, by constructor⟩, by simp [PyData.depth]⟩)
      | (cases e; simp only [Rep] at R; obtain ⟨t, rfl⟩ := R; exact ⟨⟨_, by constructor⟩, by simp [PyData.depth]⟩)
  | succ n ih =>
    intro v p r e R
    cases v with
    | tup l =>
      simp only [toP] at e
      obtain ⟨ps, e1, rfl⟩ := Option.map_eq_some_iff.mp e
      simp only [Rep] at R
      obtain ⟨a, o, vs, m, rfl, _, ho, hc, hd, _, hl⟩ := R
      obtain ⟨⟨as, ra⟩, da⟩ := readsAll_of ih e1 hl
      exact ⟨⟨_, .tuple ho hc hd ra⟩, by rw [PyData.depth]; omega⟩
    | lst i =>
      simp only [toP] at e
      obtain ⟨ps, e1, rfl⟩ := Option.map_eq_some_iff.mp e
      obtain ⟨xs, e2, e3⟩ := Option.bind_eq_some_iff.mp e1
      obtain ⟨a, o, vs, m, rfl, _, ho, hc, hd, hl, _⟩ := S.get R e2
      obtain ⟨⟨as, ra⟩, da⟩ := readsAll_of ih e3 hl
      exact ⟨⟨_, .list ho hc hd ra⟩, by rw [PyData.depth]; omega⟩
    | _ =>
      simp only [toP] at e
      first
        | (cases e; done)
        | (cases e; simp only [Rep] at R; subst R; exact ⟨⟨_, by constructor⟩, by simp [PyData.depth]⟩)
        | (cases e; simp only [Rep] at R; obtain ⟨t, rfl⟩ := R; exact ⟨⟨_, by constructor⟩, by simp [PyData.depth]⟩)
theorem eqAt_V (hu : A.units + 100 < cLine) (S : Sim c φ H s) {v w : V} {x y : Value} {b : Bool} (R1 : Rep c φ s.heap v x) (R2 : Rep c φ s.heap w y) (e : eqV H v w = some b) : SeqAt.EqAt A s x y b := by
  have key : ∀ {p p' : PyData}, toP 9 H v = some p → toP 9 H w = some p' → p.canLay0 = true → p'.canLay0 = true → b = PyData.eqv p p' → SeqAt.EqAt A s x y b := by
    rintro p p' e1 e2 h1 h2 rfl
    obtain ⟨⟨as, ra⟩, da⟩ := reads_of S 9 v p x e1 R1
    obtain ⟨⟨bs, rb⟩, db⟩ := reads_of S 9 w p' y e2 R2
    exact SeqAt.eqAt_reads p p' A s x y as bs ra rb h1 h2 (by omega)
  unfold eqV at e
  split at e
  · cases e
    simp only [Rep] at R1 R2
    obtain ⟨t1, rfl⟩ := R1; obtain ⟨t2, rfl⟩ := R2
    exact SeqAt.EqAt.int_int _ _ _ _
  · cases e
    simp only [Rep] at R1 R2
    obtain ⟨t1, rfl⟩ := R1; obtain ⟨t2, rfl⟩ := R2
    exact SeqAt.EqAt.str_str _ _ _ _
  · split at e
    · split at e
      · cases e
        rename_i h
        rw [Bool.and_eq_true] at h
        exact key ‹_› ‹_› h.1 h.2 rfl
      · cases e
    · cases e
theorem do_eq (hu : A.units + 100 < cLine) (S : Sim c φ H s) {v w : V} {x y : Value} {b : Bool} (R1 : Rep c φ s.heap v x) (R2 : Rep c φ s.heap w y) (e : eqV H v w = some b) {Q : Value → Shared → Prop} {E : Value → Shared → Prop} (hq : Q (.bool b) s) :
    wpAny (model c.prog c.w) A (compareOp .Eq x y) Q E s := by
  unfold eqV at e
  split at e
  · cases e
    simp only [Rep] at R1 R2
    obtain ⟨t1, rfl⟩ := R1; obtain ⟨t2, rfl⟩ := R2
    exact PyProof.Rows.eq_int hq
  · cases e
    simp only [Rep] at R1 R2
    obtain ⟨t1, rfl⟩ := R1; obtain ⟨t2, rfl⟩ := R2
    rename_i a b
    refine P.eq_str ?_
    have : (a.cps.toList == b.cps.toList) = decide (a = b) := by
      rw [Bool.eq_iff_iff, beq_iff_eq, decide_eq_true_eq]
      obtain ⟨⟨l⟩⟩ := a; obtain ⟨⟨l'⟩⟩ := b
      simp
    rw [this]; exact hq
  · split at e
    · split at e
      · cases e
        rename_i p p' e1 e2 h
        rw [Bool.and_eq_true] at h
        obtain ⟨⟨as, ra⟩, da⟩ := reads_of S 9 v p x e1 R1
        obtain ⟨⟨bs, rb⟩, db⟩ := reads_of S 9 w p' y e2 R2
        exact SeqAt.compareEq_reads ra rb h.1 h.2 (by omega) hq
      · cases e
    · cases e
theorem do_ne (hu : A.units + 100 < cLine) (S : Sim c φ H s) {v w : V} {x y : Value} {b : Bool} (R1 : Rep c φ s.heap v x) (R2 : Rep c φ s.heap w y) (e : eqV H v w = some b) {Q : Value → Shared → Prop} {E : Value → Shared → Prop} (hq : Q (.bool !b) s) :
    wpAny (model c.prog c.w) A (compareOp .NotEq x y) Q E s := by
  unfold eqV at e
  split at e
  · cases e
    simp only [Rep] at R1 R2
    obtain ⟨t1, rfl⟩ := R1; obtain ⟨t2, rfl⟩ := R2
    exact PyProof.Rows.ne_int hq
  · cases e
    simp only [Rep] at R1 R2
    obtain ⟨t1, rfl⟩ := R1; obtain ⟨t2, rfl⟩ := R2
    rename_i a b
    refine P.ne_str ?_
    have : (a.cps.toList != b.cps.toList) = !decide (a = b) := by
      have : (a.cps.toList == b.cps.toList) = decide (a = b) := by
        rw [Bool.eq_iff_iff, beq_iff_eq, decide_eq_true_eq]
        obtain ⟨⟨l⟩⟩ := a; obtain ⟨⟨l'⟩⟩ := b
        simp
      simp only [bne, this]
    rw [this]; exact hq
  · split at e
    · split at e
      · cases e
        rename_i p p' e1 e2 h
        rw [Bool.and_eq_true] at h
        obtain ⟨⟨as, ra⟩, da⟩ := reads_of S 9 v p x e1 R1
        obtain ⟨⟨bs, rb⟩, db⟩ := reads_of S 9 w p' y e2 R2
        exact SeqAt.compareNe_reads ra rb h.1 h.2 (by omega) hq
      · cases e
    · cases e
theorem intsV_rep {h : Heap} : ∀ {xs : List V} {rs : List Value} {l : List Int}, RepL c φ h xs rs → intsV xs = some l → IntsAre rs l
  | [], [], l, _, e => by simp only [intsV] at e; cases e; exact .nil
  | [], _ :: _, _, h, _ => by simp only [RepL] at h
  | _ :: _, [], _, h, _ => by simp only [RepL] at h
  | x :: xs, r :: rs, l, h, e => by
    simp only [RepL] at h
    cases x <;> simp only [intsV] at e <;> try (cases e; done)
    obtain ⟨l', e', rfl⟩ := Option.map_eq_some_iff.mp e
    simp only [Rep] at h
    obtain ⟨⟨t, rfl⟩, h2⟩ := h
    exact .cons _ _ (intsV_rep h2 e')
theorem strsV_rep {h : Heap} : ∀ {xs : List V} {rs : List Value} {l : List Str}, RepL c φ h xs rs → strsV xs = some l → StrsAre rs l
  | [], [], l, _, e => by simp only [strsV] at e; cases e; exact .nil
  | [], _ :: _, _, h, _ => by simp only [RepL] at h
  | _ :: _, [], _, h, _ => by simp only [RepL] at h
  | x :: xs, r :: rs, l, h, e => by
    simp only [RepL] at h
    cases x <;> simp only [strsV] at e <;> try (cases e; done)
    obtain ⟨l', e', rfl⟩ := Option.map_eq_some_iff.mp e
    simp only [Rep] at h
    obtain ⟨⟨t, rfl⟩, h2⟩ := h
    exact .cons _ _ (strsV_rep h2 e')
theorem boolsV_rep {h : Heap} : ∀ {xs : List V} {rs : List Value} {l : List Bool}, RepL c φ h xs rs → boolsV xs = some l → rs = l.map Value.bool
  | [], [], l, _, e => by simp only [boolsV] at e; cases e; rfl
  | [], _ :: _, _, h, _ => by simp only [RepL] at h
  | _ :: _, [], _, h, _ => by simp only [RepL] at h
  | x :: xs, r :: rs, l, h, e => by
    simp only [RepL] at h
    cases x <;> simp only [boolsV] at e <;> try (cases e; done)
    obtain ⟨l', e', rfl⟩ := Option.map_eq_some_iff.mp e
    simp only [Rep] at h
    obtain ⟨rfl, h2⟩ := h
    rw [boolsV_rep h2 e']; rfl
def isK (k : Int) : Value → Bool
  | .int i _ => i == k
  | _ => false
def isS (k : Str) : Value → Bool
  | .str i _ => i == k
  | _ => false
theorem isK_any {k : Int} : ∀ {rs : List Value} {l : List Int}, IntsAre rs l → rs.any (isK k) = decide (k ∈ l)
  | _, _, .nil => rfl
  | _, _, .cons n t h => by
    rw [List.any_cons, isK_any h]
    rw [Bool.eq_iff_iff]; simp only [isK, Bool.or_eq_true, beq_iff_eq, decide_eq_true_eq, List.mem_cons]
    exact ⟨fun h => h.imp Eq.symm id, fun h => h.imp Eq.symm id⟩
theorem isS_any {k : Str} : ∀ {rs : List Value} {l : List Str}, StrsAre rs l → rs.any (isS k) = decide (k ∈ l)
  | _, _, .nil => rfl
  | _, _, .cons n t h => by
    rw [List.any_cons, isS_any h]
    rw [Bool.eq_iff_iff]; simp only [isS, Bool.or_eq_true, beq_iff_eq, decide_eq_true_eq, List.mem_cons]
    exact ⟨fun h => h.imp Eq.symm id, fun h => h.imp Eq.symm id⟩
theorem ints_mem {rs : List Value} {l : List Int} (h : IntsAre rs l) : ∀ r ∈ rs, ∃ i t, r = .int i t := by
  induction h with
  | nil => intro r hr; cases hr
  | cons n t h ih =>
    intro r hr
    rcases List.mem_cons.mp hr with rfl | hr
    · exact ⟨n, t, rfl⟩
    · exact ih r hr
theorem strs_mem {rs : List Value} {l : List Str} (h : StrsAre rs l) : ∀ r ∈ rs, ∃ i t, r = .str i t := by
  induction h with
  | nil => intro r hr; cases hr
  | cons n t h ih =>
    intro r hr
    rcases List.mem_cons.mp hr with rfl | hr
    · exact ⟨n, t, rfl⟩
    · exact ih r hr
theorem do_cmp (hu : A.units + 100 < cLine) (S : Sim c φ H s) {o : Cm} {v w : V} {x y : Value} {b : Bool} (R1 : Rep c φ s.heap v x) (R2 : Rep c φ s.heap w y)
    (e : cmpV H o v w = some b) {Q : Value → Shared → Prop} {E : Value → Shared → Prop} (hq : Q (.bool b) s) : wpAny (model c.prog c.w) A (compareOp o.real x y) Q E s := by
  unfold cmpV at e
  split at e
  · cases e
    simp only [Rep] at R1 R2
    obtain ⟨t1, rfl⟩ := R1; obtain ⟨t2, rfl⟩ := R2
    exact PyProof.Rows.lt_int hq
  · cases e
    simp only [Rep] at R1 R2
    obtain ⟨t1, rfl⟩ := R1; obtain ⟨t2, rfl⟩ := R2
    exact PyProof.Rows.le_int hq
  · cases e
    simp only [Rep] at R1 R2
    obtain ⟨t1, rfl⟩ := R1; obtain ⟨t2, rfl⟩ := R2
    exact PyProof.Rows.gt_int hq
  · cases e
    simp only [Rep] at R1 R2
    obtain ⟨t1, rfl⟩ := R1; obtain ⟨t2, rfl⟩ := R2
    exact PyProof.Rows.ge_int hq
  · exact do_eq hu S R1 R2 e hq
  · obtain ⟨b', e', rfl⟩ := Option.map_eq_some_iff.mp e
    exact do_ne hu S R1 R2 e' hq
  · split at e
    · cases e
      rename_i xx tt _ k hk
      simp only [Rep] at R1 R2
      obtain ⟨t1, rfl⟩ := R1; obtain ⟨t2, rfl⟩ := R2
      have : xx = ⟨#[k]⟩ := by
        obtain ⟨⟨l⟩⟩ := xx
        simp at hk; subst hk; rfl
      subst this
      refine P.in_str ?_
      rw [StrLaws.found_one]; exact hq
    · cases e
  · rename_i kk bb
    obtain ⟨l, e', rfl⟩ := Option.map_eq_some_iff.mp e
    obtain ⟨xs, e1, e2⟩ := Option.bind_eq_some_iff.mp e'
    obtain ⟨a, o, vs, n, rfl, _, ho, hc, hd, hr, _, _, hL⟩ := S.get R2 e1
    simp only [Rep] at R1
    obtain ⟨t1, rfl⟩ := R1
    have hi := intsV_rep hr e2
    refine SeqAt.in_listAt (isK kk) hL (fun r hr' => ?_) ?_
    · obtain ⟨i, t, rfl⟩ := ints_mem hi r (Array.mem_toList_iff.mpr hr')
      exact SeqAt.EqAt.int_int _ _ _ _
    · rw [← Array.any_toList, isK_any hi]; exact hq
  · rename_i kk bb
    obtain ⟨l, e', rfl⟩ := Option.map_eq_some_iff.mp e
    simp only [Rep] at R1 R2
    obtain ⟨t1, rfl⟩ := R1
    obtain ⟨a, o, vs, n, rfl, _, ho, hc, hd, _, hr⟩ := R2
    have hi := strsV_rep hr e'
    refine SeqAt.in_tupleAt (isS kk) ⟨o, ho, hc, n, hd⟩ (fun r hr' => ?_) ?_
    · obtain ⟨i, t, rfl⟩ := strs_mem hi r (Array.mem_toList_iff.mpr hr')
      exact SeqAt.EqAt.str_str _ _ _ _
    · rw [← Array.any_toList, isS_any hi]; exact hq
  · rename_i kk bb
    obtain ⟨l, e', rfl⟩ := Option.map_eq_some_iff.mp e
    obtain ⟨xs, e1, e2⟩ := Option.bind_eq_some_iff.mp e'
    obtain ⟨a, o, vs, n, rfl, _, ho, hc, hd, hr, _, _, hL⟩ := S.get R2 e1
    simp only [Rep] at R1
    obtain ⟨t1, rfl⟩ := R1
    have hi := intsV_rep hr e2
    refine SeqAt.notIn_listAt (isK kk) hL (fun r hr' => ?_) ?_
    · obtain ⟨i, t, rfl⟩ := ints_mem hi r (Array.mem_toList_iff.mpr hr')
      exact SeqAt.EqAt.int_int _ _ _ _
    · rw [← Array.any_toList, isK_any hi]; exact hq
  · rename_i kk bb
    obtain ⟨l, e', rfl⟩ := Option.map_eq_some_iff.mp e
    simp only [Rep] at R1 R2
    obtain ⟨t1, rfl⟩ := R1
    obtain ⟨a, o, vs, n, rfl, _, ho, hc, hd, _, hr⟩ := R2
    have hi := strsV_rep hr e'
    refine SeqAt.notIn_tupleAt (isS kk) ⟨o, ho, hc, n, hd⟩ (fun r hr' => ?_) ?_
    · obtain ⟨i, t, rfl⟩ := strs_mem hi r (Array.mem_toList_iff.mpr hr')
      exact SeqAt.EqAt.str_str _ _ _ _
    · rw [← Array.any_toList, isS_any hi]; exact hq
  all_goals first
    | (cases e; done)
    | (cases e; simp only [Rep] at R1 R2; subst R1 R2; exact wpAny_is_self rfl hq)
    | (cases e; simp only [Rep] at R1 R2; subst R2; first | (subst R1; exact wpAny_is_other rfl (by intro h; cases h) hq) | (obtain ⟨t1, rfl⟩ := R1; exact wpAny_is_other rfl (by intro h; cases h) hq) | (obtain ⟨a1, rfl, _⟩ := R1; exact wpAny_is_other rfl (by intro h; cases h) hq) | (obtain ⟨a1, _, _, _, rfl, _⟩ := R1; exact wpAny_is_other rfl (by intro h; cases h) hq))
end
end Bn
namespace Bn
open PySem PyProof.Rows
theorem sub_ops (slice : Expr) (o i : Value) : ∃ ops, subscripted slice false o i = operate ops (getItem o i) := by
  cases slice with
  | Slice l u st p => cases st <;> exact ⟨_, rfl⟩
  | _ => exact ⟨_, rfl⟩
section
variable {c : Cx} {A : Around} {q : Bool} {d : Nat} {φ : List Addr} {H H' : Hp} {s : Shared}
theorem IntsL.get : ∀ {l : List Int} {rs : List Value}, IntsL l rs → ∀ {i : Nat} {v : Int}, l[i]? = some v → ∃ t, rs[i]? = some (.int v t)
  | [], [], _, _, _, e => by simp at e
  | [], _ :: _, h, _, _, _ => by simp only [IntsL] at h
  | _ :: _, [], h, _, _, _ => by simp only [IntsL] at h
  | x :: xs, r :: rs, h, 0, v, e => by
    simp only [IntsL] at h; simp at e; subst e; obtain ⟨⟨t, rfl⟩, _⟩ := h; exact ⟨t, by simp⟩
  | x :: xs, r :: rs, h, i + 1, v, e => by
    simp only [IntsL] at h; simp at e ⊢; exact IntsL.get h.2 e
theorem IntsL.length : ∀ {l : List Int} {rs : List Value}, IntsL l rs → rs.length = l.length
  | [], [], _ => rfl
  | [], _ :: _, h => by simp only [IntsL] at h
  | _ :: _, [], h => by simp only [IntsL] at h
  | _ :: xs, _ :: rs, h => by simp only [IntsL] at h; simp [IntsL.length h.2]
theorem ix_spec {i : Int} {n j : Nat} (h : ix i n = some j) : j < n ∧ ((0 ≤ i ∧ i.toNat = j) ∨ (i < 0 ∧ -(n : Int) ≤ i ∧ (i + n).toNat = j)) ∧ seqIndex? i n = some j := by
  unfold ix at h
  split at h
  · split at h
    · cases h
      refine ⟨by omega, .inl ⟨by omega, rfl⟩, ?_⟩
      unfold seqIndex?
      simp only [show ¬ i < 0 by omega, if_false]
      rw [if_pos (by simp; omega)]
    · cases h
  · split at h
    · cases h
      refine ⟨by omega, .inr ⟨by omega, by omega, rfl⟩, ?_⟩
      unfold seqIndex?
      simp only [show i < 0 by omega, if_true]
      rw [if_pos (by simp; omega)]
    · cases h
theorem item_list_any {value slice : Expr} {l : Addr} {items : Array Value} {k : Int} {t : Tok} {x : Value} {Q : Value → Shared → Prop} {E : Value → Shared → Prop} {j : Nat} (hl : s.heap.IsList l items) (hj : ix k items.size = some j)
    (hz : items.size ≤ 2 ^ 40) (hx : items[j]? = some x) (h : Q x s) : wpAny (model c.prog c.w) A (subscriptTail value slice (.ref l) (.int k t)) Q E s := by
  obtain ⟨h1, h2, _⟩ := ix_spec hj
  obtain ⟨ops, hops⟩ := sub_ops slice (.ref l) (.int k t)
  refine tail_any hl.typeIs slot_list_getitem.lookup ?_ hops
  rcases h2 with ⟨h3, rfl⟩ | ⟨h3, h4, rfl⟩
  · exact wpAny_getItem_list hl h3 (by omega) hx h
  · exact wpAny_getItem_list_neg hl h3 h4 (by omega) hx h
theorem do_idx (S : Sim c φ H s) {value slice : Expr} {v w u : V} {x y : Value} (R1 : Rep c φ s.heap v x) (R2 : Rep c φ s.heap w y)
    (e : idxV H v w = some u) : Does c A φ s (subscriptTail value slice x y) u H := by
  intro E
  have hsl : sizeLine = 2 ^ 24 := rfl
  unfold idxV at e
  split at e
  · rename_i st i
    split at e
    case isFalse => cases e
    rename_i hz
    obtain ⟨j, e1, e2⟩ := Option.bind_eq_some_iff.mp e
    obtain ⟨h1, h2, h3⟩ := ix_spec e1
    unfold strAt at e2
    obtain ⟨cc, e3, rfl⟩ := Option.map_eq_some_iff.mp e2
    simp only [Rep] at R1 R2
    obtain ⟨t1, rfl⟩ := R1; obtain ⟨t2, rfl⟩ := R2
    obtain ⟨ops, hops⟩ := sub_ops slice (.str st t1) (.int i t2)
    refine tail_any (typeIs_str s st t1) F.slot_str_getitem.lookup (P.getItem_str (c := cc) (by simp; omega) ?_ (Out.same S (by simp [Rep]))) hops
    show (seqIndex? i st.cps.size).bind _ = _
    rw [h3]; exact e3
  · rename_i i _
    obtain ⟨xs, e1, e2⟩ := Option.bind_eq_some_iff.mp e
    obtain ⟨j, e3, e4⟩ := Option.bind_eq_some_iff.mp e2
    simp only [Rep] at R2
    obtain ⟨t2, rfl⟩ := R2
    unfold itemsV at e1
    split at e1
    · obtain ⟨a, o, vs, n, rfl, _, ho, hc, hd, hr, hz, z, hL⟩ := S.get R1 e1
      obtain ⟨r, hr1, hr2⟩ := hr.get e4
      exact item_list_any hL (by rw [z]; exact e3) (by omega) (by rw [← Array.getElem?_toList]; exact hr1) (Out.same' S hr2)
    · cases e1
      simp only [Rep] at R1
      obtain ⟨a, o, vs, n, rfl, _, ho, hc, hd, hz, hr⟩ := R1
      have z : vs.size = xs.length := by rw [← Array.length_toList, hr.length]
      obtain ⟨r, hr1, hr2⟩ := hr.get e4
      obtain ⟨h1, h2, h3⟩ := ix_spec e3
      obtain ⟨ops, hops⟩ := sub_ops slice (.ref a) (.int i t2)
      have hT : IsTup s.heap a vs := ⟨o, ho, hc, n, hd⟩
      exact tail_any hT.typeIs slot_tuple_getitem.lookup (getItem_tuple hT (by omega) (by omega) (by rw [z]; exact h3) (by rw [← Array.getElem?_toList]; exact hr1) (Out.same' S hr2)) hops
    · cases e1
      simp only [Rep] at R1
      obtain ⟨a, o, vs, n, rfl, _, _, ho, hc, hd, hz, hr⟩ := R1
      have z := hr.length
      rw [Array.length_toList] at z
      rw [List.getElem?_map] at e4
      obtain ⟨k, e5, rfl⟩ := Option.map_eq_some_iff.mp e4
      obtain ⟨t, hr1⟩ := hr.get e5
      rw [List.length_map] at e3
      exact item_list_any ⟨o, ho, hc, n, hd⟩ (by rw [z]; exact e3) (by omega) (by rw [← Array.getElem?_toList]; exact hr1) (Out.same' S (by simp [Rep]))
    · cases e1
  · cases e
end
end Bn
namespace Bn
open PySem PySem.W PyProof.Rows
def kRun (ans : Nat → Nat → Bool) {α : Type} : KasT α → α
  | .ret a => a
  | .ask i j k => kRun ans (k (ans i j))
theorem kRun_bind {ans : Nat → Nat → Bool} {α β : Type} {f : α → KasT β} : ∀ t : KasT α, kRun ans (t.bind f) = kRun ans (f (kRun ans t))
  | .ret _ => rfl
  | .ask i j k => kRun_bind (k (ans i j))
theorem kRun_wp {ans : Nat → Nat → Bool} {cmp : Nat → Nat → (Bool → Shared → Prop) → Shared → Prop} {s : Shared} (hc : ∀ i j C, C (ans i j) s → cmp i j C s) {α : Type} {Q : α → Shared → Prop} : ∀ t : KasT α, Q (kRun ans t) s → t.kasWp cmp Q s
  | .ret _, h => h
  | .ask i j k, h => hc i j _ (kRun_wp hc (k (ans i j)) h)
section
variable {key : Nat → Int} {N : Nat}
def ltK (key : Nat → Int) (i j : Nat) : Bool := decide (key i < key j)
def ge0 (p : Array Nat) (i : Nat) : Nat := p.getD i 0
theorem ge0_def (p : Array Nat) (i : Nat) : p.getD i 0 = ge0 p i := rfl
theorem ge0_opt (p : Array Nat) (i : Nat) : ge0 p i = (p[i]?).getD 0 := by
  unfold ge0; rw [Array.getD_eq_getD_getElem?]
def PermOf (N : Nat) (p : Array Nat) : Prop := p.toList.Perm (List.range N)
theorem PermOf.size {p : Array Nat} (h : PermOf N p) : p.size = N := by
  have := List.Perm.length_eq h
  simpa using this
theorem PermOf.ne {p : Array Nat} (h : PermOf N p) (hk : ∀ i j, i < N → j < N → key i = key j → i = j) {i j : Nat} (hi : i < N) (hj : j < N) (hij : i ≠ j) : key (ge0 p i) ≠ key (ge0 p j) := by
  have hs := h.size
  have hn : p.toList.Nodup := h.nodup_iff.mpr List.nodup_range
  have e : ∀ x, x < N → ge0 p x ∈ p.toList := fun x hx => by
    rw [ge0_opt, Array.getElem?_eq_getElem (by omega)]; simp
  have lt : ∀ x, x < N → ge0 p x < N := fun x hx => by simpa using h.mem_iff.mp (e x hx)
  intro hc
  have := hk _ _ (lt i hi) (lt j hj) hc
  rw [ge0_opt, ge0_opt, Array.getElem?_eq_getElem (by omega), Array.getElem?_eq_getElem (by omega)] at this
  simp only [Option.getD_some] at this
  have h2 : p.toList[i]'(by simp; omega) = p.toList[j]'(by simp; omega) := by simpa using this
  exact hij ((List.getElem_inj hn).mp h2)
def Up (key : Nat → Int) (p : Array Nat) (m : Nat) : Prop := ∀ i j, i < j → j < m → key (ge0 p i) < key (ge0 p j)
def Down (key : Nat → Int) (p : Array Nat) (m : Nat) : Prop := ∀ i j, i < j → j < m → key (ge0 p j) < key (ge0 p i)
theorem Up.succ {p : Array Nat} {m : Nat} (h : Up key p m) (h1 : 1 ≤ m) (hl : key (ge0 p (m - 1)) < key (ge0 p m)) : Up key p (m + 1) := by
  intro i j hij hj
  by_cases e : j = m
  · subst e
    by_cases e' : i = j - 1
    · rw [e']; exact hl
    · have := h i (j - 1) (by omega) (by omega)
      omega
  · exact h i j hij (by omega)
theorem Down.succ {p : Array Nat} {m : Nat} (h : Down key p m) (h1 : 1 ≤ m) (hl : key (ge0 p m) < key (ge0 p (m - 1))) : Down key p (m + 1) := by
  intro i j hij hj
  by_cases e : j = m
  · subst e
    by_cases e' : i = j - 1
    · rw [e']; exact hl
    · have := h i (j - 1) (by omega) (by omega)
      omega
  · exact h i j hij (by omega)
theorem asc_run {p : Array Nat} (hp : PermOf N p) (hk : ∀ i j, i < N → j < N → key i = key j → i = j) : ∀ (f n : Nat), 1 ≤ n → n + f ≤ N → Up key p n → ∃ m, kRun (ltK key) (kas_asc p f n) = m ∧ n ≤ m ∧ m ≤ n + f ∧ Up key p m ∧ (m = n + f ∨ key (ge0 p m) < key (ge0 p (m - 1)))
  | 0, n, _, _, hu => ⟨n, rfl, Nat.le_refl _, Nat.le_refl _, hu, .inl rfl⟩
  | f + 1, n, h1, hn, hu => by
    have e : kRun (ltK key) (kas_asc p (f + 1) n) = kRun (ltK key) (if ltK key (ge0 p n) (ge0 p (n - 1)) = true then .ret n else kas_asc p f (n + 1)) := rfl
    rw [e]
    by_cases hl : key (ge0 p n) < key (ge0 p (n - 1))
    · rw [if_pos (by simp [ltK, hl])]
      exact ⟨n, rfl, Nat.le_refl _, by omega, hu, .inr hl⟩
    · rw [if_neg (by simp [ltK]; omega)]
      have hne := hp.ne hk (i := n) (j := n - 1) (by omega) (by omega) (by omega)
      obtain ⟨m, a1, a2, a3, a4, a5⟩ := asc_run hp hk f (n + 1) (by omega) (by omega) (hu.succ h1 (by omega))
      exact ⟨m, a1, by omega, by omega, a4, by rcases a5 with h | h; exact .inl (by omega); exact .inr h⟩
theorem desc_run {p : Array Nat} (hp : PermOf N p) (hk : ∀ i j, i < N → j < N → key i = key j → i = j) : ∀ (f n : Nat), 1 ≤ n → n + f ≤ N → Down key p n → ∃ m, kRun (ltK key) (kas_desc f p n 0) = (p, m, 0) ∧ n ≤ m ∧ m ≤ n + f ∧ Down key p m
  | 0, n, _, _, hu => ⟨n, rfl, Nat.le_refl _, Nat.le_refl _, hu⟩
  | f + 1, n, h1, hn, hu => by
    have e : kRun (ltK key) (kas_desc (f + 1) p n 0) = kRun (ltK key) (if ltK key (ge0 p n) (ge0 p (n - 1)) = true then kas_desc f p (n + 1) 0 else
      .ask (ge0 p (n - 1)) (ge0 p n) fun d => if d = true then .ret (p, n, 0) else kas_desc f p (n + 1) 1) := rfl
    rw [e]
    by_cases hl : key (ge0 p n) < key (ge0 p (n - 1))
    · rw [if_pos (by simp [ltK, hl])]
      obtain ⟨m, a1, a2, a3, a4⟩ := desc_run hp hk f (n + 1) (by omega) (by omega) (hu.succ h1 hl)
      exact ⟨m, a1, by omega, by omega, a4⟩
    · rw [if_neg (by simp [ltK]; omega)]
      have hne := hp.ne hk (i := n) (j := n - 1) (by omega) (by omega) (by omega)
      refine ⟨n, ?_, Nat.le_refl _, by omega, hu⟩
      show kRun (ltK key) (if ltK key (ge0 p (n - 1)) (ge0 p n) = true then .ret (p, n, 0) else kas_desc f p (n + 1) 1) = _
      rw [if_pos (by simp [ltK]; omega)]
      rfl
theorem PermOf.rev {p : Array Nat} (hp : PermOf N p) (i j : Nat) : PermOf N (kas_rev p i j) := by
  unfold PermOf kas_rev
  exact (Array.perm_iff_toList_perm.mp (mirror_perm p i j _)).trans hp
theorem PermOf.bub {p : Array Nat} (hp : PermOf N p) (i j : Nat) : PermOf N (bubble p i j) :=
  (Array.perm_iff_toList_perm.mp (bubble_perm p i j)).trans hp
theorem rev_at {p : Array Nat} {n : Nat} (h : n ≤ p.size) (k : Nat) : ge0 (kas_rev p 0 n) k = if k < n then ge0 p (n - 1 - k) else ge0 p k := by
  rw [ge0_opt, ge0_opt, ge0_opt]
  unfold kas_rev
  rw [getElem?_mirror_all h]
  simp only [Nat.zero_le, true_and]
  split
  · congr 2; omega
  · rfl
theorem Down.rev {p : Array Nat} {n : Nat} (h : Down key p n) (hn : n ≤ p.size) : Up key (kas_rev p 0 n) n := by
  intro i j hij hj
  rw [rev_at hn, rev_at hn, if_pos (by omega), if_pos hj]
  exact h _ _ (by omega) (by omega)
theorem count_run (hk : ∀ i j, i < N → j < N → key i = key j → i = j) (hN : 2 ≤ N) {p : Array Nat} (hp : PermOf N p) :
    ∃ m p', kRun (ltK key) (kas_count N p) = (m, p') ∧ 1 ≤ m ∧ m ≤ N ∧ PermOf N p' ∧ Up key p' m := by
  obtain ⟨n, a1, a2, a3, a4, a5⟩ := asc_run hp hk (N - 1) 1 (Nat.le_refl _) (by omega) (fun i j _ _ => by omega)
  unfold kas_count
  rw [kRun_bind, a1]
  by_cases e : n = N
  · rw [if_pos (by simp [e])]
    exact ⟨n, p, rfl, a2, by omega, hp, a4⟩
  · rw [if_neg (by simp [e])]
    by_cases h1 : n > 1
    · rw [if_pos h1]
      refine ⟨n, p, ?_, a2, by omega, hp, a4⟩
      show kRun (ltK key) (if ltK key (ge0 p 0) (ge0 p (n - 1)) = true then .ret (n, p) else kas_descPart n N (kas_rev p 0 n)) = _
      have := a4 0 (n - 1) (by omega) (by omega)
      rw [if_pos (by simp [ltK, this])]
      rfl
    · rw [if_neg h1]
      have hn1 : n = 1 := by omega
      subst hn1
      have h10 : key (ge0 p 1) < key (ge0 p 0) := by
        rcases a5 with h | h
        · omega
        · exact h
      have hd2 : Down key p 2 := by
        intro i j hij hj
        have : i = 0 := by omega
        have : j = 1 := by omega
        subst_vars; exact h10
      obtain ⟨m, b1, b2, b3, b4⟩ := desc_run hp hk (N - 2) 2 (by omega) (by omega) hd2
      unfold kas_descPart
      rw [kRun_bind, show N - (1 + 1) = N - 2 by omega, b1]
      simp only [gt_iff_lt, Nat.lt_irrefl, if_false]
      unfold kas_tail3
      rw [kRun_bind]
      have hs := hp.size
      obtain ⟨k, c1, c2, c3, c4, _⟩ := asc_run (hp.rev 0 m) hk (N - m) m (by omega) (by omega) (b4.rev (by omega))
      rw [c1]
      exact ⟨k, _, rfl, by omega, by omega, hp.rev 0 m, c4⟩
theorem place_run {p : Array Nat} {k : Nat} (hp : PermOf N p) (hk : ∀ i j, i < N → j < N → key i = key j → i = j) (hkN : k < N) (hu : Up key p k) : ∀ (f l r : Nat), r ≤ k → l ≤ r → r - l ≤ f → (∀ i, i < l → key (ge0 p i) < key (ge0 p k)) → (∀ i, r ≤ i → i < k → key (ge0 p k) < key (ge0 p i)) →
    ∃ m, kRun (ltK key) (kas_place p k f l r) = m ∧ m ≤ k ∧ (∀ i, i < m → key (ge0 p i) < key (ge0 p k)) ∧ ∀ i, m ≤ i → i < k → key (ge0 p k) < key (ge0 p i)
  | 0, l, r, h1, h2, h3, h4, h5 => by
    have : l = r := by omega
    subst this
    exact ⟨l, rfl, h1, h4, h5⟩
  | f + 1, l, r, h1, h2, h3, h4, h5 => by
    unfold kas_place
    by_cases e : l ≥ r
    · rw [if_pos e]
      have : l = r := by omega
      subst this
      exact ⟨l, rfl, h1, h4, h5⟩
    · rw [if_neg e]
      have hm : (l + r) / 2 < r ∧ l ≤ (l + r) / 2 := by omega
      generalize (l + r) / 2 = mid at hm
      show ∃ m, kRun (ltK key) (if ltK key (ge0 p k) (ge0 p mid) = true then kas_place p k f l mid else kas_place p k f (mid + 1) r) = m ∧ _
      have up : ∀ i j, i ≤ j → j < k → key (ge0 p i) ≤ key (ge0 p j) := fun i j hij hj => by
        by_cases e : i = j
        · rw [e]; omega
        · have := hu i j (by omega) hj; omega
      by_cases hl : key (ge0 p k) < key (ge0 p mid)
      · rw [if_pos (by simp [ltK, hl])]
        refine place_run hp hk hkN hu f l mid (by omega) hm.2 (by omega) h4 fun i hi hik => ?_
        have := up mid i hi hik
        omega
      · rw [if_neg (by simp [ltK]; omega)]
        have hne := hp.ne hk (i := k) (j := mid) hkN (by omega) (by omega)
        refine place_run hp hk hkN hu f (mid + 1) r h1 (by omega) (by omega) (fun i hi => ?_) h5
        have := up i mid (by omega) (by omega)
        omega
theorem bin_run (hk : ∀ i j, i < N → j < N → key i = key j → i = j) : ∀ (f k : Nat) (p : Array Nat), PermOf N p → k + f = N → Up key p k → PermOf N (kRun (ltK key) (kas_bin f p k)) ∧ Up key (kRun (ltK key) (kas_bin f p k)) N
  | 0, k, p, hp, hf, hu => by
    have : k = N := by omega
    subst this
    exact ⟨hp, hu⟩
  | f + 1, k, p, hp, hf, hu => by
    obtain ⟨m, a1, a2, a3, a4⟩ := place_run hp hk (by omega) hu k 0 k (Nat.le_refl _) (Nat.zero_le _) (by omega) (fun i hi => by omega) (fun i h1 h2 => by omega)
    unfold kas_bin
    rw [kRun_bind, a1]
    refine bin_run hk f (k + 1) _ (hp.bub _ _) (by omega) ?_
    have hs := hp.size
    have at' : ∀ x, ge0 (bubble p k (k - m)) x = if x = m then ge0 p k else if m < x ∧ x ≤ k then ge0 p (x - 1) else ge0 p x := by
      intro x
      rw [ge0_opt, ge0_opt, ge0_opt, ge0_opt, getElem?_bubble (by omega) _ (by omega), show k - (k - m) = m by omega]
      repeat' split
      all_goals rfl
    intro i j hij hj
    rw [at', at']
    by_cases e1 : j = m
    · rw [if_pos e1, if_neg (by omega), if_neg (by omega)]
      exact a3 i (by omega)
    · rw [if_neg e1]
      by_cases e2 : i = m
      · rw [if_pos e2, if_pos (by omega)]
        exact a4 (j - 1) (by omega) (by omega)
      · rw [if_neg e2]
        by_cases e3 : m < i
        · rw [if_pos ⟨e3, by omega⟩, if_pos ⟨by omega, by omega⟩]
          exact hu _ _ (by omega) (by omega)
        · rw [if_neg (by omega)]
          by_cases e4 : m < j
          · rw [if_pos ⟨e4, by omega⟩]
            have := a3 i (by omega)
            have := a4 (j - 1) (by omega) (by omega)
            omega
          · rw [if_neg (by omega)]
            exact hu _ _ hij (by omega)
theorem sort_run (hk : ∀ i j, i < N → j < N → key i = key j → i = j) (hN : 2 ≤ N) : PermOf N (kRun (ltK key) (kas_sort N)) ∧ Up key (kRun (ltK key) (kas_sort N)) N := by
  have hp : PermOf N (List.toArray (List.range N)) := by unfold PermOf; simp
  obtain ⟨m, p', a1, a2, a3, a4, a5⟩ := count_run hk hN hp
  unfold kas_sort
  rw [kRun_bind, a1]
  by_cases h : m < N
  · rw [if_pos h]
    have : max m 1 = m := by omega
    rw [this]
    exact bin_run hk (N - m) m p' a4 (by omega) a5
  · rw [if_neg h]
    have : m = N := by omega
    subst this
    exact ⟨a4, a5⟩
end
def Safe (N : Nat) {α : Type} (R : α → Prop) : KasT α → Prop
  | .ret a => R a
  | .ask i j k => i < N ∧ j < N ∧ ∀ b, Safe N R (k b)
theorem Safe.bind {N : Nat} {α β : Type} {R : α → Prop} {R' : β → Prop} {f : α → KasT β} (hf : ∀ a, R a → Safe N R' (f a)) : ∀ {t : KasT α}, Safe N R t → Safe N R' (t.bind f)
  | .ret a, h => hf a h
  | .ask _ _ _, h => ⟨h.1, h.2.1, fun b => (h.2.2 b).bind hf⟩
theorem Safe.wp {N : Nat} {ans : Nat → Nat → Bool} {cmp : Nat → Nat → (Bool → Shared → Prop) → Shared → Prop} {s : Shared} (hc : ∀ i j C, i < N → j < N → C (ans i j) s → cmp i j C s) {α : Type} {R : α → Prop} {Q : α → Shared → Prop} :
    ∀ {t : KasT α}, Safe N R t → Q (kRun ans t) s → t.kasWp cmp Q s
  | .ret _, _, h => h
  | .ask i j k, hs, h => hc i j _ hs.1 hs.2.1 ((hs.2.2 (ans i j)).wp hc h)
section
variable {N : Nat}
def Bd (N : Nat) (p : Array Nat) : Prop := ∀ x ∈ p.toList, x < N
theorem Bd.at {p : Array Nat} (h : Bd N p) (h0 : 0 < N) (i : Nat) : p.getD i 0 < N := by
  rw [Array.getD_eq_getD_getElem?]
  cases e : p[i]? with
  | none => exact h0
  | some v =>
    have : v ∈ p.toList := by rw [← Array.getElem?_toList] at e; exact List.mem_of_getElem? e
    exact h v this
theorem Bd.rev {p : Array Nat} (h : Bd N p) (i j : Nat) : Bd N (kas_rev p i j) := fun x hx => h x ((Array.perm_iff_toList_perm.mp (mirror_perm p i j _)).mem_iff.mp hx)
theorem Bd.bub {p : Array Nat} (h : Bd N p) (i j : Nat) : Bd N (bubble p i j) := fun x hx => h x ((Array.perm_iff_toList_perm.mp (bubble_perm p i j)).mem_iff.mp hx)
theorem safe_asc {p : Array Nat} (h : Bd N p) (h0 : 0 < N) : ∀ (f n : Nat), Safe N (fun _ => True) (kas_asc p f n)
  | 0, _ => trivial
  | f + 1, n => ⟨h.at h0 _, h.at h0 _, fun b => by
    cases b
    · exact safe_asc h h0 f (n + 1)
    · trivial⟩
theorem safe_desc (h0 : 0 < N) : ∀ (f : Nat) (p : Array Nat) (n q : Nat), Bd N p → Safe N (fun r => Bd N r.1) (kas_desc f p n q)
  | 0, _, _, _, h => h
  | f + 1, p, n, q, h => ⟨h.at h0 _, h.at h0 _, fun b => by
    cases b
    · refine ⟨h.at h0 _, h.at h0 _, fun d => ?_⟩
      cases d
      · exact safe_desc h0 f p (n + 1) (q + 1) h
      · exact h
    · show Safe N _ (if q > 0 then _ else _)
      split
      · exact safe_desc h0 f _ _ _ (h.rev _ _)
      · exact safe_desc h0 f _ _ _ h⟩
theorem safe_tail3 (h0 : 0 < N) {n m : Nat} {p : Array Nat} (h : Bd N p) : Safe N (fun r => Bd N r.2) (kas_tail3 n m p) := by
  unfold kas_tail3
  refine Safe.bind (R := fun _ => True) (fun k _ => ?_) (safe_asc (h.rev _ _) h0 _ _)
  exact h.rev 0 n
theorem safe_descPart (h0 : 0 < N) {n m : Nat} {p : Array Nat} (h : Bd N p) : Safe N (fun r => Bd N r.2) (kas_descPart n m p) := by
  unfold kas_descPart
  refine Safe.bind (R := fun r => Bd N r.1) (fun r hr => ?_) (safe_desc h0 _ _ _ _ h)
  split
  · exact safe_tail3 h0 (hr.rev _ _)
  · exact safe_tail3 h0 hr
theorem safe_count (h0 : 0 < N) {m : Nat} {p : Array Nat} (h : Bd N p) : Safe N (fun r => Bd N r.2) (kas_count m p) := by
  unfold kas_count
  refine Safe.bind (R := fun _ => True) (fun n _ => ?_) (safe_asc h h0 _ _)
  split
  · exact h
  · split
    · refine ⟨h.at h0 _, h.at h0 _, fun b => ?_⟩
      cases b
      · exact safe_descPart h0 (h.rev _ _)
      · exact h
    · exact safe_descPart h0 h
theorem safe_place (h0 : 0 < N) {p : Array Nat} {k : Nat} (h : Bd N p) : ∀ (f l r : Nat), Safe N (fun _ => True) (kas_place p k f l r)
  | 0, _, _ => trivial
  | f + 1, l, r => by
    unfold kas_place
    split
    · trivial
    · refine ⟨h.at h0 _, h.at h0 _, fun b => ?_⟩
      cases b
      · exact safe_place h0 h f _ _
      · exact safe_place h0 h f _ _
theorem safe_bin (h0 : 0 < N) : ∀ (f : Nat) (p : Array Nat) (k : Nat), Bd N p → Safe N (fun _ => True) (kas_bin f p k)
  | 0, _, _, _ => trivial
  | f + 1, p, k, h => by
    unfold kas_bin
    exact Safe.bind (R := fun _ => True) (fun l _ => safe_bin h0 f _ _ (h.bub _ _)) (safe_place h0 h _ _ _)
theorem safe_sort (h0 : 0 < N) : Safe N (fun _ => True) (kas_sort N) := by
  unfold kas_sort
  have hb : Bd N (List.toArray (List.range N)) := fun x hx => by simpa using hx
  refine Safe.bind (R := fun r => Bd N r.2) (fun r hr => ?_) (safe_count h0 hb)
  split
  · exact safe_bin h0 _ _ _ hr
  · trivial
end
end Bn
namespace Bn
open PySem PySem.W PySem.Calls PyProof.Rows
section
variable {prog : Program} {w : World} {A : Around} {E : Value → Shared → Prop} {s : Shared}
theorem call_sorted_tree {l : Addr} {vs out : List Value} {Q : Value → Shared → Prop} (hl : s.heap.IsList l vs.toArray) (h64 : vs.length < 64) (h1 : vs.length < 2 → out = vs)
    (h2 : 2 ≤ vs.length → ∀ h', (∀ b o, s.heap.get? b = some o → h'.get? b = some o) → wpAny (model prog w) A.in1.in1 (keyKind' vs.toArray) (fun κ s' => s' = { s with heap := h' } ∧
      (kas_sort vs.length).kasWp (kas_ask prog w A.in1.in1 κ vs) (fun p s'' => s'' = { s with heap := h' } ∧ p.toList.map (fun i => vs.getD i Value.none) = out) s') (fun _ _ => False) { s with heap := h' })
    (h : ∀ h' c', (∀ b o, s.heap.get? b = some o → h'.get? b = some o) → h'.get? (s.heap.objs.size + 1) = some (seqObj "list" out.toArray c') → out.length = vs.length → Q (.ref (s.heap.objs.size + 1)) { s with heap := h' }) :
    wpAny (model prog w) A (call (.builtin "sorted") [.ref l]) Q E s := by
  refine Calls.call_function_entry kind_sorted plain_sorted entry_sorted (args_sorted1 _) ?_
  unfold Builtin.«sorted»
  refine wpAny_bind (m := checkCount "sorted" 1 1 _) (wpAny_pure ?_)
  refine wpAny_bind (collect_list hl ?_ (by rw [sizeLine_eq]; omega))
  refine wpAny_bind (wpAny_newList ?_ (by rw [sizeLine_eq]; omega))
  generalize hg1 : (s.heap.push (seqObj "list" #[] 0)).update s.heap.objs.size (Obj.mapSeq (· ++ vs.toArray)) = g1
  have hsz : g1.objs.size = s.heap.objs.size + 1 := by rw [← hg1, Heap.size_update, size_push']
  have k1 : ∀ b o, s.heap.get? b = some o → g1.get? b = some o := fun b o q => by
    have hlt := Heap.lt_size q
    rw [← hg1, Heap.get?_update_ne _ _ _ _ (Nat.ne_of_lt hlt), Heap.get?_push_ne _ _ _ (Nat.ne_of_lt hlt)]
    exact q
  have hoL : (g1.push (seqObj "list" vs.toArray 0)).get? (s.heap.objs.size + 1) = some (seqObj "list" vs.toArray 0) := by
    rw [← hsz]; exact Heap.get?_push_size _ rfl
  show wpAny _ _ _ _ _ { s with heap := g1.push (seqObj "list" vs.toArray 0) }
  rw [hsz]
  refine wpAny_bind (wpAny_holding (wpAny_call_entry slot_list_sort ⟨_, hoL, rfl⟩ entry_list_sort ?body (args_list_sort _)))
  case body =>
  generalize ha : s.heap.objs.size + 1 = a at *
  generalize hg2 : g1.push (seqObj "list" vs.toArray 0) = g2 at *
  have hz2 : g2.objs.size = a + 1 := by rw [← hg2, size_push', hsz]
  have k2 : ∀ b o, s.heap.get? b = some o → b ≠ a ∧ g2.get? b = some o := fun b o q => by
    refine ⟨?_, ?_⟩
    · rw [← ha]; exact Nat.ne_of_lt (Nat.lt_succ_of_lt (Heap.lt_size q))
    · rw [← hg2, Heap.get?_push_of_some _ (k1 b o q)]
  rw [list_sort_plain]
  refine wpAny_bind (listItems_at hoL rfl ?_)
  refine wpAny_bind (listUpdate_at hoL rfl ?_ (by rw [List.size_toArray, sizeLine_eq]; omega) (Nat.zero_le _))
  obtain ⟨e1, ho1⟩ : ∃ e1, (g2.update a (Obj.mapSeq fun _ => (#[] : Array Value))).get? a = some (seqObj "list" #[] e1) := ⟨_, get?_update_seq hoL fun _ => #[]⟩
  refine wpAny_bind (seqEpoch_at ho1 rfl ?_)
  refine wpAny_bind (wpAny_newTuple ?_ (by show vs.length ≤ _; rw [sizeLine_eq]; omega))
  refine wpAny_bind (wpAny_newList ?_ (Nat.zero_le _))
  refine wpAny_holding ?_
  generalize hg3 : ((g2.update a (Obj.mapSeq fun _ => (#[] : Array Value))).push (seqObj "tuple" vs.toArray 0)).push (seqObj "list" #[] 0) = g3
  have ho3 : g3.get? a = some (seqObj "list" #[] e1) := by
    rw [← hg3]; exact Heap.get?_push_of_some _ (Heap.get?_push_of_some _ ho1)
  have k3 : ∀ b o, s.heap.get? b = some o → b ≠ a ∧ g3.get? b = some o := fun b o q => by
    obtain ⟨hne, q2⟩ := k2 b o q
    refine ⟨hne, ?_⟩
    rw [← hg3]
    refine Heap.get?_push_of_some _ (Heap.get?_push_of_some _ ?_)
    rw [Heap.get?_update_ne _ _ _ _ hne]
    exact q2
  show wpAny (model prog w) A.in1.in1 _ _ _ { s with heap := g3 }
  dsimp only
  have fin : ∀ (o2 : Array Value), o2 = out.toArray → out.length = vs.length → ∃ c', (g3.update a (Obj.mapSeq fun _ => o2)).get? a = some (seqObj "list" out.toArray c') ∧ Q (.ref a) { s with heap := g3.update a (Obj.mapSeq fun _ => o2) } := by
    rintro _ rfl hlen
    obtain ⟨c2, hc2⟩ : ∃ c2, (g3.update a (Obj.mapSeq fun _ => out.toArray)).get? a = some (seqObj "list" out.toArray c2) := ⟨_, get?_update_seq ho3 fun _ => out.toArray⟩
    refine ⟨c2, hc2, h _ c2 (fun b o q => ?_) hc2 hlen⟩
    obtain ⟨hne, q3⟩ := k3 b o q
    rw [Heap.get?_update_ne _ _ _ _ hne]
    exact q3
  by_cases h22 : vs.toArray.size < 2
  · rw [if_pos h22, if_pos h22]
    refine wpAny_bind (wpAny_pure ?_)
    rw [StateT.run_pure]
    refine wpAny_bind (wpAny_pure ?_)
    dsimp only
    have hlt : vs.length < 2 := by simpa using h22
    have hout := h1 hlt
    have harr : (vs.toArray.zip vs.toArray).map (·.2) = out.toArray := by
      rw [hout]
      apply Array.toList_inj.mp
      simp [List.map_snd_zip]
    obtain ⟨c', hc', hQ⟩ := fin _ harr (by rw [hout])
    refine wpAny_bind (seqEpoch_at ho3 rfl ?_)
    refine wpAny_bind (listUpdate_at ho3 rfl ?_ (Nat.zero_le _) (by
      show ((vs.toArray.zip vs.toArray).map (·.2)).size ≤ _
      rw [harr, List.size_toArray, hout, sizeLine_eq]; omega))
    simp only [bne_self_eq_false, Bool.false_eq_true, if_false]
    exact wpAny_pure ⟨_, rfl, wpAny_pure ⟨_, rfl, hQ⟩⟩
  · rw [if_neg h22, if_neg h22]
    have hge : 2 ≤ vs.length := by simpa using h22
    refine wpAny_bind (wpAny_mono (h2 hge g3 fun b o q => (k3 b o q).2) (fun κ s0 hk => ?_) fun _ _ x => x.elim)
    obtain ⟨rfl, hk⟩ := hk
    refine wpAny_bind (wpAny_mono (kat_run (Q := fun st' s' => ∃ p : Array Nat, p.size = vs.length ∧ arrOf st' = p.map (kas_item (vs.toArray.zip vs.toArray)) ∧ failedOf st' = none ∧ s' = { s with heap := g3 } ∧ p.toList.map (fun i => vs.getD i Value.none) = out)
      rfl hge h64 (fun p' st' s' a1 a2 a3 a4 => ⟨p', a1, a2, a3, a4⟩) hk) ?_ fun _ _ e => e)
    rintro ⟨⟨⟩, st'⟩ s' ⟨p, hp, har, hf, rfl, hout⟩
    dsimp only
    have hsnd := kat_snds rfl har
    rw [hout] at hsnd
    have hlen : out.length = vs.length := by rw [← hout, List.length_map, Array.length_toList, hp]
    obtain ⟨c', hc', hQ⟩ := fin _ hsnd hlen
    refine wpAny_bind (seqEpoch_at ho3 rfl ?_)
    refine wpAny_bind (listUpdate_at ho3 rfl ?_ (Nat.zero_le _) (by rw [hsnd, List.size_toArray, hlen, sizeLine_eq]; omega))
    rw [hf]
    simp only [bne_self_eq_false, Bool.false_eq_true, if_false]
    exact wpAny_pure ⟨_, rfl, wpAny_pure ⟨_, rfl, hQ⟩⟩
end
section
variable {c : Cx} {φ : List Addr}
theorem RepL.one {h : Heap} {v : V} {rs : List Value} (R : RepL c φ h [v] rs) : ∃ r, rs = [r] ∧ Rep c φ h v r := by
  cases rs with
  | nil => simp only [RepL] at R
  | cons r rs =>
    cases rs with
    | cons => simp only [RepL] at R; exact R.2.elim
    | nil => simp only [RepL] at R; exact ⟨r, rfl, R.1⟩
theorem RepL.uncons {h : Heap} {v : V} {vs : List V} {rs : List Value} (R : RepL c φ h (v :: vs) rs) : ∃ r rs', rs = r :: rs' ∧ Rep c φ h v r ∧ RepL c φ h vs rs' := by
  cases rs with
  | nil => simp only [RepL] at R
  | cons r rs => simp only [RepL] at R; exact ⟨r, rs, rfl, R.1, R.2⟩
theorem RepL.nil_inv {h : Heap} {rs : List Value} (R : RepL c φ h [] rs) : rs = [] := by
  cases rs with
  | nil => rfl
  | cons => simp only [RepL] at R
theorem RepL.two {h : Heap} {v w : V} {rs : List Value} (R : RepL c φ h [v, w] rs) : ∃ r r', rs = [r, r'] ∧ Rep c φ h v r ∧ Rep c φ h w r' := by
  obtain ⟨r, rs', rfl, h1, R⟩ := R.uncons
  obtain ⟨r', rfl, h2⟩ := R.one
  exact ⟨r, r', rfl, h1, h2⟩
theorem RepL.three {h : Heap} {v w x : V} {rs : List Value} (R : RepL c φ h [v, w, x] rs) : ∃ r r' r'', rs = [r, r', r''] ∧ Rep c φ h v r ∧ Rep c φ h w r' ∧ Rep c φ h x r'' := by
  obtain ⟨r, rs', rfl, h1, R⟩ := R.uncons
  obtain ⟨r', r'', rfl, h2, h3⟩ := R.two
  exact ⟨r, r', r'', rfl, h1, h2, h3⟩
theorem RepL.of_get {h : Heap} : ∀ {l : List V} {rs : List Value}, rs.length = l.length → (∀ (i : Nat) v r, l[i]? = some v → rs[i]? = some r → Rep c φ h v r) → RepL c φ h l rs
  | [], [], _, _ => by simp only [RepL]
  | [], _ :: _, h, _ => by simp at h
  | _ :: _, [], h, _ => by simp at h
  | x :: xs, r :: rs, h, hh => by
    simp only [RepL]
    exact ⟨hh 0 x r rfl rfl, RepL.of_get (by simpa using h) fun i v r h1 h2 => hh (i + 1) v r (by simpa using h1) (by simpa using h2)⟩
theorem perm_uniq {α : Type} {R : α → α → Prop} (anti : ∀ x y, R x y → R y x → x = y) : ∀ {a b : List α}, a.Perm b → a.Pairwise R → b.Pairwise R → a = b
  | [], b, h, _, _ => (List.nil_perm.mp h).symm
  | x :: a, [], h, _, _ => absurd h.length_eq (by simp)
  | x :: a, y :: b, h, ha, hb => by
    rw [List.pairwise_cons] at ha hb
    have e : x = y := by
      rcases List.mem_cons.mp (h.mem_iff.mp List.mem_cons_self) with e | hx
      · exact e
      · rcases List.mem_cons.mp (h.mem_iff.mpr List.mem_cons_self) with e | hy
        · exact e.symm
        · exact anti x y (ha.1 y hy) (hb.1 x hx)
    subst e
    rw [perm_uniq anti h.cons_inv ha.2 hb.2]
theorem pairsV_map : ∀ {xs : List V} {l : List (Int × Int)}, pairsV xs = some l → xs = l.map pairV
  | [], l, h => by simp [pairsV] at h; subst h; rfl
  | x :: r, l, h => by
    unfold pairsV at h
    split at h
    · rename_i h0; cases h0
    · rename_i i j r' h0
      cases h0
      obtain ⟨l', h1, rfl⟩ := Option.map_eq_some_iff.mp h
      rw [pairsV_map h1]; rfl
    · cases h
def pkey (l : List (Int × Int)) (i : Nat) : Int := (l.getD i (0, 0)).1 * 2 ^ 40 + (l.getD i (0, 0)).2
theorem RepL.maps {h : Heap} {f : Nat → V} {g : Nat → Value} : ∀ {is : List Nat}, (∀ i ∈ is, Rep c φ h (f i) (g i)) → RepL c φ h (is.map f) (is.map g)
  | [], _ => by simp only [List.map_nil, RepL]
  | i :: r, hh => by
    simp only [List.map_cons, RepL]
    exact ⟨hh i List.mem_cons_self, RepL.maps fun j hj => hh j (List.mem_cons_of_mem _ hj)⟩
theorem katTups_of {h h' : Heap} (hk : ∀ b o, h.get? b = some o → h'.get? b = some o) : ∀ {l : List (Int × Int)} {vs : List Value}, RepL c φ h (l.map pairV) vs → ∃ fs, KatTups h' vs fs ∧ fs.length = vs.length ∧ ∀ v ∈ fs, ∃ i t, v = .int i t
  | [], vs, R => by
    have := R.nil_inv
    subst this
    exact ⟨[], trivial, rfl, fun v hv => (by cases hv)⟩
  | p :: l, vs, R => by
    rw [List.map_cons] at R
    obtain ⟨r, rs, rfl, h1, h2⟩ := R.uncons
    obtain ⟨fs, f1, f2, f3⟩ := katTups_of hk h2
    simp only [pairV, Rep] at h1
    obtain ⟨x, o, ws, n, rfl, _, ho, hc, hd, _, hR⟩ := h1
    obtain ⟨r, r', e, g1, g2⟩ := hR.two
    simp only [Rep] at g1
    obtain ⟨t, rfl⟩ := g1
    refine ⟨.int p.1 t :: fs, .cons (hk _ _ ho) hc hd ?_ f1, by simp [f2], ?_⟩
    · rw [← Array.getElem?_toList, e]; rfl
    · intro v hv
      rcases List.mem_cons.mp hv with rfl | hv
      · exact ⟨_, _, rfl⟩
      · exact f3 v hv
theorem call_sorted_pairs {A : Around} {E : Value → Shared → Prop} {s : Shared} {a : Addr} {l : List (Int × Int)} {vs : List Value} {Q : Value → Shared → Prop} (R : RepL c φ s.heap (l.map pairV) vs) (hl : s.heap.IsList a vs.toArray) (hok : sortOk l = true)
    (h : ∀ h' c' out, (∀ b o, s.heap.get? b = some o → h'.get? b = some o) → h'.get? (s.heap.objs.size + 1) = some (seqObj "list" (List.toArray out) c') → RepL c φ s.heap ((l.mergeSort pairLe).map pairV) out → Q (.ref (s.heap.objs.size + 1)) { s with heap := h' }) :
    wpAny (model c.prog c.w) A (call (.builtin "sorted") [.ref a]) Q E s := by
  have hlen : vs.length = l.length := by rw [R.length, List.length_map]
  simp only [sortOk, Bool.and_eq_true, decide_eq_true_eq, List.all_eq_true] at hok
  obtain ⟨⟨h64, hnd⟩, hsm⟩ := hok
  have gl : ∀ {i : Nat}, i < l.length → l[i]? = some (l.getD i (0, 0)) := fun {i} hi => by simp [List.getD_eq_getElem?_getD, hi]
  have gm : ∀ {i : Nat}, i < l.length → l.getD i (0, 0) ∈ l := fun {i} hi => List.mem_of_getElem? (gl hi)
  have at' : ∀ {i : Nat}, i < l.length → Rep c φ s.heap (pairV (l.getD i (0, 0))) (vs.getD i Value.none) := by
    intro i hi
    obtain ⟨r, h1, h2⟩ := R.get (i := i) (v := pairV (l.getD i (0, 0))) (by rw [List.getElem?_map, gl hi]; rfl)
    have e : vs.getD i Value.none = r := by rw [List.getD_eq_getElem?_getD, h1]; rfl
    rw [e]; exact h2
  have ob : ∀ {i : Nat}, i < l.length → ∃ x o t u n, vs.getD i Value.none = .ref x ∧ s.heap.get? x = some o ∧ o.cls = .type "tuple" ∧ o.data = .seq #[.int (l.getD i (0, 0)).1 t, .int (l.getD i (0, 0)).2 u] n := by
    intro i hi
    have := at' hi
    simp only [pairV, Rep] at this
    obtain ⟨x, o, ws, n, hr, _, ho, hc, hd, _, hR⟩ := this
    obtain ⟨r, r', e, h1, h2⟩ := hR.two
    simp only [Rep] at h1 h2
    obtain ⟨t, rfl⟩ := h1
    obtain ⟨u, rfl⟩ := h2
    refine ⟨x, o, t, u, n, hr, ho, hc, ?_⟩
    rw [hd]
    congr 1
    exact Array.toList_inj.mp e
  have key : ∀ i j, i < l.length → j < l.length → pkey l i = pkey l j → i = j := by
    intro i j hi hj e
    have b1 := hsm _ (gm hi); have b2 := hsm _ (gm hj)
    unfold pkey at e
    have e1 : (l.getD i (0, 0)).1 = (l.getD j (0, 0)).1 := by omega
    have e2 : (l.getD i (0, 0)).2 = (l.getD j (0, 0)).2 := by omega
    have e3 : l.getD i (0, 0) = l.getD j (0, 0) := Prod.ext e1 e2
    have e4 : l[i] = l[j] := by simpa [List.getD_eq_getElem?_getD, hi, hj] using e3
    exact (List.getElem_inj hnd).mp e4
  by_cases h2 : 2 ≤ vs.length
  · have srt := sort_run (key := pkey l) (N := l.length) key (by omega)
    generalize hp : kRun (ltK (pkey l)) (kas_sort l.length) = p at srt
    obtain ⟨s1, s2⟩ := srt
    have hlt : ∀ i ∈ p.toList, i < l.length := fun i hi => by simpa using s1.mem_iff.mp hi
    have hsort : l.mergeSort pairLe = p.toList.map fun i => l.getD i (0, 0) := by
      refine perm_uniq (R := fun a b => pairLe a b = true) ?_ ?_ ?_ ?_
      · intro x y h1 h2
        simp only [pairLe, Bool.or_eq_true, Bool.and_eq_true, decide_eq_true_eq] at h1 h2
        exact Prod.ext (by omega) (by omega)
      · have e0 : (List.range l.length).map (fun i => l.getD i (0, 0)) = l := by
          apply List.ext_getElem?
          intro i
          rw [List.getElem?_map]
          by_cases hi : i < l.length
          · rw [List.getElem?_range hi, gl hi]; rfl
          · rw [List.getElem?_eq_none (by simpa using hi), List.getElem?_eq_none (by simpa using hi)]; rfl
        have := (List.Perm.map (fun i => l.getD i (0, 0)) s1).symm
        rw [e0] at this
        exact (List.mergeSort_perm l pairLe).trans this
      · refine List.pairwise_mergeSort ?_ ?_ l
        · intro a b c; simp only [pairLe, Bool.or_eq_true, Bool.and_eq_true, decide_eq_true_eq]; omega
        · intro a b; simp only [pairLe, Bool.or_eq_true, Bool.and_eq_true, decide_eq_true_eq]; omega
      · rw [List.pairwise_map, List.pairwise_iff_getElem]
        intro i j hi hj hij
        have hsz := s1.size
        have := s2 i j hij (by simpa [hsz] using hj)
        have ei : ge0 p i = p.toList[i] := by rw [ge0_opt, ← Array.getElem?_toList, List.getElem?_eq_getElem hi]; rfl
        have ej : ge0 p j = p.toList[j] := by rw [ge0_opt, ← Array.getElem?_toList, List.getElem?_eq_getElem hj]; rfl
        rw [ei, ej] at this
        have b1 := hsm _ (gm (hlt _ (List.getElem_mem hi))); have b2 := hsm _ (gm (hlt _ (List.getElem_mem hj)))
        unfold pkey at this
        simp only [pairLe, Bool.or_eq_true, Bool.and_eq_true, decide_eq_true_eq]
        omega
    refine call_sorted_tree (out := p.toList.map fun i => vs.getD i Value.none) hl (by omega) (fun hh => absurd h2 (by omega)) (fun _ h' hk => ?_) ?_
    · obtain ⟨fs, f1, f2, f3⟩ := katTups_of hk R
      refine kat_kind (s := { s with heap := h' }) (T := .type "int") f1 (by omega) ?_ (by decide) ?_
      · intro v hv
        obtain ⟨i, t, rfl⟩ := f3 v hv
        exact Looks.of_pure rfl
      · refine ⟨rfl, ?_⟩
        rw [hlen]
        refine (safe_sort (N := l.length) (by omega)).wp (ans := ltK (pkey l)) (fun i j C hi hj hC => ?_) ⟨rfl, by rw [hp]⟩
        obtain ⟨x, o, t, u, n, e1, e2, e3, e4⟩ := ob hi
        obtain ⟨x', o', t', u', n', e1', e2', e3', e4'⟩ := ob hj
        unfold kas_ask
        rw [e1, e1']
        have b1 := hsm _ (gm hi); have b2 := hsm _ (gm hj)
        have hb : ((Value.type "int") != Value.type "tuple") = true := by decide
        rw [hb]
        refine kat_lt (hk _ _ e2) e4 (hk _ _ e2') e4' ?_
        show KatLex _ _ _ _ _ _ [(.int (l.getD i (0, 0)).1 t, .int (l.getD j (0, 0)).1 t'), (.int (l.getD i (0, 0)).2 u, .int (l.getD j (0, 0)).2 u')] 0 _
        refine kat_cons (wpAny_eqBool_int (kat_go (fun he => kat_yes ?_) fun he => kat_no ?_))
        · have he' : (l.getD i (0, 0)).1 = (l.getD j (0, 0)).1 := by simpa using he
          refine kat_cons (wpAny_eqBool_int (kat_go (fun hf => kat_yes (kat_nil ?_)) fun hf => kat_no ?_))
          · have hf' : (l.getD i (0, 0)).2 = (l.getD j (0, 0)).2 := by simpa using hf
            have : ltK (pkey l) i j = false := by unfold ltK pkey; rw [decide_eq_false_iff_not]; omega
            rw [this] at hC
            exact hC
          · have hf' : ¬ (l.getD i (0, 0)).2 = (l.getD j (0, 0)).2 := by simpa using hf
            have : ltK (pkey l) i j = decide ((l.getD i (0, 0)).2 < (l.getD j (0, 0)).2) := by
              unfold ltK pkey; rw [decide_eq_decide]; omega
            rw [this] at hC
            exact kat_one _ _ (wpAny_lt_int hC)
        · have he' : ¬ (l.getD i (0, 0)).1 = (l.getD j (0, 0)).1 := by simpa using he
          have : ltK (pkey l) i j = decide ((l.getD i (0, 0)).1 < (l.getD j (0, 0)).1) := by
            unfold ltK pkey; rw [decide_eq_decide]; omega
          rw [this] at hC
          exact oneLt_int hC
    · intro h' c' hk hg hln
      refine h h' c' _ hk hg ?_
      rw [hsort, List.map_map]
      exact RepL.maps fun i hi => at' (hlt i hi)
  · refine call_sorted_tree (out := vs) hl (by omega) (fun _ => rfl) (fun hh => absurd hh h2) fun h' c' hk hg _ => h h' c' vs hk hg ?_
    have : l.mergeSort pairLe = l := by
      match l, hlen, h2 with
      | [], _, _ => exact List.mergeSort_nil
      | [x], _, _ => exact List.mergeSort_singleton x
      | x :: y :: r, hlen, h2 => simp at hlen; omega
    rw [this]; exact R
end
end Bn
namespace Bn
open PySem PyProof.Rows
section
variable {c : Cx} {A : Around} {q : Bool} {d : Nat} {φ : List Addr} {H H' : Hp} {s : Shared}
theorem Out.kept {v : V} {r : Value} {h' : Heap} {t : Nat} (S : Sim c φ H s) (hk : ∀ b o, s.heap.get? b = some o → h'.get? b = some o) (R : Rep c φ s.heap v r) : Out c φ s (fun x H' => x = v ∧ H' = H) r { s with heap := h', toks := t } := by
  have e : Ext [] φ s φ { s with heap := h', toks := t } := Ext.of_keeps (s' := { s with heap := h', toks := t }) hk rfl
  exact ⟨φ, H, v, e, S.keeps (s' := { s with heap := h', toks := t }) hk rfl, Rep.mono e.toKp OwnX.nil R, rfl, rfl⟩
theorem out_made (S : Sim c φ H s) {a : Addr} {xs : List V} {vs : Array Value} {n : Nat} {h' : Heap} {t : Nat} (hk : ∀ b o, s.heap.get? b = some o → h'.get? b = some o) (ha : s.heap.get? a = none) (hn : h'.get? a = some (lobj vs n)) (hr : RepL c φ s.heap xs vs.toList) (hz : xs.length ≤ sizeLine) :
    Out c φ s (fun x H' => x = .lst H.length ∧ H' = H ++ [xs]) (.ref a) { s with heap := h', toks := t } := by
  have e : Ext [] φ s φ { s with heap := h', toks := t } := Ext.of_keeps (s' := { s with heap := h', toks := t }) hk rfl
  have S' : Sim c φ H { s with heap := h', toks := t } := S.keeps (s' := { s with heap := h', toks := t }) hk rfl
  have haφ : a ∉ φ := fun hm => by obtain ⟨o, ho, _⟩ := S.isList hm; rw [ha] at ho; cases ho
  have h0 : c.h0.get? a = none := by
    cases hq : c.h0.get? a with
    | none => rfl
    | some o => have := S.stays a o hq; rw [ha] at this; cases this
  refine ⟨φ ++ [a], H ++ [xs], .lst H.length, ?_, S'.adopt (o := lobj vs n) haφ h0 hn rfl rfl ⟨rfl, rfl⟩ (RepL.mono e.toKp OwnX.nil hr) hz, ?_, rfl, rfl⟩
  · exact { e with
      pre := List.prefix_append _ _
      new := fun b hb => (List.mem_append.mp hb).elim .inl fun h => .inr (by rw [List.mem_singleton.mp h]; exact ha) }
  · simp only [Rep]
    exact ⟨a, rfl, by rw [List.getElem?_append_right (Nat.le_of_eq S.len)]; simp [S.len]⟩
def Bl.real : Bl → Value
  | .len => .builtin "len" | .max => .builtin "max" | .min => .builtin "min" | .range => .type "range" | .list => .type "list" | .tuple => .type "tuple"
  | .sum => .builtin "sum" | .all => .builtin "all" | .sorted => .builtin "sorted" | .abs => .builtin "abs" | .int => .type "int"
theorem rangeL_length (lo hi st : Int) : (rangeL lo hi st).length = if 0 < st ∧ lo < hi then ((hi - lo - 1) / st + 1).toNat else 0 := by simp [rangeL]
theorem rangeL_one (lo hi : Int) : (rangeL lo hi 1).length = (hi - lo).toNat := by
  rw [rangeL_length]
  by_cases h : lo < hi
  · rw [if_pos ⟨by decide, h⟩]; omega
  · rw [if_neg (fun q => h q.2)]; omega
theorem rangeL_get (lo hi st : Int) {i : Nat} (h : i < (rangeL lo hi st).length) : (rangeL lo hi st)[i]? = some (.int (lo + i * st)) := by
  simp only [rangeL, List.getElem?_map] at h ⊢
  rw [List.getElem?_range (by simpa using h)]; rfl
theorem itemsOf_rep {h : Heap} {lo hi st : Int} {acc : Array Value} (hi' : ItemsOf (fun i v => ∃ t, v = .int (lo + i * st) t) acc (rangeL lo hi st).length) : RepL c φ h (rangeL lo hi st) acc.toList := by
  refine RepL.of_get (by rw [Array.length_toList, hi'.1]) fun i v r h1 h2 => ?_
  have hlt := (List.getElem?_eq_some_iff.mp h1).1
  rw [rangeL_get _ _ _ hlt] at h1
  cases h1
  obtain ⟨t, rfl⟩ := hi'.2 i r (by rw [← Array.getElem?_toList]; exact h2)
  simp [Rep]
theorem rangeSize_eq (lo hi st : Int) (h : 0 < st) : Builtin.Range.rangeSize lo hi st = ((rangeL lo hi st).length : Nat) := by
  rw [rangeL_length]
  unfold Builtin.Range.rangeSize
  rw [if_pos h]
  by_cases hl : lo < hi
  · rw [if_pos hl, if_pos ⟨h, hl⟩]
    have : 0 ≤ (hi - lo - 1) / st := Int.ediv_nonneg (by omega) (by omega)
    omega
  · rw [if_neg hl, if_neg (fun q => hl q.2)]; rfl
theorem range_small {lo hi st : Int} (h : lo.natAbs < 2 ^ 31 ∧ hi.natAbs < 2 ^ 31 ∧ 0 < st ∧ st < 2 ^ 31) : Builtin.Range.small lo hi st = true := by
  have hsz := rangeSize_eq lo hi st h.2.2.1
  have hle : (rangeL lo hi st).length ≤ 2 ^ 33 := by
    rw [rangeL_length]
    split
    · rename_i hl
      have : (hi - lo - 1) / st ≤ hi - lo - 1 := Int.ediv_le_self _ (by omega)
      omega
    · omega
  unfold Builtin.Range.small Builtin.Range.rangeFitsLong
  rw [hsz]
  simp only [Bool.and_eq_true, Bool.or_eq_true, decide_eq_true_eq, gt_iff_lt, h.2.2.1, if_true]
  refine ⟨⟨⟨⟨?_, ?_⟩, ?_⟩, ?_⟩, .inr ?_⟩ <;> first | omega | (constructor <;> omega)
theorem preSum_take (ns : List Int) : ∀ j, j ≤ ns.length → preSum (fun i => ns.getD i 0) j = (ns.take j).sum
  | 0, _ => by simp [preSum]
  | j + 1, h => by
    rw [preSum, preSum_take ns j (by omega), List.take_add_one, List.sum_append]
    have : ns[j]? = some (ns.getD j 0) := by rw [List.getD_eq_getElem?_getD, List.getElem?_eq_getElem (by omega)]; rfl
    rw [this]; simp
theorem sum_bound : ∀ (ns : List Int), smallAll ns = true → ns.sum.natAbs ≤ ns.length * 2 ^ 31
  | [], _ => by simp
  | x :: xs, h => by
    simp only [smallAll, List.all_cons, Bool.and_eq_true, decide_eq_true_eq] at h
    have := sum_bound xs (by simpa [smallAll] using h.2)
    rw [List.sum_cons, List.length_cons, Nat.add_mul]
    omega
theorem smallAll_take {ns : List Int} (h : smallAll ns = true) (j : Nat) : smallAll (ns.take j) = true := by
  simp only [smallAll, List.all_eq_true] at h ⊢
  exact fun x hx => h x (List.mem_of_mem_take hx)
theorem ints_get {rs : List Value} {l : List Int} (h : IntsAre rs l) : ∀ {i : Nat} {v : Value}, rs[i]? = some v → ∃ t, v = .int (l.getD i 0) t := by
  induction h with
  | nil => intro i v e; simp at e
  | cons n t h ih =>
    intro i v e
    cases i with
    | zero => simp at e; exact ⟨t, by simp [← e]⟩
    | succ i => simp at e; obtain ⟨t', h'⟩ := ih e; exact ⟨t', by simpa using h'⟩
theorem range_all (ll : List Bool) : (List.range ll.length).all (fun i => (ll[i]?).getD true) = ll.all id := by
  rw [Bool.eq_iff_iff]
  simp only [List.all_eq_true, List.mem_range]
  constructor
  · intro h x hx
    obtain ⟨i, hi, rfl⟩ := List.mem_iff_getElem.mp hx
    have := h i hi
    rw [List.getElem?_eq_getElem hi] at this
    simpa using this
  · intro h i hi
    rw [List.getElem?_eq_getElem hi]
    exact h _ (List.getElem_mem hi)
theorem do_blt (O : c.Ok) (hA : OkF c A true d φ s.heap) (S : Sim c φ H s) {b : Bl} {vs : List V} {u : V} {rs : List Value} (R : RepL c φ s.heap vs rs)
    (e : bltV H b vs = some (u, H')) : Does c A φ s (call b.real rs) u H' := by
  intro E
  have hsl : sizeLine = 2 ^ 24 := rfl
  have hh := hA.hd rfl
  have hpl : PySem.PylongRoom (model c.prog c.w) A s := PySem.PylongRoom.of (S.lim O) (by have := hA.dep; show _ + 100 < 1000; omega) (hA.seer O S)
  unfold bltV at e
  split at e
  ·
    obtain ⟨xs, e1, e2⟩ := Option.map_eq_some_iff.mp e
    cases e2
    obtain ⟨r, rfl, RR⟩ := R.one
    obtain ⟨a, o, ws, n, rfl, _, ho, hc, hd, hr, hz, z, hL⟩ := S.get RR e1
    exact len_list hL (by omega) (Out.same S (by simp [Rep, z]))
  ·
    cases e
    obtain ⟨r, rfl, RR⟩ := R.one
    simp only [Rep] at RR
    obtain ⟨a, o, ws, n, rfl, _, ho, hc, hd, hz, hr⟩ := RR
    have z := hr.length; rw [Array.length_toList] at z
    exact PyProof.Rows.len_tuple ⟨o, ho, hc, n, hd⟩ (by omega) (Out.same S (by simp [Rep, z]))
  ·
    cases e
    obtain ⟨r, rfl, RR⟩ := R.one
    simp only [Rep] at RR
    obtain ⟨a, o, ws, n, rfl, _, _, ho, hc, hd, hz, hr⟩ := RR
    have z := hr.length; rw [Array.length_toList] at z
    exact len_list ⟨o, ho, hc, n, hd⟩ (by omega) (Out.same S (by simp [Rep, z]))
  ·
    split at e
    · cases e
      obtain ⟨r, rfl, RR⟩ := R.one
      simp only [Rep] at RR
      obtain ⟨t, rfl⟩ := RR
      exact P.len_str (by omega) (Out.same S (by simp [Rep]))
    · cases e
  · cases e
    obtain ⟨r, r', rfl, R1, R2⟩ := R.two
    simp only [Rep] at R1 R2
    obtain ⟨t1, rfl⟩ := R1; obtain ⟨t2, rfl⟩ := R2
    rename_i aa bb
    refine max_two_ints hh fun h' tk hk => Out.kept S hk ?_
    by_cases h : aa < bb
    · rw [if_pos h, if_pos (show bb > aa from h)]; simp [Rep]
    · rw [if_neg h, if_neg (show ¬ bb > aa from h)]; simp [Rep]
  · cases e
    obtain ⟨r, r', r'', rfl, R1, R2, R3⟩ := R.three
    simp only [Rep] at R1 R2 R3
    obtain ⟨t1, rfl⟩ := R1; obtain ⟨t2, rfl⟩ := R2; obtain ⟨t3, rfl⟩ := R3
    rename_i aa bb cc
    refine max_three_ints hh fun h' tk hk => Out.kept S hk ?_
    by_cases h : aa < bb
    · rw [if_pos h, if_pos (show bb > aa from h)]
      by_cases h2 : bb < cc
      · rw [if_pos h2, if_pos (show cc > bb from h2)]; simp [Rep]
      · rw [if_neg h2, if_neg (show ¬ cc > bb from h2)]; simp [Rep]
    · rw [if_neg h, if_neg (show ¬ bb > aa from h)]
      by_cases h2 : aa < cc
      · rw [if_pos h2, if_pos (show cc > aa from h2)]; simp [Rep]
      · rw [if_neg h2, if_neg (show ¬ cc > aa from h2)]; simp [Rep]
  · cases e
    obtain ⟨r, r', rfl, R1, R2⟩ := R.two
    simp only [Rep] at R1 R2
    obtain ⟨t1, rfl⟩ := R1; obtain ⟨t2, rfl⟩ := R2
    rename_i aa bb
    refine min_two_ints hh fun h' tk hk => Out.kept S hk ?_
    by_cases h : bb < aa
    · rw [if_pos h, if_pos h]; simp [Rep]
    · rw [if_neg h, if_neg h]; simp [Rep]
  ·
    split at e
    · cases e
      obtain ⟨r, rfl, RR⟩ := R.one
      simp only [Rep] at RR
      obtain ⟨t1, rfl⟩ := RR
      refine call_range_1 ⟨φ, H, _, (Ext.push (o := { cls := .type "range", data := .fields #[.int 0 s.toks, .int _ t1, .int 1 (s.toks + 1)] })).trans (Ext.of_heap rfl rfl), (S.push _).tok _, ?_, rfl, rfl⟩
      simp only [Rep]
      exact ⟨_, _, _, _, rfl, S.new, Heap.get?_push_size _ rfl, by decide, by assumption, by decide, by decide⟩
    · cases e
  · split at e
    · cases e
      obtain ⟨r, r', rfl, R1, R2⟩ := R.two
      simp only [Rep] at R1 R2
      obtain ⟨t1, rfl⟩ := R1; obtain ⟨t2, rfl⟩ := R2
      refine call_range_2 ⟨φ, H, _, (Ext.push (o := { cls := .type "range", data := .fields #[.int _ t1, .int _ t2, .int 1 s.toks] })).trans (Ext.of_heap rfl rfl), (S.push _).tok _, ?_, rfl, rfl⟩
      simp only [Rep]
      rename_i hc
      exact ⟨_, _, _, _, rfl, S.new, Heap.get?_push_size _ rfl, hc.1, hc.2, by decide, by decide⟩
    · cases e
  · split at e
    · cases e
      rename_i aa bb cc hc
      obtain ⟨r, r', r'', rfl, R1, R2, R3⟩ := R.three
      simp only [Rep] at R1 R2 R3
      obtain ⟨t1, rfl⟩ := R1; obtain ⟨t2, rfl⟩ := R2; obtain ⟨t3, rfl⟩ := R3
      refine call_range_3 (by omega) ⟨φ, H, _, (Ext.push (o := { cls := .type "range", data := .fields #[.int _ t1, .int _ t2, .int _ t3] })).trans (Ext.of_heap rfl rfl), (S.push _).tok _, ?_, rfl, rfl⟩ (Or.inr hpl)
      simp only [Rep]
      exact ⟨_, _, _, _, rfl, S.new, Heap.get?_push_size _ rfl, hc⟩
    · cases e
  ·
    obtain ⟨xs, e1, e2⟩ := Option.map_eq_some_iff.mp e
    cases e2
    obtain ⟨r, rfl, RR⟩ := R.one
    obtain ⟨a, o, ws, n, rfl, _, ho, hc, hd, hr, hz, z, hL⟩ := S.get RR e1
    refine call_list_seq a (.inl rfl) ho hc hd (fun h' c' hk hn => ?_) (by omega)
    exact out_made (t := s.toks) S hk (Heap.get?_none_of_le (Nat.le_refl _)) hn hr hz
  · split at e
    · cases e
      rename_i lo hi st hz
      obtain ⟨r, rfl, RR⟩ := R.one
      simp only [Rep] at RR
      obtain ⟨a, t, u, v, rfl, _, hr, hb⟩ := RR
      refine call_list_range hh hr (range_small hb) (rangeSize_eq lo hi st hb.2.2.1) hz fun h' tk acc' c' hk hn hi' => ?_
      exact out_made S hk (Heap.get?_none_of_le (Nat.le_refl _)) hn (itemsOf_rep hi') hz
    · cases e
  ·
    obtain ⟨xs, e1, e2⟩ := Option.map_eq_some_iff.mp e
    cases e2
    obtain ⟨r, rfl, RR⟩ := R.one
    obtain ⟨a, o, ws, n, rfl, _, ho, hc, hd, hr, hz, z, hL⟩ := S.get RR e1
    refine call_tuple_list hL (fun h' hk => ?_) (by omega)
    have e1 : Ext [] φ s φ { s with heap := h' } := Ext.of_keeps (s' := { s with heap := h' }) hk rfl
    have S1 : Sim c φ H { s with heap := h' } := S.keeps (s' := { s with heap := h' }) hk rfl
    exact Out.lift e1 (out_newTuple S1 (RepL.mono e1.toKp OwnX.nil hr) hz)
  · cases e
  ·
    split at e
    · split at e
      · cases e
        rename_i ll e1 hsm
        obtain ⟨xs, e2, e3⟩ := Option.bind_eq_some_iff.mp e1
        obtain ⟨r, rfl, RR⟩ := R.one
        obtain ⟨a, o, ws, n, rfl, _, ho, hc, hd, hr, hz, z, hL⟩ := S.get RR e2
        have hi := intsV_rep hr e3
        have hlt : a < s.heap.objs.size := Heap.lt_size ho
        have hlen : ll.length = ws.size := by rw [← Array.length_toList]; exact hi.length.symm
        have hb : ∀ j, j ≤ ll.length → (preSum (fun i => ll.getD i 0) j).natAbs ≤ 2 ^ 60 := fun j hj => by
          rw [preSum_take ll j hj]
          have h1 := sum_bound _ (smallAll_take hsm j)
          have h2 : (ll.take j).length ≤ 2 ^ 24 := by rw [List.length_take]; omega
          have h3 : (ll.take j).length * 2 ^ 31 ≤ 2 ^ 24 * 2 ^ 31 := Nat.mul_le_mul_right _ h2
          omega
        refine call_sum_walk (wpAny_pyIter_list hL ?_)
        refine ⟨s.heap.objs.size, [s.heap.objs.size, a], [s.heap.objs.size], ws.size, _, _, fun i => ll.getD i 0, rfl, Walks.list (A := A.in1) hh _ a (Nat.ne_of_lt hlt) ws,
          ⟨⟨_, Heap.get?_push_size _ rfl, rfl, rfl⟩, hL.push _⟩, ?_, ?_, ?_, ?_⟩
        · intro b hb
          show b < (s.heap.push _).objs.size
          rw [Heap.size_push]
          simp only [List.mem_cons, List.not_mem_nil, or_false] at hb
          rcases hb with h | h
          · rw [h]; exact Nat.lt_succ_self _
          · rw [h]; exact Nat.lt_succ_of_lt hlt
        · intro i v hv
          exact ints_get hi (by rw [Array.getElem?_toList]; exact hv)
        · intro j hj
          have h1 := hb (j + 1) (by omega)
          have h2 := hb j (by omega)
          rw [preSum] at h1
          refine ⟨⟨?_, ?_⟩, ⟨?_, ?_⟩⟩ <;> dsimp only [preSum] at * <;> omega
        · intro h' tk t' hk
          rw [← hlen, preSum_take ll _ (Nat.le_refl _), List.take_length]
          refine Out.kept S (fun b o hb => hk b o ?_ (Heap.get?_push_of_some _ hb)) (by simp [Rep])
          simp only [List.mem_singleton]
          exact Nat.ne_of_lt (Heap.lt_size hb)
      · cases e
    · cases e
  ·
    split at e
    · cases e
      rename_i ll e1
      obtain ⟨xs, e2, e3⟩ := Option.bind_eq_some_iff.mp e1
      obtain ⟨r, rfl, RR⟩ := R.one
      obtain ⟨a, o, ws, n, rfl, _, ho, hc, hd, hr, hz, z, hL⟩ := S.get RR e2
      have hi := boolsV_rep hr e3
      have hlt : a < s.heap.objs.size := Heap.lt_size ho
      refine call_all_walk (wpAny_pyIter_list hL ?_)
      refine ⟨s.heap.objs.size, [s.heap.objs.size, a], [s.heap.objs.size], ws.size, _, _, fun i => (ll[i]?).getD true, rfl, Walks.list (A := A.in1) hh _ a (Nat.ne_of_lt hlt) ws,
        ⟨⟨_, Heap.get?_push_size _ rfl, rfl, rfl⟩, hL.push _⟩, ?_, ?_⟩
      · intro i v s' Q E' hv hQ
        have h1 : ws.toList[i]? = some v := by rw [Array.getElem?_toList]; exact hv
        rw [hi, List.getElem?_map] at h1
        obtain ⟨bb, h2, rfl⟩ := Option.map_eq_some_iff.mp h1
        dsimp only at hQ
        rw [h2] at hQ
        exact wpAny_truthy_bool hQ
      · intro h' tk hk
        have hlen : ws.size = ll.length := by rw [← Array.length_toList, hi]; simp
        have : (List.range ws.size).all (fun i => (ll[i]?).getD true) = ll.all id := by rw [hlen, range_all]
        rw [this]
        refine Out.kept S (fun b o hb => hk b o ?_ (Heap.get?_push_of_some _ hb)) (by simp [Rep])
        simp only [List.mem_singleton]
        exact Nat.ne_of_lt (Heap.lt_size hb)
    · cases e
  ·
    split at e
    · split at e
      · cases e
        rename_i ll e1 hok
        obtain ⟨xs, e2, e3⟩ := Option.bind_eq_some_iff.mp e1
        obtain ⟨r, rfl, RR⟩ := R.one
        obtain ⟨a, o, ws, n, rfl, _, ho, hc, hd, hr, hz, z, hL⟩ := S.get RR e2
        have hx := pairsV_map e3
        subst hx
        have hok' := hok
        simp only [sortOk, Bool.and_eq_true, decide_eq_true_eq] at hok'
        refine call_sorted_pairs (vs := ws.toList) hr (by rw [Array.toArray_toList]; exact hL) hok fun h' c' out hk hn hR => ?_
        exact out_made (t := s.toks) S hk (Heap.get?_none_of_le (Nat.le_succ _)) hn hR (by simp; omega)
      · cases e
    · cases e
  · cases e
    obtain ⟨r, rfl, RR⟩ := R.one
    simp only [Rep] at RR
    obtain ⟨t, rfl⟩ := RR
    exact call_abs_int fun u tk => Out.same S (by simp [Rep])
  · cases e
    obtain ⟨r, rfl, RR⟩ := R.one
    simp only [Rep] at RR
    subst RR
    exact call_int_bool (Out.same S (by simp [Rep]))
  · cases e
end
end Bn
namespace Bn
open PySem PyProof.Rows
def notStar : Expr → Bool
  | .Starred .. => false
  | _ => true
theorem starEach_cons {e : Expr} {es : List Expr} {env : Env} (h : notStar e = true) : starEach (e :: es) env = (false, eval e env) :: starEach es env := by
  cases e <;> first | rfl | cases h
section
variable {c : Cx} {env : Env} {res : Res}
def OutL (c : Cx) (φ : List Addr) (s : Shared) (Q : List V → Hp → Prop) (rs : List Value) (s' : Shared) : Prop :=
  ∃ φ' H' vs, Ext [] φ s φ' s' ∧ Sim c φ' H' s' ∧ RepL c φ' s'.heap vs rs ∧ Q vs H'
def SoundL (c : Cx) (env : Env) (res : Res) (es : List Expr) (xs : List Ex) : Prop :=
  (es.all notStar = true ∧ es.length = xs.length) ∧ ∀ A q d k loc φ H s Q E pos, OkF c A q d φ s.heap → FSim c env res k loc φ s.heap → Sim c φ H s → wpL (Calls c) q d k xs loc Q E H →
    wpAny (model c.prog c.w) A (spliced (backTo pos (starEach es env))) (OutL c φ s fun vs H => vs.length = xs.length ∧ Q vs H) (OutX c φ s E) s
theorem soundL_nil : SoundL c env res [] [] := ⟨⟨rfl, rfl⟩, fun A q d k loc φ H s Q E pos hA hF hS hw => by
  simp only [wpL] at hw
  exact wpAny_pure ⟨φ, H, [], Ext.refl, hS, by simp [RepL], rfl, hw⟩⟩
theorem soundL_cons {e : Expr} {es : List Expr} {x : Ex} {xs : List Ex} (hn : notStar e = true) (h : SoundE c env res e x) (hs : SoundL c env res es xs) : SoundL c env res (e :: es) (x :: xs) :=
  ⟨⟨by simp [hn, hs.1.1], by simp [hs.1.2]⟩, fun A q d k loc φ H s Q E pos hA hF hS hw => by
  simp only [wpL] at hw
  rw [starEach_cons hn]
  show wpAny _ _ (spliced ((false, eval e env) :: backTo pos (starEach es env))) _ _ _
  refine Calls.spliced_cons (wpAny_mono (h A q d k loc φ H s _ E hA hF hS hw) ?_ fun _ _ h => h)
  rintro r s₁ ⟨φ₁, H₁, v₁, e₁, S₁, R₁, w₁⟩
  refine wpAny_mono (hs.2 A q d k loc φ₁ H₁ s₁ _ E pos (hA.mono e₁) (hF.mono e₁) S₁ w₁) ?_ fun _ _ h => OutX.lift e₁ S₁ h
  rintro rs s₂ ⟨φ₂, H₂, vs, e₂, S₂, R₂, l₂, w₂⟩
  exact ⟨φ₂, H₂, v₁ :: vs, e₁.trans e₂, S₂, by simp only [RepL]; exact ⟨Rep.mono e₂.toKp OwnX.nil R₁, R₂⟩, by simp [l₂], w₂⟩⟩
theorem sound_int {i : Int} {n : Nat} {pos : Pos} : SoundE c env res (.Constant (.int i) n pos) (.lit (.int i)) := fun A q d k loc φ H s Q E hA hF hS hw => by
  simp only [wpE] at hw
  exact wpAny_Constant_int (Out.at hS (by simp [Rep]) hw)
theorem sound_str {i : Str} {n : Nat} {pos : Pos} : SoundE c env res (.Constant (.str i) n pos) (.lit (.str i)) := fun A q d k loc φ H s Q E hA hF hS hw => by
  simp only [wpE] at hw
  exact Calls.Constant_str (Out.at hS (by simp [Rep]) hw)
theorem sound_bool {i : Bool} {n : Nat} {pos : Pos} : SoundE c env res (.Constant (.bool i) n pos) (.lit (.bool i)) := fun A q d k loc φ H s Q E hA hF hS hw => by
  simp only [wpE] at hw
  exact wpAny_pure (Out.at' hS (by simp [Rep]) hw)
theorem sound_none {n : Nat} {pos : Pos} : SoundE c env res (.Constant .none n pos) (.lit .none) := fun A q d k loc φ H s Q E hA hF hS hw => by
  simp only [wpE] at hw
  exact wpAny_pure (Out.at' hS (by simp [Rep]) hw)
theorem sound_var {x : Str} {pos : Pos} {i : Nat} (hx : res.lookup x = some i) (hd : (x == ("__debug__" : Str)) = false) (hcd : (x == ("__classdict__" : Str)) = false) : SoundE c env res (.Name x pos) (.var i) := fun A q d k loc φ H s Q E hA hF hS hw => by
  simp only [wpE] at hw
  obtain ⟨m, hn, h1, h2⟩ := hF.ns
  have h3 := h1 x i hx
  refine wpAny_Name ?_ hd
  split at hw
  · rename_i v hv
    rw [hv] at h3
    unfold SlotAt at h3
    split at h3
    · rename_i hk
      obtain ⟨r, h4, h5⟩ := h3
      exact wpAny_loadName_local hF.fn hk hn.1 h4 (Out.at' hS h5 hw)
    · rename_i hk
      obtain ⟨ca, r, h4, h5, r', rfl, h6⟩ := h3
      exact wpAny_loadName_cell hF.fn hk h4 h5 (Out.at' hS h6 hw)
    · rename_i hk
      obtain ⟨ca, r, h4, h5, r', rfl, h6⟩ := h3
      exact wpAny_loadName_free hF.fn hk h4 h5 (Out.at' hS h6 hw) hcd
    · exact h3.elim
  · exact hw.elim
theorem sound_glob {x : Str} {pos : Pos} {v : V} {r : Value} (O : c.Ok) (hx : env.kindOf x = some .globalImplicit) (hg : c.g x = some r) (hr : Rep c [] c.h0 v r) (hd : (x == ("__debug__" : Str)) = false) : SoundE c env res (.Name x pos) (.lit v) := fun A q d k loc φ H s Q E hA hF hS hw => by
  simp only [wpE] at hw
  refine Calls.Name_function_global hF.fn hx (Calls.loadGlobal_global (by rw [hF.gl]; exact O.gl.keeps hS.stays) hg ?_) hd
  refine Out.at' hS ?_ hw
  exact Rep.mono (X := []) ⟨List.nil_prefix, fun b o h _ _ _ => hS.stays b o h, fun a ha => .inr (hS.fresh a ha), fun b o es n h _ hd => ⟨o, es, n, hS.stays b o h, hd, rfl⟩, fun b o vs _ h _ _ hd => ⟨vs, by rw [← hd]; exact hS.stays b o h⟩⟩ OwnX.nil hr
theorem sound_tup {es : List Expr} {xs : List Ex} {n : Nat} {pos : Pos} (h : SoundL c env res es xs) (hz : xs.length ≤ 1000) : SoundE c env res (.Tuple es n pos) (.tup xs) := fun A q d k loc φ H s Q E hA hF hS hw => by
  simp only [wpE] at hw
  refine Tuple_ (wpAny_mono (h.2 A q d k loc φ H s _ E pos hA hF hS hw) ?_ fun _ _ h => h)
  rintro rs s₁ ⟨φ₁, H₁, vs, e₁, S₁, R₁, l₁, w₁⟩
  have hz' : vs.length ≤ sizeLine := by rw [l₁]; exact Nat.le_trans hz (by decide)
  exact wpAny_newObj_type (Out.lift e₁ ((out_newTuple S₁ (by simpa using R₁) hz').eq w₁)) (by show rs.toArray.size ≤ sizeLine; rw [List.size_toArray, R₁.length]; exact hz')
theorem sound_list {es : List Expr} {xs : List Ex} {pos : Pos} (h : SoundL c env res es xs) (hz : xs.length ≤ 1000) : SoundE c env res (.List es pos) (.list xs) := fun A q d k loc φ H s Q E hA hF hS hw => by
  simp only [wpE] at hw
  refine List_ (wpAny_mono (h.2 A q d k loc φ H s _ E pos hA hF hS hw) ?_ fun _ _ h => h)
  rintro rs s₁ ⟨φ₁, H₁, vs, e₁, S₁, R₁, l₁, w₁⟩
  have hz' : vs.length ≤ sizeLine := by rw [l₁]; exact Nat.le_trans hz (by decide)
  exact wpAny_newObj_type (Out.lift e₁ ((out_newList S₁ R₁ hz').eq w₁)) (by show rs.toArray.size ≤ sizeLine; rw [List.size_toArray, R₁.length]; exact hz')
theorem sound_neg {l : Expr} {a : Ex} {pos : Pos} (h1 : SoundE c env res l a) : SoundE c env res (.UnaryOp .USub l pos) (.neg a) := fun A q d k loc φ H s Q E hA hF hS hw => by
  simp only [wpE] at hw
  refine wpAny_UnaryOp (wpAny_mono (h1 A q d k loc φ H s _ E hA hF hS hw) ?_ fun _ _ h => h)
  rintro x s₁ ⟨φ₁, H₁, v₁, e₁, S₁, R₁, w₁⟩
  cases v₁ <;> try exact w₁.elim
  simp only [Rep] at R₁
  obtain ⟨t, rfl⟩ := R₁
  exact PyProof.Rows.neg_int (Out.lift e₁ (Out.at S₁ (by simp [Rep]) w₁))
theorem sound_not {l : Expr} {a : Ex} {pos : Pos} (h1 : SoundE c env res l a) : SoundE c env res (.UnaryOp .Not l pos) (.not a) := fun A q d k loc φ H s Q E hA hF hS hw => by
  simp only [wpE] at hw
  refine wpAny_UnaryOp (wpAny_mono (h1 A q d k loc φ H s _ E hA hF hS hw) ?_ fun _ _ h => h)
  rintro x s₁ ⟨φ₁, H₁, v₁, e₁, S₁, R₁, w₁⟩
  cases v₁ <;> try exact w₁.elim
  simp only [Rep] at R₁
  subst R₁
  exact not_of (wpAny_truthy_bool (Out.lift e₁ (Out.at' S₁ (by simp [Rep]) w₁)))
theorem boolOp_one {pos : Pos} {op : BoolOp} {x : Sem Value} : boolOp pos op [x] = x := rfl
theorem boolOp_two {pos : Pos} {op : BoolOp} {x y : Sem Value} {r : List (Sem Value)} : boolOp pos op (x :: y :: r) = (do
    let v ← x
    standAt pos
    let t ← holding [v] (truthy v)
    match op, t with
    | .And, false | .Or, true => pure v
    | _, _ => boolOp pos op (y :: r)) := rfl
def SoundEs (c : Cx) (env : Env) (res : Res) : List Expr → List Ex → Prop
  | [], [] => True
  | e :: es, x :: xs => SoundE c env res e x ∧ SoundEs c env res es xs
  | _, _ => False
theorem sound_and {pos : Pos} : ∀ {es : List Expr} {xs : List Ex}, SoundEs c env res es xs → SoundE c env res (.BoolOp .And es pos) (.and xs)
  | [], [], _ => fun A q d k loc φ H s Q E hA hF hS hw => by simp only [wpE, wpAnd] at hw
  | [], _ :: _, h => by simp only [SoundEs] at h
  | _ :: _, [], h => by simp only [SoundEs] at h
  | [e], _ :: _ :: _, h => by simp only [SoundEs] at h; exact h.2.elim
  | _ :: _ :: _, [x], h => by simp only [SoundEs] at h; exact h.2.elim
  | [e], [x], h => fun A q d k loc φ H s Q E hA hF hS hw => by
    simp only [SoundEs] at h
    simp only [wpE, wpAnd] at hw
    show wpAny _ _ (boolOp pos .And [eval e env]) _ _ _
    rw [boolOp_one]
    exact h.1 A q d k loc φ H s Q E hA hF hS hw
  | e :: e' :: es, x :: x' :: xs, h => fun A q d k loc φ H s Q E hA hF hS hw => by
    have h' := h
    simp only [SoundEs] at h
    have ih := sound_and (pos := pos) (show SoundEs c env res (e' :: es) (x' :: xs) from h'.2)
    simp only [wpE] at hw
    rw [wpAnd] at hw
    show wpAny _ _ (boolOp pos .And (eval e env :: eval e' env :: evalEach es env)) _ _ _
    rw [boolOp_two]
    refine wpAny_bind (wpAny_mono (h.1 A q d k loc φ H s _ E hA hF hS hw) ?_ fun _ _ h => h)
    rintro r s₁ ⟨φ₁, H₁, v₁, e₁, S₁, R₁, w₁⟩
    cases v₁ <;> simp only [truth] at w₁
    rename_i b
    simp only [Rep] at R₁
    subst R₁
    refine wpAny_bind (wpAny_standAt (wpAny_bind (wpAny_holding (wpAny_truthy_bool ?_))))
    cases b with
    | false => exact wpAny_pure (Out.lift e₁ (Out.at' S₁ (by simp [Rep]) w₁))
    | true =>
      refine wpAny_mono (ih A q d k loc φ₁ H₁ s₁ Q E (hA.mono e₁) (hF.mono e₁) S₁ (by simp only [wpE]; exact w₁)) (fun _ _ h => Out.lift e₁ h) fun _ _ h => OutX.lift e₁ S₁ h
theorem sound_or {pos : Pos} : ∀ {es : List Expr} {xs : List Ex}, SoundEs c env res es xs → SoundE c env res (.BoolOp .Or es pos) (.or xs)
  | [], [], _ => fun A q d k loc φ H s Q E hA hF hS hw => by simp only [wpE, wpOr] at hw
  | [], _ :: _, h => by simp only [SoundEs] at h
  | _ :: _, [], h => by simp only [SoundEs] at h
  | [e], _ :: _ :: _, h => by simp only [SoundEs] at h; exact h.2.elim
  | _ :: _ :: _, [x], h => by simp only [SoundEs] at h; exact h.2.elim
  | [e], [x], h => fun A q d k loc φ H s Q E hA hF hS hw => by
    simp only [SoundEs] at h
    simp only [wpE, wpOr] at hw
    show wpAny _ _ (boolOp pos .Or [eval e env]) _ _ _
    rw [boolOp_one]
    exact h.1 A q d k loc φ H s Q E hA hF hS hw
  | e :: e' :: es, x :: x' :: xs, h => fun A q d k loc φ H s Q E hA hF hS hw => by
    have h' := h
    simp only [SoundEs] at h
    have ih := sound_or (pos := pos) (show SoundEs c env res (e' :: es) (x' :: xs) from h'.2)
    simp only [wpE] at hw
    rw [wpOr] at hw
    show wpAny _ _ (boolOp pos .Or (eval e env :: eval e' env :: evalEach es env)) _ _ _
    rw [boolOp_two]
    refine wpAny_bind (wpAny_mono (h.1 A q d k loc φ H s _ E hA hF hS hw) ?_ fun _ _ h => h)
    rintro r s₁ ⟨φ₁, H₁, v₁, e₁, S₁, R₁, w₁⟩
    cases v₁ <;> simp only [truth] at w₁
    rename_i b
    simp only [Rep] at R₁
    subst R₁
    refine wpAny_bind (wpAny_standAt (wpAny_bind (wpAny_holding (wpAny_truthy_bool ?_))))
    cases b with
    | true => exact wpAny_pure (Out.lift e₁ (Out.at' S₁ (by simp [Rep]) w₁))
    | false =>
      refine wpAny_mono (ih A q d k loc φ₁ H₁ s₁ Q E (hA.mono e₁) (hF.mono e₁) S₁ (by simp only [wpE]; exact w₁)) (fun _ _ h => Out.lift e₁ h) fun _ _ h => OutX.lift e₁ S₁ h
theorem sound_bin {l r : Expr} {a b : Ex} {op : Op} {pos : Pos} (O : c.Ok) (h1 : SoundE c env res l a) (h2 : SoundE c env res r b) : SoundE c env res (.BinOp l op.real r pos) (.bin op a b) := fun A q d k loc φ H s Q E hA hF hS hw => by
  simp only [wpE] at hw
  refine wpAny_BinOp (wpAny_mono (h1 A q d k loc φ H s _ E hA hF hS hw) ?_ fun _ _ h => h)
  rintro x s₁ ⟨φ₁, H₁, v₁, e₁, S₁, R₁, w₁⟩
  refine wpAny_mono (h2 A q d k loc φ₁ H₁ s₁ _ E (hA.mono e₁) (hF.mono e₁) S₁ w₁) ?_ fun _ _ h => OutX.lift e₁ S₁ h
  rintro y s₂ ⟨φ₂, H₂, v₂, e₂, S₂, R₂, w₂⟩
  split at w₂
  · rename_i e
    exact (do_bin O (hA.mono (e₁.trans e₂)) S₂ (Rep.mono e₂.toKp OwnX.nil R₁) R₂ e).use (e₁.trans e₂) w₂
  · exact w₂.elim
theorem sound_idx {l r : Expr} {a b : Ex} {pos : Pos} (h1 : SoundE c env res l a) (h2 : SoundE c env res r b) : SoundE c env res (.Subscript l r pos) (.idx a b) := fun A q d k loc φ H s Q E hA hF hS hw => by
  simp only [wpE] at hw
  refine Subscript_ (wpAny_mono (h1 A q d k loc φ H s _ E hA hF hS hw) ?_ fun _ _ h => h)
  rintro x s₁ ⟨φ₁, H₁, v₁, e₁, S₁, R₁, w₁⟩
  refine wpAny_mono (h2 A q d k loc φ₁ H₁ s₁ _ E (hA.mono e₁) (hF.mono e₁) S₁ w₁) ?_ fun _ _ h => OutX.lift e₁ S₁ h
  rintro y s₂ ⟨φ₂, H₂, v₂, e₂, S₂, R₂, w₂⟩
  split at w₂
  · rename_i e
    exact (do_idx S₂ (Rep.mono e₂.toKp OwnX.nil R₁) R₂ e).use (e₁.trans e₂) w₂
  · exact w₂.elim
end
end Bn
namespace Bn
open PySem PyProof.Rows
def notSet : Expr → Bool
  | .Set .. => false
  | _ => true
theorem marks_of {op : CmpOp} {e : Expr} (h : notSet e = true) (t : Sem Value) : markedBehindIn op e t = t := by
  refine markedBehindIn_of_false ?_
  cases e <;> first | rfl | cases h
theorem markedEach_of {env : Env} : ∀ {ops : List CmpOp} {es : List Expr}, es.all notSet = true → markedEach ops es (evalEach es env) = evalEach es env
  | [], es, _ => by cases es <;> rfl
  | [op], [], _ => rfl
  | [op], [e], h => by
    simp only [List.all_cons, List.all_nil, Bool.and_true] at h
    show [markedBehindIn op e (eval e env)] = _
    rw [marks_of h]; rfl
  | [op], e :: e' :: es, h => by
    simp only [List.all_cons, Bool.and_eq_true] at h
    show eval e env :: markedEach [] (e' :: es) (evalEach (e' :: es) env) = _
    rw [markedEach_of (by simp [h.2])]; rfl
  | op :: op' :: ops, [], _ => rfl
  | op :: op' :: ops, e :: es, h => by
    simp only [List.all_cons, Bool.and_eq_true] at h
    show eval e env :: markedEach (op' :: ops) es (evalEach es env) = _
    rw [markedEach_of h.2]; rfl
section
variable {c : Cx} {env : Env} {res : Res}
theorem opr {M : Model} {A : Around} {vs : List Value} {m : Sem Value} {Q : Value → Shared → Prop} {E : Value → Shared → Prop} {s : Shared} (h : wpAny M A m Q E s) : wpAny M A (operate vs m) Q E s := fun Γ p hΓ => by rw [Sem.wp_operate]; exact h Γ p hΓ
theorem sound_chain {pos : Pos} : ∀ {es : List Expr} {xs : List Ex} {os : List Cm}, SoundEs c env res es xs → os.length = es.length → ∀ A q d k loc φ H s Q E v x, OkF c A q d φ s.heap → FSim c env res k loc φ s.heap → Sim c φ H s → Rep c φ s.heap v x →
    wpC (Calls c) q d k v os xs loc Q E H → wpAny (model c.prog c.w) A (compareChain pos x (os.map Cm.real) (evalEach es env)) (Out c φ s fun v H => ∃ b, v = .bool b ∧ Q b H) (OutX c φ s E) s
  | [], xs, os, h, hl => fun A q d k loc φ H s Q E v x hA hF hS hR hw => by
    cases xs with
    | nil => cases os <;> simp only [wpC] at hw
    | cons => simp only [SoundEs] at h
  | e :: es, [], os, h, hl => by simp only [SoundEs] at h
  | e :: es, y :: ys, [], h, hl => by simp at hl
  | [e], y :: y' :: ys, o :: os, h, hl => by simp only [SoundEs] at h; exact h.2.elim
  | e :: e' :: es, [y], o :: os, h, hl => by simp only [SoundEs] at h; exact h.2.elim
  | [e], [y], o :: os, h, hl => fun A q d k loc φ H s Q E v x hA hF hS hR hw => by
    simp only [List.length_cons, List.length_nil, Nat.add_eq_right, List.length_eq_zero_iff] at hl
    subst hl
    simp only [SoundEs] at h
    rw [wpC] at hw
    show wpAny _ _ (holding [x] (eval e env) >>= fun rv => standAt pos >>= fun _ => operate [x, rv] (compareOp o.real x rv)) _ _ _
    refine wpAny_bind (wpAny_holding (wpAny_mono (h.1 A q d k loc φ H s _ E hA hF hS hw) ?_ fun _ _ h => h))
    rintro r s₁ ⟨φ₁, H₁, w, e₁, S₁, R₁, w₁⟩
    split at w₁
    · rename_i b hb
      refine wpAny_bind (wpAny_standAt (opr (do_cmp (by have := hA.un; show _ < 9900; omega) S₁ (Rep.mono e₁.toKp OwnX.nil hR) R₁ hb ?_)))
      refine Out.lift e₁ (Out.at' S₁ (by simp [Rep]) ⟨b, rfl, ?_⟩)
      simpa using w₁
    · exact w₁.elim
  | e :: e' :: es, y :: y' :: ys, [o], h, hl => by simp at hl
  | e :: e' :: es, y :: y' :: ys, o :: o' :: os, h, hl => fun A q d k loc φ H s Q E v x hA hF hS hR hw => by
    have h' := h
    simp only [SoundEs] at h
    have ih := sound_chain (pos := pos) (es := e' :: es) (xs := y' :: ys) (os := o' :: os) h'.2 (by simpa using hl)
    rw [wpC] at hw
    show wpAny _ _ (holding [x] (eval e env) >>= fun rv => standAt pos >>= fun _ => holding [x, rv] (compareOp o.real x rv) >>= fun cc => release [x, rv] [cc] >>= fun _ => holding [cc, rv] (truthy cc) >>= fun t =>
      if t then compareChain pos rv (o'.real :: os.map Cm.real) (evalEach (e' :: es) env) else pure cc) _ _ _
    refine wpAny_bind (wpAny_holding (wpAny_mono (h.1 A q d k loc φ H s _ E hA hF hS hw) ?_ fun _ _ h => h))
    rintro r s₁ ⟨φ₁, H₁, w, e₁, S₁, R₁, w₁⟩
    split at w₁
    · rename_i b hb
      refine wpAny_bind (wpAny_standAt (wpAny_bind (wpAny_holding (do_cmp (by have := hA.un; show _ < 9900; omega) S₁ (Rep.mono e₁.toKp OwnX.nil hR) R₁ hb ?_))))
      refine wpAny_bind (wpAny_release (wpAny_bind (wpAny_holding (wpAny_truthy_bool ?_))))
      cases b with
      | true =>
        simp only [if_true]
        exact wpAny_mono (ih A q d k loc φ₁ H₁ s₁ Q E w r (hA.mono e₁) (hF.mono e₁) S₁ R₁ w₁) (fun _ _ h => Out.lift e₁ h) fun _ _ h => OutX.lift e₁ S₁ h
      | false =>
        simp only [Bool.false_eq_true, if_false]
        exact wpAny_pure (Out.lift e₁ (Out.at' S₁ (by simp [Rep]) ⟨false, rfl, w₁⟩))
    · exact w₁.elim
theorem sound_cmp {l : Expr} {a : Ex} {es : List Expr} {xs : List Ex} {os : List Cm} {pos : Pos} (h1 : SoundE c env res l a) (h2 : SoundEs c env res es xs) (hl : os.length = es.length) (hn : es.all notSet = true) :
    SoundE c env res (.Compare l (os.map Cm.real) es pos) (.cmp a os xs) := fun A q d k loc φ H s Q E hA hF hS hw => by
  simp only [wpE] at hw
  show wpAny _ _ (eval l env >>= fun v => compareChain pos v (os.map Cm.real) (markedEach (os.map Cm.real) es (evalEach es env))) _ _ _
  rw [markedEach_of hn]
  refine wpAny_bind (wpAny_mono (h1 A q d k loc φ H s _ E hA hF hS hw) ?_ fun _ _ h => h)
  rintro x s₁ ⟨φ₁, H₁, v₁, e₁, S₁, R₁, w₁⟩
  refine wpAny_mono (sound_chain h2 hl A q d k loc φ₁ H₁ s₁ _ E v₁ x (hA.mono e₁) (hF.mono e₁) S₁ R₁ w₁) (fun _ _ h => Out.lift e₁ (Out.mono ?_ h)) fun _ _ h => OutX.lift e₁ S₁ h
  rintro v H ⟨b, rfl, hq⟩
  exact hq
def OutB (c : Cx) (φ : List Addr) (s : Shared) (Q : Bool → Hp → Prop) (b : Bool) (s' : Shared) : Prop :=
  ∃ φ' H', Ext [] φ s φ' s' ∧ Sim c φ' H' s' ∧ Q b H'
theorem OutB.lift {φ φ₁ : List Addr} {s s₁ s₂ : Shared} {Q : Bool → Hp → Prop} {r : Bool} (e : Ext [] φ s φ₁ s₁) (h : OutB c φ₁ s₁ Q r s₂) : OutB c φ s Q r s₂ :=
  let ⟨φ', H', e', S, hq⟩ := h; ⟨φ', H', e.trans e', S, hq⟩
def SoundT (c : Cx) (env : Env) (res : Res) (e : Expr) (x : Ex) : Prop :=
  ∀ A q d k loc φ H s Q E, OkF c A q d φ s.heap → FSim c env res k loc φ s.heap → Sim c φ H s → wpE (Calls c) q d k x loc (truthP Q) E H →
    wpAny (model c.prog c.w) A (isTrue e env (eval e env)) (OutB c φ s Q) (OutX c φ s E) s
def plainTest : Expr → Bool
  | .UnaryOp .Not _ _ => false
  | .BoolOp .. => false
  | .IfExp .. => false
  | .Compare .. => false
  | _ => true
theorem isTrue_plainTest {e : Expr} (h : plainTest e = true) (whole : Sem Value) : isTrue e env whole = (do
    let v ← whole
    standAt e.pos
    holding [v] (truthy v)) := by
  cases e <;> first | rfl | (cases h; done) | skip
  rename_i op _ _
  cases op <;> first | rfl | cases h
theorem soundT_plain {e : Expr} {x : Ex} (h : SoundE c env res e x) (hp : plainTest e = true) : SoundT c env res e x := fun A q d k loc φ H s Q E hA hF hS hw => by
  rw [isTrue_plainTest hp]
  refine wpAny_bind (wpAny_mono (h A q d k loc φ H s _ E hA hF hS hw) ?_ fun _ _ h => h)
  rintro r s₁ ⟨φ₁, H₁, v₁, e₁, S₁, R₁, w₁⟩
  unfold truthP truth at w₁
  cases v₁ <;> try exact w₁.elim
  simp only [Rep] at R₁
  subst R₁
  exact wpAny_bind (wpAny_standAt (wpAny_holding (wpAny_truthy_bool ⟨φ₁, H₁, e₁, S₁, w₁⟩)))
theorem soundT_not {l : Expr} {a : Ex} {pos : Pos} (h : SoundT c env res l a) : SoundT c env res (.UnaryOp .Not l pos) (.not a) := fun A q d k loc φ H s Q E hA hF hS hw => by
  simp only [wpE] at hw
  refine wpAny_isTrue_Not ?_
  refine wpAny_mono (h A q d k loc φ H s (fun b H => Q (!b) H) E hA hF hS ?_) (fun _ _ h => h) fun _ _ h => h
  have e : (fun (x : V) (H : Hp) => match x with | .bool b => truthP Q (.bool !b) H | _ => False) = truthP (fun b H => Q (!b) H) := by funext x H; cases x <;> rfl
  rw [← e]; exact hw
def SoundTs (c : Cx) (env : Env) (res : Res) : List Expr → List Ex → Prop
  | [], [] => True
  | e :: es, x :: xs => SoundT c env res e x ∧ SoundTs c env res es xs
  | _, _ => False
theorem soundT_all : ∀ {es : List Expr} {xs : List Ex}, SoundTs c env res es xs → ∀ A q d k loc φ H s Q E, OkF c A q d φ s.heap → FSim c env res k loc φ s.heap → Sim c φ H s → wpAnd (Calls c) q d k xs loc (truthP Q) E H →
    wpAny (model c.prog c.w) A (allTrue .And es env) (OutB c φ s Q) (OutX c φ s E) s
  | [], [], _ => fun A q d k loc φ H s Q E hA hF hS hw => by simp only [wpAnd] at hw
  | [], _ :: _, h => by simp only [SoundTs] at h
  | _ :: _, [], h => by simp only [SoundTs] at h
  | e :: es, x :: xs, h => fun A q d k loc φ H s Q E hA hF hS hw => by
    have h' := h
    simp only [SoundTs] at h
    rw [wpAnd] at hw
    refine wpAny_allTrue_And_cons ?_
    cases xs with
    | nil =>
      cases es with
      | cons => simp only [SoundTs] at h; exact h.2.elim
      | nil =>
        refine wpAny_mono (h.1 A q d k loc φ H s Q E hA hF hS hw) ?_ fun _ _ h => h
        intro b s₁ hb
        cases b with
        | false => exact hb
        | true => exact wpAny_allTrue_And_nil hb
    | cons x' xs =>
      have e : (fun (v : V) (H : Hp) => match x' :: xs, truth v with | [], _ => truthP Q v H | _ :: _, some true => wpAnd (Calls c) q d k (x' :: xs) loc (truthP Q) E H | _ :: _, some false => truthP Q v H | _ :: _, none => False) =
          truthP (fun b H => match b with | true => wpAnd (Calls c) q d k (x' :: xs) loc (truthP Q) E H | false => Q false H) := by
        funext v H
        cases v <;> first | rfl | skip
        rename_i b; cases b <;> rfl
      refine wpAny_mono (h.1 A q d k loc φ H s _ E hA hF hS (e ▸ hw)) ?_ fun _ _ h => h
      rintro b s₁ ⟨φ₁, H₁, e₁, S₁, w₁⟩
      cases b with
      | false => exact ⟨φ₁, H₁, e₁, S₁, w₁⟩
      | true => exact wpAny_mono (soundT_all h'.2 A q d k loc φ₁ H₁ s₁ Q E (hA.mono e₁) (hF.mono e₁) S₁ w₁) (fun _ _ h => OutB.lift e₁ h) fun _ _ h => OutX.lift e₁ S₁ h
theorem soundT_any : ∀ {es : List Expr} {xs : List Ex}, SoundTs c env res es xs → ∀ A q d k loc φ H s Q E, OkF c A q d φ s.heap → FSim c env res k loc φ s.heap → Sim c φ H s → wpOr (Calls c) q d k xs loc (truthP Q) E H →
    wpAny (model c.prog c.w) A (allTrue .Or es env) (OutB c φ s Q) (OutX c φ s E) s
  | [], [], _ => fun A q d k loc φ H s Q E hA hF hS hw => by simp only [wpOr] at hw
  | [], _ :: _, h => by simp only [SoundTs] at h
  | _ :: _, [], h => by simp only [SoundTs] at h
  | e :: es, x :: xs, h => fun A q d k loc φ H s Q E hA hF hS hw => by
    have h' := h
    simp only [SoundTs] at h
    rw [wpOr] at hw
    refine wpAny_allTrue_Or_cons ?_
    cases xs with
    | nil =>
      cases es with
      | cons => simp only [SoundTs] at h; exact h.2.elim
      | nil =>
        refine wpAny_mono (h.1 A q d k loc φ H s Q E hA hF hS hw) ?_ fun _ _ h => h
        intro b s₁ hb
        cases b with
        | true => exact hb
        | false => exact wpAny_allTrue_Or_nil hb
    | cons x' xs =>
      have e : (fun (v : V) (H : Hp) => match x' :: xs, truth v with | [], _ => truthP Q v H | _ :: _, some false => wpOr (Calls c) q d k (x' :: xs) loc (truthP Q) E H | _ :: _, some true => truthP Q v H | _ :: _, none => False) =
          truthP (fun b H => match b with | false => wpOr (Calls c) q d k (x' :: xs) loc (truthP Q) E H | true => Q true H) := by
        funext v H
        cases v <;> first | rfl | skip
        rename_i b; cases b <;> rfl
      refine wpAny_mono (h.1 A q d k loc φ H s _ E hA hF hS (e ▸ hw)) ?_ fun _ _ h => h
      rintro b s₁ ⟨φ₁, H₁, e₁, S₁, w₁⟩
      cases b with
      | true => exact ⟨φ₁, H₁, e₁, S₁, w₁⟩
      | false => exact wpAny_mono (soundT_any h'.2 A q d k loc φ₁ H₁ s₁ Q E (hA.mono e₁) (hF.mono e₁) S₁ w₁) (fun _ _ h => OutB.lift e₁ h) fun _ _ h => OutX.lift e₁ S₁ h
theorem soundT_and {es : List Expr} {xs : List Ex} {pos : Pos} (h : SoundTs c env res es xs) : SoundT c env res (.BoolOp .And es pos) (.and xs) := fun A q d k loc φ H s Q E hA hF hS hw => by
  simp only [wpE] at hw
  exact wpAny_isTrue_BoolOp (soundT_all h A q d k loc φ H s Q E hA hF hS hw)
theorem soundT_or {es : List Expr} {xs : List Ex} {pos : Pos} (h : SoundTs c env res es xs) : SoundT c env res (.BoolOp .Or es pos) (.or xs) := fun A q d k loc φ H s Q E hA hF hS hw => by
  simp only [wpE] at hw
  exact wpAny_isTrue_BoolOp (soundT_any h A q d k loc φ H s Q E hA hF hS hw)
theorem soundT_chain {pos : Pos} : ∀ {es : List Expr} {xs : List Ex} {os : List Cm}, SoundEs c env res es xs → os.length = es.length → ∀ A q d k loc φ H s Q E v x, OkF c A q d φ s.heap → FSim c env res k loc φ s.heap → Sim c φ H s → Rep c φ s.heap v x →
    wpC (Calls c) q d k v os xs loc Q E H → wpAny (model c.prog c.w) A (testChain pos x (os.map Cm.real) (evalEach es env)) (OutB c φ s Q) (OutX c φ s E) s
  | [], xs, os, h, hl => fun A q d k loc φ H s Q E v x hA hF hS hR hw => by
    cases xs with
    | nil => cases os <;> simp only [wpC] at hw
    | cons => simp only [SoundEs] at h
  | e :: es, [], os, h, hl => by simp only [SoundEs] at h
  | e :: es, y :: ys, [], h, hl => by simp at hl
  | [e], y :: y' :: ys, o :: os, h, hl => by simp only [SoundEs] at h; exact h.2.elim
  | e :: e' :: es, [y], o :: os, h, hl => by simp only [SoundEs] at h; exact h.2.elim
  | [e], [y], o :: os, h, hl => fun A q d k loc φ H s Q E v x hA hF hS hR hw => by
    simp only [List.length_cons, List.length_nil, Nat.add_eq_right, List.length_eq_zero_iff] at hl
    subst hl
    simp only [SoundEs] at h
    rw [wpC] at hw
    show wpAny _ _ (holding [x] (eval e env) >>= fun rv => standAt pos >>= fun _ => operate [x, rv] (compareOp o.real x rv) >>= fun cc => holding [cc] (truthy cc)) _ _ _
    refine wpAny_bind (wpAny_holding (wpAny_mono (h.1 A q d k loc φ H s _ E hA hF hS hw) ?_ fun _ _ h => h))
    rintro r s₁ ⟨φ₁, H₁, w, e₁, S₁, R₁, w₁⟩
    split at w₁
    · rename_i b hb
      refine wpAny_bind (wpAny_standAt (wpAny_bind (opr (do_cmp (by have := hA.un; show _ < 9900; omega) S₁ (Rep.mono e₁.toKp OwnX.nil hR) R₁ hb ?_))))
      refine wpAny_holding (wpAny_truthy_bool ⟨φ₁, H₁, e₁, S₁, ?_⟩)
      simpa using w₁
    · exact w₁.elim
  | e :: e' :: es, y :: y' :: ys, [o], h, hl => by simp at hl
  | e :: e' :: es, y :: y' :: ys, o :: o' :: os, h, hl => fun A q d k loc φ H s Q E v x hA hF hS hR hw => by
    have h' := h
    simp only [SoundEs] at h
    have ih := soundT_chain (pos := pos) (es := e' :: es) (xs := y' :: ys) (os := o' :: os) h'.2 (by simpa using hl)
    rw [wpC] at hw
    show wpAny _ _ (holding [x] (eval e env) >>= fun rv => standAt pos >>= fun _ => holding [x, rv] (compareOp o.real x rv) >>= fun cc => release [x, rv] [cc] >>= fun _ => holding [cc, rv] (truthy cc) >>= fun t =>
      if t then testChain pos rv (o'.real :: os.map Cm.real) (evalEach (e' :: es) env) else pure false) _ _ _
    refine wpAny_bind (wpAny_holding (wpAny_mono (h.1 A q d k loc φ H s _ E hA hF hS hw) ?_ fun _ _ h => h))
    rintro r s₁ ⟨φ₁, H₁, w, e₁, S₁, R₁, w₁⟩
    split at w₁
    · rename_i b hb
      refine wpAny_bind (wpAny_standAt (wpAny_bind (wpAny_holding (do_cmp (by have := hA.un; show _ < 9900; omega) S₁ (Rep.mono e₁.toKp OwnX.nil hR) R₁ hb ?_))))
      refine wpAny_bind (wpAny_release (wpAny_bind (wpAny_holding (wpAny_truthy_bool ?_))))
      cases b with
      | true =>
        simp only [if_true]
        exact wpAny_mono (ih A q d k loc φ₁ H₁ s₁ Q E w r (hA.mono e₁) (hF.mono e₁) S₁ R₁ w₁) (fun _ _ h => OutB.lift e₁ h) fun _ _ h => OutX.lift e₁ S₁ h
      | false =>
        simp only [Bool.false_eq_true, if_false]
        exact wpAny_pure ⟨φ₁, H₁, e₁, S₁, w₁⟩
    · exact w₁.elim
theorem soundT_cmp {l : Expr} {a : Ex} {es : List Expr} {xs : List Ex} {os : List Cm} {pos : Pos} (h1 : SoundE c env res l a) (h2 : SoundEs c env res es xs) (hl : os.length = es.length) (hn : es.all notSet = true) :
    SoundT c env res (.Compare l (os.map Cm.real) es pos) (.cmp a os xs) := fun A q d k loc φ H s Q E hA hF hS hw => by
  simp only [wpE] at hw
  show wpAny _ _ (eval l env >>= fun v => testChain pos v (os.map Cm.real) (markedEach (os.map Cm.real) es (evalEach es env))) _ _ _
  rw [markedEach_of hn]
  refine wpAny_bind (wpAny_mono (h1 A q d k loc φ H s _ E hA hF hS hw) ?_ fun _ _ h => h)
  rintro x s₁ ⟨φ₁, H₁, v₁, e₁, S₁, R₁, w₁⟩
  exact wpAny_mono (soundT_chain h2 hl A q d k loc φ₁ H₁ s₁ Q E v₁ x (hA.mono e₁) (hF.mono e₁) S₁ R₁ w₁) (fun _ _ h => OutB.lift e₁ h) fun _ _ h => OutX.lift e₁ S₁ h
end
end Bn
namespace Bn
open PySem PyProof.Rows
def Tc.real : Tc → Option String
  | .int => some "int" | .bool => some "bool" | .str => some "str" | .list => some "list" | .tuple => some "tuple" | .own _ => none
section
variable {c : Cx} {A : Around} {q : Bool} {d : Nat} {φ : List Addr} {H H' : Hp} {s : Shared}
theorem do_isi (S : Sim c φ H s) {v : V} {x : Value} {t : Tc} {T : String} {b : Bool} (R : Rep c φ s.heap v x) (hT : t.real = some T) (e : isiV v t = some b) : Does c A φ s (call (.builtin "isinstance") [x, .type T]) (.bool b) H := by
  intro E
  have hlst : ∀ {i : Nat} {x : Value}, Rep c φ s.heap (.lst i) x → ∃ a o, x = .ref a ∧ s.heap.get? a = some o ∧ o.cls = .type "list" := fun R => by
    simp only [Rep] at R
    obtain ⟨a, rfl, ha⟩ := R
    obtain ⟨o, h1, h2⟩ := S.isList (List.mem_of_getElem? ha)
    exact ⟨a, o, rfl, h1, h2⟩
  cases t <;> simp only [Tc.real, Option.some.injEq, reduceCtorEq] at hT <;> subst hT <;> cases v <;> simp only [isiV, Option.some.injEq, reduceCtorEq, decide_true, decide_false, Bool.or_true, Bool.or_false, Bool.true_or] at e <;> (try cases e)
  all_goals first
    | (simp only [Rep] at R; subst R; first | exact IsiPair.NoneType_int (Out.at S (by simp [Rep]) ⟨rfl, rfl⟩) | exact IsiPair.NoneType_bool (Out.at S (by simp [Rep]) ⟨rfl, rfl⟩) | exact IsiPair.NoneType_str (Out.at S (by simp [Rep]) ⟨rfl, rfl⟩) | exact IsiPair.NoneType_list (Out.at S (by simp [Rep]) ⟨rfl, rfl⟩) | exact IsiPair.NoneType_tuple (Out.at S (by simp [Rep]) ⟨rfl, rfl⟩))
    | (simp only [Rep] at R; subst R; first | exact IsiPair.bool_int (Out.at' S (by simp [Rep]) ⟨rfl, rfl⟩) | exact IsiPair.bool_bool (Out.at' S (by simp [Rep]) ⟨rfl, rfl⟩) | exact IsiPair.bool_str (Out.at S (by simp [Rep]) ⟨rfl, rfl⟩) | exact IsiPair.bool_list (Out.at S (by simp [Rep]) ⟨rfl, rfl⟩) | exact IsiPair.bool_tuple (Out.at S (by simp [Rep]) ⟨rfl, rfl⟩))
    | (simp only [Rep] at R; obtain ⟨t1, rfl⟩ := R; first | exact IsiPair.int_int (Out.at' S (by simp [Rep]) ⟨rfl, rfl⟩) | exact IsiPair.int_bool (Out.at S (by simp [Rep]) ⟨rfl, rfl⟩) | exact IsiPair.int_str (Out.at S (by simp [Rep]) ⟨rfl, rfl⟩) | exact IsiPair.int_list (Out.at S (by simp [Rep]) ⟨rfl, rfl⟩) | exact IsiPair.int_tuple (Out.at S (by simp [Rep]) ⟨rfl, rfl⟩))
    | (simp only [Rep] at R; obtain ⟨t1, rfl⟩ := R; first | exact IsiPair.str_int (Out.at S (by simp [Rep]) ⟨rfl, rfl⟩) | exact IsiPair.str_bool (Out.at S (by simp [Rep]) ⟨rfl, rfl⟩) | exact IsiPair.str_str (Out.at' S (by simp [Rep]) ⟨rfl, rfl⟩) | exact IsiPair.str_list (Out.at S (by simp [Rep]) ⟨rfl, rfl⟩) | exact IsiPair.str_tuple (Out.at S (by simp [Rep]) ⟨rfl, rfl⟩))
    | (obtain ⟨a, o, rfl, ho, hc⟩ := hlst R; first | exact IsiPair.list_int ho hc (Out.at S (by simp [Rep]) ⟨rfl, rfl⟩) | exact IsiPair.list_bool ho hc (Out.at S (by simp [Rep]) ⟨rfl, rfl⟩) | exact IsiPair.list_str ho hc (Out.at S (by simp [Rep]) ⟨rfl, rfl⟩) | exact IsiPair.list_list ho hc (Out.at' S (by simp [Rep]) ⟨rfl, rfl⟩) | exact IsiPair.list_tuple ho hc (Out.at S (by simp [Rep]) ⟨rfl, rfl⟩))
    | (simp only [Rep] at R; obtain ⟨a, o, vs, n, rfl, _, ho, hc, _⟩ := R; first | exact IsiPair.tuple_int ho hc (Out.at S (by simp [Rep]) ⟨rfl, rfl⟩) | exact IsiPair.tuple_bool ho hc (Out.at S (by simp [Rep]) ⟨rfl, rfl⟩) | exact IsiPair.tuple_str ho hc (Out.at S (by simp [Rep]) ⟨rfl, rfl⟩) | exact IsiPair.tuple_list ho hc (Out.at S (by simp [Rep]) ⟨rfl, rfl⟩) | exact IsiPair.tuple_tuple ho hc (Out.at' S (by simp [Rep]) ⟨rfl, rfl⟩))
    | (simp only [Rep] at R; obtain ⟨a, o, es, n, rfl, _, ho, hc, _⟩ := R; first | exact IsiPair.dict_int ho hc (Out.at S (by simp [Rep]) ⟨rfl, rfl⟩) | exact IsiPair.dict_bool ho hc (Out.at S (by simp [Rep]) ⟨rfl, rfl⟩) | exact IsiPair.dict_str ho hc (Out.at S (by simp [Rep]) ⟨rfl, rfl⟩) | exact IsiPair.dict_list ho hc (Out.at S (by simp [Rep]) ⟨rfl, rfl⟩) | exact IsiPair.dict_tuple ho hc (Out.at S (by simp [Rep]) ⟨rfl, rfl⟩))
end
section
variable {c : Cx} {env : Env} {res : Res}
theorem notStars {es : List Expr} {pos : Pos} : es.all notStar = true → (backTo pos (starEach es env)).any (·.1) = false := by
  induction es with
  | nil => intro _; rfl
  | cons e es ih =>
    intro h
    simp only [List.all_cons, Bool.and_eq_true] at h
    rw [starEach_cons h.1]
    show (false || (backTo pos (starEach es env)).any (·.1)) = false
    rw [ih h.2]; rfl
theorem args_of {es : List Expr} {xs : List Ex} (h : SoundL c env res es xs) (hne : es ≠ []) {f : Value} {A q d k loc φ H s Q E} {pos : Pos} (hA : OkF c A q d φ s.heap) (hF : FSim c env res k loc φ s.heap) (hS : Sim c φ H s) (hw : wpL (Calls c) q d k xs loc Q E H) :
    wpAny (model c.prog c.w) A (evalArgs f true (backTo pos (starEach es env)) []) (fun a s' => ∃ rs, a = ⟨rs, []⟩ ∧ OutL c φ s (fun vs H => vs.length = xs.length ∧ Q vs H) rs s') (OutX c φ s E) s := by
  cases es with
  | nil => exact absurd rfl hne
  | cons e es =>
    have h2 := h.2 A q d k loc φ H s Q E pos hA hF hS hw
    have hn := h.1.1
    simp only [List.all_cons, Bool.and_eq_true] at hn
    rw [starEach_cons hn.1] at h2 ⊢
    exact Calls.evalArgs_plain (wpAny_mono h2 (fun rs s' h => ⟨rs, rfl, h⟩) fun _ _ h => h)
theorem sound_call {f : Str} {p pos : Pos} {es : List Expr} {xs : List Ex} {a : Addr} {o : Obj} {fd : FuncData} (O : c.Ok) (hk : env.kindOf f = some .globalImplicit) (hg : c.g f = some (.ref a)) (ho : c.h0.get? a = some o) (hd : o.data = .func fd)
    (hx : (f == ("__debug__" : Str)) = false) (h : SoundL c env res es xs) (hne : es ≠ []) : SoundE c env res (.Call (.Name f p) es [] pos) (.call f xs) := fun A q d k loc φ H s Q E hA hF hS hw => by
  simp only [wpE] at hw
  show wpAny _ _ (eval (.Name f p) env >>= fun fv => callWith pos fv [] (backTo pos (starEach es env)) []) _ _ _
  refine wpAny_bind (Calls.Name_function_global hF.fn hk (Calls.loadGlobal_global (by rw [hF.gl]; exact O.gl.keeps hS.stays) hg ?_) hx)
  refine Calls.callWith_function (o := o) (fd := fd) (wpAny_mono (args_of h hne hA hF hS hw) ?_ fun _ _ h => h)
  rintro _ s₁ ⟨rs, rfl, φ₁, H₁, vs, e₁, S₁, R₁, l₁, w₁⟩
  refine ⟨⟨S₁.stays a o ho, hd⟩, wpAny_call ?_⟩
  obtain ⟨a', o', fd', g1, g2, g3, g4⟩ := w₁
  rw [hg] at g1; cases g1
  have := g4 A φ₁ s₁ rs [] (hA.mono e₁).toOkA S₁ R₁ rfl
  rw [List.append_nil] at this
  refine codeAny_mono this ?_
  intro r s' hr
  unfold Ends at hr
  split at hr
  · exact Out.lift e₁ hr
  · exact hr.elim
  · exact OutX.lift e₁ S₁ hr
theorem callWith_plain {M : Model} {A : Around} {E : Value → Shared → Prop} {s : Shared} {pos : Pos} {f : Value} (hf : ∀ a, f ≠ .ref a) {first : List Value} {args : List (Bool × Sem Value)} {Q : Value → Shared → Prop} (hplain : args.any (·.1) = false)
    (h : wpAny M A (evalArgs f true args []) (fun a s₁ => wpAny M A (call f (first ++ a.pos) a.kw) Q E s₁) E s) : wpAny M A (callWith pos f first args []) Q E s := by
  unfold callWith
  refine wpAny_bind (wpAny_holding (wpAny_mono h (fun a s₁ h₁ => wpAny_bind (wpAny_standAt ?_)) fun _ _ x => x))
  simp only [hplain, List.any_nil, Bool.or_false]
  have hk : keeperOf f = pure .machine := by cases f <;> first | rfl | exact absurd rfl (hf _)
  rw [hk]
  refine wpAny_bind (wpAny_pure ?_)
  exact wpAny_bind (wpAny_mono h₁ (fun r s₂ hr => wpAny_bind (wpAny_holding (wpAny_point (wpAny_pure hr)))) fun _ _ x => x)
theorem Bl.noref (b : Bl) : ∀ a, b.real ≠ .ref a := by intro a; cases b <;> (intro h; cases h)
theorem sound_blt {f : Str} {p pos : Pos} {es : List Expr} {xs : List Ex} {b : Bl} (O : c.Ok) (hk : env.kindOf f = some .globalImplicit) (hg : c.g f = none) (hb : c.b f = some b.real)
    (hx : (f == ("__debug__" : Str)) = false) (h : SoundL c env res es xs) (hne : es ≠ []) : SoundE c env res (.Call (.Name f p) es [] pos) (.blt b xs) := fun A q d k loc φ H s Q E hA hF hS hw => by
  simp only [wpE] at hw
  show wpAny _ _ (eval (.Name f p) env >>= fun fv => callWith pos fv [] (backTo pos (starEach es env)) []) _ _ _
  refine wpAny_bind (Calls.Name_function_global hF.fn hk (Calls.loadGlobal_builtin (by rw [hF.gl]; exact O.gl.keeps hS.stays) hg (by rw [hF.bl]; exact O.bl.keeps hS.stays) hb ?_) hx)
  refine callWith_plain b.noref (notStars h.1.1) (wpAny_mono (args_of h hne hA hF hS hw) ?_ fun _ _ h => h)
  rintro _ s₁ ⟨rs, rfl, φ₁, H₁, vs, e₁, S₁, R₁, l₁, w₁⟩
  split at w₁
  · rename_i e
    obtain ⟨rfl, w₁⟩ := w₁
    exact (do_blt O (hA.mono e₁) S₁ R₁ e).use e₁ w₁
  · exact w₁.elim
theorem sound_isi {p p' pos : Pos} {e : Expr} {x : Ex} {t : Tc} {T : String} (O : c.Ok) (hT : t.real = some T) (hk : env.kindOf (Str.ofString "isinstance") = some .globalImplicit) (hk' : env.kindOf (Str.ofString T) = some .globalImplicit)
    (hg : c.g (Str.ofString "isinstance") = none) (hb : c.b (Str.ofString "isinstance") = some (.builtin "isinstance")) (hg' : c.g (Str.ofString T) = none) (hb' : c.b (Str.ofString T) = some (.type T))
    (hx : (Str.ofString T == ("__debug__" : Str)) = false) (hn : notStar e = true) (h : SoundE c env res e x) : SoundE c env res (.Call (.Name (Str.ofString "isinstance") p) [e, .Name (Str.ofString T) p'] [] pos) (.isi x t) := fun A q d k loc φ H s Q E hA hF hS hw => by
  simp only [wpE] at hw
  show wpAny _ _ (eval (.Name (Str.ofString "isinstance") p) env >>= fun fv => callWith pos fv [] (backTo pos (starEach [e, .Name (Str.ofString T) p'] env)) []) _ _ _
  refine wpAny_bind (Calls.Name_function_global hF.fn hk (Calls.loadGlobal_builtin (by rw [hF.gl]; exact O.gl.keeps hS.stays) hg (by rw [hF.bl]; exact O.bl.keeps hS.stays) hb ?_))
  rw [starEach_cons hn]
  refine callWith_plain (by intro a h; cases h) rfl (Calls.evalArgs_plain (Calls.spliced_cons (wpAny_mono (h A q d k loc φ H s _ E hA hF hS hw) ?_ fun _ _ h => h)))
  rintro r s₁ ⟨φ₁, H₁, v₁, e₁, S₁, R₁, w₁⟩
  refine Calls.spliced_cons (Calls.Name_function_global hF.fn hk' (Calls.loadGlobal_builtin (by rw [hF.gl]; exact O.gl.keeps S₁.stays) hg' (by rw [hF.bl]; exact O.bl.keeps S₁.stays) hb' (Calls.spliced_nil ?_)) hx)
  split at w₁
  · rename_i b hb
    exact (do_isi S₁ R₁ hT hb).use e₁ w₁
  · exact w₁.elim
end
end Bn
namespace Bn
open PySem PyProof.Rows
def Me.on : Me → String
  | .join => "str"
  | _ => "list"
def Me.nm : Me → Str
  | .append => "append" | .extend => "extend" | .pop => "pop" | .count => "count" | .index => "index" | .join => "join"
def Me.id : Me → String
  | .append => "list.append" | .extend => "list.extend" | .pop => "list.pop" | .count => "list.count" | .index => "list.index" | .join => "str.join"
theorem Me.slot (m : Me) : Slot m.on m.nm m.id := by
  cases m
  · exact PySem.F.slot_list_append
  · exact PySem.F.slot_list_extend
  · exact PySem.F.slot_list_pop
  · exact PySem.F.slot_list_count
  · exact PySem.F.slot_list_index
  · exact PySem.F.slot_str_join
theorem Me.ty (m : Me) : typeOf (.builtin m.id) = pure (.type "method_descriptor") := by
  cases m
  · exact PySem.F.type_list_append
  · exact PySem.F.type_list_extend
  · exact PySem.F.type_list_pop
  · exact PySem.F.type_list_count
  · exact PySem.F.type_list_index
  · exact PySem.F.type_str_join
theorem Me.attrs (m : Me) : PlainAttrs m.on := by
  cases m <;> first | exact PySem.F.plainAttrs_list | exact PySem.F.plainAttrs_str
section
variable {c : Cx} {A : Around} {q : Bool} {d : Nat} {φ : List Addr} {H H' : Hp} {s : Shared}
theorem out_put (S : Sim c φ H s) {i : Nat} {a : Addr} {xs : List V} {vs : Array Value} {n : Nat} {f : Array Value → Array Value} {v : V} {r : Value} {t : Nat} (ha : φ[i]? = some a) (ho : s.heap.get? a = some (lobj vs n))
    (hr : RepL c φ s.heap xs (f vs).toList) (hz : xs.length ≤ sizeLine) (hv : Rep c φ s.heap v r) : Out c φ s (fun x H' => x = v ∧ H' = H.set i xs) r { s with heap := s.heap.update a (Obj.mapSeq f), toks := t } := by
  obtain ⟨e, S'⟩ := S.put (h' := s.heap.update a (Obj.mapSeq f)) ha (Heap.SameBut.update ..) (IsL.update (n := n) ho f) hr hz
  exact ⟨φ, _, v, e.trans (Ext.of_heap rfl rfl), S'.tok t, Rep.mono e.toKp OwnX.nil hv, rfl, rfl⟩
theorem RepL.eraseIdx {h : Heap} : ∀ {l : List V} {rs : List Value}, RepL c φ h l rs → ∀ i : Nat, RepL c φ h (l.eraseIdx i) (rs.eraseIdx i)
  | [], [], _, _ => by simp [RepL]
  | [], _ :: _, h, _ => by simp only [RepL] at h
  | _ :: _, [], h, _ => by simp only [RepL] at h
  | x :: xs, r :: rs, h, 0 => by simp only [RepL] at h; simpa using h.2
  | x :: xs, r :: rs, h, i + 1 => by
    simp only [RepL] at h
    simp only [List.eraseIdx_cons_succ, RepL]
    exact ⟨h.1, RepL.eraseIdx h.2 i⟩
theorem eraseIdx_toList (vs : Array Value) (k : Nat) : (vs.eraseIdxIfInBounds k).toList = vs.toList.eraseIdx k := by
  unfold Array.eraseIdxIfInBounds
  split
  · simp
  · rename_i h
    rw [List.eraseIdx_of_length_le]
    simpa using h
def isT (v : Value) : Bool := v == .bool true
theorem isT_at {A : Around} {s : Shared} {l : List Bool} {vs : Array Value} (h : vs.toList = l.map Value.bool) : ∀ y, y ∈ vs → SeqAt.EqAt A s y (.bool true) (isT y) := fun y hy => by
  have : y ∈ vs.toList := Array.mem_toList_iff.mpr hy
  rw [h] at this
  obtain ⟨b, _, rfl⟩ := List.mem_map.mp this
  have := SeqAt.EqAt.bool_bool (A := A) (s := s) b true
  have e : isT (Value.bool b) = (b == true) := by cases b <;> rfl
  rw [e]; exact this
theorem isT_count : ∀ l : List Bool, (l.map Value.bool).countP isT = l.count true
  | [] => rfl
  | b :: l => by
    rw [List.map_cons, List.countP_cons, isT_count l, List.count_cons]
    cases b <;> rfl
theorem join_strs : ∀ {rs : List Value} {l : List Str}, StrsAre rs l → ∃ ps : List (Str × Tok), rs = strValues ps ∧ ps.map (·.1) = l
  | _, _, .nil => ⟨[], rfl, rfl⟩
  | _, _, .cons x t h => by
    obtain ⟨ps, rfl, rfl⟩ := join_strs h
    exact ⟨(x, t) :: ps, rfl, rfl⟩
theorem do_meth (S : Sim c φ H s) {m : Me} {v u : V} {vs : List V} {x : Value} {rs : List Value} (R1 : Rep c φ s.heap v x) (R2 : RepL c φ s.heap vs rs) (e : methV H m v vs = some (u, H')) :
    Does c A φ s (call (.builtin m.id) (x :: rs)) u H' := by
  intro E
  have hsl : sizeLine = 2 ^ 24 := rfl
  unfold methV at e
  split at e
  ·
    split at e
    · split at e
      · cases e
        rename_i i w _ xs e1 hz
        obtain ⟨a, us, n, rfl, ha, ho, hr, hz1, z⟩ := S.getP R1 e1
        obtain ⟨r, rfl, Rw⟩ := R2.one
        refine wpAny_call_entry slot_list_append ⟨_, ho, rfl⟩ entry_list_append ?_ (args_list_append _ _)
        show wpAny _ _ (updateSeq a (·.push r) >>= fun _ => ret .none) _ _ s
        refine wpAny_bind (wpAny_updateSeq ho rfl (wpAny_pure ⟨.none, rfl, ?_⟩) (by omega) (by simp; omega))
        exact out_put (t := s.toks) S ha ho (by simpa using hr.append (show RepL c φ s.heap [w] [r] from ⟨Rw, by simp [RepL]⟩)) (by simp; omega) (by simp [Rep])
      · cases e
    · cases e
  ·
    split at e
    · split at e
      · cases e
        rename_i i j xs ys e1 e2 hz
        obtain ⟨a, us, n, rfl, ha, ho, hr, hz1, z⟩ := S.getP R1 e1
        obtain ⟨r, rfl, Rw⟩ := R2.one
        obtain ⟨a2, us2, n2, rfl, ha2, ho2, hr2, hz2, z2⟩ := S.getP Rw e2
        refine call_meets PySem.F.slot_list_extend ⟨_, ho, rfl⟩ PySem.F.entry_list_extend (PySem.F.args_list_extend_2 _ _) (PySem.AutoSeq1.list_extend_list_list_0 a us n a2 us2 n2 ?_ (by omega) (by omega)) ⟨ho, ho2, ?_⟩
        · simp [Builtin.List.listTooLong]; omega
        · exact out_put (f := fun x => x ++ us2) S ha ho (by simpa using hr.append hr2) (by simpa using hz) (by simp [Rep])
      · cases e
    · cases e
  ·
    split at e
    · split at e
      · cases e
        rename_i i xs e1 _ e2
        obtain ⟨a, us, n, rfl, ha, ho, hr, hz1, z⟩ := S.getP R1 e1
        have := R2.nil_inv; subst this
        have hne : xs ≠ [] := by intro h; rw [h] at e2; cases e2
        have hlen : 0 < xs.length := List.length_pos_iff.mpr hne
        have e3 : xs[xs.length - 1]? = some u := by rw [← List.getLast?_eq_getElem?]; exact e2
        obtain ⟨y, hy1, hy2⟩ := hr.get e3
        refine call_meets PySem.F.slot_list_pop ⟨_, ho, rfl⟩ PySem.F.entry_list_pop (PySem.F.args_list_pop_1 _) (PySem.MeetsSeq.list_pop_last a us n y (by rw [z, ← Array.getElem?_toList]; exact hy1) (by omega)) ⟨ho, ?_⟩
        refine out_put (t := s.toks) S ha ho ?_ (by simp; omega) hy2
        rw [eraseIdx_toList, z, ← List.eraseIdx_length_sub_one]
        exact hr.eraseIdx _
      · cases e
    · cases e
  ·
    split at e
    · split at e
      · cases e
        rename_i i ii _ xs e1 _ e2
        obtain ⟨a, us, n, rfl, ha, ho, hr, hz1, z⟩ := S.getP R1 e1
        obtain ⟨r, rfl, Rw⟩ := R2.one
        simp only [Rep] at Rw
        obtain ⟨t, rfl⟩ := Rw
        split at e2
        · rename_i h0
          have hlt := (List.getElem?_eq_some_iff.mp e2).1
          obtain ⟨y, hy1, hy2⟩ := hr.get e2
          refine call_meets PySem.F.slot_list_pop ⟨_, ho, rfl⟩ PySem.F.entry_list_pop (PySem.F.args_list_pop_2 _ _) (PySem.MeetsSeq.list_pop_at a us n ii t ii.toNat y (by simp [Builtin.List.listFitsIndex]; omega) ?_ (by rw [← Array.getElem?_toList]; exact hy1) (by omega)) ⟨ho, ?_⟩
          · have : ix ii us.size = some ii.toNat := by unfold ix; rw [if_pos h0, if_pos (by omega)]
            exact (ix_spec this).2.2
          · refine out_put (t := s.toks) S ha ho ?_ (by have := List.length_eraseIdx_le xs ii.toNat; omega) hy2
            rw [eraseIdx_toList]
            exact hr.eraseIdx _
        · cases e2
      · cases e
    · cases e
  ·
    obtain ⟨l, e1, e2⟩ := Option.map_eq_some_iff.mp e
    cases e2
    obtain ⟨xs, e3, e4⟩ := Option.bind_eq_some_iff.mp e1
    obtain ⟨a, us, n, rfl, ha, ho, hr, hz1, z⟩ := S.getP R1 e3
    obtain ⟨r, rfl, Rw⟩ := R2.one
    simp only [Rep] at Rw
    subst Rw
    have hb := boolsV_rep hr e4
    refine call_meets PySem.F.slot_list_count ⟨_, ho, rfl⟩ PySem.F.entry_list_count (PySem.F.args_list_count_2 _ _) (SeqAt.list_countAt a us n none #[] (.bool true) isT) ⟨ho, isT_at hb, ?_⟩
    exact Out.at S (by rw [hb, isT_count]; simp [Rep]) ⟨rfl, rfl⟩
  ·
    split at e
    · split at e
      · cases e
        rename_i l e1 hm
        obtain ⟨xs, e3, e4⟩ := Option.bind_eq_some_iff.mp e1
        obtain ⟨a, us, n, rfl, ha, ho, hr, hz1, z⟩ := S.getP R1 e3
        obtain ⟨r, rfl, Rw⟩ := R2.one
        simp only [Rep] at Rw
        subst Rw
        have hb := boolsV_rep hr e4
        have hlt : l.idxOf true < l.length := List.idxOf_lt_length_iff.mpr hm
        have hsz : us.size = l.length := by rw [← Array.length_toList, hb, List.length_map]
        have hat : ∀ m (h : m < us.size), us[m] = .bool (l[m]'(by omega)) := fun m h => by
          have : us.toList[m]? = some (.bool (l[m]'(by omega))) := by rw [hb, List.getElem?_map, List.getElem?_eq_getElem (by omega)]; rfl
          rw [Array.getElem?_toList, Array.getElem?_eq_getElem h] at this
          exact Option.some.inj this
        refine call_meets PySem.F.slot_list_index ⟨_, ho, rfl⟩ PySem.F.entry_list_index (PySem.F.args_list_index_2 _ _) (SeqAt.list_indexAt a us n none #[] (.bool true) isT (l.idxOf true) (by omega) (by omega) ?_ ?_) ⟨ho, isT_at hb, ?_⟩
        · rw [hat _ (by omega), List.getElem_idxOf hlt]; rfl
        · intro m h1 h2
          rw [hat _ h1]
          have := List.not_of_lt_findIdx (p := (· == true)) (xs := l) (i := m) h2
          cases hl : l[m]'(by omega) with
          | false => rfl
          | true => simp [hl] at this
        · exact Out.at S (by simp [Rep]) ⟨rfl, rfl⟩
      · cases e
    · cases e
  · cases e
  · cases e
end
end Bn
namespace Bn
open PySem PyProof.Rows
def baseOk : Expr → Bool
  | .Name .. => true
  | .Constant .. => true
  | .Subscript .. => true
  | _ => false
theorem base_of {o : Expr} {name : Str} {env : Env} (h : baseOk o = true) : attributeBase o name env (eval o env) = eval o env := by
  cases o <;> first | rfl | cases h
theorem evalArgs_nil {M : Model} {A : Around} {E : Value → Shared → Prop} {s : Shared} {f : Value} {Q : Args → Shared → Prop} (h : Q ⟨[], []⟩ s) : wpAny M A (evalArgs f true [] []) Q E s := by
  unfold evalArgs
  show wpAny M A (spliced [] >>= _) Q E s
  refine wpAny_bind (wpAny_pure (wpAny_bind (wpAny_pure ?_)))
  refine wpAny_holding ?_
  exact wpAny_bind (wpAny_pure (wpAny_bind (wpAny_pure (wpAny_pure h))))
section
variable {c : Cx} {env : Env} {res : Res}
theorem args_any {es : List Expr} {xs : List Ex} (h : SoundL c env res es xs) {f : Value} {A q d k loc φ H s Q E} {pos : Pos} (hA : OkF c A q d φ s.heap) (hF : FSim c env res k loc φ s.heap) (hS : Sim c φ H s) (hw : wpL (Calls c) q d k xs loc Q E H) :
    wpAny (model c.prog c.w) A (evalArgs f true (backTo pos (starEach es env)) []) (fun a s' => ∃ rs, a = ⟨rs, []⟩ ∧ OutL c φ s (fun vs H => vs.length = xs.length ∧ Q vs H) rs s') (OutX c φ s E) s := by
  cases es with
  | cons e es => exact args_of h (by simp) hA hF hS hw
  | nil =>
    have hx : xs = [] := List.length_eq_zero_iff.mp h.1.2.symm
    subst hx
    simp only [wpL] at hw
    exact evalArgs_nil ⟨[], rfl, φ, H, [], Ext.refl, hS, by simp [RepL], rfl, hw⟩
theorem sound_meth {m : Me} {o : Expr} {x : Ex} {es : List Expr} {xs : List Ex} {apos pos : Pos} (hb : baseOk o = true) (hl : (apos.endLine == pos.line) = true) (hes : es.length < 20) (h1 : SoundE c env res o x) (h2 : SoundL c env res es xs) :
    SoundE c env res (.Call (.Attribute o m.nm apos) es [] pos) (.meth m x xs) := fun A q d k loc φ H s Q E hA hF hS hw => by
  simp only [wpE] at hw
  have hfew : ((backTo pos (starEach es env)).all (fun x => !x.1) && (backToKw pos (keywordEach [] env)).all (fun x => x.1.isSome)
      && decide (es.length + ([] : List Keyword).length + (if ([] : List Keyword).isEmpty then 0 else 1) < 30)) = true := by
    have := notStars (env := env) (pos := pos) h2.1.1
    have h3 : (backTo pos (starEach es env)).all (fun x => !x.1) = true := by
      rw [List.any_eq_false] at this
      rw [List.all_eq_true]
      intro x hx
      have := this x hx
      simpa using this
    rw [h3]
    simp [backToKw, keywordEach]
    omega
  refine wpAny_Call_method (base_of hb) hfew hl m.attrs m.slot m.ty (wpAny_mono (h1 A q d k loc φ H s _ E hA hF hS hw) ?_ fun _ _ h => h)
  rintro r s₁ ⟨φ₁, H₁, v₁, e₁, S₁, R₁, w₁⟩
  split at w₁
  · rename_i hok
    have hT : s₁.TypeIs r m.on ∧ (∀ a, r = .ref a → ∃ ob, s₁.heap.get? a = some ob ∧ ob.dict = none) := by
      cases m <;> cases v₁ <;> simp only [methOk, reduceCtorEq] at hok
      all_goals first
        | (simp only [Rep] at R₁; obtain ⟨t, rfl⟩ := R₁; exact ⟨typeIs_str _ _ _, fun a h => by cases h⟩)
        | (obtain ⟨a, h3, h4⟩ : ∃ a, r = .ref a ∧ φ₁[_]? = some a := by simpa only [Rep] using R₁
           have hlt := S₁.len ▸ (List.getElem?_eq_some_iff.mp h4).1
           obtain ⟨b, us, n, rfl, _, ho, _⟩ := S₁.getP R₁ (List.getElem?_eq_getElem hlt)
           exact ⟨⟨_, ho, rfl⟩, fun a h => by cases h; exact ⟨_, ho, rfl⟩⟩)
    refine ⟨hT.1, hT.2, callWith_plain (by intro a h; cases h) (notStars h2.1.1) (wpAny_mono (args_any h2 (hA.mono e₁) (hF.mono e₁) S₁ w₁) ?_ fun _ _ h => OutX.lift e₁ S₁ h)⟩
    rintro _ s₂ ⟨rs, rfl, φ₂, H₂, vs, e₂, S₂, R₂, l₂, w₂⟩
    split at w₂
    · rename_i e
      exact (do_meth S₂ (Rep.mono e₂.toKp OwnX.nil R₁) R₂ e).use (e₁.trans e₂) w₂
    · exact w₂.elim
  · exact w₁.elim
theorem clip_eq (n : Nat) (i : Int) : clipAt n i = clampI i n := by
  have h := clipAt_cast n i
  unfold clampI
  split at h <;> rename_i hi
  · rw [if_pos hi]; omega
  · rw [if_neg hi]; omega
theorem RepL.drop {h : Heap} {φ : List Addr} : ∀ {l : List V} {rs : List Value}, RepL c φ h l rs → ∀ i : Nat, RepL c φ h (l.drop i) (rs.drop i)
  | _, _, h, 0 => h
  | [], [], h, _ + 1 => h
  | [], _ :: _, h, _ => by simp only [RepL] at h
  | _ :: _, [], h, _ => by simp only [RepL] at h
  | x :: xs, r :: rs, h, i + 1 => by simp only [RepL] at h; exact RepL.drop h.2 i
theorem RepL.take {h : Heap} {φ : List Addr} : ∀ {l : List V} {rs : List Value}, RepL c φ h l rs → ∀ i : Nat, RepL c φ h (l.take i) (rs.take i)
  | _, _, _, 0 => by simp [RepL]
  | [], [], h, _ + 1 => h
  | [], _ :: _, h, _ => by simp only [RepL] at h
  | _ :: _, [], h, _ => by simp only [RepL] at h
  | x :: xs, r :: rs, h, i + 1 => by
    simp only [RepL] at h
    simp only [List.take_succ_cons, RepL]
    exact ⟨h.1, RepL.take h.2 i⟩
theorem RepL.reverse {h : Heap} {φ : List Addr} {l : List V} {rs : List Value} (hr : RepL c φ h l rs) : RepL c φ h l.reverse rs.reverse := by
  have hlen := hr.length
  refine RepL.of_get (by simp [hlen]) fun i v r h1 h2 => ?_
  have hi : i < l.length := by have := (List.getElem?_eq_some_iff.mp h1).1; simpa using this
  rw [List.getElem?_reverse hi] at h1
  rw [List.getElem?_reverse (by omega), hlen] at h2
  obtain ⟨r', h3, h4⟩ := hr.get h1
  rw [h2] at h3; cases h3; exact h4
def SoundO (c : Cx) (env : Env) (res : Res) (e : Option Expr) (x : Ex) : Prop :=
  match e with
  | none => x = .lit .none
  | some e => SoundE c env res e x
theorem part_of {e : Option Expr} {x : Ex} (h : SoundO c env res e x) {A q d k loc φ H s Q E} (hA : OkF c A q d φ s.heap) (hF : FSim c env res k loc φ s.heap) (hS : Sim c φ H s) (hw : wpE (Calls c) q d k x loc Q E H) :
    wpAny (model c.prog c.w) A (evalPart e env) (Out c φ s Q) (OutX c φ s E) s := by
  cases e with
  | none =>
    simp only [SoundO] at h
    subst h
    simp only [wpE] at hw
    rw [evalPart_none]
    exact wpAny_pure (Out.at' hS (by simp [Rep]) hw)
  | some e =>
    rw [evalPart_some]
    exact h A q d k loc φ H s Q E hA hF hS hw
theorem isPart_of {h : Heap} {φ : List Addr} {v : V} {r : Value} {n dflt k : Nat} (R : Rep c φ h v r) (hb : bound? n dflt v = some k) : ∃ o : Option Int, IsPart r o ∧ o.elim dflt (clipAt n) = k := by
  cases v <;> simp only [bound?, Option.some.injEq, reduceCtorEq] at hb
  · simp only [Rep] at R; subst R hb; exact ⟨none, .none, rfl⟩
  · simp only [Rep] at R; obtain ⟨t, rfl⟩ := R; subst hb; exact ⟨some _, .int _ _, clip_eq _ _⟩
theorem sound_slice {o : Expr} {x y z : Ex} {lo hi : Option Expr} {p pos : Pos} (h1 : SoundE c env res o x) (h2 : SoundO c env res lo y) (h3 : SoundO c env res hi z) : SoundE c env res (.Subscript o (.Slice lo hi none p) pos) (.slice x y z) := fun A q d k loc φ H s Q E hA hF hS hw => by
  have hsl : sizeLine = 2 ^ 24 := rfl
  simp only [wpE] at hw
  refine Subscript_ (wpAny_mono (h1 A q d k loc φ H s _ E hA hF hS hw) ?_ fun _ _ h => h)
  rintro r s₁ ⟨φ₁, H₁, v₁, e₁, S₁, R₁, w₁⟩
  refine wpAny_Slice (wpAny_mono (part_of h2 (hA.mono e₁) (hF.mono e₁) S₁ w₁) ?_ fun _ _ h => OutX.lift e₁ S₁ h)
  rintro rl s₂ ⟨φ₂, H₂, v₂, e₂, S₂, R₂, w₂⟩
  have e12 := e₁.trans e₂
  refine wpAny_mono (part_of h3 (hA.mono e12) (hF.mono e12) S₂ w₂) ?_ fun _ _ h => OutX.lift e12 S₂ h
  rintro ru s₃ ⟨φ₃, H₃, v₃, e₃, S₃, R₃, w₃⟩
  rw [evalPart_none]
  refine wpAny_pure ?_
  have e123 := e12.trans e₃
  have R₁' := Rep.mono (e₂.trans e₃).toKp OwnX.nil R₁
  have R₂' := Rep.mono e₃.toKp OwnX.nil R₂
  unfold sliceV at w₃
  split at w₃
  case h_2 => exact w₃.elim
  rename_i ho
  split at ho
  · split at ho
    · split at ho
      · cases ho
        rename_i xs ex _ _ i j ei ej
        obtain ⟨b, us, n, rfl, hb, hob, hr, hz, zz⟩ := S₃.getP R₁' ex
        obtain ⟨ol, pl, el⟩ := isPart_of R₂' ei
        obtain ⟨ou, pu, eu⟩ := isPart_of R₃ ej
        obtain ⟨ops, hops⟩ := sub_ops (.Slice lo hi none p) (.ref b) (.ref s₃.heap.objs.size)
        have hL : s₃.heap.IsList b us := ⟨_, hob, rfl, n, rfl⟩
        refine tail_any (hL.push _).typeIs slot_list_getitem.lookup (wpAny_getItem_list_slice (hL.push _) (Heap.IsSliceOf.new ..) pl pu .none (by simp) ?_ (by omega)) hops
        have S₄ := S₃.push { cls := .type "slice", data := .fields #[rl, ru, .none] }
        have e₄ : Ext [] φ₃ s₃ φ₃ { s₃ with heap := s₃.heap.push { cls := .type "slice", data := .fields #[rl, ru, .none] } } := Ext.push
        refine Out.lift (e123.trans e₄) ((out_newList' S₄ ?_ ?_).eq w₃)
        · rw [slicePick_plain, zz, el, eu]
          exact RepL.mono e₄.toKp OwnX.nil (by simpa using (hr.drop i).take (j - i))
        · have := List.length_take_le (j - i) (xs.drop i)
          have := List.length_drop (i := i) (l := xs)
          simp only [List.length_take, List.length_drop] at *
          omega
      · cases ho
    · cases ho
  · cases ho
theorem sound_rev {o : Expr} {x : Ex} {p p' p'' pos : Pos} {n : Nat} (h1 : SoundE c env res o x) : SoundE c env res (.Subscript o (.Slice none none (some (.UnaryOp .USub (.Constant (.int 1) n p) p')) p'') pos) (.rev x) := fun A q d k loc φ H s Q E hA hF hS hw => by
  have hsl : sizeLine = 2 ^ 24 := rfl
  simp only [wpE] at hw
  refine Subscript_ (wpAny_mono (h1 A q d k loc φ H s _ E hA hF hS hw) ?_ fun _ _ h => h)
  rintro r s₁ ⟨φ₁, H₁, v₁, e₁, S₁, R₁, w₁⟩
  refine wpAny_Slice ?_
  rw [evalPart_none]
  refine wpAny_pure (wpAny_pure ?_)
  rw [evalPart_some]
  refine wpAny_UnaryOp (wpAny_Constant_int (PyProof.Rows.neg_int ?_))
  unfold revV at w₁
  split at w₁
  case h_2 => exact w₁.elim
  rename_i ho
  split at ho
  · split at ho
    · cases ho
      rename_i a _ xs ex
      obtain ⟨b, us, m, rfl, hb, hob, hr, hz, zz⟩ := S₁.getP R₁ ex
      obtain ⟨ops, hops⟩ := sub_ops (.Slice none none (some (.UnaryOp .USub (.Constant (.int 1) n p) p')) p'') (.ref b) (.ref s₁.heap.objs.size)
      have hL : s₁.heap.IsList b us := ⟨_, hob, rfl, m, rfl⟩
      refine tail_any (hL.push _).typeIs slot_list_getitem.lookup (wpAny_getItem_list_slice (hL.push _) (Heap.IsSliceOf.new ..) .none .none (.int (-1) _) (by simp) ?_ (by omega)) hops
      have S₄ := (S₁.push { cls := .type "slice", data := .fields #[.none, .none, .int (-1) (s₁.toks + 1)] }).tok (s₁.toks + 1 + 1)
      have e₄ : Ext [] φ₁ s₁ φ₁ { s₁ with heap := s₁.heap.push { cls := .type "slice", data := .fields #[.none, .none, .int (-1) (s₁.toks + 1)] }, toks := s₁.toks + 1 + 1 } := (Ext.push (s := s₁)).trans (Ext.of_heap rfl rfl)
      refine Out.lift (e₁.trans e₄) ((out_newList' S₄ ?_ (by simpa using hz)).eq w₁)
      rw [PySem.W.krv_pick]
      exact RepL.mono e₄.toKp OwnX.nil (by simpa using hr.reverse)
    · cases ho
  · cases ho
end
end Bn
namespace Bn
open PySem PyProof.Rows
def Kept (wr : List Addr) (s s' : Shared) : Prop := (∀ b o, b ∉ wr → s.heap.get? b = some o → s'.heap.get? b = some o) ∧ s'.gens = s.gens ∧ s'.os = s.os
def itc : Value → Bool
  | .type t => ["list_iterator", "tuple_iterator", "range_iterator", "longrange_iterator", "str_iterator", "str_ascii_iterator", "enumerate", "zip", "list_reverseiterator"].contains t
  | _ => false
theorem itc_hid {v : Value} (h : itc v = true) : hid v = true := by
  cases v <;> simp only [itc, Bool.false_eq_true] at h
  rename_i t
  simp only [hid, List.contains_eq_mem, decide_eq_true_eq] at h ⊢
  simp only [List.mem_cons] at h ⊢
  exact .inr (.inr (.inr h))
theorem itc_ne {v w : Value} (h : itc v = true) (hw : itc w = false) : v ≠ w := fun q => by rw [q, hw] at h; cases h
def Its (c : Cx) (wr φ : List Addr) (h : Heap) : Prop := ∀ b ∈ wr, b ∉ φ ∧ c.h0.get? b = none ∧ ∃ o, h.get? b = some o ∧ itc o.cls = true ∧ ∀ es n, o.data ≠ .dict es n
theorem Kept.kp {c : Cx} {wr φ : List Addr} {s s' : Shared} (h : Kept wr s s') (x : Its c wr φ s.heap) : Kp wr φ s.heap φ s'.heap :=
  ⟨List.prefix_rfl, fun b o hb _ hX _ => h.1 b o hX hb, fun _ h => .inl h, fun b o es n hb _ hd => ⟨o, es, n, h.1 b o (fun hw => by
    obtain ⟨_, _, o', h1, _, h2⟩ := x b hw
    rw [hb] at h1; cases h1; exact h2 _ _ hd) hb, hd, rfl⟩, fun b o vs C hb _ hc hd => ⟨vs, by
    rw [← hd]
    refine h.1 b o (fun hw => ?_) hb
    obtain ⟨_, _, o', h1, h2, _⟩ := x b hw
    rw [hb] at h1; cases h1; rw [hc] at h2; cases h2⟩⟩
theorem Its.own {c : Cx} {wr φ : List Addr} {h : Heap} (x : Its c wr φ h) : OwnX c wr h := fun b hb o ho => by
  obtain ⟨_, _, o', h1, h2, _⟩ := x b hb
  rw [ho] at h1; cases h1; exact .inl (itc_hid h2)
theorem Its.kp {c : Cx} {wr φ X φ' : List Addr} {h h' : Heap} (x : Its c wr φ h) (e : Kp X φ h φ' h') (hX : ∀ b ∈ wr, b ∉ X) : Its c wr φ' h' := fun b hb => by
  obtain ⟨h1, h2, o, h3, h4, h5⟩ := x b hb
  exact ⟨e.notin h3 h1, h2, o, e.keep b o h3 h1 (hX b hb) (itc_ne h4 rfl), h4, h5⟩
theorem Sim.kept {c : Cx} {wr φ : List Addr} {H : Hp} {s s' : Shared} (S : Sim c φ H s) (h : Kept wr s s') (x : Its c wr φ s.heap) : Sim c φ H s' :=
  S.mono (h.kp x) x.own (fun b hb => (x b hb).2.1) (fun a ha o ho => h.1 a o (fun hw => (x a hw).1 ha) ho) (fun b o hb _ => h.1 b o (fun hw => by rw [(x b hw).2.1] at hb; cases hb) (S.stays b o hb)) (h.2.1.trans S.gens)
theorem Ext.kept {X φ φ₁ wr : List Addr} {s s₁ s₂ : Shared} (e : Ext X φ s φ₁ s₁) (h : Kept wr s₁ s₂) (hn : ∀ b ∈ wr, s.heap.get? b = none) : Ext X φ s φ₁ s₂ where
  pre := e.pre
  keep b o hb hφ hX hc := h.1 b o (fun q => by rw [hn b q] at hb; cases hb) (e.keep b o hb hφ hX hc)
  new := e.new
  frame b o hb hφ hX := by
    obtain ⟨sl, h₁⟩ := e.frame b o hb hφ hX
    exact ⟨sl, h.1 b _ (fun q => by rw [hn b q] at hb; cases hb) h₁⟩
  dict b o es n hb hφ hd := by
    obtain ⟨o₁, es₁, n₁, h₁, d₁, c₁⟩ := e.dict b o es n hb hφ hd
    exact ⟨o₁, es₁, n₁, h.1 b _ (fun q => by rw [hn b q] at hb; cases hb) h₁, d₁, c₁⟩
  exc b o vs C hb hφ hc hd := by
    obtain ⟨vs₁, h₁⟩ := e.exc b o vs C hb hφ hc hd
    exact ⟨vs₁, h.1 b _ (fun q => by rw [hn b q] at hb; cases hb) h₁⟩
  alive b o hb hX := by
    obtain ⟨o', h'⟩ := e.alive b o hb hX
    exact ⟨o', h.1 b o' (fun q => by rw [hn b q] at hb; cases hb) h'⟩
  os := h.2.2.trans e.os
structure Itr (c : Cx) (A : Around) (it : Value) (tg : Expr) (wr : List Addr) (items : List V) (ok : Hp → Prop) (St : Nat → List Addr → Heap → Prop) : Prop where
  seen : ∀ i φ h, St i φ h → Its c wr φ h
  frame : ∀ i X φ φ' h h', St i φ h → Kp X φ h φ' h' → OwnX c X h → (∀ b ∈ wr, b ∉ X) → St i φ' h'
  item : ∀ i x φ H s E, items[i]? = some x → St i φ s.heap → Sim c φ H s → ok H →
    wpAny (model c.prog c.w) A (pyNext it) (fun r s₁ => ∃ v, r = some v ∧ wpAny (model c.prog c.w) A (letOwnedTupleGo tg it v) (fun _ s₂ => Kept wr s s₂ ∧ St (i + 1) φ s₂.heap ∧ Rep c φ s₂.heap x v) E s₁) E s
  done : ∀ φ H s E, St items.length φ s.heap → Sim c φ H s → ok H → wpAny (model c.prog c.w) A (pyNext it) (fun r s₁ => r = none ∧ Kept wr s s₁) E s
  self : ∀ i φ s Q E, St i φ s.heap → Q it s → wpAny (model c.prog c.w) A (pyIter it) Q E s
theorem kept_same {I : Addr} {s : Shared} {h' : Heap} {t : Nat} (hs : Heap.SameBut I s.heap h') : Kept [I] s { s with heap := h', toks := t } :=
  ⟨fun b o hb ho => (hs.2 b (by simpa using hb)).trans ho, rfl, rfl⟩
theorem kept_ext {I : Addr} {s : Shared} {h' : Heap} {t : Nat} (hs : Heap.ExtBut I s.heap h') : Kept [I] s { s with heap := h', toks := t } :=
  ⟨fun b o hb ho => hs b o (by simpa using hb) ho, rfl, rfl⟩
theorem letOwned_plain {M : Model} {A : Around} {E : Value → Shared → Prop} {s : Shared} {tg : Expr} {I : Addr} {v : Value} {o : Obj} {Q : Unit → Shared → Prop} {t : String} (ho : s.heap.get? I = some o) (hc : o.cls = .type t) (ht : ["enumerate", "zip", "dict_itemiterator", "dict_reverseitemiterator", "odict_iterator", "itertools.zip_longest", "itertools.pairwise"].contains t = false)
    (h : Q () s) : wpAny M A (letOwnedTupleGo tg (.ref I) v) Q E s := by
  have key : wpAny M A (do
    let (.ref r, .ref a) := (Value.ref I, v) | return
    let o ← load r
    match o.cls, o.data with
    | .type n, .fields vs =>
      if ["enumerate", "zip", "dict_itemiterator", "dict_reverseitemiterator", "odict_iterator", "itertools.zip_longest", "itertools.pairwise"].contains n && vs[0]? == some (rawInt a) then
        rule "for.unpacks-the-owned-tuple"
        updateField r 0 .none
    | _, _ => pure ()) Q E s := by
    cases v <;> first | exact wpAny_pure h | skip
    refine wpAny_bind (wpAny_load ho ?_)
    rw [hc]
    cases o.data <;> first | exact wpAny_pure h | skip
    dsimp only
    rw [ht]
    exact wpAny_pure h
  cases tg <;> first | exact wpAny_pure h | exact key
theorem letOwned_name {M : Model} {A : Around} {E : Value → Shared → Prop} {s : Shared} {x : Str} {pos : Pos} {it v : Value} {Q : Unit → Shared → Prop} (h : Q () s) : wpAny M A (letOwnedTupleGo (.Name x pos) it v) Q E s := wpAny_pure h
section
variable {c : Cx} {A : Around} {φ : List Addr} {H : Hp} {s : Shared}
theorem Its.one {I : Addr} {t : String} (hφ : I ∉ φ) (h0 : c.h0.get? I = none) {h : Heap} (ho : ∃ o, h.get? I = some o ∧ o.cls = .type t ∧ ∃ vs, o.data = .fields vs) (ht : itc (.type t) = true) : Its c [I] φ h := fun b hb => by
  rw [List.mem_singleton.mp hb]
  obtain ⟨o, h1, h2, vs, h3⟩ := ho
  exact ⟨hφ, h0, o, h1, by rw [h2]; exact ht, fun es n q => by rw [h3] at q; cases q⟩
theorem Its.keepOne {I : Addr} {X φ φ' : List Addr} {h h' : Heap} (x : Its c [I] φ h) (e : Kp X φ h φ' h') (hX : ∀ b ∈ [I], b ∉ X) {o : Obj} (ho : h.get? I = some o) : h'.get? I = some o := by
  obtain ⟨h1, _, o', h3, h4, _⟩ := x I (by simp)
  rw [ho] at h3; cases h3
  exact e.keep I o ho h1 (hX I (by simp)) (itc_ne h4 rfl)
theorem itr_list (hh : A.handled = none) {I a : Addr} {j : Nat} {items : List V} {tg : Expr} (h0 : c.h0.get? I = none) :
    Itr c A (.ref I) tg [I] items (fun H => H[j]? = some items) (fun i φ h => h.IsListIter I a i ∧ φ[j]? = some a ∧ I ∉ φ) where
  seen i φ h st := Its.one st.2.2 h0 (let ⟨o, h1, h2, h3⟩ := st.1; ⟨o, h1, h2, _, h3⟩) rfl
  frame i X φ φ' h h' st e hX hw := by
    have it := Its.one (c := c) (t := "list_iterator") st.2.2 h0 (let ⟨o, h1, h2, h3⟩ := st.1; ⟨o, h1, h2, _, h3⟩) rfl
    obtain ⟨⟨o, ho, r⟩, h2, h3⟩ := st
    exact ⟨⟨o, it.keepOne e hw ho, r⟩, prefix_get e.pre h2, e.notin ho h3⟩
  item i x φ H s E hx st S hok := by
    obtain ⟨b, o, vs, n, h1, h2, h3, h4, h5, _⟩ := S.lists j items hok
    rw [st.2.1] at h1; cases h1
    obtain ⟨v, hv, hr⟩ := RepL.get h5 hx
    have hne : a ≠ I := fun q => st.2.2 (q ▸ List.mem_of_getElem? st.2.1)
    refine wpAny_pyNext_list_item st.1 ⟨o, h2, h3, n, h4⟩ (x := v) (by simpa using hv) fun h' hit hs => ⟨v, rfl, ?_⟩
    obtain ⟨oi, hoi, hci, _⟩ := id hit
    refine letOwned_plain hoi hci (by decide) ⟨kept_same hs, ⟨hit, st.2.1, st.2.2⟩, ?_⟩
    exact Rep.mono (X := [I]) ((kept_same (t := s.toks) hs).kp (Its.one (c := c) (t := "list_iterator") st.2.2 h0 (let ⟨o, h1, h2, h3⟩ := st.1; ⟨o, h1, h2, _, h3⟩) rfl)) (Its.own (Its.one (c := c) (t := "list_iterator") st.2.2 h0 (let ⟨o, h1, h2, h3⟩ := st.1; ⟨o, h1, h2, _, h3⟩) rfl)) hr
  done φ H s E st S hok := by
    obtain ⟨b, o, vs, n, h1, h2, h3, h4, h5, _⟩ := S.lists j items hok
    rw [st.2.1] at h1; cases h1
    refine wpAny_pyNext_list_end hh st.1 ⟨o, h2, h3, n, h4⟩ ?_ fun h' hs => ⟨rfl, kept_ext hs⟩
    have := RepL.length h5
    simp at this
    simp [this]
  self i φ s Q E st hq := wpAny_pyIter_listiter st.1 hq
theorem itr_tuple (hh : A.handled = none) {I : Addr} {r : Value} {items : List V} {tg : Expr} (h0 : c.h0.get? I = none) :
    Itr c A (.ref I) tg [I] items (fun _ => True) (fun i φ h => ∃ a, r = .ref a ∧ h.IsTupleIter I a i ∧ Rep c φ h (.tup items) r ∧ I ∉ φ) where
  seen i φ h st := by
    obtain ⟨a, _, ⟨o, h1, h2, h3⟩, _, h4⟩ := st
    exact Its.one h4 h0 ⟨o, h1, h2, _, h3⟩ rfl
  frame i X φ φ' h h' st e hX hw := by
    obtain ⟨a, hr, ⟨o, h1, h2, h3⟩, h4, h5⟩ := st
    have it := Its.one (c := c) (t := "tuple_iterator") h5 h0 ⟨o, h1, h2, _, h3⟩ rfl
    exact ⟨a, hr, ⟨o, it.keepOne e hw h1, h2, h3⟩, Rep.mono e hX h4, e.notin h1 h5⟩
  item i x φ H s E hx st S hok := by
    obtain ⟨a, hr, hit, hR, hI⟩ := st
    have its := (Its.one (c := c) (t := "tuple_iterator") hI h0 (let ⟨o, h1, h2, h3⟩ := hit; ⟨o, h1, h2, _, h3⟩) rfl)
    have hR' := hR
    simp only [Rep] at hR
    obtain ⟨a', o, vs, n, rfl, ha, ho, hc, hd, hz, hl⟩ := hR
    cases hr
    obtain ⟨v, hv, hrv⟩ := RepL.get hl hx
    refine wpAny_pyNext_tuple_item hit ⟨o, ho, hc, n, hd⟩ (x := v) (by simpa using hv) fun h' hit' hs => ⟨v, rfl, ?_⟩
    obtain ⟨oi, hoi, hci, _⟩ := id hit'
    have own := its.own
    have kp := (kept_same (t := s.toks) hs).kp its
    exact letOwned_plain hoi hci (by decide) ⟨kept_same hs, ⟨_, rfl, hit', Rep.mono kp own hR', hI⟩, Rep.mono kp own hrv⟩
  done φ H s E st S hok := by
    obtain ⟨a, hr, hit, hR, hI⟩ := st
    simp only [Rep] at hR
    obtain ⟨a', o, vs, n, rfl, ha, ho, hc, hd, hz, hl⟩ := hR
    cases hr
    refine wpAny_pyNext_tuple_end hh hit ⟨o, ho, hc, n, hd⟩ ?_ fun h' hs => ⟨rfl, kept_ext hs⟩
    have := RepL.length hl
    simp at this
    simp [this]
  self i φ s Q E st hq := by
    obtain ⟨a, hr, hit, hR, hI⟩ := st
    exact wpAny_pyIter_tupleiter hit hq
theorem itr_range (hh : A.handled = none) {I : Addr} {lo st : Int} {n : Nat} {tg : Expr} (h0 : c.h0.get? I = none) :
    Itr c A (.ref I) tg [I] ((List.range n).map fun (i : Nat) => V.int (lo + (i : Int) * st)) (fun _ => True) (fun i φ h => i ≤ n ∧ IsRangeIter h I (lo + (i : Int) * st) ((n : Int) - i) st ∧ I ∉ φ) where
  seen i φ h q := Its.one q.2.2 h0 ⟨_, q.2.1, rfl, _, rfl⟩ (by decide)
  frame i X φ φ' h h' q e hX hw := by
    have it := Its.one (c := c) (t := "range_iterator") q.2.2 h0 ⟨_, q.2.1, rfl, _, rfl⟩ rfl
    exact ⟨q.1, it.keepOne e hw q.2.1, e.notin q.2.1 q.2.2⟩
  item i x φ H s E hx q S hok := by
    have hi : i < n := by
      have := (List.getElem?_eq_some_iff.mp hx).1
      simpa using this
    have hx' : x = .int (lo + (i : Int) * st) := by
      rw [List.getElem?_map, List.getElem?_range hi] at hx
      simpa using hx.symm
    subst hx'
    refine wpAny_pyNext_range_item q.2.1 (by omega) fun h' hit hs => ⟨_, rfl, ?_⟩
    refine letOwned_plain (t := "range_iterator") hit rfl (by decide) ⟨kept_same hs, ⟨hi, ?_, q.2.2⟩, ⟨_, rfl⟩⟩
    have e1 : lo + ((i + 1 : Nat) : Int) * st = lo + (i : Int) * st + st := by rw [Int.natCast_succ, Int.add_mul]; omega
    have e2 : (n : Int) - ((i + 1 : Nat) : Int) = (n : Int) - i - 1 := by omega
    rw [e1, e2]; exact hit
  done φ H s E q S hok := by
    simp only [List.length_map, List.length_range] at q
    exact wpAny_pyNext_range_end hh q.2.1 (by omega) fun h' hs => ⟨rfl, kept_ext hs⟩
  self i φ s Q E q hq := wpAny_pyIter_rangeiter q.2.1 hq
theorem itr_str (hh : A.handled = none) {I : Addr} {x : Str} {t : Tok} {tg : Expr} (h0 : c.h0.get? I = none) :
    Itr c A (.ref I) tg [I] (x.cps.toList.map fun c => .str ⟨#[c]⟩) (fun _ => True) (fun i φ h => h.IsStrIter I "str_ascii_iterator" x t i ∧ I ∉ φ) where
  seen i φ h q := Its.one q.2 h0 (let ⟨o, h1, h2, h3⟩ := q.1; ⟨o, h1, h2, _, h3⟩) rfl
  frame i X φ φ' h h' q e hX hw := by
    have it := Its.one (c := c) (t := "str_ascii_iterator") q.2 h0 (let ⟨o, h1, h2, h3⟩ := q.1; ⟨o, h1, h2, _, h3⟩) rfl
    obtain ⟨⟨o, ho, r⟩, h3⟩ := q
    exact ⟨⟨o, it.keepOne e hw ho, r⟩, e.notin ho h3⟩
  item i y φ H s E hx q S hok := by
    rw [List.getElem?_map] at hx
    cases hc : x.cps[i]? with
    | none => simp [hc] at hx
    | some k =>
      simp [hc] at hx; subst hx
      refine wpAny_pyNext_ascii_item q.1 hc fun h' hit hs => ⟨_, rfl, ?_⟩
      obtain ⟨oi, hoi, hci, _⟩ := id hit
      exact letOwned_plain hoi hci (by decide) ⟨kept_same hs, ⟨hit, q.2⟩, ⟨_, rfl⟩⟩
  done φ H s E q S hok := by
    simp only [List.length_map, Array.length_toList] at q
    exact wpAny_pyNext_ascii_end hh q.1 (by simp) fun h' hs => ⟨rfl, kept_ext hs⟩
  self i φ s Q E q hq := wpAny_pyIter_striter_ascii q.1 hq
theorem itr_rev (hh : A.handled = none) {I a : Addr} {j : Nat} {items : List V} {tg : Expr} (h0 : c.h0.get? I = none) :
    Itr c A (.ref I) tg [I] items.reverse (fun H => H[j]? = some items) (fun i φ h => h.IsRevIter I a ((items.length : Int) - 1 - i) ∧ φ[j]? = some a ∧ I ∉ φ) where
  seen i φ h st := Its.one st.2.2 h0 (let ⟨o, h1, h2, h3⟩ := st.1; ⟨o, h1, h2, _, h3⟩) rfl
  frame i X φ φ' h h' st e hX hw := by
    have it := Its.one (c := c) (t := "list_reverseiterator") st.2.2 h0 (let ⟨o, h1, h2, h3⟩ := st.1; ⟨o, h1, h2, _, h3⟩) rfl
    obtain ⟨⟨o, ho, r⟩, h2, h3⟩ := st
    exact ⟨⟨o, it.keepOne e hw ho, r⟩, prefix_get e.pre h2, e.notin ho h3⟩
  item i x φ H s E hx st S hok := by
    obtain ⟨b, o, vs, n, h1, h2, h3, h4, h5, _⟩ := S.lists j items hok
    rw [st.2.1] at h1; cases h1
    have hi : i < items.length := by have := (List.getElem?_eq_some_iff.mp hx).1; simpa using this
    rw [List.getElem?_reverse hi] at hx
    obtain ⟨v, hv, hr⟩ := RepL.get h5 hx
    have hit0 : s.heap.IsRevIter I a ((items.length - 1 - i : Nat) : Int) := by
      have : ((items.length - 1 - i : Nat) : Int) = (items.length : Int) - 1 - i := by omega
      rw [this]; exact st.1
    refine wpAny_pyNext_rev_item hit0 ⟨o, h2, h3, n, h4⟩ (x := v) (by simpa using hv) fun h' hit hs => ⟨v, rfl, ?_⟩
    obtain ⟨oi, hoi, hci, _⟩ := id hit
    refine letOwned_plain hoi hci (by decide) ⟨kept_same hs, ⟨?_, st.2.1, st.2.2⟩, ?_⟩
    · have : ((items.length - 1 - i : Nat) : Int) - 1 = (items.length : Int) - 1 - ((i + 1 : Nat) : Int) := by omega
      rw [← this]; exact hit
    · exact Rep.mono (X := [I]) ((kept_same (t := s.toks) hs).kp (Its.one (c := c) (t := "list_reverseiterator") st.2.2 h0 (let ⟨o, h1, h2, h3⟩ := st.1; ⟨o, h1, h2, _, h3⟩) rfl)) (Its.own (Its.one (c := c) (t := "list_reverseiterator") st.2.2 h0 (let ⟨o, h1, h2, h3⟩ := st.1; ⟨o, h1, h2, _, h3⟩) rfl)) hr
  done φ H s E st S hok := by
    simp only [List.length_reverse] at st
    have : (items.length : Int) - 1 - (items.length : Int) = -1 := by omega
    rw [this] at st
    exact wpAny_pyNext_rev_end hh st.1 fun h' hs => ⟨rfl, kept_ext hs⟩
  self i φ s Q E st hq := wpAny_pyIter_revIter st.1 hq
theorem enumFrom_get {items : List V} : ∀ {i : Nat} {n : Int} {x : V}, (enumFrom n items)[i]? = some x → ∃ v, items[i]? = some v ∧ x = .tup [.int (n + i), v] := by
  induction items with
  | nil => intro i n x h; simp [enumFrom] at h
  | cons y ys ih =>
    intro i n x h
    cases i with
    | zero => simp [enumFrom] at h; exact ⟨y, by simp, by rw [← h]; simp⟩
    | succ i =>
      simp only [enumFrom, List.getElem?_cons_succ] at h ⊢
      obtain ⟨v, h1, h2⟩ := ih h
      exact ⟨v, h1, by rw [h2]; simp; omega⟩
theorem enumFrom_length {items : List V} : ∀ {n : Int}, (enumFrom n items).length = items.length := by
  induction items with
  | nil => intro n; rfl
  | cons y ys ih => intro n; simp [enumFrom, ih]
theorem itr_enum (hh : A.handled = none) {e I a : Addr} {j : Nat} {items : List V} {es : List Expr} {x1} {pos : Pos} (h0 : c.h0.get? I = none) (h0' : c.h0.get? e = none) (hne : e ≠ I) :
    Itr c A (.ref e) (.Tuple es x1 pos) [e, I] (enumFrom 0 items) (fun H => H[j]? = some items) (fun i φ h => (∃ old, IsEnum h e I (i : Int) old) ∧ h.IsListIter I a i ∧ φ[j]? = some a ∧ I ∉ φ ∧ e ∉ φ) where
  seen i φ h st b hb := by
    obtain ⟨⟨old, he⟩, ⟨o, h1, h2, hd⟩, h3, h4, h5⟩ := st
    simp only [List.mem_cons, List.not_mem_nil, or_false] at hb
    rcases hb with rfl | rfl
    · exact ⟨h5, h0', _, he, rfl, fun es n q => by cases q⟩
    · exact ⟨h4, h0, o, h1, by rw [h2]; rfl, fun es n q => by rw [hd] at q; cases q⟩
  frame i X φ φ' h h' st k hX hw := by
    obtain ⟨⟨old, he⟩, ⟨o, h1, h2, hd⟩, h3, h4, h5⟩ := st
    refine ⟨⟨old, k.keep e _ he h5 (hw e (by simp)) (by simp)⟩, ⟨o, k.keep I o h1 h4 (hw I (by simp)) (by rw [h2]; simp), h2, hd⟩, prefix_get k.pre h3, k.notin h1 h4, k.notin he h5⟩
  item i x φ H s E hx st S hok := by
    obtain ⟨⟨old, he⟩, hit, h3, h4, h5⟩ := st
    obtain ⟨b, o, vs, n, h1, h2, h3', h4', h5', _⟩ := S.lists j items hok
    rw [h3] at h1; cases h1
    obtain ⟨v0, hv0, rfl⟩ := enumFrom_get hx
    obtain ⟨v, hv, hr⟩ := RepL.get h5' hv0
    refine wpAny_pyNext_enum_item he hit ⟨o, h2, h3', n, h4'⟩ (x := v) (by simpa using hv) hne fun h' heo hit' ht hz hk => ⟨_, rfl, ?_⟩
    refine wpAny_letOwnedTupleGo_enum heo fun h'' he'' hs'' => ?_
    have heT : e ≠ s.heap.objs.size := Nat.ne_of_lt (Heap.lt_size he)
    have kept : Kept [e, I] s { s with heap := h'', toks := s.toks + 1 } :=
      ⟨fun b o hb ho => by
        simp only [List.mem_cons, List.not_mem_nil, or_false, not_or] at hb
        exact (hs''.2 b hb.1).trans (hk b o hb.1 hb.2 ho), rfl, rfl⟩
    have its : Its c [e, I] φ s.heap := fun b hb => by
      obtain ⟨oi, h1, h2, h3⟩ := hit
      simp only [List.mem_cons, List.not_mem_nil, or_false] at hb
      rcases hb with rfl | rfl
      · exact ⟨h5, h0', _, he, rfl, fun es n q => by cases q⟩
      · exact ⟨h4, h0, oi, h1, by rw [h2]; rfl, fun es n q => by rw [h3] at q; cases q⟩
    refine ⟨kept, ⟨⟨_, by simpa using he''⟩, hit'.extBut hs''.extBut (Ne.symm hne), h3, h4, h5⟩, ?_⟩
    simp only [Rep]
    refine ⟨s.heap.objs.size, _, _, _, rfl, S.new, (hs''.2 _ (Ne.symm heT)).trans ht, rfl, rfl, by show 2 ≤ sizeLine; decide, ?_⟩
    simp only [RepL, and_true]
    refine ⟨⟨s.toks, by simp⟩, Rep.mono (kept.kp its) its.own hr⟩
  done φ H s E st S hok := by
    obtain ⟨⟨old, he⟩, hit, h3, h4, h5⟩ := st
    obtain ⟨b, o, vs, n, h1, h2, h3', h4', h5', _⟩ := S.lists j items hok
    rw [h3] at h1; cases h1
    rw [enumFrom_length] at he hit
    refine wpAny_pyNext_enum_end hh he hit ⟨o, h2, h3', n, h4'⟩ ?_ fun h' hs => ⟨rfl, fun b o hb ho => hs b o (fun q => hb (by simp [q])) ho, rfl, rfl⟩
    have := RepL.length h5'
    simp at this
    simp [this]
  self i φ s Q E st hq := by
    obtain ⟨⟨old, he⟩, _⟩ := st
    exact wpAny_pyIter_enum he hq
end
end Bn
namespace Bn
open PySem PyProof.Rows
theorem wp_nsSetC (M : Model) (Γ : Ctx) (E : Value → Pos → Shared → Prop) (p : Pos) (s : Shared) {a : Addr} {m} {o : Obj} (hn : s.heap.Ns a m) (hoo : s.heap.get? a = some o) (name : Str) (v : Value) (Q : Unit → Pos → Shared → Prop)
    (hQ : ∀ h', h'.Ns a (fun x => if x = name then some v else m x) → Heap.SameBut a s.heap h' → (∃ o', h'.get? a = some o' ∧ o'.cls = o.cls) →
      Q () p { s with heap := h', toks := s.toks + 1 }) : Sem.wp M Γ (nsSet a name v) Q E p s := by
  obtain ⟨o1, es, ep, ho, hd, hk, hm⟩ := hn
  rw [hoo] at ho; cases ho
  have ho := hoo
  simp only [nsSet, strHash, Sem.wp_bind', Sem.wp_cmd_ask, Sem.wp_pure', Sem.wp_cmd_mkText]
  rw [Sem.wp_loadPart_of M Γ E p { s with toks := s.toks + 1 } (o := o) _ ho]
  have hany : es.any (·.refKey) = false := by
    rw [Array.any_eq_false']; intro e he; obtain ⟨n, t, h⟩ := hk e he; simp [DictEntry.refKey, h]
  simp only [hd, aRefKeyMayBeTheName_eq, aRefKeyMayBeTheNameByArray, hany, Bool.and_false, Bool.false_eq_true, if_false, Sem.wp_cmd_updatePart]
  refine ⟨by rw [ho]; rfl, hQ _ ?_ (Heap.SameBut.update ..) ?_⟩
  · obtain ⟨c, d, dt, sl⟩ := o
    subst hd
    cases hi : es.findIdx? (·.key.isStr name) with
    | some i =>
      refine ⟨_, _, ep, Heap.get?_update_self _ ho (by simp only [Obj.putName_eq, Obj.putNameByArray, hi]; rfl), by simp only [Obj.putName_eq, Obj.putNameByArray, hi]; rfl, hk.modify _ _, fun x => ?_⟩
      show _ = if x = name then some v else m x
      rw [← hm]; exact findBy_modify (fun n v => v.isStr n) Value.isStr_inj es name x v i hi
    | none =>
      refine ⟨_, _, ep + 1, Heap.get?_update_self _ ho (by simp only [Obj.putName_eq, Obj.putNameByArray, hi]; rfl), by simp only [Obj.putName_eq, Obj.putNameByArray, hi]; rfl, hk.push _ _ _ _, fun x => ?_⟩
      show _ = if x = name then some v else m x
      rw [← hm]
      exact findBy_push (fun n v => v.isStr n) es name x _ _ v (fun y => by
        show (name == y) = decide (y = name)
        by_cases h : y = name
        · subst h; simp
        · have : ¬ name = y := fun e => h e.symm
          simp [h, this]) hi
  · obtain ⟨c, d, dt, sl⟩ := o
    subst hd
    cases hi : es.findIdx? (·.key.isStr name) with
    | some i => exact ⟨_, Heap.get?_update_self _ ho (by simp only [Obj.putName_eq, Obj.putNameByArray, hi]; rfl), by simp only [Obj.putName_eq, Obj.putNameByArray, hi]⟩
    | none => exact ⟨_, Heap.get?_update_self _ ho (by simp only [Obj.putName_eq, Obj.putNameByArray, hi]; rfl), by simp only [Obj.putName_eq, Obj.putNameByArray, hi]⟩
theorem storeLocal {M : Model} {A : Around} {E : Value → Shared → Prop} {s : Shared} {env : Env} {name : Str} {m} {o : Obj} {v : Value} {Q : Unit → Shared → Prop} (hl : env.kindOf name = some .local) (hf : env.scope.kind = .function)
    (hn : s.heap.Ns env.locals m) (ho : s.heap.get? env.locals = some o)
    (h : ∀ h', h'.Ns env.locals (fun x => if x = name then some v else m x) → Heap.SameBut env.locals s.heap h' → (∃ o', h'.get? env.locals = some o' ∧ o'.cls = o.cls) → Q () { s with heap := h', toks := s.toks + 1 }) : wpAny M A (storeName env name v) Q E s := by
  rw [storeName_local hl (by rw [hf]; rfl)]
  exact fun Γ p _ => wp_nsSetC M Γ _ p s hn ho name v _ h
theorem storeCell {M : Model} {A : Around} {E : Value → Shared → Prop} {s : Shared} {env : Env} {name : Str} {ca : Addr} {o : Obj} {r : Option Value} {v : Value} {Q : Unit → Shared → Prop} (hf : env.scope.kind = .function) (hl : env.kindOf name = some .cell)
    (hc : env.cells.lookup name = some ca) (ho : s.heap.get? ca = some o) (hd : o.data = .cell r)
    (h : ∀ h', h'.get? ca = some { o with data := .cell (some v) } → Heap.SameBut ca s.heap h' → Q () { s with heap := h' }) : wpAny M A (storeName env name v) Q E s := by
  unfold storeName
  simp only [hl, hf]
  refine wpAny_bind (wpAny_cellOf hc ?_)
  unfold cellSet
  refine wpAny_bind (wpAny_load ho ?_)
  rw [hd]
  exact wpAny_update ho (h _ (Heap.get?_update_self _ ho rfl) (Heap.SameBut.update ..))
section
variable {c : Cx} {env : Env} {res : Res} {k : Clo} {loc : Loc} {φ : List Addr} {H : Hp} {s : Shared}
theorem own_loc (F : FSim c env res k loc φ s.heap) {o : Obj} (ho : s.heap.get? env.locals = some o) : own c env.locals o := by
  obtain ⟨m, ⟨⟨o1, es, ep, h1, h2, _, h3⟩, o2, h4, h5⟩, _⟩ := F.ns
  rw [ho] at h1 h4; cases h1; cases h4
  rcases h5 with h5 | h5
  · exact .inl (by rw [h5.1]; decide)
  · exact .inr (.inr (.inl ⟨h5.1, es, ep, h2, (h3 _).trans h5.2.1⟩))
theorem own_cell (F : FSim c env res k loc φ s.heap) {x : Str} {ca : Addr} (hx : env.cells.lookup x = some ca) {o : Obj} (ho : s.heap.get? ca = some o) : own c ca o := by
  obtain ⟨_, _, o', h1, h2⟩ := F.cells x ca hx
  rw [ho] at h1; cases h1
  exact .inl (by rw [h2]; decide)
theorem store_name {A : Around} {E : Value → Shared → Prop} {res' : Res} {x : Str} {i : Nat} {v : V} {r : Value} {X : List Addr} (F : FSim c env res k loc φ s.heap) (S : Sim c φ H s) (hnn : res'.n = res.n) (hff : res'.fr = res.fr)
    (hsub : ∀ y j, res'.lookup y = some j → (y = x ∧ j = i) ∨ (y ≠ x ∧ res.lookup y = some j ∧ j ≠ i)) (hi : i < res.n) (hXL : env.locals ∈ X)
    (hk : env.kindOf x = some .local ∨ (env.kindOf x = some .cell ∧ ∃ ca r, env.cells.lookup x = some ca ∧ s.heap.IsCell ca r ∧ env.locals < ca ∧ ca ∈ X ∧ ∀ y, env.cells.lookup y = some ca → y = x)) (hj : x ≠ joinName) (hat : x ≠ Str.ofString "at" ∨ res.fr = true) (R : Rep c φ s.heap v r) :
    wpAny (model c.prog c.w) A (storeName env x r) (fun _ s' => FSim c env res' k (loc.set i (some v)) φ s'.heap ∧ Sim c φ H s' ∧ Ext X φ s φ s' ∧ Kept X s s') E s := by
  have hlen : i < loc.length := Nat.lt_of_lt_of_le hi F.len
  obtain ⟨m, ⟨hn, oL, hoL, hcL⟩, hsl, hjo⟩ := F.ns
  rcases hk with hk | hk
  · refine storeLocal hk F.fn hn hoL fun h' hn' hs' hc' => ?_
    obtain ⟨o', ho', hcls'⟩ := hc'
    have keep : ∀ a o, a ≠ env.locals → s.heap.get? a = some o → h'.get? a = some o := fun a o ha ho => (hs'.2 a ha).trans ho
    have kp : Kp [env.locals] φ s.heap φ h' := ⟨List.prefix_rfl, fun b o hb _ hX _ => keep b o (by simpa using hX) hb, fun _ h => .inl h, fun b o es n hb _ hd => by
      by_cases e : b = env.locals
      · subst e
        obtain ⟨o1, es1, n1, h1, h2, _⟩ := hn'
        rw [ho'] at h1; cases h1
        rw [hoL] at hb; cases hb
        exact ⟨o', es1, n1, ho', h2, hcls'⟩
      · exact ⟨o, es, n, keep b o e hb, hd, rfl⟩, fun b o vs C hb _ hc hd => ⟨vs, by
      rw [← hd]
      refine keep b o (fun q => ?_) hb
      rw [q, hoL] at hb; cases hb
      rcases hcL with h | h
      · rw [hc] at h; cases h.1
      · rw [hc] at h; cases h.1⟩⟩
    have ow : OwnX c [env.locals] s.heap := fun b hb o ho => by rw [List.mem_singleton.mp hb] at ho ⊢; exact own_loc F ho
    have hcL' : ∀ y ca, env.cells.lookup y = some ca → ca ≠ env.locals := fun y ca hy q => by
      obtain ⟨_, _, o1, h1, h2⟩ := F.cells y ca hy
      rw [q, hoL] at h1; cases h1
      rcases hcL with h | h
      · rw [h2] at h; exact absurd h.1 (by decide)
      · rw [h2] at h; exact absurd h.1 (by decide)
    refine ⟨⟨F.fn, F.gl, F.bl, ⟨_, ⟨hn', o', ho', ?_⟩, fun y j hy => ?_, fun kk z hz => ?_⟩, by rw [hnn]; simpa using F.len, F.Lφ, F.L0, fun y ca hy => ?_⟩, ?_, Ext.of_own (s' := { s with heap := h', toks := s.toks + 1 }) hs' hXL (fun o es n ho hd => kp.dict _ o es n ho F.Lφ hd) ⟨o', ho'⟩ rfl (fun o vs ho hd => by obtain ⟨o1, es1, n1, h1, h2, _⟩ := hn; rw [ho] at h1; cases h1; rw [h2] at hd; cases hd), fun b o hb ho => keep b o (fun q => hb (q ▸ hXL)) ho, rfl, rfl⟩
    · rcases hcL with h | h
      · exact .inl ⟨hcls'.trans h.1, hff.trans h.2⟩
      · refine .inr ⟨hcls'.trans h.1, ?_, hff.trans h.2.2⟩
        rcases hat with hat | h2
        · rw [if_neg (Ne.symm hat)]; exact h.2.1
        · rw [h.2.2] at h2; cases h2
    · rcases hsub y j hy with ⟨rfl, rfl⟩ | ⟨e, hy, hji⟩
      · unfold SlotAt
        rw [hk]
        simp only [if_true, List.getD_eq_getElem?_getD, List.getElem?_set_self hlen, Option.getD_some]
        exact ⟨r, rfl, Rep.mono kp ow R⟩
      · have hij : i ≠ j := Ne.symm hji
        have hsy := (hsl y j hy).mono (s := s) (s' := { s with heap := h' }) kp ow fun z ca hz => ⟨by simpa using hcL' z ca hz, F.cells z ca hz⟩
        rw [show (loc.set i (some v)).getD j none = loc.getD j none by simp [List.getD_eq_getElem?_getD, List.getElem?_set_ne hij]]
        unfold SlotAt at hsy ⊢
        split at hsy
        · simp only [if_neg e]; exact hsy
        · exact hsy
        · exact hsy
        · exact hsy
    · obtain ⟨h3, fv, h4, h5⟩ := hjo kk z hz
      refine ⟨h3, fv, by rw [if_neg (Ne.symm hj)]; exact h4, h5.mono (s := s) (s' := { s with heap := h' }) kp ow fun ca o ho _ hlt => ?_⟩
      simp; exact Nat.ne_of_lt hlt
    · obtain ⟨h1, h2, o1, h3, h4⟩ := F.cells y ca hy
      exact ⟨h1, h2, o1, keep ca o1 (hcL' y ca hy) h3, h4⟩
    · refine S.mono (s' := { s with heap := h', toks := s.toks + 1 }) kp ow (by simpa using F.L0) (fun a ha o ho => keep a o (fun q => F.Lφ (q ▸ ha)) ho) (fun b o hb _ => keep b o (fun q => by rw [q, F.L0] at hb; cases hb) (S.stays b o hb)) S.gens
  · obtain ⟨hk, ca, r0, hca, ⟨oc, hoc, hdc⟩, hlt0, hcX, hap⟩ := hk
    obtain ⟨hcφ, hc0, oc', hoc', hcc⟩ := F.cells x ca hca
    rw [hoc] at hoc'; cases hoc'
    refine storeCell F.fn hk hca hoc hdc fun h' ho' hs' => ?_
    have keep : ∀ a o, a ≠ ca → s.heap.get? a = some o → h'.get? a = some o := fun a o ha ho => (hs'.2 a ha).trans ho
    have kp : Kp [ca] φ s.heap φ h' := ⟨List.prefix_rfl, fun b o hb _ hX _ => keep b o (by simpa using hX) hb, fun _ h => .inl h, fun b o es n hb _ hd => by
      refine ⟨o, es, n, keep b o (fun q => ?_) hb, hd, rfl⟩
      rw [q, hoc] at hb; cases hb; rw [hdc] at hd; (cases hd), fun b o vs C hb _ hc hd => ⟨vs, by
      rw [← hd]
      refine keep b o (fun q => ?_) hb
      rw [q, hoc] at hb; cases hb; rw [hdc] at hd; cases hd⟩⟩
    have ow : OwnX c [ca] s.heap := fun b hb o ho => by rw [List.mem_singleton.mp hb] at ho ⊢; exact own_cell F hca ho
    have hLc : env.locals ≠ ca := Nat.ne_of_lt hlt0
    refine ⟨⟨F.fn, F.gl, F.bl, ⟨m, ⟨hn.sameBut hs' hLc, oL, keep _ _ hLc hoL, hff ▸ hcL⟩, fun y j hy => ?_, fun kk z hz => ?_⟩, by rw [hnn]; simpa using F.len, F.Lφ, F.L0, fun y cy hy => ?_⟩, ?_, Ext.of_own (s' := { s with heap := h' }) hs' hcX (fun o es n ho hd => kp.dict _ o es n ho hcφ hd) ⟨_, ho'⟩ rfl (fun o vs ho hd => by rw [hoc] at ho; cases ho; rw [hdc] at hd; cases hd), fun b o hb ho => keep b o (fun q => hb (q ▸ hcX)) ho, rfl, rfl⟩
    · rcases hsub y j hy with ⟨rfl, rfl⟩ | ⟨e, hy, hji⟩
      · unfold SlotAt
        rw [hk]
        simp only [List.getD_eq_getElem?_getD, List.getElem?_set_self hlen, Option.getD_some]
        exact ⟨ca, some r, hca, ⟨_, ho', rfl⟩, r, rfl, Rep.mono kp ow R⟩
      · have hij : i ≠ j := Ne.symm hji
        rw [show (loc.set i (some v)).getD j none = loc.getD j none by simp [List.getD_eq_getElem?_getD, List.getElem?_set_ne hij]]
        have hsy := hsl y j hy
        unfold SlotAt at hsy ⊢
        have slot : ∀ {ov : Option V}, (∃ ca r, env.cells.lookup y = some ca ∧ s.heap.IsCell ca r ∧ (match ov with | some v => ∃ r', r = some r' ∧ Rep c φ s.heap v r' | none => r = none)) →
            ∃ ca r, env.cells.lookup y = some ca ∧ h'.IsCell ca r ∧ (match ov with | some v => ∃ r', r = some r' ∧ Rep c φ h' v r' | none => r = none) := fun {ov} q => by
          obtain ⟨cy, ry, h1, ⟨o1, h2, h2'⟩, h3⟩ := q
          have hne : cy ≠ ca := fun q => e (hap y (q ▸ h1))
          refine ⟨cy, ry, h1, ⟨o1, keep cy o1 hne h2, h2'⟩, ?_⟩
          cases ov with
          | none => exact h3
          | some v => obtain ⟨r', h4, h5⟩ := h3; exact ⟨r', h4, Rep.mono kp ow h5⟩
        split at hsy
        · cases hv : loc.getD j none with
          | none => rw [hv] at hsy; exact hsy
          | some v => rw [hv] at hsy; obtain ⟨r', h1, h2⟩ := hsy; exact ⟨r', h1, Rep.mono kp ow h2⟩
        · exact slot hsy
        · exact slot hsy
        · exact hsy
    · obtain ⟨h3, fv, h4, h5⟩ := hjo kk z hz
      refine ⟨h3, fv, h4, h5.mono (s := s) (s' := { s with heap := h' }) kp ow fun cb o ho _ hlt => ?_⟩
      simp; exact Nat.ne_of_lt (Nat.lt_trans hlt hlt0)
    · obtain ⟨h1, h2, o1, h3, h4⟩ := F.cells y cy hy
      by_cases q : cy = ca
      · subst q
        exact ⟨h1, h2, _, ho', by rw [h3] at hoc; cases hoc; exact h4⟩
      · exact ⟨h1, h2, o1, keep cy o1 q h3, h4⟩
    · refine S.mono (s' := { s with heap := h' }) kp ow (by simpa using hc0) (fun a ha o ho => keep a o (fun q => hcφ (q ▸ ha)) ho) (fun b o hb _ => keep b o (fun q => by rw [q, hc0] at hb; cases hb) (S.stays b o hb)) S.gens
end
end Bn
namespace Bn
open PySem PyProof.Rows
section
variable {c : Cx} {A : Around} {φ : List Addr} {H : Hp} {s : Shared}
theorem itr_strw (hh : A.handled = none) {I : Addr} {x : Str} {t : Tok} {tg : Expr} (h0 : c.h0.get? I = none) :
    Itr c A (.ref I) tg [I] (x.cps.toList.map fun c => .str ⟨#[c]⟩) (fun _ => True) (fun i φ h => h.IsStrIter I "str_iterator" x t i ∧ I ∉ φ) where
  seen i φ h q := Its.one q.2 h0 (let ⟨o, h1, h2, h3⟩ := q.1; ⟨o, h1, h2, _, h3⟩) rfl
  frame i X φ φ' h h' q e hX hw := by
    have it := Its.one (c := c) (t := "str_iterator") q.2 h0 (let ⟨o, h1, h2, h3⟩ := q.1; ⟨o, h1, h2, _, h3⟩) rfl
    obtain ⟨⟨o, ho, r⟩, h3⟩ := q
    exact ⟨⟨o, it.keepOne e hw ho, r⟩, e.notin ho h3⟩
  item i y φ H s E hx q S hok := by
    rw [List.getElem?_map] at hx
    cases hc : x.cps[i]? with
    | none => simp [hc] at hx
    | some k =>
      simp [hc] at hx; subst hx
      refine wpAny_pyNext_wide_item q.1 hc fun h' hit hs => ⟨_, rfl, ?_⟩
      obtain ⟨oi, hoi, hci, _⟩ := id hit
      exact letOwned_plain hoi hci (by decide) ⟨kept_same hs, ⟨hit, q.2⟩, ⟨_, rfl⟩⟩
  done φ H s E q S hok := by
    simp only [List.length_map, Array.length_toList] at q
    exact wpAny_pyNext_wide_end hh q.1 (by simp) fun h' hs => ⟨rfl, kept_ext hs⟩
  self i φ s Q E q hq := wpAny_pyIter_striter_wide q.1 hq
def Went (c : Cx) (A : Around) (φ : List Addr) (s : Shared) (tg : Expr) (items : List V) (ok : Hp → Prop) (H : Hp) (it : Value) (s' : Shared) : Prop :=
  ∃ wr St, Ext [] φ s φ s' ∧ Sim c φ H s' ∧ Itr c A it tg wr items ok St ∧ St 0 φ s'.heap ∧ ∀ b ∈ wr, s.heap.get? b = none
theorem went_push {I : Addr} {tg : Expr} {items : List V} {ok : Hp → Prop} {St : Nat → List Addr → Heap → Prop} {o : Obj} (S : Sim c φ H s) (hI : I = s.heap.objs.size) (h : Itr c A (.ref I) tg [I] items ok St) (hst : St 0 φ (s.heap.push o)) : Went c A φ s tg items ok H (.ref I) { s with heap := s.heap.push o } := by
  subst hI
  exact ⟨_, _, Ext.push, S.push o, h, hst, fun b hb => by rw [List.mem_singleton.mp hb]; exact Heap.get?_none_of_le (Nat.le_refl _)⟩
theorem iter_val (hh : A.handled = none) (S : Sim c φ H s) {v : V} {r : Value} (R : Rep c φ s.heap v r) {items : List V} (hs : srcV H v = some items) {tg : Expr} {E : Value → Shared → Prop} :
    wpAny (model c.prog c.w) A (pyIter r) (Went c A φ s tg items (okV v items) H) E s := by
  have h0 := S.h0_new (Nat.le_refl s.heap.objs.size)
  cases v <;> simp only [srcV, reduceCtorEq, Option.some.injEq] at hs
  · subst hs
    rename_i x
    simp only [Rep] at R
    obtain ⟨t, rfl⟩ := R
    cases ha : x.cps.all (· < 128) with
    | true => exact wpAny_pyIter_ascii ha (went_push S rfl (itr_str hh (t := t) h0) ⟨⟨_, Heap.get?_push_size _ rfl, rfl, rfl⟩, S.new⟩)
    | false => exact wpAny_pyIter_wide ha (went_push S rfl (itr_strw hh (t := t) h0) ⟨⟨_, Heap.get?_push_size _ rfl, rfl, rfl⟩, S.new⟩)
  · subst hs
    rename_i l
    have R' := R
    simp only [Rep] at R
    obtain ⟨a, o, vs, n, rfl, ha, ho, hc, hd, hz, hl⟩ := R
    refine wpAny_pyIter_tuple ⟨o, ho, hc, n, hd⟩ (went_push S rfl (itr_tuple hh (r := .ref a) h0) ⟨a, rfl, ⟨_, Heap.get?_push_size _ rfl, rfl, rfl⟩, Rep.mono (Ext.push (X := []) (s := s)).toKp OwnX.nil R', S.new⟩)
  · rename_i j
    simp only [Rep] at R
    obtain ⟨a, rfl, ha⟩ := R
    obtain ⟨b, o, vs, n, h1, h2, h3, h4, h5, _⟩ := S.lists j items hs
    rw [ha] at h1; cases h1
    exact wpAny_pyIter_list ⟨o, h2, h3, n, h4⟩ (went_push S rfl (itr_list hh (a := a) (j := j) h0) ⟨⟨_, Heap.get?_push_size _ rfl, rfl, rfl⟩, ha, S.new⟩)
  · subst hs
    rename_i lo hi st
    simp only [Rep] at R
    obtain ⟨a, t, u, v, rfl, ha, hr, b1, b2, b3, b4⟩ := R
    refine wpAny_pyIter_range hr (range_small ⟨b1, b2, b3, b4⟩) ?_
    rw [rangeSize_eq lo hi st b3]
    have e : rangeL lo hi st = (List.range (rangeL lo hi st).length).map fun (i : Nat) => V.int (lo + (i : Int) * st) := by
      rw [rangeL_length]; rfl
    generalize (rangeL lo hi st).length = n at e ⊢
    rw [e]
    refine went_push S rfl (itr_range hh (lo := lo) (st := st) (n := n) h0) ⟨Nat.zero_le _, ?_, S.new⟩
    have := Heap.get?_push_size (h := s.heap) (o := { cls := .type "range_iterator", data := .fields #[rawInt lo, rawInt (n : Int), rawInt st] }) rfl
    simpa using this
end
end Bn
namespace Bn
open PySem PyProof.Rows
section
variable {prog : Program} {w : World} {A : Around} {E : Value → Shared → Prop} {R : Result → Shared → Prop} {s : Shared}
theorem compLoop_any {elt target iter : Expr} {ifs : List Expr} {scope : Scope} {pos : Pos} {it acc : Value} {env : Env} (I : Nat → Shared → Prop)
    (turn : ∀ n s, I n s → wpAny (model prog w) A (pyNext it) (fun r s₁ => match r with
      | none => R (.ok .next) s₁
      | some v => wpAny (model prog w) A (letOwnedTupleGo target it v) (fun _ s₁' => wpAny (model prog w) A (assign target env v) (fun _ s₂ =>
          wpAny (model prog w) A (forIn ifs true fun c r => if r = true then do let ok ← isTrue c env (eval c env); pure (ForInStep.yield ok) else pure (ForInStep.yield r)) (fun ok s₃ =>
            if ok = true then wpAny (model prog w) A (eval elt env) (fun x s₄ =>
              wpAny (model prog w) A (call (.builtin "list.append") [acc, x]) (fun _ s₅ => ∃ m, m < n ∧ I m s₅) (fun _ _ => False) s₄) (fun _ _ => False) s₃
            else ∃ m, m < n ∧ I m s₃) (fun _ _ => False) s₂) (fun _ _ => False) s₁') (fun _ _ => False) s₁) (fun _ _ => False) s)
    (n : Nat) (h : I n s) :
    codeAny (model prog w) A (.compLoop (.ListComp elt [⟨target, iter, ifs, 0⟩] scope pos) 0 it acc env) R s := by
  refine codeAny_loop rfl I (fun n s hI => ?_) n h
  show wpAny _ A ((compTurn (.ListComp elt [⟨target, iter, ifs, 0⟩] scope pos) 0 it acc env).onRaise (fun x => do noteFrame x env; theTreesLotGoes x)) _ _ s
  refine wpAny_noted ?_
  rw [compTurn_list]
  refine wpAny_bind (wpAny_standAt (wpAny_bind (wpAny_mono (turn n s hI) (fun r s₁ h₁ => ?_) fun _ _ h' => h'.elim)))
  cases r with
  | none => exact wpAny_pure h₁
  | some v =>
    refine wpAny_bind (wpAny_mono h₁ (fun _ s₁' h₁' => ?_) fun _ _ h' => h'.elim)
    refine wpAny_bind (wpAny_mono h₁' (fun _ s₂ h₂ => wpAny_bind (wpAny_mono h₂ (fun ok s₃ h₃ => ?_) fun _ _ h' => h'.elim)) fun _ _ h' => h'.elim)
    cases ok with
    | false => exact wpAny_pure ⟨rfl, h₃⟩
    | true =>
      exact wpAny_bind (wpAny_bind (wpAny_mono h₃ (fun x s₄ h₄ => wpAny_bind (wpAny_mono h₄ (fun _ s₅ h₅ => wpAny_pure (wpAny_pure ⟨rfl, h₅⟩)) fun _ _ h' => h'.elim)) fun _ _ h' => h'.elim))
end
def closL (env : Env) : List (Str × NameKind) → List (Str × Addr) → List (Str × Addr)
  | [], acc => acc
  | (n, k) :: r, acc => if k == .free then closL env r ((n, (env.cells.lookup n).getD 0) :: acc) else closL env r acc
theorem closL_eq {env : Env} (f : Str × NameKind → List (Str × Addr) → Sem (ForInStep (List (Str × Addr))))
    (hf : ∀ n k cs, f (n, k) cs = if k == .free then (do let a ← cellOf env n; pure (.yield ((n, a) :: cs))) else pure (.yield cs)) :
    ∀ (names : List (Str × NameKind)) (acc : List (Str × Addr)), (∀ n, (n, NameKind.free) ∈ names → ∃ ca, env.cells.lookup n = some ca) → forIn names acc f = pure (closL env names acc)
  | [], acc, _ => by simp [closL]
  | (n, k) :: r, acc, h => by
    have ih := fun acc => closL_eq f hf r acc fun n hn => h n (List.mem_cons_of_mem _ hn)
    rw [List.forIn_cons, hf]
    unfold closL
    by_cases hk : (k == NameKind.free) = true
    · rw [if_pos hk, if_pos hk]
      have hk' : k = .free := by simpa using hk
      subst hk'
      obtain ⟨ca, hca⟩ := h n List.mem_cons_self
      simp only [cellOf, hca, Option.getD_some]
      simp only [pure_bind]
      exact ih _
    · rw [if_neg hk, if_neg hk]
      simp only [pure_bind]
      exact ih _
theorem closureFor_eq {scope : Scope} {env : Env} (h : ∀ n, (n, NameKind.free) ∈ scope.names → ∃ ca, env.cells.lookup n = some ca) : closureFor scope env = pure (closL env scope.names []) := by
  unfold closureFor
  have := closL_eq (env := env) (fun x r => match x with
    | (name, kind) => if (kind == NameKind.free) = true then (do let a ← cellOf env name; pure (.yield ((name, a) :: r))) else pure (.yield r)) (fun n k cs => rfl) scope.names [] h
  simp only [bind_pure] at this ⊢
  exact this
theorem closL_lookup {env : Env} : ∀ {names : List (Str × NameKind)} {acc : List (Str × Addr)} {x : Str} {ca : Addr}, (closL env names acc).lookup x = some ca →
    acc.lookup x = some ca ∨ ((x, NameKind.free) ∈ names ∧ ca = (env.cells.lookup x).getD 0)
  | [], acc, x, ca, h => .inl h
  | (n, k) :: r, acc, x, ca, h => by
    unfold closL at h
    split at h
    · rename_i hk
      have hk' : k = .free := by simpa using hk
      subst hk'
      rcases closL_lookup h with h | h
      · rw [List.lookup_cons] at h
        cases hb : x == n with
        | true =>
          rw [hb] at h
          have := beq_iff_eq.mp hb; subst this
          cases h
          exact .inr ⟨List.mem_cons_self, rfl⟩
        | false => rw [hb] at h; exact .inl h
      · exact .inr ⟨List.mem_cons_of_mem _ h.1, h.2⟩
    · rcases closL_lookup h with h | h
      · exact .inl h
      · exact .inr ⟨List.mem_cons_of_mem _ h.1, h.2⟩
theorem closL_some {env : Env} : ∀ {names : List (Str × NameKind)} {acc : List (Str × Addr)} {x : Str}, ((x, NameKind.free) ∈ names ∨ (acc.lookup x).isSome) → ((closL env names acc).lookup x).isSome
  | [], acc, x, h => by
    rcases h with h | h
    · cases h
    · exact h
  | (n, k) :: r, acc, x, h => by
    unfold closL
    split
    · rename_i hk
      refine closL_some ?_
      rcases h with h | h
      · rcases List.mem_cons.mp h with e | h
        · cases e
          right; simp [List.lookup_cons]
        · exact .inl h
      · right
        rw [List.lookup_cons]
        cases x == n <;> simp [h]
    · rename_i hk
      refine closL_some ?_
      rcases h with h | h
      · rcases List.mem_cons.mp h with e | h
        · cases e; exact absurd rfl hk
        · exact .inl h
      · exact .inr h
theorem newCompEnv {M : Model} {A : Around} {E : Value → Shared → Prop} {s : Shared} {scope : Scope} {globals : Addr} {closure : List (Str × Addr)} {qual : Str} {func : Option Addr} {code : Value} {outer : Env} {Q : Env → Shared → Prop}
    (hc : ∀ x ∈ scope.names, x.2 ≠ .cell)
    (hQ : Q { scope, locals := s.heap.objs.size, globals, cells := closure, qual, func, code := outer.code, frame := outer.frame, builtins := outer.builtins } { s with heap := s.heap.push { cls := .type "dict", data := .dict #[] } }) :
    wpAny M A (newFunctionEnv scope globals closure [] qual func code (some outer)) Q E s := by
  simp only [newFunctionEnv, Option.isSome_some, if_true]
  refine wpAny_bind (wpAny_alloc ?_)
  rw [forIn_yield_id closure (fun x hx c => by
    obtain ⟨name, kind⟩ := x
    have : (kind == NameKind.cell) = false := by simpa using hc _ hx
    simp only [this, Bool.false_eq_true, if_false])]
  refine wpAny_bind (wpAny_pure (wpAny_bind ?_))
  rw [List.forIn_nil]
  exact wpAny_pure (wpAny_pure hQ)
section
variable {c : Cx} {env : Env} {res : Res}
def SoundTs' (c : Cx) (env : Env) (res : Res) : List Expr → List Ex → Prop
  | [], [] => True
  | e :: es, x :: xs => SoundT c env res e x ∧ SoundTs' c env res es xs
  | _, _ => False
theorem tests_of : ∀ {es : List Expr} {xs : List Ex}, SoundTs' c env res es xs → ∀ A q d k loc φ H s Q (E : Value → Shared → Prop), OkF c A q d φ s.heap → FSim c env res k loc φ s.heap → Sim c φ H s → wpI (Calls c) q d k xs loc Q H →
    wpAny (model c.prog c.w) A (forIn es true fun c r => if r = true then do let ok ← isTrue c env (eval c env); pure (ForInStep.yield ok) else pure (ForInStep.yield r)) (OutB c φ s Q) E s
  | [], [], _ => fun A q d k loc φ H s Q E hA hF hS hw => by
    simp only [wpI] at hw
    rw [List.forIn_nil]
    exact wpAny_pure ⟨φ, H, Ext.refl, hS, hw⟩
  | [], _ :: _, h => by simp only [SoundTs'] at h
  | _ :: _, [], h => by simp only [SoundTs'] at h
  | e :: es, x :: xs, h => fun A q d k loc φ H s Q E hA hF hS hw => by
    simp only [SoundTs'] at h
    simp only [wpI] at hw
    rw [List.forIn_cons]
    simp only [if_true]
    have hw' : wpE (Calls c) q d k x loc (truthP fun b H => match b with | true => wpI (Calls c) q d k xs loc Q H | false => Q false H) noX H := by
      have : (fun v H => match truth v with | some true => wpI (Calls c) q d k xs loc Q H | some false => Q false H | none => False) = truthP fun b H => match b with | true => wpI (Calls c) q d k xs loc Q H | false => Q false H := by
        funext v H
        unfold truthP
        cases truth v with
        | none => rfl
        | some b => cases b <;> rfl
      rw [← this]; exact hw
    refine wpAny_bind (wpAny_bind (wpAny_mono (h.1 A q d k loc φ H s _ noX hA hF hS hw') ?_ fun _ _ h => OutX.no h))
    rintro b s₁ ⟨φ₁, H₁, e₁, S₁, w₁⟩
    refine wpAny_pure ?_
    cases b with
    | true => exact wpAny_mono (tests_of h.2 A q d k loc φ₁ H₁ s₁ Q E (hA.mono e₁) (hF.mono e₁) S₁ w₁) (fun _ _ h => OutB.lift e₁ h) fun _ _ h => h
    | false =>
      have : (forIn es false fun c r => if r = true then do let ok ← isTrue c env (eval c env); pure (ForInStep.yield ok) else pure (ForInStep.yield r) : Sem Bool) = pure false := by
        clear hw hw' h
        induction es with
        | nil => rfl
        | cons e es ih => rw [List.forIn_cons]; simp only [Bool.false_eq_true, if_false, pure_bind]; exact ih
      show wpAny _ _ (forIn es false _) _ _ _
      rw [this]
      exact wpAny_pure ⟨φ₁, H₁, e₁, S₁, w₁⟩
theorem FSim.sub {res' : Res} {k : Clo} {loc loc' : Loc} {φ : List Addr} {h : Heap} (F : FSim c env res k loc φ h) (hn : res'.n ≤ loc'.length) (hff : res'.fr = res.fr) (hs : ∀ x i, res'.lookup x = some i → res.lookup x = some i ∧ loc'.getD i none = loc.getD i none) : FSim c env res' none loc' φ h where
  fn := F.fn
  gl := F.gl
  bl := F.bl
  ns := by
    obtain ⟨m, h1, h2, h3⟩ := F.ns
    exact ⟨m, by rw [hff]; exact h1, fun x i hx => by rw [(hs x i hx).2]; exact h2 x i (hs x i hx).1, fun kk z hz => by cases hz⟩
  len := hn
  Lφ := F.Lφ
  L0 := F.L0
  cells := F.cells
end
end Bn
namespace Bn
open PySem PyProof.Rows
def StoreOk (al : Bool) (env : Env) (res res' : Res) (x : Str) (i : Nat) : Prop :=
  res'.n = res.n ∧ res'.fr = res.fr ∧ (∀ y j, res'.lookup y = some j → (y = x ∧ j = i) ∨ (y ≠ x ∧ res.lookup y = some j ∧ j ≠ i)) ∧ i < res.n ∧
  (env.kindOf x = some .local ∨ (al = true ∧ env.kindOf x = some .cell ∧ ∃ j, res.lookup x = some j)) ∧ x ≠ joinName ∧ (x ≠ Str.ofString "at" ∨ res.fr = true)
def StoresOk (al : Bool) (env : Env) : Res → Res → List Expr → List Nat → Prop
  | res, res', [], [] => res' = res
  | res, res', e :: es, i :: is => ∃ x p res1, e = .Name x p ∧ StoreOk al env res res1 x i ∧ StoresOk al env res1 res' es is
  | _, _, _, _ => False
def TgOk (al : Bool) (env : Env) (res res' : Res) : Expr → Tg → Prop
  | .Name x _, .one i => StoreOk al env res res' x i
  | .Tuple es _ _, .two i j => StoresOk al env res res' es [i, j]
  | _, _ => False
structure EnvX (al : Bool) (env : Env) (X : List Addr) : Prop where
  loc : env.locals ∈ X
  cell : al = true → ∀ x ca, env.kindOf x = some .cell → env.cells.lookup x = some ca → env.locals < ca ∧ ca ∈ X ∧ ∀ y, env.cells.lookup y = some ca → y = x
  only : ∀ b ∈ X, b = env.locals ∨ ∃ x, env.cells.lookup x = some b
section
variable {c : Cx} {env : Env} {res : Res} {k : Clo} {loc loc' : Loc} {φ : List Addr} {H : Hp} {s : Shared} {al : Bool} {X : List Addr}
theorem FSim.ownX (F : FSim c env res k loc φ s.heap) (hX : EnvX al env X) : OwnX c X s.heap := fun b hb o ho => by
  rcases hX.only b hb with rfl | ⟨x, hx⟩
  · exact own_loc F ho
  · exact own_cell F hx ho
theorem FSim.outX (F : FSim c env res k loc φ s.heap) (hX : EnvX al env X) : ∀ b ∈ X, b ∉ φ ∧ c.h0.get? b = none := fun b hb => by
  rcases hX.only b hb with rfl | ⟨x, hx⟩
  · exact ⟨F.Lφ, F.L0⟩
  · exact ⟨(F.cells x b hx).1, (F.cells x b hx).2.1⟩
def Stored (c : Cx) (env : Env) (res : Res) (k : Clo) (loc : Loc) (φ : List Addr) (H : Hp) (X : List Addr) (s : Shared) (s' : Shared) : Prop :=
  FSim c env res k loc φ s'.heap ∧ Sim c φ H s' ∧ Ext X φ s φ s' ∧ Kept X s s'
theorem Kept.trans {X : List Addr} {s s₁ s₂ : Shared} (a : Kept X s s₁) (b : Kept X s₁ s₂) : Kept X s s₂ :=
  ⟨fun y o hy ho => b.1 y o hy (a.1 y o hy ho), b.2.1.trans a.2.1, b.2.2.trans a.2.2⟩
theorem store_ok {A : Around} {E : Value → Shared → Prop} {res' : Res} {x : Str} {i : Nat} {v : V} {r : Value} (F : FSim c env res k loc φ s.heap) (S : Sim c φ H s) (h : StoreOk al env res res' x i) (hX : EnvX al env X) (R : Rep c φ s.heap v r) :
    wpAny (model c.prog c.w) A (storeName env x r) (fun _ s' => Stored c env res' k (loc.set i (some v)) φ H X s s') E s := by
  obtain ⟨h1, h2, h3, h4, h5, h6, h7⟩ := h
  refine store_name F S h1 h2 h3 h4 hX.loc ?_ h6 h7 R
  rcases h5 with h5 | ⟨ha, hk, j, hj⟩
  · exact .inl h5
  · refine .inr ⟨hk, ?_⟩
    obtain ⟨m, _, hs, _⟩ := F.ns
    have := hs x j hj
    unfold SlotAt at this
    rw [hk] at this
    obtain ⟨ca, r0, h8, h9, _⟩ := this
    exact ⟨ca, r0, h8, h9, hX.cell ha x ca hk h8⟩
theorem stores_of {A : Around} {E : Value → Shared → Prop} (hX : EnvX al env X) : ∀ {es : List Expr} {is : List Nat} {vs : List V} {rs : List Value} {res res' : Res} {loc loc' : Loc} {s : Shared},
    StoresOk al env res res' es is → bindL is vs loc = some loc' → FSim c env res k loc φ s.heap → Sim c φ H s → RepL c φ s.heap vs rs →
    wpAny (model c.prog c.w) A (assignInOrder ((assignEach es env).map (·.2)) rs) (fun _ s' => Stored c env res' k loc' φ H X s s') E s
  | [], [], [], [], res, res', loc, loc', s, h, hb, F, S, R => by
    simp only [StoresOk] at h; subst h
    simp only [bindL, Option.some.injEq] at hb; subst hb
    exact wpAny_pure ⟨F, S, Ext.refl, fun _ _ _ h => h, rfl, rfl⟩
  | e :: es, i :: is, v :: vs, r :: rs, res, res', loc, loc', s, h, hb, F, S, R => by
    simp only [StoresOk] at h
    obtain ⟨x, p, res1, rfl, h1, h2⟩ := h
    simp only [bindL] at hb
    simp only [RepL] at R
    show wpAny _ _ (do holding rs (assign (.Name x p) env r); assignInOrder ((assignEach es env).map (·.2)) rs) _ _ s
    refine wpAny_bind (wpAny_holding (wpAny_assign_Name (wpAny_mono (store_ok F S h1 hX R.1) ?_ fun _ _ h => h)))
    rintro _ s₁ ⟨F₁, S₁, e₁, k₁⟩
    refine wpAny_mono (stores_of hX h2 hb F₁ S₁ (RepL.mono e₁.toKp (F.ownX hX) R.2)) ?_ fun _ _ h => h
    rintro _ s₂ ⟨F₂, S₂, e₂, k₂⟩
    exact ⟨F₂, S₂, e₁.trans e₂, k₁.trans k₂⟩
  | [], [], [], _ :: _, _, _, _, _, _, _, _, _, _, R => by simp only [RepL] at R
  | [], [], _ :: _, _, _, _, _, _, _, _, hb, _, _, _ => by simp [bindL] at hb
  | _ :: _, _ :: _, [], _, _, _, _, _, _, _, hb, _, _, _ => by simp [bindL] at hb
  | _ :: _, _ :: _, _ :: _, [], _, _, _, _, _, _, _, _, _, R => by simp only [RepL] at R
  | [], _ :: _, _, _, _, _, _, _, _, h, _, _, _, _ => by simp only [StoresOk] at h
  | _ :: _, [], _, _, _, _, _, _, _, h, _, _, _, _ => by simp only [StoresOk] at h
theorem stores_plain {al : Bool} : ∀ {es : List Expr} {is : List Nat} {res res' : Res}, StoresOk al env res res' es is → (assignEach es env).length = is.length ∧ (assignEach es env).findIdx? (·.1) = none
  | [], [], _, _, _ => ⟨rfl, rfl⟩
  | e :: es, i :: is, _, _, h => by
    simp only [StoresOk] at h
    obtain ⟨x, p, res1, rfl, _, h2⟩ := h
    obtain ⟨h3, h4⟩ := stores_plain h2
    refine ⟨?_, ?_⟩
    · show (assignEach es env).length + 1 = _
      rw [h3]; rfl
    · show (((false, assign (.Name x p) env) :: assignEach es env).findIdx? (·.1)) = none
      rw [List.findIdx?_cons]
      simp [h4]
  | [], _ :: _, _, _, h => by simp only [StoresOk] at h
  | _ :: _, [], _, _, h => by simp only [StoresOk] at h
theorem bindL_len : ∀ {is : List Nat} {vs : List V} {loc loc' : Loc}, bindL is vs loc = some loc' → vs.length = is.length
  | [], [], _, _, _ => rfl
  | _ :: _, _ :: _, _, _, h => by simp only [bindL] at h; simp [bindL_len h]
  | [], _ :: _, _, _, h => by simp [bindL] at h
  | _ :: _, [], _, _, h => by simp [bindL] at h
theorem unpack_of {A : Around} {E : Value → Shared → Prop} (hh : A.handled = none) (hX : EnvX al env X) {es : List Expr} {is : List Nat} {x1} {pos : Pos} {vs : List V} {r : Value} {res res' : Res} {loc loc' : Loc} {s : Shared}
    (h : StoresOk al env res res' es is) (hb : bindL is vs loc = some loc') (F : FSim c env res k loc φ s.heap) (S : Sim c φ H s) (R : Rep c φ s.heap (.tup vs) r) :
    wpAny (model c.prog c.w) A (assign (.Tuple es x1 pos) env r) (fun _ s' => Stored c env res' k loc' φ H X s s') E s := by
  have R' := R
  simp only [Rep] at R
  obtain ⟨a, o, us, n, rfl, ha, ho, hc, hd, hz, hl⟩ := R
  have hlen : us.size = is.length := by rw [← bindL_len hb, ← RepL.length hl]; simp
  refine wpAny_assign_Tuple hh ⟨o, ho, hc, n, hd⟩ ((stores_plain h).1.trans hlen.symm) (stores_plain h).2 fun h' hx => ?_
  have keep : ∀ b o, s.heap.get? b = some o → h'.get? b = some o := fun b o hb => hx b o (Nat.ne_of_lt (Heap.lt_size hb)) hb
  have e : Ext [] φ s φ { s with heap := h' } := Ext.of_keeps keep rfl
  refine wpAny_mono (stores_of hX h hb (F.mono e) (S.keeps (s' := { s with heap := h' }) keep rfl) (RepL.mono e.toKp OwnX.nil hl)) ?_ fun _ _ h => h
  rintro _ s₂ ⟨F₂, S₂, e₂, k₂⟩
  exact ⟨F₂, S₂, (e.weaken (by simp) fun b hb => (F.outX hX b hb).1).trans e₂, fun b o hb ho => k₂.1 b o hb (keep b o ho), k₂.2⟩
theorem bindT_two {i j : Nat} {v : V} {loc loc' : Loc} (h : bindT (.two i j) v loc = some loc') : ∃ a b, v = .tup [a, b] ∧ bindL [i, j] [a, b] loc = some loc' := by
  cases v <;> try (simp [bindT] at h; done)
  rename_i l
  match l, h with
  | [a, b], h => exact ⟨a, b, rfl, by simpa [bindT, bindL] using h⟩
  | [], h => simp [bindT] at h
  | [_], h => simp [bindT] at h
  | _ :: _ :: _ :: _, h => simp [bindT] at h
theorem bind_tgt {A : Around} {E : Value → Shared → Prop} (hh : A.handled = none) (hX : EnvX al env X) {tg : Expr} {t : Tg} {v : V} {r : Value} {res res' : Res} {loc loc' : Loc} {s : Shared}
    (h : TgOk al env res res' tg t) (hb : bindT t v loc = some loc') (F : FSim c env res k loc φ s.heap) (S : Sim c φ H s) (R : Rep c φ s.heap v r) :
    wpAny (model c.prog c.w) A (assign tg env r) (fun _ s' => Stored c env res' k loc' φ H X s s') E s := by
  cases t with
  | one i =>
    cases tg <;> simp only [TgOk] at h
    simp only [bindT, Option.some.injEq] at hb; subst hb
    exact wpAny_assign_Name (store_ok F S h hX R)
  | two i j =>
    cases tg <;> simp only [TgOk] at h
    obtain ⟨a, b, rfl, hb'⟩ := bindT_two hb
    exact unpack_of hh hX h hb' F S R
end
end Bn
namespace Bn
open PySem PyProof.Rows
def NsD (h : Heap) (C : Addr) (m : Str → Option Value) : Prop := h.Ns C m ∧ ∃ o, h.get? C = some o ∧ o.cls = .type "dict"
section
variable {M : Model} {A : Around} {E : Value → Shared → Prop} {s : Shared} {env : Env}
theorem nsDelD {a : Addr} {m} {name : Str} {Q : Bool → Shared → Prop} (hD : NsD s.heap a m)
    (hQ : ∀ h' m', NsD h' a m' → Heap.SameBut a s.heap h' → Q (m name).isSome { s with heap := h' }) : wpAny M A (nsDel a name) Q E s := by
  obtain ⟨hn, o2, ho2, hc2⟩ := id hD
  obtain ⟨o, es, ep, ho, hd, hk, hm⟩ := id hn
  replace hc2 : o.cls = .type "dict" := by rw [ho] at ho2; cases ho2; exact hc2
  have hany : es.any (·.refKey) = false := by
    rw [Array.any_eq_false']; intro e he; obtain ⟨n, t, h⟩ := hk e he; simp [DictEntry.refKey, h]
  have hsome : (m name).isSome = es.any (·.key.isStr name) := by
    rw [← hm name]; simp only [nsFind, findBy, Option.isSome_map]
    rw [Bool.eq_iff_iff]; simp only [Array.find?_isSome, Array.any_eq_true]
    constructor
    · rintro ⟨x, hx, hp⟩; obtain ⟨i, hi, rfl⟩ := Array.mem_iff_getElem.mp hx; exact ⟨i, hi, hp⟩
    · rintro ⟨i, hi, hp⟩; exact ⟨_, Array.getElem_mem hi, hp⟩
  have hhas : nsHas name o = pure (es.any (·.key.isStr name)) := by
    rw [nsHas_eq]; unfold nsHasByArray; rw [hd]
    show (if (es.any fun x => x.key.isStr name) = true then _ else _) = _
    generalize (es.any fun x => x.key.isStr name) = b
    cases b <;> simp [hany]
  unfold nsDel
  refine wpAny_bind (wpAny_loadPart ho ?_)
  rw [hhas]
  refine wpAny_bind (wpAny_pure ?_)
  rw [← hsome]
  cases hmn : (m name).isSome
  · have := hQ s.heap m hD (.refl ..)
    rw [hmn] at this
    exact wpAny_pure this
  · refine wpAny_bind (wpAny_updatePart ho (wpAny_pure ?_))
    have key : ∃ m', NsD (s.heap.update a (Obj.dropName name)) a m' := by
      obtain ⟨cl, d, dt, sl⟩ := o
      subst hd
      cases hi : es.findIdx? (·.key.isStr name) with
      | some i => exact ⟨_, ⟨_, _, ep + 1, Heap.get?_update_self _ ho (by simp only [Obj.dropName_eq, Obj.dropNameByArray, hi] <;> rfl), (by simp only [Obj.dropName_eq, Obj.dropNameByArray, hi] <;> rfl), hk.erase i, fun _ => rfl⟩, _, Heap.get?_update_self _ ho (by simp only [Obj.dropName_eq, Obj.dropNameByArray, hi] <;> rfl), (by simp only [Obj.dropName_eq, Obj.dropNameByArray, hi]; exact hc2)⟩
      | none => exact ⟨_, ⟨_, _, ep, Heap.get?_update_self _ ho (by simp only [Obj.dropName_eq, Obj.dropNameByArray, hi] <;> rfl), (by simp only [Obj.dropName_eq, Obj.dropNameByArray, hi] <;> rfl), hk, fun _ => rfl⟩, _, Heap.get?_update_self _ ho (by simp only [Obj.dropName_eq, Obj.dropNameByArray, hi] <;> rfl), (by simp only [Obj.dropName_eq, Obj.dropNameByArray, hi]; exact hc2)⟩
    obtain ⟨m', hm'⟩ := key
    have := hQ _ m' hm' (Heap.SameBut.update ..)
    rw [hmn] at this
    exact this
theorem letGoD {cenv : Env} {cellsOf : List (Str × NameKind) → List Value} (hkind : cenv.scope.kind = .function) {Q : Unit → Shared → Prop} :
    ∀ (vs : List (Str × NameKind)) (s : Shared) (m : Str → Option Value), (∀ x ∈ vs, x.2 = .local → cenv.kindOf x.1 = some .local) → NsD s.heap cenv.locals m →
      (∀ h' m', NsD h' cenv.locals m' → Heap.SameBut cenv.locals s.heap h' → Q () { s with heap := h' }) → wpAny M A (comprehension.letGo cenv cellsOf vs) Q E s := by
  intro vs
  induction vs with
  | nil => intro s m _ hn hQ; exact wpAny_pure (hQ s.heap m hn (.refl ..))
  | cons x r ih =>
    intro s m hv hn hQ
    obtain ⟨n, k⟩ := x
    rw [comprehension.letGo]
    have hr : ∀ y ∈ r, y.2 = .local → cenv.kindOf y.1 = some .local := fun y hy => hv y (List.mem_cons_of_mem _ hy)
    refine wpAny_bind (wpAny_holding ?_)
    by_cases hk : k = .local
    · subst hk
      have hkn : cenv.kindOf n = some .local := hv (n, .local) List.mem_cons_self rfl
      simp only [beq_self_eq_true, if_true]
      refine wpAny_bind (wpAny_nsGet hn.1 ?_)
      cases hmn : (m n).isSome
      · simp only [Bool.false_eq_true, if_false]
        exact wpAny_pure (ih s m hr hn hQ)
      · simp only [if_true]
        unfold unbindName deleteName
        refine wpAny_bind (wpAny_point (wpAny_bind ?_))
        simp only [hkn, hkind]
        refine wpAny_bind (m := nsDel cenv.locals n) (nsDelD hn fun h' m' hn' hs' => ?_)
        rw [hmn]
        refine wpAny_pure (wpAny_point ?_)
        exact ih { s with heap := h' } m' hr hn' fun h'' m'' hn'' hs'' => hQ h'' m'' hn'' (hs'.trans hs'')
    · have hb : (k == NameKind.local) = false := by simpa using hk
      simp only [hb, Bool.false_eq_true, if_false]
      exact wpAny_point (ih s m hr hn hQ)
def endD (M : Model) (A : Around) (E : Value → Shared → Prop) (use : Option (Value → Sem Unit)) (Q : Value → Shared → Prop) (acc : Value) (C : Addr) (r : Result) (s' : Shared) : Prop :=
  match r, use with
  | .ok _, none => ∃ m, NsD s'.heap C m ∧ ∀ h' m', NsD h' C m' → Heap.SameBut C s'.heap h' → Q acc { s' with heap := h' }
  | .ok _, some u => wpAny M A (u acc) (fun _ s'' => ∃ m, NsD s''.heap C m ∧ ∀ h' m', NsD h' C m' → Heap.SameBut C s''.heap h' → Q .none { s'' with heap := h' }) E s'
  | .error _, _ => False
theorem comprehensionD {e : Expr} {scope : Scope} {pos : Pos} {newAcc first : Sem Value} {g : Comprehension} {gs : List Comprehension} {cl : List (Str × Addr)} {use : Option (Value → Sem Unit)}
    {Q : Value → Shared → Prop}
    (hcl : clausesOf e = g :: gs) (hs : ∀ x, foldedSetIterable g.iter env x = pure x) (hclos : closureFor scope env = pure cl)
    (hkind : scope.kind = .function) (hnames : ∀ x ∈ scope.names, x.2 = .local → scope.names.lookup x.1 = some .local)
    (h : wpAny M A first (fun x s₁ => wpAny M A (pyIter x) (fun it s₂ => wpAny M A newAcc (fun acc s₃ =>
      wpAny M A (newFunctionEnv scope env.globals cl [] env.qual none .none (some env)) (fun cenv s₄ =>
        codeAny M A (.compStart e 0 it acc { cenv with scope := relabel scope env }) (endD M A E use Q acc cenv.locals) s₄) E s₃) E s₂) E s₁) E s) :
    wpAny M A (comprehension e scope env pos newAcc false first use) Q E s := by
  unfold comprehension
  rw [hclos, hcl]
  refine wpAny_bind (wpAny_mono h (fun x s₁ h₁ => wpAny_bind (wpAny_standAt (wpAny_bind (wpAny_of_eq (hs x) (wpAny_bind (wpAny_holding (wpAny_mono h₁ (fun it s₂ h₂ =>
    wpAny_standIf (wpAny_bind (wpAny_mono h₂ (fun acc s₃ h₃ => wpAny_bind (wpAny_pure (wpAny_bind (wpAny_mono h₃ (fun cenv s₄ h₄ => ?_) fun _ _ h' => h')))) fun _ _ h' => h')))
      fun _ _ h' => h'))))))) fun _ _ h' => h')
  dsimp only
  have hv : ∀ x ∈ (scope.names.filter fun x => (x.2 == .local || x.2 == .cell) && x.1 != (".0" : Str)).reverse, x.2 = .local →
      Env.kindOf { cenv with scope := relabel scope env } x.1 = some .local := fun x hx hl => lookup_relabel_local (hnames x (List.mem_filter.mp (List.mem_reverse.mp hx)).1 hl)
  have hv' : ∀ x ∈ (scope.names.filter fun x => (x.2 == .local || x.2 == .cell) && x.1 != (".0" : Str)).reverse.drop 1 ++ (scope.names.filter fun x => (x.2 == .local || x.2 == .cell) && x.1 != (".0" : Str)).reverse.take 1,
      x.2 = .local → Env.kindOf { cenv with scope := relabel scope env } x.1 = some .local := fun x hx hl => by
    rcases List.mem_append.mp hx with h1 | h1
    · exact hv x (List.mem_of_mem_drop h1) hl
    · exact hv x (List.mem_of_mem_take h1) hl
  refine wpAny_holding (wpAny_bind (wpAny_attempt (wpAny_holding (wpAny_run (codeAny_mono h₄ fun r s' hr => ?_)))))
  cases r with
  | ok f =>
    cases use with
    | none =>
      obtain ⟨m, hn, hr⟩ := hr
      exact wpAny_bind (wpAny_holding (letGoD (cenv := { cenv with scope := relabel scope env }) hkind _ s' m hv hn fun h' m' hn' hs' => wpAny_pure (hr h' m' hn' hs')))
    | some u =>
      refine wpAny_bind (wpAny_rule (wpAny_bind (wpAny_holding (wpAny_mono hr (fun _ s'' hr' => ?_) fun _ _ h' => h'))))
      obtain ⟨m, hn, hr'⟩ := hr'
      exact wpAny_bind (letGoD (cenv := { cenv with scope := relabel scope env }) hkind _ s'' m hv' hn fun h' m' hn' hs' => wpAny_pure (hr' h' m' hn' hs'))
  | error x => cases use <;> exact hr.elim
end
def Tg.out : Tg → Nat → Prop
  | .one k, i => i ≠ k
  | .two k l, i => i ≠ k ∧ i ≠ l
theorem bindT_out {t : Tg} {x : V} {loc loc' : Loc} (h : bindT t x loc = some loc') {i : Nat} (hi : t.out i) : loc'.getD i none = loc.getD i none ∧ loc'.length = loc.length := by
  cases t with
  | one k =>
    simp only [bindT, Option.some.injEq] at h
    have hi : i ≠ k := hi
    subst h
    simp [List.getD_eq_getElem?_getD, List.getElem?_set_ne (Ne.symm hi)]
  | two k l =>
    obtain ⟨a, b, rfl, h'⟩ := bindT_two h
    simp only [bindL, Option.some.injEq] at h'
    have hi : i ≠ k ∧ i ≠ l := hi
    subst h'
    simp [List.getD_eq_getElem?_getD, List.getElem?_set_ne (Ne.symm hi.1), List.getElem?_set_ne (Ne.symm hi.2)]
theorem bindT_len {t : Tg} {x : V} {loc loc' : Loc} (h : bindT t x loc = some loc') : loc'.length = loc.length := by
  cases t with
  | one k => simp only [bindT, Option.some.injEq] at h; subst h; simp
  | two k l =>
    obtain ⟨a, b, rfl, h'⟩ := bindT_two h
    simp only [bindL, Option.some.injEq] at h'; subst h'; simp
section
variable {c : Cx} {env : Env} {res : Res}
structure CompOk (c : Cx) (env : Env) (res res0 res' : Res) (scope : Scope) (tgt : Expr) (t : Tg) : Prop where
  kind : scope.kind = .function
  cell : ∀ y ∈ scope.names, y.2 ≠ .cell
  names : ∀ y ∈ scope.names, y.2 = .local → scope.names.lookup y.1 = some .local
  free : ∀ n, (n, NameKind.free) ∈ scope.names → (env.kindOf n = some .cell ∨ env.kindOf n = some .free) ∧ ∃ i, res.lookup n = some i
  n0 : res0.n = res.n
  fr0 : res0.fr = false
  sub0 : ∀ x i, res0.lookup x = some i → res.lookup x = some i ∧ (x, NameKind.free) ∈ scope.names ∧ scope.names.lookup x = some .free ∧ res'.lookup x = some i ∧ t.out i
  n' : res'.n = res.n ∧ res'.fr = false
  tgt : ∀ cenv : Env, cenv.scope = relabel scope env → TgOk false cenv res0 res' tgt t
theorem lookup_relabel {env : Env} {x : Str} {k : NameKind} : ∀ {names : List (Str × NameKind)}, names.lookup x = some k →
    (names.map fun (n, k) => if (k == NameKind.free && env.scope.kind == .function && env.kindOf n == some .cell) then (n, NameKind.cell) else (n, k)).lookup x =
      some (if (k == NameKind.free && env.scope.kind == .function && env.kindOf x == some .cell) then .cell else k)
  | [], h => by simp at h
  | (n, k') :: r, h => by
    have ih := @lookup_relabel env x k r
    show List.lookup x ((if (k' == NameKind.free && env.scope.kind == .function && env.kindOf n == some .cell) = true then (n, NameKind.cell) else (n, k')) :: _) = _
    cases hx : x == n with
    | true =>
      simp only [List.lookup_cons, hx] at h
      cases h
      have := beq_iff_eq.mp hx; subst this
      split <;> simp [List.lookup_cons]
    | false =>
      simp only [List.lookup_cons, hx] at h
      split
      · simp only [List.lookup_cons, hx]; exact ih h
      · simp only [List.lookup_cons, hx]; exact ih h
theorem comp_frame {k : Clo} {loc : Loc} {φ : List Addr} {s : Shared} {res0 res' : Res} {scope : Scope} {tgt : Expr} {t : Tg} (K : CompOk c env res res0 res' scope tgt t) (F : FSim c env res k loc φ s.heap) {C : Addr} (hC : s.heap.get? C = some { cls := .type "dict", data := .dict #[] }) (h0 : c.h0.get? C = none) (hφ : C ∉ φ) :
    FSim c (compEnvC scope (closL env scope.names []) C env) res0 none loc φ s.heap where
  fn := K.kind
  gl := F.gl
  bl := F.bl
  ns := by
    obtain ⟨m, hn, hs, _⟩ := F.ns
    refine ⟨fun _ => none, ⟨⟨_, _, _, hC, rfl, by intro e he; simp at he, fun _ => by simp [nsFind, findBy]⟩, _, hC, .inr ⟨rfl, rfl, K.fr0⟩⟩, fun x i hx => ?_, fun kk z hz => by cases hz⟩
    obtain ⟨h1, h2, h3, h4, _⟩ := K.sub0 x i hx
    have h5 := hs x i h1
    obtain ⟨hk, _⟩ := K.free x h2
    have hkind : (compEnvC scope (closL env scope.names []) C env).kindOf x = some .cell ∨ (compEnvC scope (closL env scope.names []) C env).kindOf x = some .free := by
      show List.lookup x (relabel scope env).names = _ ∨ List.lookup x (relabel scope env).names = _
      rw [show List.lookup x (relabel scope env).names = _ from lookup_relabel h3]
      split
      · exact .inl rfl
      · exact .inr rfl
    have hcell : ∃ ca r, env.cells.lookup x = some ca ∧ s.heap.IsCell ca r ∧ (match loc.getD i none with
      | some v => ∃ r', r = some r' ∧ Rep c φ s.heap v r'
      | none => r = none) := by
      unfold SlotAt at h5
      rcases hk with hk | hk <;> rw [hk] at h5 <;> exact h5
    obtain ⟨ca, r, g1, g2, g3⟩ := hcell
    have hl : (compEnvC scope (closL env scope.names []) C env).cells.lookup x = some ca := by
      have := closL_some (env := env) (acc := []) (x := x) (.inl h2)
      obtain ⟨ca', hca'⟩ := Option.isSome_iff_exists.mp this
      rcases closL_lookup hca' with q | ⟨_, q⟩
      · cases q
      · rw [g1] at q; simp at q; subst q; exact hca'
    unfold SlotAt
    rcases hkind with hk' | hk' <;> rw [hk'] <;> exact ⟨ca, r, hl, g2, g3⟩
  len := by rw [K.n0]; exact F.len
  Lφ := hφ
  L0 := h0
  cells x ca hx := by
    rcases closL_lookup hx with q | ⟨h1, q⟩
    · cases q
    · obtain ⟨hk, i, hi⟩ := K.free x h1
      obtain ⟨m, hn, hs, _⟩ := F.ns
      have h5 := hs x i hi
      have : ∃ ca, env.cells.lookup x = some ca := by
        unfold SlotAt at h5
        rcases hk with hk | hk <;> rw [hk] at h5 <;> obtain ⟨ca, _, h6, _⟩ := h5 <;> exact ⟨ca, h6⟩
      obtain ⟨ca', h6⟩ := this
      rw [h6] at q; simp at q; subst q
      exact F.cells x ca h6
end
end Bn
namespace Bn
open PySem PyProof.Rows
section
variable {c : Cx} {env : Env} {res : Res}
structure Turn (c : Cx) (cenv : Env) (res0 : Res) (loc : Loc) (φ₀ : List Addr) (s₀ : Shared) (D : Addr) (wr : List Addr) (St : Nat → List Addr → Heap → Prop) (i : Nat) (av : List V) (φ : List Addr) (H : Hp) (s : Shared) : Prop where
  ext : Ext [] φ₀ s₀ φ s
  sim : Sim c φ H s
  fr : FSim c cenv res0 none loc φ s.heap
  st : St i φ s.heap
  acc : ∃ vs n, s.heap.get? D = some (lobj vs n) ∧ RepL c φ s.heap av vs.toList
  Dφ : D ∉ φ
theorem Turn.acc_keep {cenv : Env} {res0 : Res} {loc : Loc} {φ₀ φ φ' : List Addr} {s₀ s s' : Shared} {D : Addr} {wr : List Addr} {St : Nat → List Addr → Heap → Prop} {i : Nat} {av : List V} {H : Hp} {X : List Addr} (T : Turn c cenv res0 loc φ₀ s₀ D wr St i av φ H s)
    (e : Kp X φ s.heap φ' s'.heap) (hX : OwnX c X s.heap) (hD : D ∉ X) : D ∉ φ' ∧ ∃ vs n, s'.heap.get? D = some (lobj vs n) ∧ RepL c φ' s'.heap av vs.toList := by
  obtain ⟨vs, n, h1, h2⟩ := T.acc
  exact ⟨e.notin h1 T.Dφ, vs, n, e.keep D _ h1 T.Dφ hD (by show Value.type "list" ≠ _; decide), RepL.mono e hX h2⟩
theorem Off.its {c : Cx} {env : Env} {res : Res} {k : Clo} {loc : Loc} {φ wr : List Addr} {s : Shared} (F : FSim c env res k loc φ s.heap) (h : Its c wr φ s.heap) : Off env wr s where
  loc hm := by
    obtain ⟨_, _, o, h1, h2, _⟩ := h _ hm
    obtain ⟨m, ⟨_, o', h3, h4⟩, _⟩ := F.ns
    rw [h1] at h3; cases h3
    rcases h4 with h4 | h4
    · rw [h4.1] at h2; revert h2; decide
    · rw [h4.1] at h2; revert h2; decide
  cells x ca hx hm := by
    obtain ⟨_, _, o, h1, h2, _⟩ := h _ hm
    obtain ⟨_, _, o', h3, h4⟩ := F.cells x ca hx
    rw [h1] at h3; cases h3
    rw [h4] at h2; revert h2; decide
  clo ca o ho hc _ hm := by
    obtain ⟨_, _, o', h1, h2, _⟩ := h _ hm
    rw [ho] at h1; cases h1
    rw [hc] at h2; revert h2; decide
theorem FSim.kept {c : Cx} {env : Env} {res : Res} {k : Clo} {loc : Loc} {φ wr : List Addr} {s s' : Shared} (F : FSim c env res k loc φ s.heap) (h : Its c wr φ s.heap) (hk : Kept wr s s') : FSim c env res k loc φ s'.heap :=
  F.off (hk.kp h) h.own (Off.its F h) fun o ho => ⟨o.slots, hk.1 _ o (Off.its F h).loc ho⟩
theorem grow {c : Cx} {φ : List Addr} {H : Hp} {s : Shared} {D : Addr} {vs : Array Value} {n : Nat} {h' : Heap} (S : Sim c φ H s) (ho : s.heap.get? D = some (lobj vs n)) (hD : D ∉ φ) (h0 : c.h0.get? D = none) (hs : Heap.SameBut D s.heap h') :
    Kp [D] φ s.heap φ h' ∧ OwnX c [D] s.heap ∧ Sim c φ H { s with heap := h' } := by
  have keep : ∀ b o, b ≠ D → s.heap.get? b = some o → h'.get? b = some o := fun b o hb ho => (hs.2 b hb).trans ho
  have kp : Kp [D] φ s.heap φ h' := ⟨List.prefix_rfl, fun b o hb _ hX _ => keep b o (by simpa using hX) hb, fun _ h => .inl h, fun b o es k hb _ hd => ⟨o, es, k, keep b o (fun q => by rw [q, ho] at hb; cases hb; cases hd) hb, hd, rfl⟩, fun b o vs C hb _ hc hd => ⟨vs, by rw [← hd]; exact keep b o (fun q => by rw [q, ho] at hb; cases hb; cases hc) hb⟩⟩
  have ow : OwnX c [D] s.heap := fun b hb o ho' => by
    rw [List.mem_singleton.mp hb] at ho' ⊢
    rw [ho] at ho'; cases ho'
    exact .inr (.inl ⟨rfl, h0⟩)
  exact ⟨kp, ow, S.mono (s' := { s with heap := h' }) kp ow (by simpa using h0) (fun a ha o ho => keep a o (fun q => hD (q ▸ ha)) ho) (fun b o hb _ => keep b o (fun q => by rw [q, h0] at hb; cases hb) (S.stays b o hb)) S.gens⟩
theorem Off.list {c : Cx} {env : Env} {res : Res} {k : Clo} {loc : Loc} {φ : List Addr} {s : Shared} {D : Addr} {vs : Array Value} {n : Nat} (F : FSim c env res k loc φ s.heap) (ho : s.heap.get? D = some (lobj vs n)) : Off env [D] s where
  loc hm := by
    rw [List.mem_singleton] at hm
    obtain ⟨m, ⟨_, o', h3, h4⟩, _⟩ := F.ns
    rw [hm, ho] at h3; cases h3
    rcases h4 with h4 | h4
    · exact absurd h4.1 (by show Value.type "list" ≠ _; decide)
    · exact absurd h4.1 (by show Value.type "list" ≠ _; decide)
  cells x ca hx hm := by
    rw [List.mem_singleton] at hm
    obtain ⟨_, _, o', h3, h4⟩ := F.cells x ca hx
    rw [hm, ho] at h3; cases h3
    exact absurd h4 (by show Value.type "list" ≠ _; decide)
  clo ca o hc1 hc _ hm := by
    rw [List.mem_singleton] at hm
    rw [hm, ho] at hc1; cases hc1
    exact absurd hc (by show Value.type "list" ≠ _; decide)
def compStep (c : Cx) (d : Nat) (t : Tg) (xifs : List Ex) (xelt : Ex) (loc : Loc) (x : V) (acc : List V) (K : List V → Hp → Prop) (H : Hp) : Prop :=
  match bindT t x loc with
  | some l' => wpI (Calls c) true d none xifs l' (fun b H => match b with
      | true => wpE (Calls c) true d none xelt l' (fun v H => K (acc ++ [v]) H) noX H
      | false => K acc H) H
  | none => False
theorem comp_loop {A : Around} {d : Nat} {φ₀ : List Addr} {s₀ : Shared} {res0 res' : Res} {scope : Scope} {tgt iter elt : Expr} {ifs : List Expr} {t : Tg} {xelt : Ex} {xifs : List Ex} {cenv : Env} {C D : Addr} {it : Value} {wr : List Addr} {items : List V} {ok : Hp → Prop}
    {St : Nat → List Addr → Heap → Prop} {loc : Loc} {QQ : List V → Hp → Prop} {R : Result → Shared → Prop} {pos : Pos} {φ : List Addr} {H : Hp} {s : Shared} (hA : OkF c A true d φ₀ s₀.heap) (K : CompOk c env res res0 res' scope tgt t) (hcl : cenv.locals = C) (hcs : cenv.scope = relabel scope env)
    (I : Itr c A it tgt wr items ok St) (helt : SoundE c cenv res' elt xelt) (hifs : SoundTs' c cenv res' ifs xifs) (hC0 : s₀.heap.get? C = none) (hD0 : s₀.heap.get? D = none) (hw0 : ∀ b ∈ wr, s₀.heap.get? b = none) (hDC : D ≠ C) (hDh : c.h0.get? D = none) (hlen : items.length ≤ sizeLine)
    (T : Turn c cenv res0 loc φ₀ s₀ D wr St 0 [] φ H s) (hok : ok H) (hw : wpIter ok (compStep c d t xifs xelt loc) items [] QQ H)
    (hR : ∀ av φ' H' s', Ext [] φ₀ s₀ φ' s' → Sim c φ' H' s' → FSim c cenv res0 none loc φ' s'.heap → D ∉ φ' → (∃ vs n, s'.heap.get? D = some (lobj vs n) ∧ RepL c φ' s'.heap av vs.toList) → av.length ≤ sizeLine → QQ av H' → R (.ok .next) s') :
    codeAny (model c.prog c.w) A (.compLoop (.ListComp elt [⟨tgt, iter, ifs, 0⟩] scope pos) 0 it (.ref D) cenv) R s := by
  have hh : A.handled = none := hA.hd rfl
  have hEX : EnvX false cenv [C] := ⟨by simp [hcl], (by simp), fun b hb => .inl (by rw [List.mem_singleton.mp hb, hcl])⟩
  refine compLoop_any (fun k s => ∃ i av φ H, k = items.length - i + 1 ∧ i ≤ items.length ∧ av.length ≤ i ∧ Turn c cenv res0 loc φ₀ s₀ D wr St i av φ H s ∧ ok H ∧ wpIter ok (compStep c d t xifs xelt loc) (items.drop i) av QQ H) ?_ (items.length + 1)
    ⟨0, [], φ, H, rfl, Nat.zero_le _, Nat.le_refl _, T, hok, by simpa using hw⟩
  rintro k s ⟨i, av, φ, H, rfl, hi, hav, T, hok, hw⟩
  have its := I.seen i φ s.heap T.st
  by_cases hlt : i < items.length
  · have hx : items[i]? = some items[i] := List.getElem?_eq_getElem hlt
    rw [List.drop_eq_getElem_cons hlt] at hw
    generalize items[i] = x at hx hw
    simp only [wpIter, compStep] at hw
    refine wpAny_mono (I.item i x φ H s _ hx T.st T.sim hok) ?_ fun _ _ h => h
    rintro r s₁ ⟨v, rfl, h₁⟩
    refine wpAny_mono h₁ ?_ fun _ _ h => h
    rintro _ s₂ ⟨k₂, st₂, R₂⟩
    have S₂ := T.sim.kept k₂ its
    have F₂ := T.fr.kept its k₂
    have e₂ := T.ext.kept k₂ hw0
    have hDw : D ∉ wr := fun hm => by
      obtain ⟨_, _, o, h1, h2, _⟩ := its D hm
      obtain ⟨vs, n, h3, _⟩ := T.acc
      rw [h3] at h1; cases h1; revert h2; show itc (Value.type "list") = true → False; decide
    obtain ⟨Dφ₂, acc₂⟩ := T.acc_keep (s' := s₂) (k₂.kp its) its.own hDw
    cases hb : bindT t x loc with
    | none => rw [hb] at hw; exact hw.elim
    | some l' =>
      rw [hb] at hw
      refine wpAny_mono (bind_tgt hh hEX (K.tgt cenv hcs) hb F₂ S₂ R₂) ?_ fun _ _ h => h
      rintro _ s₃ ⟨F₃, S₃, e₃, k₃⟩
      have ow₃ := F₂.ownX hEX
      have hwC : ∀ b ∈ wr, b ∉ [C] := fun b hb hm => by
        have := (Off.its F₂ (I.seen _ _ _ st₂)).loc
        rw [List.mem_singleton] at hm
        rw [hcl] at this
        exact this (hm ▸ hb)
      have st₃ := I.frame _ _ _ _ _ _ st₂ e₃.toKp ow₃ hwC
      have T₂ : Turn c cenv res0 loc φ₀ s₀ D wr St (i + 1) av φ H s₂ := ⟨e₂, S₂, F₂, st₂, acc₂, Dφ₂⟩
      obtain ⟨Dφ₃, acc₃⟩ := T₂.acc_keep (s' := s₃) e₃.toKp ow₃ (by simpa using hDC)
      have e₀₃ := e₂.kept k₃ (by simpa using hC0)
      have hback : ∀ {φ' : List Addr} {h : Heap}, FSim c cenv res' none l' φ' h → FSim c cenv res0 none loc φ' h := fun F => F.sub (by rw [K.n0, ← K.n'.1, ← bindT_len hb]; exact F.len) (K.fr0.trans K.n'.2.symm) fun y j hy => by
        obtain ⟨_, _, _, h4, h5⟩ := K.sub0 y j hy
        exact ⟨h4, (bindT_out hb h5).1.symm⟩
      refine wpAny_mono (tests_of hifs A true d none l' φ H s₃ _ _ (hA.mono e₀₃) F₃ S₃ hw) ?_ fun _ _ h => h
      rintro b s₄ ⟨φ₄, H₄, e₄, S₄, w₄⟩
      have its₃ := I.seen _ _ _ st₃
      have st₄ := I.frame _ _ _ _ _ _ st₃ e₄.toKp OwnX.nil (by simp)
      have T₃ : Turn c cenv res0 loc φ₀ s₀ D wr St (i + 1) av φ H s₃ := ⟨e₀₃, S₃, hback F₃, st₃, acc₃, Dφ₃⟩
      obtain ⟨Dφ₄, acc₄⟩ := T₃.acc_keep (s' := s₄) e₄.toKp OwnX.nil (by simp)
      have e₀₄ := e₀₃.trans e₄
      cases b with
      | false =>
        simp only [Bool.false_eq_true, if_false]
        exact ⟨items.length - (i + 1) + 1, by omega, i + 1, av, φ₄, H₄, rfl, hlt, by omega, ⟨e₀₄, S₄, hback (F₃.mono e₄), st₄, acc₄, Dφ₄⟩, w₄⟩
      | true =>
        simp only [if_true]
        refine wpAny_mono (helt A true d none l' φ₄ H₄ s₄ _ _ (hA.mono e₀₄) (F₃.mono e₄) S₄ w₄) ?_ fun _ _ h => OutX.no h
        rintro r s₅ ⟨φ₅, H₅, v₅, e₅, S₅, R₅, w₅⟩
        have e₀₅ := e₀₄.trans e₅
        have T₄ : Turn c cenv res0 loc φ₀ s₀ D wr St (i + 1) av φ₄ H₄ s₄ := ⟨e₀₄, S₄, hback (F₃.mono e₄), st₄, acc₄, Dφ₄⟩
        obtain ⟨Dφ₅, vs, n, ho₅, hr₅⟩ := T₄.acc_keep (s' := s₅) e₅.toKp OwnX.nil (by simp)
        have st₅ := I.frame _ _ _ _ _ _ st₄ e₅.toKp OwnX.nil (by simp)
        have F₅ := (F₃.mono e₄).mono e₅
        have hsz : vs.size ≤ sizeLine := by
          have := RepL.length hr₅
          simp at this
          omega
        refine wpAny_list_append_plain (l := D) (items := vs) ⟨n, ho₅⟩ (fun h' hp hs => ?_) hsz
        obtain ⟨kp, ow, S₆⟩ := grow S₅ ho₅ Dφ₅ hDh hs
        obtain ⟨n', ho'⟩ := hp
        have hwD : ∀ b ∈ wr, b ∉ [D] := fun b hb hm => hDw (List.mem_singleton.mp hm ▸ hb)
        have F₆ : FSim c cenv res' none l' φ₅ h' := F₅.off (s' := { s₅ with heap := h' }) kp ow (Off.list F₅ ho₅) fun o ho => ⟨o.slots, (hs.2 _ (fun q => (Off.list F₅ ho₅).loc (by simp [q]))).trans ho⟩
        refine ⟨items.length - (i + 1) + 1, by omega, i + 1, av ++ [v₅], φ₅, H₅, rfl, hlt, by simp; omega, ⟨?_, S₆, hback F₆, I.frame _ _ _ _ _ _ st₅ kp ow hwD, ⟨_, n', ho', ?_⟩, Dφ₅⟩, w₅⟩
        · exact e₀₅.kept (wr := [D]) ⟨fun b o hb ho => (hs.2 b (by simpa using hb)).trans ho, rfl, rfl⟩ (by simpa using hD0)
        · have := RepL.append (RepL.mono kp ow hr₅) (show RepL c φ₅ h' [v₅] [r] by simp only [RepL, and_true]; exact Rep.mono kp ow R₅)
          simpa using this
  · have hil : i = items.length := by omega
    subst hil
    rw [List.drop_length] at hw
    simp only [wpIter] at hw
    refine wpAny_mono (I.done φ H s _ T.st T.sim hok) ?_ fun _ _ h => h
    rintro r s₁ ⟨rfl, k₁⟩
    have hDw : D ∉ wr := fun hm => by
      obtain ⟨_, _, o, h1, h2, _⟩ := its D hm
      obtain ⟨vs, n, h3, _⟩ := T.acc
      rw [h3] at h1; cases h1; revert h2; show itc (Value.type "list") = true → False; decide
    obtain ⟨Dφ₂, acc₂⟩ := T.acc_keep (s' := s₁) (k₁.kp its) its.own hDw
    exact hR av φ H s₁ (T.ext.kept k₁ hw0) (T.sim.kept k₁ its) (T.fr.kept its k₁) Dφ₂ acc₂ (by omega) hw
end
end Bn
namespace Bn
open PySem PyProof.Rows
section
variable {c : Cx} {env : Env} {res : Res}
theorem gone {φ : List Addr} {H : Hp} {s : Shared} {C : Addr} {m m' : Str → Option Value} {h' : Heap} (S : Sim c φ H s) (hn : NsD s.heap C m) (hat : m (Str.ofString "at") = none) (hφ : C ∉ φ) (h0 : c.h0.get? C = none) (hn' : NsD h' C m') (hs : Heap.SameBut C s.heap h') :
    Kp [C] φ s.heap φ h' ∧ OwnX c [C] s.heap ∧ Sim c φ H { s with heap := h' } ∧ Kept [C] s { s with heap := h' } := by
  obtain ⟨⟨o, es, n, ho, hd, _, hm⟩, o1, ho1, hc1⟩ := hn
  rw [ho] at ho1; cases ho1
  obtain ⟨⟨o', es', n', ho', hd', _⟩, o1', ho1', hc1'⟩ := hn'
  rw [ho'] at ho1'; cases ho1'
  have keep : ∀ b o, b ≠ C → s.heap.get? b = some o → h'.get? b = some o := fun b o hb ho => (hs.2 b hb).trans ho
  have kp : Kp [C] φ s.heap φ h' := ⟨List.prefix_rfl, fun b o hb _ hX _ => keep b o (by simpa using hX) hb, fun _ h => .inl h, fun b ob es1 k hb _ hd1 => by
    by_cases q : b = C
    · subst q
      rw [ho] at hb; cases hb
      exact ⟨o', es', n', ho', hd', hc1'.trans hc1.symm⟩
    · exact ⟨ob, es1, k, keep b ob q hb, hd1, rfl⟩, fun b ob vs C' hb _ hc hd1 => ⟨vs, by
      rw [← hd1]
      refine keep b ob (fun q => ?_) hb
      rw [q, ho] at hb; cases hb; rw [hc] at hc1; cases hc1⟩⟩
  have ow : OwnX c [C] s.heap := fun b hb ob hob => by
    rw [List.mem_singleton.mp hb] at hob ⊢
    rw [ho] at hob; cases hob
    exact .inr (.inr (.inl ⟨hc1, es, n, hd, (hm _).trans hat⟩))
  exact ⟨kp, ow, S.mono (s' := { s with heap := h' }) kp ow (by simpa using h0) (fun a ha o ho => keep a o (fun q => hφ (q ▸ ha)) ho) (fun b o hb _ => keep b o (fun q => by rw [q, h0] at hb; cases hb) (S.stays b o hb)) S.gens,
    fun b o hb ho => keep b o (by simpa using hb) ho, rfl, rfl⟩
structure Made (c : Cx) (φ : List Addr) (s : Shared) (Q : V → Hp → Prop) (D C : Addr) (s' : Shared) : Prop where
  out : ∃ φ' H' a, Ext [] φ s φ' s' ∧ Sim c φ' H' s' ∧ Rep c φ' s'.heap (.lst a) (.ref D) ∧ Q (.lst a) H' ∧ C ∉ φ'
  room : ∃ m, NsD s'.heap C m ∧ m (Str.ofString "at") = none
  C0 : s.heap.get? C = none
  Ch : c.h0.get? C = none
theorem comp_run {res0 res' : Res} {scope : Scope} {tgt iter elt : Expr} {ifs : List Expr} {t : Tg} {xelt xsrc : Ex} {xifs : List Ex} {pos pos' : Pos} (K : CompOk c env res res0 res' scope tgt t) (hfold : ∀ x, foldedSetIterable iter env x = pure x) (hsrc : SoundE c env res iter xsrc)
    (helt : ∀ cenv : Env, cenv.scope = relabel scope env → SoundE c cenv res' elt xelt) (hifs : ∀ cenv : Env, cenv.scope = relabel scope env → SoundTs' c cenv res' ifs xifs)
    {A q d k loc φ H s Q} {E : XPost} {use : Option (Value → Sem Unit)} {Q' : Value → Shared → Prop} (hA : OkF c A q d φ s.heap) (hF : FSim c env res k loc φ s.heap) (hS : Sim c φ H s) (hw : wpE (Calls c) q d k (.comp xelt t xsrc xifs) loc Q E H)
    (hend : ∀ D C s', Made c φ s Q D C s' → endD (model c.prog c.w) A (OutX c φ s E) use Q' (.ref D) C (.ok .next) s') :
    wpAny (model c.prog c.w) A (comprehension (.ListComp elt [⟨tgt, iter, ifs, 0⟩] scope pos) scope env pos' (newList []) false (eval iter env) use) Q' (OutX c φ s E) s := by
  simp only [wpE] at hw
  have hcells : ∀ n, (n, NameKind.free) ∈ scope.names → ∃ ca, env.cells.lookup n = some ca := fun n hn => by
    obtain ⟨hk, i, hi⟩ := K.free n hn
    obtain ⟨m, _, hs, _⟩ := hF.ns
    have h5 := hs n i hi
    unfold SlotAt at h5
    rcases hk with hk | hk <;> rw [hk] at h5 <;> obtain ⟨ca, _, h6, _⟩ := h5 <;> exact ⟨ca, h6⟩
  refine comprehensionD rfl hfold (closureFor_eq hcells) K.kind K.names (wpAny_mono (hsrc A q d k loc φ H s _ E hA hF hS hw) ?_ fun _ _ h => h)
  rintro sv s₁ ⟨φ₁, H₁, v₁, e₁, S₁, R₁, w₁⟩
  split at w₁
  case h_2 => exact w₁.elim
  rename_i items hitems
  obtain ⟨rfl, hlen, w₁⟩ := w₁
  have hh : A.handled = none := hA.hd rfl
  refine wpAny_mono (iter_val hh S₁ R₁ hitems (tg := tgt)) ?_ fun _ _ h => h
  rintro it s₂ ⟨wr, St, e₂, S₂, I, st₂, hw₂⟩
  have e₁₂ := e₁.trans e₂
  refine wpAny_newObj_type ?_ (by size_fits)
  refine newCompEnv K.cell ?_
  dsimp only
  generalize hs₃ : ({ s₂ with heap := s₂.heap.push { cls := .type "list", dict := none, data := .seq ([] : List Value).toArray } } : Shared) = s₃
  have hh₃ : s₃.heap = s₂.heap.push { cls := .type "list", dict := none, data := .seq ([] : List Value).toArray } := by rw [← hs₃]
  generalize hs₄ : ({ s₃ with heap := s₃.heap.push { cls := .type "dict", data := .dict #[] } } : Shared) = s₄
  have hz₃ : s₃.heap.objs.size = s₂.heap.objs.size + 1 := by rw [hh₃, Heap.size_push]
  have e₃ : Ext [] φ₁ s₂ φ₁ s₃ := by rw [← hs₃]; exact Ext.push
  have S₃ : Sim c φ₁ H₁ s₃ := by rw [← hs₃]; exact S₂.push _
  have e₄ : Ext [] φ₁ s₃ φ₁ s₄ := by rw [← hs₄]; exact Ext.push
  have S₄ : Sim c φ₁ H₁ s₄ := by rw [← hs₄]; exact S₃.push _
  have hD₃ : s₃.heap.get? s₂.heap.objs.size = some (lobj #[] 0) := by rw [hh₃]; exact Heap.get?_push_size _ rfl
  have hD₄ : s₄.heap.get? s₂.heap.objs.size = some (lobj #[] 0) := by rw [← hs₄]; exact Heap.get?_push_of_some _ hD₃
  have hC₄ : s₄.heap.get? s₃.heap.objs.size = some { cls := .type "dict", data := .dict #[] } := by rw [← hs₄]; exact Heap.get?_push_size _ rfl
  have e₀₄ : Ext [] φ s φ₁ s₄ := (e₁₂.trans e₃).trans e₄
  have below : ∀ {s' : Shared} {b : Addr}, Ext [] φ s φ₁ s' → Sim c φ₁ H₁ s' → s'.heap.get? b = none → s.heap.get? b = none := fun {s' b} e S' hb => by
    cases q : s.heap.get? b with
    | none => rfl
    | some o =>
      by_cases hφ : b ∈ φ
      · obtain ⟨o', h1, _⟩ := S'.isList (e.pre.subset hφ)
        rw [hb] at h1; cases h1
      · obtain ⟨sl, h1⟩ := e.frame b o q hφ (by simp)
        rw [hb] at h1; cases h1
  have hD0 : s.heap.get? s₂.heap.objs.size = none := below e₁₂ S₂ (Heap.get?_none_of_le (Nat.le_refl _))
  have hC0 : s.heap.get? s₃.heap.objs.size = none := below (e₁₂.trans e₃) S₃ (Heap.get?_none_of_le (Nat.le_refl _))
  have hw0 : ∀ b ∈ wr, s.heap.get? b = none := fun b hb => below e₁ S₁ (hw₂ b hb)
  have hDC : s₂.heap.objs.size ≠ s₃.heap.objs.size := by rw [hz₃]; exact Nat.ne_of_lt (Nat.lt_succ_self _)
  have hDh := S₂.h0_new (Nat.le_refl s₂.heap.objs.size)
  have hCh := S₃.h0_new (Nat.le_refl s₃.heap.objs.size)
  have hDφ : s₂.heap.objs.size ∉ φ₁ := S₂.new
  have hCφ : s₃.heap.objs.size ∉ φ₁ := S₃.new
  have F₄ := comp_frame K (hF.mono e₀₄) hC₄ hCh hCφ
  have st₄ := I.frame _ _ _ _ _ _ (I.frame _ _ _ _ _ _ st₂ e₃.toKp OwnX.nil (by simp)) e₄.toKp OwnX.nil (by simp)
  have hok : okV v₁ items H₁ := by
    unfold okV
    split
    · simpa only [srcV] using hitems
    · trivial
  have loop : codeAny (model c.prog c.w) A (.compLoop (.ListComp elt [⟨tgt, iter, ifs, 0⟩] scope pos) 0 it (.ref s₂.heap.objs.size) (compEnvC scope (closL env scope.names []) s₃.heap.objs.size env))
      (endD (model c.prog c.w) A (OutX c φ s E) use Q' (.ref s₂.heap.objs.size) s₃.heap.objs.size) s₄ := by
    refine comp_loop (c := c) (env := env) (res := res) (C := s₃.heap.objs.size) (loc := loc) (QQ := fun acc H' => Q (.lst H'.length) (H' ++ [acc])) hA K rfl rfl I (helt _ rfl) (hifs _ rfl) hC0 hD0 hw0 hDC hDh hlen
      ⟨e₀₄, S₄, F₄, st₄, ⟨#[], 0, hD₄, by simp [RepL]⟩, hDφ⟩ hok w₁ ?_
    intro av φ' H' s' e' S' F' hD' hacc hav hq
    obtain ⟨vs, n, ho, hr⟩ := hacc
    refine hend _ _ s' ⟨⟨φ' ++ [s₂.heap.objs.size], H' ++ [av], H'.length, ?_, S'.adopt hD' hDh ho rfl rfl ⟨rfl, rfl⟩ hr hav, ?_, hq, ?_⟩, ?_, hC0, hCh⟩
    · exact { e' with
        pre := e'.pre.trans (List.prefix_append _ _)
        new := fun a ha => (List.mem_append.mp ha).elim (e'.new a) fun h => .inr (by rw [List.mem_singleton.mp h]; exact hD0) }
    · simp only [Rep]
      exact ⟨_, rfl, by rw [List.getElem?_append_right (Nat.le_of_eq S'.len)]; simp [S'.len]⟩
    · intro hm
      rcases List.mem_append.mp hm with h | h
      · exact F'.Lφ h
      · exact hDC (List.mem_singleton.mp h).symm
    · obtain ⟨m, ⟨hn, o, h1, h2⟩, _⟩ := F'.ns
      rcases h2 with h2 | h2
      · rw [K.fr0] at h2; cases h2.2
      · exact ⟨m, ⟨hn, o, h1, h2.1⟩, h2.2.1⟩
  subst hs₄
  subst hs₃
  exact codeAny_compStart_list loop (I.self 0 φ₁ _ _ _ st₄ loop)
theorem sound_comp {res0 res' : Res} {scope : Scope} {tgt iter elt : Expr} {ifs : List Expr} {t : Tg} {xelt xsrc : Ex} {xifs : List Ex} {pos : Pos} (K : CompOk c env res res0 res' scope tgt t) (hfold : ∀ x, foldedSetIterable iter env x = pure x) (hsrc : SoundE c env res iter xsrc)
    (helt : ∀ cenv : Env, cenv.scope = relabel scope env → SoundE c cenv res' elt xelt) (hifs : ∀ cenv : Env, cenv.scope = relabel scope env → SoundTs' c cenv res' ifs xifs) :
    SoundE c env res (.ListComp elt [⟨tgt, iter, ifs, 0⟩] scope pos) (.comp xelt t xsrc xifs) := fun A q d k loc φ H s Q E hA hF hS hw => by
  rw [eval_ListComp]
  refine comp_run K hfold hsrc helt hifs hA hF hS hw ?_
  rintro D C s' ⟨⟨φ', H', a, e, S, R, hq, hC⟩, ⟨m, hm, hat⟩, hC0, hCh⟩
  refine ⟨m, hm, fun h' m' hn' hs' => ?_⟩
  obtain ⟨kp, ow, S'', k''⟩ := gone S hm hat hC hCh hn' hs'
  exact ⟨φ', H', .lst a, e.kept k'' (by simpa using hC0), S'', Rep.mono kp ow R, hq⟩
end
end Bn
namespace Bn
open PySem PyProof.Rows
structure NStep (c : Cx) (xs : List Addr) (s s' : Shared) : Prop where
  keep : ∀ b o, b ∉ xs → s.heap.get? b = some o → o.cls ≠ .type "frame" → s'.heap.get? b = some o
  slot : ∀ b o, b ∉ xs → s.heap.get? b = some o → ∃ sl, s'.heap.get? b = some { o with slots := sl }
  base : ∀ b o, c.h0.get? b = some o → s.heap.get? b = some o → s'.heap.get? b = some o
  exc : ∀ b o, b ∈ xs → s.heap.get? b = some o → ∃ vs, s'.heap.get? b = some { o with data := .fields vs }
  gens : s'.gens = s.gens
  os : s'.os = s.os
def Excs (c : Cx) (xs φ : List Addr) (h : Heap) : Prop := ∀ b ∈ xs, b ∉ φ ∧ c.h0.get? b = none ∧ ∃ o vs, h.get? b = some o ∧ o.data = .fields vs ∧ ((∃ C, o.cls = .ref C) ∨ o.cls = .type "traceback")
section
variable {c : Cx} {xs φ : List Addr} {H : Hp} {s s' s₁ : Shared}
theorem NStep.trans (a : NStep c xs s s₁) (b : NStep c xs s₁ s') : NStep c xs s s' where
  keep x o hx ho hc := b.keep x o hx (a.keep x o hx ho hc) hc
  slot x o hx ho := by
    obtain ⟨sl, h1⟩ := a.slot x o hx ho
    obtain ⟨sl', h2⟩ := b.slot x _ hx h1
    exact ⟨sl', h2⟩
  base x o h0 ho := b.base x o h0 (a.base x o h0 ho)
  exc x o hx ho := by
    obtain ⟨vs, h1⟩ := a.exc x o hx ho
    obtain ⟨vs', h2⟩ := b.exc x _ hx h1
    exact ⟨vs', h2⟩
  gens := b.gens.trans a.gens
  os := b.os.trans a.os
theorem NStep.refl (hx : Excs c xs φ s.heap) : NStep c xs s s where
  keep _ _ _ h _ := h
  slot _ o _ h := ⟨o.slots, h⟩
  base _ _ _ h := h
  exc b o hb ho := by
    obtain ⟨_, _, o', vs, h1, h2, _⟩ := hx b hb
    rw [ho] at h1; cases h1
    exact ⟨vs, by rw [← h2]; exact ho⟩
  gens := rfl
  os := rfl
theorem NStep.kp (n : NStep c xs s s') (hx : Excs c xs φ s.heap) : Kp xs φ s.heap φ s'.heap where
  pre := List.prefix_rfl
  keep b o hb _ hX hc := n.keep b o hX hb hc
  new _ h := .inl h
  dict b o es k hb _ hd := by
    have hn : b ∉ xs := fun hm => by
      obtain ⟨_, _, o', vs, h1, h2, _⟩ := hx b hm
      rw [hb] at h1; cases h1; rw [hd] at h2; cases h2
    obtain ⟨sl, h1⟩ := n.slot b o hn hb
    exact ⟨_, es, k, h1, hd, rfl⟩
  exc b o vs C hb _ hc hd := by
    by_cases hm : b ∈ xs
    · exact n.exc b o hm hb
    · exact ⟨vs, by rw [← hd]; exact n.keep b o hm hb (by rw [hc]; intro q; cases q)⟩
theorem Excs.own (hx : Excs c xs φ s.heap) : OwnX c xs s.heap := fun b hb o ho => by
  obtain ⟨_, _, o', vs, h1, _, h3⟩ := hx b hb
  rw [ho] at h1; cases h1
  rcases h3 with h3 | h3
  · exact .inr (.inr (.inr h3))
  · exact .inl (by rw [h3]; decide)
theorem Sim.noted (S : Sim c φ H s) (n : NStep c xs s s') (hx : Excs c xs φ s.heap) : Sim c φ H s' :=
  S.mono (n.kp hx) hx.own (fun b hb => (hx b hb).2.1) (fun a ha o ho => by
    obtain ⟨o', h1, h2⟩ := S.isList ha
    rw [ho] at h1; cases h1
    exact n.keep a o (fun hm => (hx a hm).1 ha) ho (by rw [h2]; decide)) (fun b o hb _ => n.base b o hb (S.stays b o hb)) (n.gens.trans S.gens)
theorem Off.excs {env : Env} {res : Res} {k : Clo} {loc : Loc} (F : FSim c env res k loc φ s.heap) (h : Excs c xs φ s.heap) : Off env xs s where
  loc hm := by
    obtain ⟨_, _, o, vs, h1, h2, _⟩ := h _ hm
    obtain ⟨m, ⟨⟨o', es, n, h3, h4, _⟩, _⟩, _⟩ := F.ns
    rw [h1] at h3; cases h3
    rw [h2] at h4; cases h4
  cells x ca hx hm := by
    obtain ⟨_, _, o, vs, h1, h2, h5⟩ := h _ hm
    obtain ⟨_, _, o', h3, h4⟩ := F.cells x ca hx
    rw [h1] at h3; cases h3
    rcases h5 with ⟨C, h5⟩ | h5
    · rw [h4] at h5; cases h5
    · rw [h4] at h5; exact absurd h5 (by decide)
  clo ca o ho hc _ hm := by
    obtain ⟨_, _, o', vs, h1, h2, h5⟩ := h _ hm
    rw [ho] at h1; cases h1
    rcases h5 with ⟨C, h5⟩ | h5
    · rw [hc] at h5; cases h5
    · rw [hc] at h5; exact absurd h5 (by decide)
theorem FSim.noted {env : Env} {res : Res} {k : Clo} {loc : Loc} (F : FSim c env res k loc φ s.heap) (n : NStep c xs s s') (hx : Excs c xs φ s.heap) : FSim c env res k loc φ s'.heap :=
  F.off (n.kp hx) hx.own (Off.excs F hx) fun o ho => n.slot _ o (Off.excs F hx).loc ho
theorem Ext.noted {X φ₀ : List Addr} {s₀ : Shared} (e : Ext X φ₀ s₀ φ s) (n : NStep c xs s s') (hn : ∀ b ∈ xs, s₀.heap.get? b = none) : Ext X φ₀ s₀ φ s' where
  pre := e.pre
  keep b o hb hφ hX hc := n.keep b o (fun q => by rw [hn b q] at hb; cases hb) (e.keep b o hb hφ hX hc) hc
  new := e.new
  frame b o hb hφ hX := by
    obtain ⟨sl, h₁⟩ := e.frame b o hb hφ hX
    obtain ⟨sl', h₂⟩ := n.slot b _ (fun q => by rw [hn b q] at hb; cases hb) h₁
    exact ⟨sl', h₂⟩
  dict b o es k hb hφ hd := by
    obtain ⟨o₁, es₁, n₁, h₁, d₁, c₁⟩ := e.dict b o es k hb hφ hd
    obtain ⟨sl', h₂⟩ := n.slot b _ (fun q => by rw [hn b q] at hb; cases hb) h₁
    exact ⟨_, es₁, n₁, h₂, d₁, c₁⟩
  exc b o vs C hb hφ hc hd := by
    obtain ⟨vs₁, h₁⟩ := e.exc b o vs C hb hφ hc hd
    exact ⟨vs₁, n.keep b _ (fun q => by rw [hn b q] at hb; cases hb) h₁ (by show o.cls ≠ _; rw [hc]; intro q; cases q)⟩
  alive b o hb hX := by
    obtain ⟨o', h'⟩ := e.alive b o hb hX
    obtain ⟨sl', h₂⟩ := n.slot b _ (fun q => by rw [hn b q] at hb; cases hb) h'
    exact ⟨_, h₂⟩
  os := n.os.trans e.os
end
def HasT (h : Heap) (e : Value) : Prop := ∃ a o vs T, e = .ref a ∧ h.get? a = some o ∧ o.data = .fields vs ∧ vs[1]? = some (.ref T)
theorem XRep.excs {c : Cx} {φ : List Addr} {s₀ : Shared} {h : Heap} {x : V} {e : Value} (q : XRep c φ s₀ h x e) : ∃ a o vs, e = .ref a ∧ h.get? a = some o ∧ o.data = .fields vs ∧ 1 < vs.size ∧ (∃ C, o.cls = .ref C) ∧
    ((vs[1]? = some .none ∧ Excs c [a] φ h ∧ ∀ b ∈ [a], s₀.heap.get? b = none) ∨
      ∃ T oT ts, vs[1]? = some (.ref T) ∧ T ≠ a ∧ h.get? T = some oT ∧ oT.data = .fields ts ∧ 3 < ts.size ∧ oT.cls = .type "traceback" ∧ Excs c [a, T] φ h ∧ ∀ b ∈ [a, T], s₀.heap.get? b = none) := by
  obtain ⟨h1, ⟨cn, y, rfl⟩, a, o, vs, rfl, h4, h5, h6, h7⟩ := q
  simp only [Rep] at h1
  obtain ⟨a', o', vs', h8, h9, h10, h11, h12, h13, h14, _⟩ := h1
  cases h8
  rw [h5] at h11; cases h11
  rw [h6] at h14; cases h14
  refine ⟨a, o, vs, rfl, h5, h6, ?_, h12, ?_⟩
  · rcases h7 with h7 | ⟨T, _, _, h7, _⟩ <;> exact (Array.getElem?_eq_some_iff.mp h7).1
  · rcases h7 with h7 | ⟨T, oT, ts, g1, g2, g3, g4, g5, g6, g7, g8⟩
    · refine .inl ⟨h7, fun b hb => ?_, by simpa using h4⟩
      rw [List.mem_singleton.mp hb]
      exact ⟨h9, h10, o, vs, h5, h6, .inl h12⟩
    · have hne : T ≠ a := fun q => by
        rw [q, h5] at g5; cases g5
        obtain ⟨C, h12⟩ := h12
        rw [h12] at g6; cases g6
      refine .inr ⟨T, oT, ts, g1, hne, g5, g7, g8, g6, fun b hb => ?_, fun b hb => ?_⟩
      · simp only [List.mem_cons, List.not_mem_nil, or_false] at hb
        rcases hb with rfl | rfl
        · exact ⟨h9, h10, o, vs, h5, h6, .inl h12⟩
        · exact ⟨g3, g4, oT, ts, g5, g7, .inr g6⟩
      · simp only [List.mem_cons, List.not_mem_nil, or_false] at hb
        rcases hb with rfl | rfl
        · exact h4
        · exact g2
end Bn
namespace Bn
open PySem PyProof.Rows
section
variable {c : Cx} {xs φ : List Addr} {H : Hp} {s s' : Shared}
theorem mapFields_eq {o : Obj} {vs : Array Value} (h : o.data = .fields vs) (f : Array Value → Array Value) : Obj.mapFields f o = { o with data := .fields (f vs) } := by
  obtain ⟨a, b, d, e⟩ := o
  cases h
  rfl
theorem NStep.upd (hx : Excs c xs φ s.heap) {b : Addr} {o : Obj} {vs : Array Value} (hb : b ∈ xs) (ho : s.heap.get? b = some o) (hd : o.data = .fields vs) (f : Array Value → Array Value) :
    NStep c xs s { s with heap := s.heap.update b (Obj.mapFields f) } ∧ (s.heap.update b (Obj.mapFields f)).get? b = some { o with data := .fields (f vs) } := by
  have self : (s.heap.update b (Obj.mapFields f)).get? b = some { o with data := .fields (f vs) } := by
    rw [Heap.get?_update_self _ ho (Obj.isFreed_of_fields (Obj.data_mapFields hd f)), mapFields_eq hd]
  refine ⟨⟨fun a oa ha hoa _ => ?_, fun a oa ha hoa => ⟨oa.slots, ?_⟩, fun a oa h0 hoa => ?_, fun a oa ha hoa => ?_, rfl, rfl⟩, self⟩
  · exact (Heap.get?_update_other _ _ (fun (q : b = a) => ha (q ▸ hb))).trans hoa
  · exact (Heap.get?_update_other _ _ (fun (q : b = a) => ha (q ▸ hb))).trans hoa
  · exact (Heap.get?_update_other _ _ (fun q => by rw [← q, (hx b hb).2.1] at h0; cases h0)).trans hoa
  · by_cases q : a = b
    · subst q
      rw [ho] at hoa; cases hoa
      exact ⟨_, self⟩
    · obtain ⟨_, _, o', vs', h1, h2, _⟩ := hx a ha
      rw [hoa] at h1; cases h1
      exact ⟨vs', by rw [← h2]; exact (Heap.get?_update_other _ _ (Ne.symm q)).trans hoa⟩
theorem NStep.push (hx : Excs c xs φ s.heap) (o : Obj) : NStep c xs s { s with heap := s.heap.push o } where
  keep _ _ _ h _ := Heap.get?_push_of_some _ h
  slot _ o' _ h := ⟨o'.slots, Heap.get?_push_of_some _ h⟩
  base _ _ _ h := Heap.get?_push_of_some _ h
  exc b o' hb ho := by
    obtain ⟨_, _, o1, vs, h1, h2, _⟩ := hx b hb
    rw [ho] at h1; cases h1
    exact ⟨vs, by rw [← h2]; exact Heap.get?_push_of_some _ ho⟩
  gens := rfl
  os := rfl
theorem frames_fun {l : List Env} {h : Heap} (hE : ∀ env ∈ l, EnvOk c φ h env) : h.FunFrames c.h0 l := by
  induction l with
  | nil => trivial
  | cons env l ih =>
    obtain ⟨h1, L, o, es, n, h2, h3, h4, h5, h6, h7⟩ := hE env List.mem_cons_self
    exact ⟨h1.1, ⟨L, o, h2, h3, h5, fun vs q => by rw [h6] at q; cases q⟩, ih fun env he => hE env (List.mem_cons_of_mem _ he)⟩
theorem frames_mem {l : List Env} {h : Heap} (hE : ∀ env ∈ l, EnvOk c φ h env) {b : Addr} (hb : b ∈ l.filterMap (·.frame)) : c.h0.get? b = none ∧ ∃ o es n, h.get? b = some o ∧ o.cls = .type "frame" ∧ o.data = .dict es n := by
  obtain ⟨env, he, hf⟩ := List.mem_filterMap.mp hb
  obtain ⟨h1, L, o, es, n, h2, h3, h4, h5, h6, h7⟩ := hE env he
  rw [hf] at h2; cases h2
  exact ⟨h3, o, es, n, h5, h7, h6⟩
theorem NStep.slots {l : List Env} {h' : Heap} (hx : Excs c xs φ s.heap) (hE : ∀ env ∈ l, EnvOk c φ s.heap env) (hs : Heap.SlotsOnly (l.filterMap (·.frame)) s.heap h') : NStep c xs s { s with heap := h' } where
  keep b o _ ho hc := by
    refine (hs.2.1 b fun hm => ?_).trans ho
    obtain ⟨_, o', _, _, h1, h2, _⟩ := frames_mem hE hm
    rw [ho] at h1; cases h1; exact hc h2
  slot b o _ ho := hs.2.2 b o ho
  base b o h0 ho := (hs.2.1 b fun hm => by rw [(frames_mem hE hm).1] at h0; cases h0).trans ho
  exc b o hb ho := by
    obtain ⟨_, _, o1, vs, h1, h2, _⟩ := hx b hb
    rw [ho] at h1; cases h1
    refine ⟨vs, ?_⟩
    rw [← h2]
    refine (hs.2.1 b fun hm => ?_).trans ho
    obtain ⟨_, o', es, n, h3, _, h5⟩ := frames_mem hE hm
    rw [ho] at h3; cases h3; rw [h2] at h5; cases h5
  gens := rfl
  os := rfl
theorem Excs.noted (hx : Excs c xs φ s.heap) (n : NStep c xs s s') : Excs c xs φ s'.heap := fun b hb => by
  obtain ⟨h1, h2, o, vs, h3, h4, h5⟩ := hx b hb
  obtain ⟨vs', h6⟩ := n.exc b o hb h3
  exact ⟨h1, h2, _, vs', h6, rfl, h5⟩
theorem EnvOk.noted {env : Env} (h : EnvOk c φ s.heap env) (n : NStep c xs s s') (hx : Excs c xs φ s.heap) : EnvOk c φ s'.heap env := by
  obtain ⟨h1, L, o, es, k, h2, h3, h4, h5, h6, h7⟩ := h
  obtain ⟨sl, h8⟩ := n.slot L o (fun hm => by
    obtain ⟨_, _, o', vs, h1, h2, _⟩ := hx L hm
    rw [h5] at h1; cases h1; rw [h6] at h2; cases h2) h5
  exact ⟨h1, L, _, es, k, h2, h3, h4, h8, h6, h7⟩
theorem new_entry {A : Around} {env : Env} {outer : List Env} {L a : Addr} {o : Obj} {vs : Array Value} {head : Value} {b : Bool} {E : Value → Shared → Prop} (hfr : A.frames = some (env :: outer)) (hE : ∀ e ∈ env :: outer, EnvOk c φ s.heap e) (hf : env.frame = some L)
    (hx : Excs c xs φ s.heap) (ha : a ∈ xs) (ho : s.heap.get? a = some o) (hd : o.data = .fields vs) (hz : 1 < vs.size) :
    wpAny (model c.prog c.w) A (do let fr ← frameOf env; let pl ← entryPlaceOf L b; let t ← EntryCells.newEntry head fr .none (rawInt L) .none pl; setField (.ref a) 1 t)
      (fun _ s' => NStep c xs s s' ∧ ∃ T oT ts vs', s'.heap.get? a = some { o with data := .fields vs' } ∧ vs'[1]? = some (.ref T) ∧ s.heap.objs.size ≤ T ∧ s'.heap.get? T = some oT ∧ oT.cls = .type "traceback" ∧ oT.data = .fields ts ∧ 3 < ts.size) E s := by
  refine wpAny_bind (wpAny_frameOf_fun hfr (frames_fun hE) hf fun h₁ hs₁ => ?_)
  refine wpAny_bind (wpAny_entryPlaceOf fun pl hpl => ?_)
  have n₁ := NStep.slots hx hE hs₁
  obtain ⟨vs₁, ho₁⟩ := n₁.exc a o ha ho
  have hv : vs₁ = vs := by
    have : h₁.get? a = some o := by
      refine (hs₁.2.1 a fun hm => ?_).trans ho
      obtain ⟨_, o', es, n, h3, _, h5⟩ := frames_mem hE hm
      rw [ho] at h3; cases h3; rw [hd] at h5; cases h5
    have h2 := Option.some.inj (this.symm.trans ho₁)
    rw [h2] at hd
    simpa using hd
  subst hv
  unfold EntryCells.newEntry newFields
  refine wpAny_bind (wpAny_newObj_type ?_ (hpl.sizeOk5 _ _ _ _ _))
  generalize hent : ({ cls := .type "traceback", dict := none, data := .fields ([head, .ref L, .none, rawInt L, .none] ++ (if pl.isEmpty then List.replicate 6 Value.none else pl)).toArray } : Obj) = ent
  have n₂ := NStep.push (s := { s with heap := h₁ }) (hx.noted n₁) ent
  have ho₂ : (h₁.push ent).get? a = some { o with data := .fields vs₁ } := Heap.get?_push_of_some _ ho₁
  have hx₂ : Excs c xs φ (h₁.push ent) := (hx.noted n₁).noted n₂
  obtain ⟨n₃, ho₃⟩ := NStep.upd (s := { s with heap := h₁.push ent }) hx₂ ha ho₂ rfl (·.setIfInBounds 1 (Value.ref h₁.objs.size))
  refine wpAny_setField ho₂ rfl hz ?_
  refine ⟨(n₁.trans n₂).trans n₃, h₁.objs.size, ent, _, _, ho₃, by simp [hz], ?_, ?_, by rw [← hent], by rw [← hent], ?_⟩
  · rw [hs₁.1]; exact Nat.le_refl _
  · refine (Heap.get?_update_other _ _ (Nat.ne_of_lt (Heap.lt_size ho₁))).trans (Heap.get?_push_size _ ?_)
    rw [← hent]; rfl
  · simp only [List.size_toArray, List.length_append, List.length_cons, List.length_nil] <;> omega
theorem note_frame {A : Around} {env : Env} {outer : List Env} {x : V} {e : Value} {s₀ : Shared} {X φ₀ : List Addr} {E : Value → Shared → Prop} (hfr : A.frames = some (env :: outer)) (hE : ∀ e ∈ env :: outer, EnvOk c φ s.heap e) (S : Sim c φ H s) (e₀ : Ext X φ₀ s₀ φ s) (q : XRep c φ s₀ s.heap x e) :
    wpAny (model c.prog c.w) A (noteFrame e env) (fun _ s' => ∃ xs, Excs c xs φ s.heap ∧ (∀ b ∈ xs, s₀.heap.get? b = none) ∧ NStep c xs s s' ∧ XRep c φ s₀ s'.heap x e ∧ HasT s'.heap e) E s := by
  obtain ⟨_, L, oL, esL, nL, hf, hL0, hLφ, hoL, hdL, hcL⟩ := hE env List.mem_cons_self
  obtain ⟨a, o, vs, rfl, ho, hd, hz, hC, h7⟩ := q.excs
  obtain ⟨q1, q2, _⟩ := q
  have fresh : ∀ T, s.heap.objs.size ≤ T → s₀.heap.get? T = none ∧ T ∉ φ ∧ c.h0.get? T = none := fun T hT =>
    ⟨e₀.fresh S (Heap.get?_none_of_le hT), fun hm => Nat.lt_irrefl _ (Nat.lt_of_lt_of_le (S.lt hm) hT), S.h0_new hT⟩
  unfold noteFrame
  simp only [hf]
  rcases h7 with ⟨h1, hx, hn⟩ | ⟨T, oT, ts, h1, hTa, hoT, hdT, hzT, hcT, hx, hn⟩
  · refine wpAny_bind (wpAny_field ho hd h1 ?_)
    rw [if_neg (by decide)]
    refine wpAny_mono (new_entry hfr hE hf hx (by simp) ho hd hz) ?_ fun _ _ h => h
    rintro _ s' ⟨n, T, oT, ts, vs', g1, g2, g3, g4, g5, g6, g7⟩
    obtain ⟨f1, f2, f3⟩ := fresh T g3
    exact ⟨[a], hx, hn, n, ⟨Rep.mono (n.kp hx) hx.own q1, q2, a, _, vs', rfl, hn a (by simp), g1, rfl, .inr ⟨T, oT, ts, g2, f1, f2, f3, g4, g5, g6, g7⟩⟩, a, _, vs', T, rfl, g1, rfl, g2⟩
  · refine wpAny_bind (wpAny_field ho hd h1 ?_)
    rw [if_pos (show (Value.ref T != Value.none) = true from by simp)]
    have h3 : ts[3]? = some ts[3] := Array.getElem?_eq_getElem hzT
    refine wpAny_bind (wpAny_field hoT hdT h3 ?_)
    by_cases hsame : (ts[3] == rawInt L) = true
    · rw [if_pos hsame]
      exact wpAny_pure ⟨[a, T], hx, hn, NStep.refl hx, ⟨q1, q2, a, o, vs, rfl, hn a (by simp), ho, hd, .inr ⟨T, oT, ts, h1, hn T (by simp), (hx T (by simp)).1, (hx T (by simp)).2.1, hoT, hcT, hdT, hzT⟩⟩, a, o, vs, T, rfl, ho, hd, h1⟩
    · rw [if_neg hsame]
      obtain ⟨n₁, hoT₁⟩ := NStep.upd hx (b := T) (by simp) hoT hdT (·.setIfInBounds 3 Value.none)
      refine wpAny_bind (wpAny_setField hoT hdT hzT ?_)
      have ho₁ : (s.heap.update T (Obj.mapFields (·.setIfInBounds 3 Value.none))).get? a = some o := (Heap.get?_update_other _ _ hTa).trans ho
      refine wpAny_mono (new_entry (s := { s with heap := s.heap.update T (Obj.mapFields (·.setIfInBounds 3 Value.none)) }) hfr (fun e he => (hE e he).noted n₁ hx) hf (hx.noted n₁) (by simp) ho₁ hd hz) ?_ fun _ _ h => h
      rintro _ s' ⟨n, T', oT', ts', vs', g1, g2, g3, g4, g5, g6, g7⟩
      have hsz : s.heap.objs.size ≤ T' := by
        have : (s.heap.update T (Obj.mapFields (·.setIfInBounds 3 Value.none))).objs.size = s.heap.objs.size := (Heap.SameBut.update s.heap T _).1
        exact this ▸ g3
      obtain ⟨f1, f2, f3⟩ := fresh T' hsz
      have nn := n₁.trans n
      exact ⟨[a, T], hx, hn, nn, ⟨Rep.mono (nn.kp hx) hx.own q1, q2, a, _, vs', rfl, hn a (by simp), g1, rfl, .inr ⟨T', oT', ts', g2, f1, f2, f3, g4, g5, g6, g7⟩⟩, a, _, vs', T', rfl, g1, rfl, g2⟩
theorem set_flight {A : Around} {x : V} {e : Value} {s₀ : Shared} {fl : Option Addr} {E : Value → Shared → Prop} (q : XRep c φ s₀ s.heap x e) (ht : HasT s.heap e) :
    wpAny (model c.prog c.w) A (setFlight e fl) (fun _ s' => ∃ xs, Excs c xs φ s.heap ∧ (∀ b ∈ xs, s₀.heap.get? b = none) ∧ NStep c xs s s' ∧ XRep c φ s₀ s'.heap x e ∧ HasT s'.heap e) E s := by
  obtain ⟨a, o, vs, rfl, ho, hd, hz, hC, h7⟩ := q.excs
  obtain ⟨q1, q2, _⟩ := q
  obtain ⟨a', o', vs', T', h8, h9, h10, h11⟩ := ht
  cases h8
  rw [ho] at h9; cases h9
  rw [hd] at h10; cases h10
  rcases h7 with ⟨h1, _⟩ | ⟨T, oT, ts, h1, hTa, hoT, hdT, hzT, hcT, hx, hn⟩
  · rw [h1] at h11; cases h11
  · unfold setFlight
    refine wpAny_bind (wpAny_field ho hd h1 ?_)
    rw [if_pos (show (Value.ref T != Value.none) = true from by simp)]
    refine wpAny_setField hoT hdT hzT ?_
    obtain ⟨n₁, hoT₁⟩ := NStep.upd hx (b := T) (by simp) hoT hdT (·.setIfInBounds 3 (fl.elim Value.none fun f => rawInt f))
    have ho₁ : (s.heap.update T (Obj.mapFields (·.setIfInBounds 3 (fl.elim Value.none fun f => rawInt f)))).get? a = some o := (Heap.get?_update_other _ _ hTa).trans ho
    exact ⟨[a, T], hx, hn, n₁, ⟨Rep.mono (n₁.kp hx) hx.own q1, q2, a, o, vs, rfl, hn a (by simp), ho₁, hd, .inr ⟨T, _, _, h1, hn T (by simp), (hx T (by simp)).1, (hx T (by simp)).2.1, hoT₁, hcT, rfl, by simpa using hzT⟩⟩, a, o, vs, T, rfl, ho₁, hd, h1⟩
end
end Bn
namespace Bn
open PySem PyProof.Rows
def OutS (c : Cx) (env : Env) (res : Res) (k : Clo) (φ : List Addr) (s : Shared) (X : List Addr) (Q : SPost) (f : Flow) (s' : Shared) : Prop :=
  ∃ φ' H' loc', Ext X φ s φ' s' ∧ Sim c φ' H' s' ∧ FSim c env res k loc' φ' s'.heap ∧ (match f with
    | .next => Q .next loc' H'
    | .ret r => ∃ v, Rep c φ' s'.heap v r ∧ Q (.ret v) loc' H'
    | _ => False)
def OutSX (c : Cx) (env : Env) (res : Res) (k : Clo) (φ : List Addr) (s : Shared) (X : List Addr) (E : SX) (e : Value) (s' : Shared) : Prop :=
  ∃ φ' H' loc' x, Ext X φ s φ' s' ∧ Sim c φ' H' s' ∧ FSim c env res k loc' φ' s'.heap ∧ XRep c φ' s s'.heap x e ∧ E x loc' H'
def HeadF (A : Around) (env : Env) : Prop := ∃ outer, A.frames = some (env :: outer)
def SoundS (c : Cx) (env : Env) (res : Res) (X : List Addr) (st : Stmt) (x : St) : Prop :=
  ∀ A q d k loc φ H s Q E, OkF c A q d φ s.heap → HeadF A env → FSim c env res k loc φ s.heap → Sim c φ H s → wpS (Calls c) q d k x loc Q E H →
    wpAny (model c.prog c.w) A (exec st env) (OutS c env res k φ s X Q) (OutSX c env res k φ s X E) s
def SoundSs (c : Cx) (env : Env) (res : Res) (X : List Addr) (sts : List Stmt) (xs : List St) : Prop :=
  ∀ A q d k loc φ H s Q E, OkF c A q d φ s.heap → HeadF A env → FSim c env res k loc φ s.heap → Sim c φ H s → wpSs (Calls c) q d k xs loc Q E H →
    wpAny (model c.prog c.w) A (execs sts env) (OutS c env res k φ s X Q) (OutSX c env res k φ s X E) s
section
variable {c : Cx} {env : Env} {res : Res} {k : Clo} {loc : Loc} {φ φ₁ : List Addr} {H : Hp} {s s₁ s₂ : Shared} {X : List Addr} {Q : SPost} {E : SX}
theorem OutS.lift {f : Flow} (e : Ext X φ s φ₁ s₁) (h : OutS c env res k φ₁ s₁ X Q f s₂) : OutS c env res k φ s X Q f s₂ :=
  let ⟨φ', H', l, e', r⟩ := h; ⟨φ', H', l, e.trans e', r⟩
theorem OutSX.lift {x : Value} (e : Ext X φ s φ₁ s₁) (S₁ : Sim c φ₁ H s₁) (h : OutSX c env res k φ₁ s₁ X E x s₂) : OutSX c env res k φ s X E x s₂ :=
  let ⟨φ', H', l, v, e', S, F, R, hq⟩ := h; ⟨φ', H', l, v, e.trans e', S, F, R.lift e S₁, hq⟩
theorem FSim.weak {al : Bool} {φ' : List Addr} {s' : Shared} (F : FSim c env res k loc φ s.heap) (hX : EnvX al env X) (e : Ext [] φ s φ' s') : Ext X φ s φ' s' :=
  e.weaken (by simp) fun b hb => (F.outX hX b hb).1
theorem OutX.toS {al : Bool} {x : Value} (F : FSim c env res k loc φ s.heap) (hX : EnvX al env X) (h : OutX c φ s (fun x H => E x loc H) x s₁) : OutSX c env res k φ s X E x s₁ :=
  let ⟨φ', H', v, e', S, R, hq⟩ := h; ⟨φ', H', loc, v, F.weak hX e', S, F.mono e', R, hq⟩
theorem OutSX.no {x : Value} {P : Prop} (h : OutSX c env res k φ s X (fun _ _ _ => False) x s₁) : P := let ⟨_, _, _, _, _, _, _, _, h⟩ := h; h.elim
theorem OkF.monoX {A : Around} {q : Bool} {d : Nat} {φ' : List Addr} {s' : Shared} (h : OkF c A q d φ s.heap) (e : Ext X φ s φ' s') : OkF c A q d φ' s'.heap := h.mono e
theorem note_back {A : Around} {q : Bool} {d : Nat} {x : Value} (hA : OkF c A q d φ s.heap) (hh : HeadF A env) (h : OutSX c env res k φ s X E x s₁) :
    notedBy (model c.prog c.w) A env (fun e s' => cameBackBy (model c.prog c.w) A env (OutSX c env res k φ s X E) e s') x s₁ := by
  obtain ⟨φ', H', l, v, e', S, F, R, hq⟩ := h
  obtain ⟨outer, hfr⟩ := hh
  have hE : ∀ e ∈ env :: outer, EnvOk c φ' s₁.heap e := by
    obtain ⟨l', h1, h2⟩ := (hA.monoX e').fr
    rw [hfr] at h1; cases h1; exact h2
  unfold notedBy
  refine wpAny_mono (note_frame hfr hE S e' R) ?_ fun _ _ h => h
  rintro _ s₂ ⟨xs, hx, hn, n, R₂, ht⟩
  have e₂ := e'.noted n hn
  have S₂ := S.noted n hx
  have F₂ := F.noted n hx
  unfold cameBackBy
  obtain ⟨a, o, vs, T, rfl, g1, g2, g3⟩ := id ht
  refine wpAny_bind (wpAny_field g1 g2 g3 ?_)
  rw [if_neg (by intro q; cases q)]
  refine wpAny_mono (set_flight R₂ ht) ?_ fun _ _ h => h
  rintro _ s₃ ⟨xs, hx, hn, n, R₃, ht⟩
  exact ⟨φ', H', l, v, e₂.noted n hn, S₂.noted n hx, F₂.noted n hx, R₃, hq⟩
theorem sound_nil : SoundSs c env res X [] [] := fun A q d k loc φ H s Q E hA hh hF hS hw => by
  simp only [wpSs] at hw
  exact wpAny_execs_nil ⟨φ, H, loc, Ext.refl, hS, hF, hw⟩
theorem sound_cons {st : Stmt} {x : St} {sts : List Stmt} {xs : List St} (h1 : SoundS c env res X st x) (h2 : SoundSs c env res X sts xs) : SoundSs c env res X (st :: sts) (x :: xs) := fun A q d k loc φ H s Q E hA hh hF hS hw => by
  simp only [wpSs] at hw
  refine wpAny_execs_cons (wpAny_mono (h1 A q d k loc φ H s _ E hA hh hF hS hw) ?_ fun _ _ h => h)
  rintro f s₁ ⟨φ₁, H₁, l₁, e₁, S₁, F₁, w₁⟩
  cases f with
  | next => exact wpAny_mono (h2 A q d k l₁ φ₁ H₁ s₁ Q E (hA.monoX e₁) hh F₁ S₁ w₁) (fun _ _ h => h.lift e₁) fun _ _ h => h.lift e₁ S₁
  | ret r => obtain ⟨v, R, w⟩ := w₁; exact ⟨φ₁, H₁, l₁, e₁, S₁, F₁, v, R, w⟩
  | brk => exact w₁.elim
  | cont => exact w₁.elim
theorem sound_ret {e : Expr} {x : Ex} {pos : Pos} (hX : EnvX true env X) (h : SoundE c env res e x) : SoundS c env res X (.Return (some e) pos) (.ret x) := fun A q d k loc φ H s Q E hA hh hF hS hw => by
  simp only [wpS] at hw
  refine wpAny_Return_some (wpAny_mono (h A q d k loc φ H s _ _ hA hF hS hw) ?_ fun _ _ h => OutX.toS hF hX h)
  rintro r s₁ ⟨φ₁, H₁, v, e₁, S₁, R₁, w₁⟩
  exact ⟨φ₁, H₁, loc, hF.weak hX e₁, S₁, hF.mono e₁, v, R₁, w₁⟩
theorem sound_expr {e : Expr} {x : Ex} {pos : Pos} (hX : EnvX true env X) (h : SoundE c env res e x) (hs : swapsWith e none pos.line env = pure false) : SoundS c env res X (.Expr e pos) (.expr x) := fun A q d k loc φ H s Q E hA hh hF hS hw => by
  simp only [wpS] at hw
  refine wpAny_Expr_any (wpAny_mono (h A q d k loc φ H s _ _ hA hF hS hw) ?_ fun _ _ h => OutX.toS hF hX h) (by simp [interactive, hF.fn]) hs
  rintro r s₁ ⟨φ₁, H₁, v, e₁, S₁, R₁, w₁⟩
  exact ⟨φ₁, H₁, loc, hF.weak hX e₁, S₁, hF.mono e₁, w₁⟩
theorem sound_set {e : Expr} {x : Ex} {y : Str} {i : Nat} {py pos : Pos} (hX : EnvX true env X) (h : SoundE c env res e x) (hs : swapsWith e (some (.Name y py)) pos.line env = pure false) (hy : StoreOk true env res res y i) :
    SoundS c env res X (.Assign [.Name y py] e pos) (.set i x) := fun A q d k loc φ H s Q E hA hh hF hS hw => by
  simp only [wpS] at hw
  refine wpAny_Assign_Name (wpAny_mono (h A q d k loc φ H s _ _ hA hF hS hw) ?_ fun _ _ h => OutX.toS hF hX h) hs
  rintro r s₁ ⟨φ₁, H₁, v, e₁, S₁, R₁, w₁⟩
  refine wpAny_mono (store_ok (hF.mono e₁) S₁ hy hX R₁) ?_ fun _ _ h => h
  rintro _ s₂ ⟨F₂, S₂, e₂, _⟩
  exact ⟨φ₁, H₁, _, (hF.weak hX e₁).trans e₂, S₂, F₂, w₁⟩
theorem sound_unp {e : Expr} {x : Ex} {es : List Expr} {is : List Nat} {x1} {py pos : Pos} (hX : EnvX true env X) (h : SoundE c env res e x) (hs : swapsWithSole [.Tuple es x1 py] e pos.line env = pure false) (hw' : swappedStores [.Tuple es x1 py] e env = pure none) (hy : StoresOk true env res res es is) :
    SoundS c env res X (.Assign [.Tuple es x1 py] e pos) (.unp is x) := fun A q d k loc φ H s Q E hA hh hF hS hw => by
  simp only [wpS] at hw
  obtain ⟨rfl, hw⟩ := hw
  refine PyProof.Rows.Assign_Tuple (wpAny_mono (h A true d k loc φ H s _ _ hA hF hS hw) ?_ fun _ _ h => OutX.toS hF hX h) hs hw'
  rintro r s₁ ⟨φ₁, H₁, v, e₁, S₁, R₁, w₁⟩
  split at w₁
  · split at w₁
    · rename_i hb
      refine wpAny_mono (unpack_of (hA.hd rfl) hX hy hb (hF.mono e₁) S₁ R₁) ?_ fun _ _ h => h
      rintro _ s₂ ⟨F₂, S₂, e₂, _⟩
      exact ⟨φ₁, H₁, _, (hF.weak hX e₁).trans e₂, S₂, F₂, w₁⟩
    · exact w₁.elim
  · exact w₁.elim
theorem do_put {A : Around} {E : Value → Shared → Prop} {H' : Hp} (S : Sim c φ H s) {v w u : V} {x y r : Value} (R1 : Rep c φ s.heap v x) (R2 : Rep c φ s.heap w y) (R3 : Rep c φ s.heap u r) (e : putV H v w u = some H') :
    wpAny (model c.prog c.w) A (setItem x y r) (fun _ s' => Ext [] φ s φ s' ∧ Sim c φ H' s') E s := by
  unfold putV at e
  split at e
  · split at e
    · split at e
      · rename_i i k _ xs e1 hk
        cases e
        obtain ⟨l, us, n, rfl, ha, ho, hr, hz, z⟩ := S.getP R1 e1
        simp only [Rep] at R2
        obtain ⟨t, rfl⟩ := R2
        have hl : s.heap.IsList l us := ⟨_, ho, rfl, n, rfl⟩
        have hlen : us.size = xs.length := by rw [← RepL.length hr]; simp
        have hsl : sizeLine = 2 ^ 24 := rfl
        unfold setItem
        try with_reducible refine wpAny_holding ?_
        first | refine wpAny_bind (wpAny_pure ?_) | skip
        refine wpAny_bind (wpAny_sequenceKey hl.typeIs (by decide) ?_)
        refine wpAny_bind (wpAny_callSpecial?_slot (name := Str.ofString "__setitem__") hl.typeIs slot_list_setitem
          (wpAny_call_entry slot_list_setitem hl.typeIs entry_list_setitem ?_ (args_list_setitem _ _ _)))
        show wpAny _ _ (Builtin.List.listSubscript? (.int k t) >>= _) _ _ s
        refine wpAny_bind (wpAny_listSubscript_int (fitsIndex_of hk.1 (by omega)) ?_)
        obtain ⟨h0, hlt⟩ := hk
        obtain ⟨j, rfl⟩ := Int.eq_ofNat_of_zero_le h0
        have hj : j < us.size := by omega
        have hx' : us[j]? = some us[j] := Array.getElem?_eq_getElem hj
        show wpAny _ _ ((seqItemAt l j >>= fun r => pure (r.map (j, ·))) >>= _) _ _ s
        refine wpAny_bind (wpAny_bind (wpAny_seqItemAt ho rfl (wpAny_pure ?_)))
        rw [hx']
        show wpAny _ _ (setSeqItemAt l j r >>= _) _ _ s
        have hfin : Ext [] φ s φ { s with heap := s.heap.update l (Obj.mapSeq (·.setIfInBounds j r)) } ∧ Sim c φ (H.set i (xs.set j u)) { s with heap := s.heap.update l (Obj.mapSeq (·.setIfInBounds j r)) } :=
          S.put (h' := s.heap.update l (Obj.mapSeq (·.setIfInBounds j r))) ha (Heap.SameBut.update ..) (IsL.update (n := n) ho _) (by simpa using hr.set j R3) (by simpa using hz)
        refine wpAny_bind (wpAny_setSeqItemAt ho rfl ?_)
        first
          | exact wpAny_bind (wpAny_pure (wpAny_pure ⟨.none, rfl, wpAny_pure hfin⟩))
          | exact wpAny_pure ⟨.none, rfl, wpAny_pure hfin⟩
      · cases e
    · cases e
  · cases e
theorem sound_put {o i e : Expr} {xo xi xe : Ex} {py pos : Pos} (hX : EnvX true env X) (h1 : SoundE c env res o xo) (h2 : SoundE c env res i xi) (h3 : SoundE c env res e xe) (hs : swapsWith e (some (.Subscript o i py)) pos.line env = pure false) :
    SoundS c env res X (.Assign [.Subscript o i py] e pos) (.put xo xi xe) := fun A q d k loc φ H s Q E hA hh hF hS hw => by
  simp only [wpS] at hw
  refine wpAny_Assign_Subscript (wpAny_mono (h3 A q d k loc φ H s _ _ hA hF hS hw) ?_ fun _ _ h => OutX.toS hF hX h) hs
  rintro r s₁ ⟨φ₁, H₁, v₁, e₁, S₁, R₁, w₁⟩
  refine wpAny_mono (h1 A q d k loc φ₁ H₁ s₁ _ _ (hA.mono e₁) (hF.mono e₁) S₁ w₁) ?_ fun _ _ h => OutX.toS hF hX (h.lift e₁ S₁)
  rintro ro s₂ ⟨φ₂, H₂, v₂, e₂, S₂, R₂, w₂⟩
  have e12 := e₁.trans e₂
  refine wpAny_mono (h2 A q d k loc φ₂ H₂ s₂ _ _ (hA.mono e12) (hF.mono e12) S₂ w₂) ?_ fun _ _ h => OutX.toS hF hX (h.lift e12 S₂)
  rintro ri s₃ ⟨φ₃, H₃, v₃, e₃, S₃, R₃, w₃⟩
  split at w₃
  · rename_i hp
    refine wpAny_mono (do_put S₃ (Rep.mono e₃.toKp OwnX.nil R₂) R₃ (Rep.mono (e₂.trans e₃).toKp OwnX.nil R₁) hp) ?_ fun _ _ h => h
    rintro _ s₄ ⟨e₄, S₄⟩
    have e14 := (e12.trans e₃).trans e₄
    exact ⟨φ₃, _, loc, hF.weak hX e14, S₄, hF.mono e14, w₃⟩
  · exact w₃.elim
theorem sound_setComp {res0 res' : Res} {scope : Scope} {tgt iter elt : Expr} {ifs : List Expr} {t : Tg} {xelt xsrc : Ex} {xifs : List Ex} {y : Str} {i : Nat} {py pos cpos : Pos} (hX : EnvX true env X) (K : CompOk c env res res0 res' scope tgt t) (hfold : ∀ x, foldedSetIterable iter env x = pure x) (hsrc : SoundE c env res iter xsrc)
    (helt : ∀ cenv : Env, cenv.scope = relabel scope env → SoundE c cenv res' elt xelt) (hifs : ∀ cenv : Env, cenv.scope = relabel scope env → SoundTs' c cenv res' ifs xifs)
    (hs : swapsWith (.ListComp elt [⟨tgt, iter, ifs, 0⟩] scope cpos) (some (.Name y py)) pos.line env = pure true) (hy : StoreOk true env res res y i) :
    SoundS c env res X (.Assign [.Name y py] (.ListComp elt [⟨tgt, iter, ifs, 0⟩] scope cpos) pos) (.set i (.comp xelt t xsrc xifs)) := fun A q d k loc φ H s Q E hA hh hF hS hw => by
  simp only [wpS] at hw
  rw [exec_Assign_Name_used _ _ _ _ hs]
  refine wpAny_bind (wpAny_standAt (wpAny_bind ?_))
  show wpAny _ A (do let _ ← comprehension (.ListComp elt [⟨tgt, iter, ifs, 0⟩] scope cpos) scope env _ (newList []) false (eval iter env) (some (assign (.Name y py) env))) _ _ s
  refine wpAny_bind (wpAny_mono (comp_run (use := some (assign (.Name y py) env)) (Q' := fun _ s' => OutS c env res k φ s X Q .next s') K hfold hsrc helt hifs hA hF hS hw ?_) (fun _ s' hq => wpAny_pure (wpAny_pure hq)) fun _ _ h => OutX.toS hF hX h)
  rintro D C s' ⟨⟨φ', H', a, e, S, R, hq, hC⟩, ⟨m, hm, hat⟩, hC0, hCh⟩
  show wpAny _ A (assign (.Name y py) env (.ref D)) _ _ _
  have F := hF.mono e
  have hCX : C ∉ X := fun hm => by
    rcases hX.only C hm with q | ⟨x, hx⟩
    · obtain ⟨_, ⟨_, o, ho, _⟩, _⟩ := hF.ns
      rw [← q, hC0] at ho; cases ho
    · obtain ⟨_, _, o, ho, _⟩ := hF.cells x C hx
      rw [hC0] at ho; cases ho
  refine wpAny_assign_Name (wpAny_mono (store_ok F S hy hX R) ?_ fun _ _ h => h)
  rintro _ s₂ ⟨F₂, S₂, e₂, k₂⟩
  have hm₂ : NsD s₂.heap C m := by
    obtain ⟨hn, o, ho, hc⟩ := hm
    have := k₂.1 C o hCX ho
    exact ⟨hn.at' fun o' ho' => k₂.1 C o' hCX ho', o, this, hc⟩
  refine ⟨m, hm₂, fun h' m' hn' hs' => ?_⟩
  obtain ⟨kp, ow, S₃, k₃⟩ := gone S₂ hm₂ hat hC hCh hn' hs'
  have off : Off env [C] s₂ := ⟨fun q => hCX (by rw [← List.mem_singleton.mp q]; exact hX.loc), fun x ca hx q => hCX (by
      rw [List.mem_singleton] at q
      obtain ⟨_, _, o, ho, _⟩ := hF.cells x ca hx
      rw [q, hC0] at ho; cases ho), fun ca o ho hc _ q => by
      rw [List.mem_singleton] at q
      obtain ⟨_, o', ho', hc'⟩ := hm₂
      rw [q, ho'] at ho; cases ho
      rw [hc] at hc'; exact absurd hc' (by decide)⟩
  refine ⟨φ', H', _, ((hF.weak hX e).trans e₂).kept k₃ (by simpa using hC0), S₃, F₂.off (s' := { s₂ with heap := h' }) kp ow off fun o ho => ⟨o.slots, k₃.1 _ o off.loc ho⟩, hq⟩
theorem sound_ite {t : Expr} {xt : Ex} {a b : List Stmt} {xa xb : List St} {pos : Pos} (hX : EnvX true env X) (ht : SoundT c env res t xt) (ha : SoundSs c env res X a xa) (hb : SoundSs c env res X b xb) : SoundS c env res X (.If t a b pos) (.ite xt xa xb) := fun A q d k loc φ H s Q E hA hh hF hS hw => by
  simp only [wpS, wpT] at hw
  refine wpAny_If (wpAny_mono (ht A q d k loc φ H s _ _ hA hF hS hw) ?_ fun _ _ h => OutX.toS hF hX h)
  rintro t s₁ ⟨φ₁, H₁, e₁, S₁, w₁⟩
  have e₁' := hF.weak hX e₁
  cases t with
  | true => exact wpAny_mono (ha A q d k loc φ₁ H₁ s₁ Q E (hA.mono e₁) hh (hF.mono e₁) S₁ w₁) (fun _ _ h => h.lift e₁') fun _ _ h => h.lift e₁' S₁
  | false => exact wpAny_mono (hb A q d k loc φ₁ H₁ s₁ Q E (hA.mono e₁) hh (hF.mono e₁) S₁ w₁) (fun _ _ h => h.lift e₁') fun _ _ h => h.lift e₁' S₁
theorem sound_while {t : Expr} {xt : Ex} {b : List Stmt} {xb : List St} {pos : Pos} (hX : EnvX true env X) (ht : SoundT c env res t xt) (hb : SoundSs c env res X b xb) : SoundS c env res X (.While t b [] pos) (.whil xt xb) := fun A q d k loc φ H s Q E hA hh hF hS hw => by
  simp only [wpS] at hw
  obtain ⟨rfl, I, ⟨n₀, h₀⟩, step⟩ := hw
  refine wpAny_While (codeAny_whileLoop (fun n s' => ∃ φ' H' l', Ext X φ s φ' s' ∧ Sim c φ' H' s' ∧ FSim c env res k l' φ' s'.heap ∧ I n l' H') ?_ n₀ ⟨φ, H, loc, Ext.refl, hS, hF, h₀⟩)
  rintro n s₁ ⟨φ₁, H₁, l₁, e₁, S₁, F₁, hI⟩
  have hA₁ := hA.monoX e₁
  have w := step n l₁ H₁ hI
  simp only [wpT] at w
  refine wpAny_mono (ht A true d k l₁ φ₁ H₁ s₁ _ _ hA₁ F₁ S₁ w) ?_ fun _ _ h => OutX.no h
  rintro t s₂ ⟨φ₂, H₂, e₂, S₂, w₂⟩
  have e₁₂ := e₁.trans (F₁.weak hX e₂)
  cases t with
  | true =>
    simp only [if_true]
    refine wpAny_mono (hb A true d k l₁ φ₂ H₂ s₂ _ _ (hA.monoX e₁₂) hh (F₁.mono e₂) S₂ w₂) ?_ fun _ _ h => OutSX.no h
    rintro f s₃ ⟨φ₃, H₃, l₃, e₃, S₃, F₃, w₃⟩
    cases f with
    | next =>
      obtain ⟨m, hm, hI'⟩ := w₃
      exact ⟨m, hm, φ₃, H₃, l₃, e₁₂.trans e₃, S₃, F₃, hI'⟩
    | ret r =>
      obtain ⟨v, R, w⟩ := w₃
      exact ⟨φ₃, H₃, l₃, e₁₂.trans e₃, S₃, F₃, v, R, w⟩
    | brk => exact w₃.elim
    | cont => exact w₃.elim
  | false =>
    simp only [Bool.false_eq_true, if_false]
    exact wpAny_execs_nil ⟨φ₂, H₂, l₁, e₁₂, S₂, F₁.mono e₂, w₂⟩
def SoundSr (c : Cx) (env : Env) (res : Res) (tg : Expr) (iter : Expr) (x : Sr) : Prop :=
  ∀ A d k loc φ H s (Q : List V → (Hp → Prop) → Hp → Prop) E, OkF c A true d φ s.heap → FSim c env res k loc φ s.heap → Sim c φ H s → wpSr (Calls c) true d k x loc Q E H →
    wpAny (model c.prog c.w) A (eval iter env) (fun x s₁ => wpAny (model c.prog c.w) A (pyIter x) (fun it s₂ => ∃ φ₁ H₁ items ok wr St, Ext [] φ s φ₁ s₂ ∧ Sim c φ₁ H₁ s₂ ∧ Itr c A it tg wr items ok St ∧ St 0 φ₁ s₂.heap ∧
      (∀ b ∈ wr, s.heap.get? b = none) ∧ ok H₁ ∧ Q items ok H₁) (OutX c φ s E) s₁) (OutX c φ s E) s
theorem sr_val {tg iter : Expr} {x : Ex} (h : SoundE c env res iter x) : SoundSr c env res tg iter (.val x) := fun A d k loc φ H s Q E hA hF hS hw => by
  simp only [wpSr] at hw
  refine wpAny_mono (h A true d k loc φ H s _ E hA hF hS hw) ?_ fun _ _ h => h
  rintro r s₁ ⟨φ₁, H₁, v₁, e₁, S₁, R₁, w₁⟩
  split at w₁
  · rename_i items hi
    refine wpAny_mono (iter_val (hA.hd rfl) S₁ R₁ hi (tg := tg)) ?_ fun _ _ h => h
    rintro it s₂ ⟨wr, St, e₂, S₂, I, st, hn⟩
    refine ⟨φ₁, H₁, items, _, wr, St, e₁.trans e₂, S₂, I, st, fun b hb => e₁.fresh S₁ (hn b hb), ?_, w₁⟩
    unfold okV
    split
    · simpa only [srcV] using hi
    · trivial
  · exact w₁.elim
theorem sound_for {tg iter : Expr} {t : Tg} {sr : Sr} {b : List Stmt} {xb : List St} {pos : Pos} (hX : EnvX true env X) (hs : ∀ x, foldedSetIterable iter env x = pure x) (hsr : SoundSr c env res tg iter sr) (htg : TgOk true env res res tg t) (hb : SoundSs c env res X b xb) :
    SoundS c env res X (.For tg iter b [] pos) (.loop t sr xb) := fun A q d k loc φ H s Q E hA hh hF hS hw => by
  simp only [wpS] at hw
  obtain ⟨rfl, hw⟩ := hw
  refine wpAny_For (wpAny_mono (hsr A d k loc φ H s _ _ hA hF hS hw) (fun x s₁ h₁ => wpAny_mono h₁ ?_ fun _ _ h => OutX.toS hF hX h) fun _ _ h => OutX.toS hF hX h) hs
  rintro it s₂ ⟨φ₁, H₁, items, ok, wr, St, e₁, S₁, I, st₁, hn, hok, w₁⟩
  have hcl : A.handled = none := hA.hd rfl
  refine codeAny_forLoop_any (fun n s' => ∃ i φ' H' l', n = items.length - i + 1 ∧ i ≤ items.length ∧ Ext X φ s φ' s' ∧ Sim c φ' H' s' ∧ FSim c env res k l' φ' s'.heap ∧ St i φ' s'.heap ∧ ok H' ∧ wpFor ok (fun x l Q H => match bindT t x l with
      | some l' => wpSs (Calls c) true d k xb l' Q E H
      | none => False) (items.drop i) l' Q H') ?_ (items.length + 1) ⟨0, φ₁, H₁, loc, rfl, Nat.zero_le _, hF.weak hX e₁, S₁, hF.mono e₁, st₁, hok, by rw [List.drop_zero]; exact w₁⟩
  rintro n s₃ ⟨i, φ₃, H₃, l₃, rfl, hi, e₃, S₃, F₃, st₃, hok₃, w₃⟩
  have its := I.seen _ _ _ st₃
  by_cases hlt : i < items.length
  · have hx : items[i]? = some items[i] := List.getElem?_eq_getElem hlt
    rw [List.drop_eq_getElem_cons hlt] at w₃
    generalize items[i] = x at hx w₃
    simp only [wpFor] at w₃
    refine wpAny_mono (I.item i x φ₃ H₃ s₃ _ hx st₃ S₃ hok₃) ?_ fun _ _ h => h
    rintro r s₄ ⟨v, rfl, h₄⟩
    refine wpAny_mono h₄ ?_ fun _ _ h => h
    rintro _ s₅ ⟨k₅, st₅, R₅⟩
    have S₅ := S₃.kept k₅ its
    have F₅ := F₃.kept its k₅
    have e₅ := e₃.kept k₅ hn
    cases hbt : bindT t x l₃ with
    | none => rw [hbt] at w₃; exact w₃.elim
    | some l' =>
      rw [hbt] at w₃
      refine wpAny_mono (bind_tgt hcl hX htg hbt F₅ S₅ R₅) ?_ fun _ _ h => h
      rintro _ s₆ ⟨F₆, S₆, e₆, k₆⟩
      have hwX : ∀ b ∈ wr, b ∉ X := fun b hb hm => by
        have off := Off.its F₅ (I.seen _ _ _ st₅)
        rcases hX.only b hm with rfl | ⟨y, hy⟩
        · exact off.loc hb
        · exact off.cells y b hy hb
      have st₆ := I.frame _ _ _ _ _ _ st₅ e₆.toKp (F₅.ownX hX) hwX
      have e₀₆ := e₅.trans e₆
      refine wpAny_mono (hb A true d k l' φ₃ H₃ s₆ _ _ (hA.monoX e₀₆) hh F₆ S₆ w₃) ?_ fun _ _ h => note_back hA hh (h.lift e₀₆ S₆)
      rintro f s₇ ⟨φ₇, H₇, l₇, e₇, S₇, F₇, w₇⟩
      have st₇ := I.frame _ _ _ _ _ _ st₆ e₇.toKp (F₆.ownX hX) hwX
      cases f with
      | next => exact ⟨items.length - (i + 1) + 1, by omega, i + 1, φ₇, H₇, l₇, rfl, hlt, e₀₆.trans e₇, S₇, F₇, st₇, w₇⟩
      | ret r =>
        obtain ⟨v, R, w⟩ := w₇
        exact ⟨φ₇, H₇, l₇, e₀₆.trans e₇, S₇, F₇, v, R, w⟩
      | brk => exact w₇.elim
      | cont => exact w₇.elim
  · have hil : i = items.length := by omega
    subst hil
    rw [List.drop_length] at w₃
    simp only [wpFor] at w₃
    refine wpAny_mono (I.done φ₃ H₃ s₃ _ st₃ S₃ hok₃) ?_ fun _ _ h => h
    rintro r s₄ ⟨rfl, k₄⟩
    exact wpAny_execs_nil ⟨φ₃, H₃, l₃, e₃.kept k₄ hn, S₃.kept k₄ its, F₃.kept its k₄, w₃⟩
end
end Bn
namespace Bn
open PySem PyProof.Rows
def cellObj : Obj := { cls := .type "cell", data := .cell none }
theorem cells_cls : ∀ (names : List (Str × NameKind)) (h : Heap) (acc : List (Str × Addr)), (∀ n ca, (n, ca) ∈ acc → h.get? ca = some cellObj) →
    ∀ n ca, (n, ca) ∈ cellsFrom h.objs.size names acc → (pushCells h names).get? ca = some cellObj
  | [], _, _, x, n, ca, hm => x n ca hm
  | (name, kind) :: r, h, acc, x, n, ca, hm => by
    unfold cellsFrom at hm
    unfold pushCells
    split
    · rename_i hk
      rw [if_pos hk] at hm
      have := cells_cls r (h.push cellObj) ((name, h.objs.size) :: acc) (fun n' c' hm' => by
        rcases List.mem_cons.mp hm' with e | hm'
        · cases e; exact Heap.get?_push_size _ rfl
        · exact Heap.get?_push_of_some _ (x n' c' hm')) n ca (by rw [Heap.size_push]; exact hm)
      exact this
    · rename_i hk
      rw [if_neg hk] at hm
      exact cells_cls r h acc x n ca hm
theorem cells_some : ∀ {names : List (Str × NameKind)} {k : Nat} {acc : List (Str × Addr)} {x : Str}, ((x, NameKind.cell) ∈ names ∨ (acc.lookup x).isSome) → ((cellsFrom k names acc).lookup x).isSome
  | [], _, acc, x, h => by
    rcases h with h | h
    · cases h
    · exact h
  | (n, kd) :: r, k, acc, x, h => by
    unfold cellsFrom
    split
    · rename_i hk
      refine cells_some ?_
      rcases h with h | h
      · rcases List.mem_cons.mp h with e | h
        · cases e
          right; simp
        · exact .inl h
      · right
        rw [List.lookup_cons]
        cases x == n <;> simp [h]
    · rename_i hk
      refine cells_some ?_
      rcases h with h | h
      · rcases List.mem_cons.mp h with e | h
        · cases e; exact absurd rfl hk
        · exact .inl h
      · exact .inr h
theorem pushCells_size_le : ∀ (names : List (Str × NameKind)) (h : Heap), h.objs.size ≤ (pushCells h names).objs.size
  | [], _ => Nat.le_refl _
  | (_, kind) :: r, h => by
    unfold pushCells
    split
    · refine Nat.le_trans ?_ (pushCells_size_le r _)
      rw [Heap.size_push]; exact Nat.le_succ _
    · exact pushCells_size_le r h
def XS (env : Env) : List Addr := env.locals :: env.cells.filterMap fun p => env.cells.lookup p.1
def StoresP (env : Env) (res : Res) : List Str → Nat → Prop
  | [], _ => True
  | x :: r, i => StoreOk true env res res x i ∧ StoresP env res r (i + 1)
def putAt : Nat → List V → Loc → Loc
  | _, [], l => l
  | i, v :: vs, l => putAt (i + 1) vs (l.set i (some v))
theorem putAt_eq : ∀ (vs : List V) (p : Loc) (k : Nat), putAt p.length vs (p ++ List.replicate (vs.length + k) none) = p ++ vs.map some ++ List.replicate k none
  | [], p, k => by simp [putAt]
  | v :: vs, p, k => by
    have ih := putAt_eq vs (p ++ [some v]) k
    simp only [putAt]
    rw [show (v :: vs).length + k = (vs.length + k) + 1 by simp; omega, List.replicate_succ]
    rw [List.set_append_right _ _ (Nat.le_refl _)]
    simp only [Nat.sub_self, List.set_cons_zero]
    simp only [List.length_append, List.length_cons, List.length_nil] at ih
    rw [show p ++ some v :: List.replicate (vs.length + k) none = p ++ [some v] ++ List.replicate (vs.length + k) none by simp]
    rw [ih]; simp
section
variable {c : Cx}
theorem store_params {A : Around} {E : Value → Shared → Prop} {env : Env} {res : Res} {φ : List Addr} {H : Hp} {X : List Addr} (hX : EnvX true env X) (f : Str × Value → PUnit → Sem (ForInStep PUnit)) (hf : ∀ n v u, f (n, v) u = (do storeName env n v; pure (.yield ⟨⟩))) :
    ∀ {ps : List Str} {i : Nat} {vs : List V} {rs : List Value} {loc : Loc} {s : Shared} {Q : PUnit → Shared → Prop}, StoresP env res ps i → vs.length = ps.length → FSim c env res none loc φ s.heap → Sim c φ H s → RepL c φ s.heap vs rs →
      (∀ s', FSim c env res none (putAt i vs loc) φ s'.heap → Sim c φ H s' → Ext X φ s φ s' → Q ⟨⟩ s') → wpAny (model c.prog c.w) A (forIn (ps.zip rs) ⟨⟩ f) Q E s
  | [], _, [], _, _, s, Q, _, _, F, S, _, hQ => by
    rw [List.zip_nil_left, List.forIn_nil]; exact wpAny_pure (hQ s F S Ext.refl)
  | x :: ps, i, v :: vs, r :: rs, loc, s, Q, hp, hl, F, S, R, hQ => by
    simp only [RepL] at R
    rw [List.zip_cons_cons, List.forIn_cons, hf]
    refine wpAny_bind (wpAny_bind (wpAny_mono (store_ok F S hp.1 hX R.1) ?_ fun _ _ h => h))
    rintro _ s₁ ⟨F₁, S₁, e₁, _⟩
    refine wpAny_pure ?_
    exact store_params hX f hf hp.2 (by simpa using hl) F₁ S₁ (RepL.mono e₁.toKp (F.ownX hX) R.2) fun s₂ F₂ S₂ e₂ => hQ s₂ F₂ S₂ (e₁.trans e₂)
  | [], _, _ :: _, _, _, _, _, _, hl, _, _, _, _ => by simp at hl
  | _ :: _, _, [], _, _, _, _, _, hl, _, _, _, _ => by simp at hl
  | _ :: _, _, _ :: _, [], _, _, _, _, _, _, _, R, _ => by simp only [RepL] at R
structure FunOk (c : Cx) (f : Str) (a : Addr) (o : Obj) (fd : FuncData) (body : List Stmt) (ps : List Str) (res : Res) : Prop where
  g : c.g f = some (.ref a)
  ho : c.h0.get? a = some o
  hd : o.data = .func fd
  code : c.h0.CodeRec fd.code fd.qualname
  hbody : fd.body = .stmts body
  clo : fd.closure = []
  gl : fd.globals = mainGlobals
  bl : fd.builtins = builtinsNs
  kind : fd.scope.kind = .function
  co : fd.scope.isCoroutine = false
  gen : fd.scope.isGenerator = false
  bind : ∀ vals : List Value, vals.length = ps.length → bindArgs fd ⟨vals, []⟩ = pure (ps.zip vals)
  fr : res.fr = true
  hres : ∀ x i, res.lookup x = some i → fd.scope.names.lookup x = some .local ∨ fd.scope.names.lookup x = some .cell
  par : ∀ L, StoresP (callEnvC fd L a) res ps 0
  np : ps.length ≤ res.n
theorem envX_call (fd : FuncData) (L a : Addr) (h : Heap) (hL : h.objs.size = L + 1) : EnvX true (callEnvC fd L a) (XS (callEnvC fd L a)) where
  loc := by simp [XS]
  cell _ x ca hk hx := by
    have ok := cellsFrom_ok fd.scope.names h (L + 1) [] ⟨fun _ _ hm => (nomatch hm), List.Pairwise.nil⟩ (by rw [hL]; exact Nat.le_refl _)
    rw [hL] at ok
    have hm := mem_of_lookup hx
    refine ⟨(ok.empty x ca hm).2, ?_, fun y hy => name_of_addr ok.apart (mem_of_lookup hy) hm⟩
    simp only [XS, List.mem_cons, List.mem_filterMap]
    exact .inr ⟨(x, ca), hm, hx⟩
  only b hb := by
    simp only [XS, List.mem_cons, List.mem_filterMap] at hb
    rcases hb with rfl | ⟨p, _, hp⟩
    · exact .inl rfl
    · exact .inr ⟨p.1, hp⟩
theorem calls_of {f : Str} {a : Addr} {o : Obj} {fd : FuncData} {body : List Stmt} {ps : List Str} {res : Res} {xs : List St} (O : c.Ok) (K : FunOk c f a o fd body ps res)
    (hbod : ∀ L, EnvX true (callEnvC fd L a) (XS (callEnvC fd L a)) → SoundSs c (callEnvC fd L a) res (XS (callEnvC fd L a)) body xs)
    {q : Bool} {d : Nat} {vs : List V} {Q : V → Hp → Prop} {E : XPost} {H : Hp} (hlen : vs.length = ps.length)
    (hw : wpSs (Calls c) q d none xs (vs.map some ++ List.replicate (res.n - vs.length) none) (fun f _ H => match f with
      | .ret v => Q v H
      | .next => Q .none H) (fun x _ H => E x H) H) : Calls c q (d + 1) f vs none Q E H := by
  refine ⟨a, o, fd, K.g, K.ho, K.hd, fun A φ s args extra hA S R hex => ?_⟩
  simp only [CloArg] at hex; subst hex
  rw [List.append_nil]
  have hdep := hA.dep
  have hun := hA.un
  refine codeAny_call_function (by show _ < 1000; omega) (S.stays a o K.ho) K.hd K.co K.gen K.hbody (K.code.keeps S.stays) ?_
  rw [K.bind args (by rw [RepL.length R, hlen]), K.clo]
  refine wpAny_pure ?_
  simp only [newFunctionEnv, Option.isSome_none, Bool.false_eq_true, if_false]
  refine wpAny_bind (wpAny_alloc ?_)
  refine wpAny_bind (wpAny_layCells _ (fun name kind cells => by cases hkc : kind == NameKind.cell <;> simp [hkc]) _ _ _ _ ?_)
  generalize hs₁ : s.heap.push { cls := .type "frame", data := .dict #[] } = h₁
  have hz₁ : h₁.objs.size = s.heap.objs.size + 1 := by rw [← hs₁, Heap.size_push]
  rw [show ({ s with heap := h₁ } : Shared).heap.objs.size = s.heap.objs.size + 1 from hz₁]
  have keep : ∀ b o, s.heap.get? b = some o → (pushCells h₁ fd.scope.names).get? b = some o := fun b o hb => pushCells_keeps _ _ b o (by rw [← hs₁]; exact Heap.get?_push_of_some _ hb)
  have hL₁ : (pushCells h₁ fd.scope.names).get? s.heap.objs.size = some { cls := .type "frame", data := .dict #[] } := pushCells_keeps _ _ _ _ (by rw [← hs₁]; exact Heap.get?_push_size _ rfl)
  have hX := envX_call fd s.heap.objs.size a h₁ hz₁
  have e₁ : Ext [] φ s φ { s with heap := pushCells h₁ fd.scope.names } := Ext.of_keeps keep rfl
  have S₁ : Sim c φ H { s with heap := pushCells h₁ fd.scope.names } := S.keeps (s' := { s with heap := pushCells h₁ fd.scope.names }) keep rfl
  have cellok : ∀ x ca, (cellsFrom (s.heap.objs.size + 1) fd.scope.names []).lookup x = some ca → (pushCells h₁ fd.scope.names).get? ca = some cellObj ∧ s.heap.objs.size < ca := fun x ca hx => by
    have hm := mem_of_lookup hx
    rw [← hz₁] at hm
    have ok := cellsFrom_ok fd.scope.names h₁ (s.heap.objs.size + 1) [] ⟨fun _ _ hm => (nomatch hm), List.Pairwise.nil⟩ (by rw [hz₁]; exact Nat.le_refl _)
    exact ⟨cells_cls fd.scope.names h₁ [] (fun _ _ hm => nomatch hm) x ca hm, (ok.empty x ca hm).2⟩
  have newφ : ∀ b, s.heap.objs.size ≤ b → b ∉ φ ∧ c.h0.get? b = none ∧ s.heap.get? b = none := fun b hb =>
    ⟨fun hm => Nat.lt_irrefl _ (Nat.lt_of_lt_of_le (S.lt hm) hb), S.h0_new hb, Heap.get?_none_of_le hb⟩
  have F₁ : FSim c (callEnvC fd s.heap.objs.size a) res none (List.replicate res.n none) φ (pushCells h₁ fd.scope.names) := by
    refine ⟨K.kind, K.gl, K.bl, ⟨fun _ => none, ⟨⟨_, _, _, hL₁, rfl, by intro e he; simp at he, fun _ => by simp [nsFind, findBy]⟩, _, hL₁, .inl ⟨rfl, K.fr⟩⟩, fun x i hx => ?_, fun kk z hz => by cases hz⟩, by simp, (newφ _ (Nat.le_refl _)).1, (newφ _ (Nat.le_refl _)).2.1, fun x ca hx => ?_⟩
    · have hget : (List.replicate res.n (none : Option V)).getD i none = none := by
        simp only [List.getD_eq_getElem?_getD, List.getElem?_replicate]
        split <;> rfl
      rw [hget]
      unfold SlotAt
      have hkk : (callEnvC fd s.heap.objs.size a).kindOf x = fd.scope.names.lookup x := rfl
      rw [hkk]
      rcases K.hres x i hx with h | h <;> rw [h]
      have := cells_some (k := s.heap.objs.size + 1) (acc := []) (x := x) (.inl (mem_of_lookup h))
      obtain ⟨ca, hca⟩ := Option.isSome_iff_exists.mp this
      exact ⟨ca, none, hca, ⟨_, (cellok x ca hca).1, rfl⟩, rfl⟩
    · obtain ⟨h1, h2⟩ := cellok x ca hx
      exact ⟨(newφ ca (Nat.le_of_lt h2)).1, (newφ ca (Nat.le_of_lt h2)).2.1, _, h1, rfl⟩
  refine wpAny_bind (store_params (c := c) (env := callEnvC fd s.heap.objs.size a) (X := XS (callEnvC fd s.heap.objs.size a)) (s := { s with heap := pushCells h₁ fd.scope.names }) hX _ (fun _ _ _ => rfl) (K.par _) hlen F₁ S₁ (RepL.mono e₁.toKp OwnX.nil R) fun s₂ F₂ S₂ e₂ => ?_)
  refine wpAny_pure ⟨O.lim.keeps S₂.stays, codeAny_func ?_⟩
  have hXn : ∀ b ∈ XS (callEnvC fd s.heap.objs.size a), s.heap.get? b = none := fun b hb => by
    rcases hX.only b hb with rfl | ⟨x, hx⟩
    · exact (newφ _ (Nat.le_refl _)).2.2
    · exact (newφ b (Nat.le_of_lt (cellok x b hx).2)).2.2
  have e₁' : Ext (XS (callEnvC fd s.heap.objs.size a)) φ s φ { s with heap := pushCells h₁ fd.scope.names } := e₁.weaken (by simp) fun b hb => (FSim.outX (s := { s with heap := pushCells h₁ fd.scope.names }) F₁ hX b hb).1
  have e₀₂ := e₁'.trans e₂
  have hloc : putAt 0 vs (List.replicate res.n none) = vs.map some ++ List.replicate (res.n - vs.length) none := by
    have := putAt_eq vs [] (res.n - vs.length)
    have hn := K.np
    rw [show vs.length + (res.n - vs.length) = res.n by omega] at this
    simpa using this
  rw [hloc] at F₂
  obtain ⟨fr, hfr, hfrs⟩ := (hA.mono e₀₂).fr
  have hEnv : EnvOk c φ s₂.heap (callEnvC fd s.heap.objs.size a) := by
    obtain ⟨m, ⟨⟨o1, es, n, ho1, hd1, _⟩, o2, ho2, hc2⟩, _⟩ := F₂.ns
    rw [ho1] at ho2; cases ho2
    rcases hc2 with hc2 | hc2
    · exact ⟨⟨by rw [show (callEnvC fd s.heap.objs.size a).scope.kind = fd.scope.kind from rfl, K.kind]; decide, K.gen, K.co, K.bl, K.gl⟩, s.heap.objs.size, o1, es, n, rfl, F₂.L0, F₂.Lφ, ho1, hd1, hc2.1⟩
    · rw [K.fr] at hc2; cases hc2.2.2
  have hA₂ : OkF c (A.deeper (callEnvC fd s.heap.objs.size a)) q d φ s₂.heap :=
    ⟨⟨by show A.depth + 1 + d ≤ 890; omega, by show A.units + 3 + 10 * d ≤ 9000; omega, hA.hd, _, by show A.frames.map _ = _; rw [hfr]; rfl, fun env he => by
      rcases List.mem_cons.mp he with rfl | he
      · exact hEnv
      · exact hfrs env he⟩, by show A.frames.map _ ≠ _; rw [hfr]; simp⟩
  have hHead : HeadF (A.deeper (callEnvC fd s.heap.objs.size a)) (callEnvC fd s.heap.objs.size a) := ⟨fr, by show A.frames.map _ = _; rw [hfr]; rfl⟩
  refine wpAny_mono (hbod _ hX _ q d none _ φ H s₂ _ _ hA₂ hHead F₂ S₂ hw) ?_ ?_
  · rintro f s₃ ⟨φ₃, H₃, l₃, e₃, S₃, F₃, w₃⟩
    have e₀₃ := (e₀₂.trans e₃).drop hXn
    cases f with
    | next => exact ⟨φ₃, H₃, .none, e₀₃, S₃, by simp [Rep], w₃⟩
    | ret r => obtain ⟨v, Rv, w⟩ := w₃; exact ⟨φ₃, H₃, v, e₀₃, S₃, Rv, w⟩
    | brk => exact w₃.elim
    | cont => exact w₃.elim
  · rintro x s₃ ⟨φ₃, H₃, l₃, v, e₃, S₃, F₃, Rx, w₃⟩
    obtain ⟨fr', hfr', hfrs'⟩ := (hA₂.mono e₃).fr
    obtain ⟨outer, hout⟩ := hHead
    rw [hout] at hfr'; cases hfr'
    unfold leaving
    refine wpAny_bind (wpAny_mono (note_frame hout hfrs' S₃ e₃ Rx) ?_ fun _ _ h => h)
    rintro _ s₄ ⟨xs', hx', hn', n', R₄, ht⟩
    have e₄ := e₃.noted n' hn'
    have S₄ := S₃.noted n' hx'
    refine wpAny_mono (set_flight R₄ ht) ?_ fun _ _ h => h
    rintro _ s₅ ⟨xs'', hx'', hn'', n'', R₅, ht'⟩
    have e₅ := e₄.noted n'' hn''
    have S₅ := S₄.noted n'' hx''
    exact ⟨φ₃, H₃, v, (e₀₂.trans e₅).drop hXn, S₅, R₅.lift e₀₂ S₂, w₃⟩
end
end Bn
namespace Bn
open PySem PyProof.Rows
section
variable {c : Cx} {env : Env} {res : Res}
theorem call_one {f : Str} {p pos : Pos} {e : Expr} {x : Ex} {F : Value} (O : c.Ok) (hF' : ∀ a, F ≠ .ref a) (hk : env.kindOf f = some .globalImplicit) (hg : c.g f = none) (hb : c.b f = some F) (hx : (f == ("__debug__" : Str)) = false) (hn : notStar e = true) (h : SoundE c env res e x)
    {A q d k loc φ H s Q} {E : XPost} {R : Value → Shared → Prop} (hA : OkF c A q d φ s.heap) (hF : FSim c env res k loc φ s.heap) (hS : Sim c φ H s) (hw : wpE (Calls c) q d k x loc Q E H)
    (hR : ∀ r s₁, Out c φ s Q r s₁ → wpAny (model c.prog c.w) A (call F [r]) R (OutX c φ s E) s₁) : wpAny (model c.prog c.w) A (eval (.Call (.Name f p) [e] [] pos) env) R (OutX c φ s E) s := by
  show wpAny _ _ (eval (.Name f p) env >>= fun fv => callWith pos fv [] (backTo pos (starEach [e] env)) []) _ _ _
  refine wpAny_bind (Calls.Name_function_global hF.fn hk (Calls.loadGlobal_builtin (by rw [hF.gl]; exact O.gl.keeps hS.stays) hg (by rw [hF.bl]; exact O.bl.keeps hS.stays) hb ?_) hx)
  have hl : SoundL c env res [e] [x] := soundL_cons hn h soundL_nil
  have hw' : wpL (Calls c) q d k [x] loc (fun vs H => match vs with | [v] => Q v H | _ => False) E H := by
    simp only [wpL]
    exact hw
  refine callWith_plain hF' (notStars hl.1.1) (wpAny_mono (args_of hl (by simp) hA hF hS hw') ?_ fun _ _ h => h)
  rintro _ s₁ ⟨rs, rfl, φ₁, H₁, vs, e₁, S₁, R₁, l₁, w₁⟩
  match vs, l₁ with
  | [v], _ =>
    obtain ⟨r, rfl, Rr⟩ := R₁.one
    exact hR r s₁ ⟨φ₁, H₁, v, e₁, S₁, Rr, w₁⟩
theorem sr_rev {tg : Expr} {f : Str} {p pos : Pos} {e : Expr} {x : Ex} (O : c.Ok) (hk : env.kindOf f = some .globalImplicit) (hg : c.g f = none) (hb : c.b f = some (.type "reversed")) (hx : (f == ("__debug__" : Str)) = false) (hn : notStar e = true) (h : SoundE c env res e x) :
    SoundSr c env res tg (.Call (.Name f p) [e] [] pos) (.rev x) := fun A d k loc φ H s Q E hA hF hS hw => by
  simp only [wpSr] at hw
  refine call_one O (by intro a h; cases h) hk hg hb hx hn h hA hF hS hw ?_
  rintro r s₁ ⟨φ₁, H₁, v₁, e₁, S₁, R₁, w₁⟩
  have hh : A.handled = none := hA.hd rfl
  split at w₁
  · split at w₁
    · rename_i i _ items hi
      obtain ⟨a, us, n, rfl, ha, ho, hr, hz, z⟩ := S₁.getP R₁ hi
      have hlen : us.size = items.length := by rw [← RepL.length hr]; simp
      refine call_reversed_list ⟨_, ho, rfl, n, rfl⟩ ?_
      have hit : (s₁.heap.push (revObj a ((us.size : Int) - 1))).IsRevIter s₁.heap.objs.size a ((items.length : Int) - 1 - (0 : Nat)) := ⟨_, Heap.get?_push_size _ rfl, rfl, by
        show Data.fields #[.ref a, rawInt ((us.size : Int) - 1)] = _
        rw [hlen]; simp [rawInt]⟩
      refine wpAny_pyIter_revIter (s := { s₁ with heap := s₁.heap.push (revObj a ((us.size : Int) - 1)) }) hit ?_
      have e₂ : Ext [] φ₁ s₁ φ₁ { s₁ with heap := s₁.heap.push (revObj a ((us.size : Int) - 1)) } := Ext.push
      have h0 := S₁.h0_new (Nat.le_refl s₁.heap.objs.size)
      exact ⟨φ₁, H₁, _, _, [s₁.heap.objs.size], _, e₁.trans e₂, S₁.push _, itr_rev hh (a := a) (j := i) h0, ⟨hit, ha, S₁.new⟩, fun b hb => by rw [List.mem_singleton.mp hb]; exact e₁.fresh S₁ (Heap.get?_none_of_le (Nat.le_refl _)), hi, w₁⟩
    · exact w₁.elim
  · exact w₁.elim
theorem sr_enum {es : List Expr} {x1} {tp : Pos} {f : Str} {p pos : Pos} {e : Expr} {x : Ex} (O : c.Ok) (hk : env.kindOf f = some .globalImplicit) (hg : c.g f = none) (hb : c.b f = some (.type "enumerate")) (hx : (f == ("__debug__" : Str)) = false) (hn : notStar e = true) (h : SoundE c env res e x) :
    SoundSr c env res (.Tuple es x1 tp) (.Call (.Name f p) [e] [] pos) (.enum x) := fun A d k loc φ H s Q E hA hF hS hw => by
  simp only [wpSr] at hw
  refine call_one O (by intro a h; cases h) hk hg hb hx hn h hA hF hS hw ?_
  rintro r s₁ ⟨φ₁, H₁, v₁, e₁, S₁, R₁, w₁⟩
  have hh : A.handled = none := hA.hd rfl
  split at w₁
  · split at w₁
    · rename_i i _ items hi
      obtain ⟨a, us, n, rfl, ha, ho, hr, hz, z⟩ := S₁.getP R₁ hi
      refine call_enumerate_list ⟨_, ho, rfl, n, rfl⟩ fun h' he hit hsz hk' => ?_
      refine wpAny_pyIter_enum (s := { s₁ with heap := h' }) he ?_
      have e₂ : Ext [] φ₁ s₁ φ₁ { s₁ with heap := h' } := Ext.of_keeps hk' rfl
      have h0 := S₁.h0_new (Nat.le_refl s₁.heap.objs.size)
      have h0' := S₁.h0_new (Nat.le_succ s₁.heap.objs.size)
      refine ⟨φ₁, H₁, _, _, [s₁.heap.objs.size + 1, s₁.heap.objs.size], _, e₁.trans e₂, S₁.keeps (s' := { s₁ with heap := h' }) hk' rfl, itr_enum hh (a := a) (j := i) h0 h0' (Nat.succ_ne_self _), ⟨⟨.none, by simpa using he⟩, hit, ha, S₁.new, fun hm => ?_⟩, fun b hb => ?_, hi, w₁⟩
      · exact Nat.lt_irrefl _ (Nat.lt_trans (Nat.lt_succ_self _) (S₁.lt hm))
      · simp only [List.mem_cons, List.not_mem_nil, or_false] at hb
        rcases hb with rfl | rfl
        · exact e₁.fresh S₁ (Heap.get?_none_of_le (Nat.le_succ _))
        · exact e₁.fresh S₁ (Heap.get?_none_of_le (Nat.le_refl _))
    · exact w₁.elim
  · exact w₁.elim
theorem sound_dict0 {pos : Pos} : SoundE c env res (.Dict [] [] pos) .dict0 := fun A q d k loc φ H s Q E hA hF hS hw => by
  simp only [wpE] at hw
  refine wpAny_Dict_empty ?_
  refine ⟨φ, H, .dict0, Ext.push, hS.push _, ?_, hw⟩
  simp only [Rep]
  exact ⟨_, _, _, _, rfl, hS.new, Heap.get?_push_size _ rfl, rfl, rfl⟩
end
end Bn
namespace Bn
open PySem PyProof.Rows
inductive Gk | fn | val (v : V) | blt (b : Bl) | isi | enum | rev
structure Tab where
  g : List (Str × Gk)
  t : List (Str × Tc)
def okName (x : Str) : Bool := !(x == ("__debug__" : Str)) && !(x == ("__classdict__" : Str))
def opOf : Operator → Option Op
  | .Add => some .add | .Sub => some .sub | .Mult => some .mul | .FloorDiv => some .div | .Mod => some .mod | .Pow => some .pow | _ => none
theorem opOf_real {o : Operator} {p : Op} (h : opOf o = some p) : o = p.real := by
  cases o <;> simp only [opOf, Option.some.injEq, reduceCtorEq] at h <;> subst h <;> rfl
def cmOf : CmpOp → Option Cm
  | .Lt => some .lt | .LtE => some .le | .Gt => some .gt | .GtE => some .ge | .Eq => some .eq | .NotEq => some .ne | .In => some .isIn | .NotIn => some .notIn | .Is => some .is | .IsNot => some .isNot
theorem cmOf_real {o : CmpOp} {p : Cm} (h : cmOf o = some p) : o = p.real := by
  cases o <;> simp only [cmOf, Option.some.injEq, reduceCtorEq] at h <;> subst h <;> rfl
def cmsOf : List CmpOp → Option (List Cm)
  | [] => some []
  | o :: os => match cmOf o, cmsOf os with
    | some p, some ps => some (p :: ps)
    | _, _ => none
theorem cmsOf_real : ∀ {os : List CmpOp} {ps : List Cm}, cmsOf os = some ps → os = ps.map Cm.real
  | [], ps, h => by simp only [cmsOf, Option.some.injEq] at h; subst h; rfl
  | o :: os, ps, h => by
    unfold cmsOf at h
    split at h
    · rename_i p ps' h1 h2
      simp only [Option.some.injEq] at h; subst h
      rw [cmOf_real h1, cmsOf_real h2]; rfl
    · cases h
def meOf (x : Str) : Option Me := [Me.append, Me.extend, Me.pop, Me.count, Me.index, Me.join].find? fun m => m.nm == x
theorem meOf_nm {x : Str} {m : Me} (h : meOf x = some m) : x = m.nm := by
  unfold meOf at h
  have := List.find?_some h
  exact (beq_iff_eq.mp this).symm
def res0Of (res : Res) (names : List (Str × NameKind)) : Res := ⟨false, res.n, names.filterMap fun p => if p.2 == .free then (res.lookup p.1).map fun i => (p.1, i) else none⟩
def cOk (nm names : List (Str × NameKind)) (res : Res) (nx : Nat) : Bool := names.all fun p => (p.2 != .cell) && (p.2 != .local || names.lookup p.1 == some .local) &&
  (p.2 != .free || (names.lookup p.1 == some .free && (nm.lookup p.1 == some .cell || nm.lookup p.1 == some .free) && match res.lookup p.1 with
    | some i => decide (i < nx)
    | none => false))
def tOk (names : List (Str × NameKind)) (x : Str) : Bool := names.lookup x == some .local && x != joinName && x != Str.ofString "at"
def tgOf (names : List (Str × NameKind)) (r0 : Res) (nx : Nat) : Expr → Option (Res × Tg × Nat)
  | .Name x _ => if tOk names x && decide (nx < r0.n) then some (⟨false, r0.n, (x, nx) :: r0.t⟩, .one nx, nx + 1) else none
  | .Tuple [.Name x _, .Name y _] _ _ => if tOk names x && tOk names y && decide (nx + 1 < r0.n) then some (⟨false, r0.n, (y, nx + 1) :: (x, nx) :: r0.t⟩, .two nx (nx + 1), nx + 2) else none
  | _ => none
def relN (nm names : List (Str × NameKind)) : List (Str × NameKind) := names.map fun (n, k) => if (k == NameKind.free && nm.lookup n == some .cell) then (n, NameKind.cell) else (n, k)
def isSlice : Expr → Bool
  | .Slice .. => true
  | _ => false
def isGlob (nm : List (Str × NameKind)) (f : Str) : Bool := okName f && nm.lookup f == some .globalImplicit
def eE (T : Tab) : Nat → List (Str × NameKind) → Res → Nat → Expr → Option Ex
  | 0, _, _, _, _ => none
  | n + 1, nm, res, nx, e => match e with
    | .Constant (.int i) _ _ => some (.lit (.int i))
    | .Constant (.str s) _ _ => some (.lit (.str s))
    | .Constant (.bool b) _ _ => some (.lit (.bool b))
    | .Constant .none _ _ => some (.lit .none)
    | .Name x _ => (match okName x, res.lookup x with
        | true, some i => some (.var i)
        | true, none => (match nm.lookup x == some .globalImplicit, T.g.lookup x with
            | true, some (.val v) => some (.lit v)
            | _, _ => none)
        | _, _ => none)
    | .Tuple es _ _ => (es.mapM (eE T n nm res nx)).bind fun xs => if es.all notStar && decide (xs.length ≤ 1000) then some (.tup xs) else none
    | .List es _ => (es.mapM (eE T n nm res nx)).bind fun xs => if es.all notStar && decide (xs.length ≤ 1000) then some (.list xs) else none
    | .Dict [] [] _ => some .dict0
    | .BinOp l op r _ => (match opOf op, eE T n nm res nx l, eE T n nm res nx r with
        | some p, some a, some b => some (.bin p a b)
        | _, _, _ => none)
    | .UnaryOp .USub l _ => (eE T n nm res nx l).map .neg
    | .UnaryOp .Not l _ => (eE T n nm res nx l).map .not
    | .BoolOp .And es _ => (es.mapM (eE T n nm res nx)).map .and
    | .BoolOp .Or es _ => (es.mapM (eE T n nm res nx)).map .or
    | .Compare l ops es _ => (match cmsOf ops, eE T n nm res nx l, es.mapM (eE T n nm res nx) with
        | some ps, some a, some xs => if es.all notSet && decide (ps.length = es.length) then some (.cmp a ps xs) else none
        | _, _, _ => none)
    | .Subscript l (.Slice lo hi none _) _ => (match eE T n nm res nx l, lo.elim (some (.lit .none)) (eE T n nm res nx), hi.elim (some (.lit .none)) (eE T n nm res nx) with
        | some a, some x, some y => some (.slice a x y)
        | _, _, _ => none)
    | .Subscript l (.Slice none none (some (.UnaryOp .USub (.Constant (.int i) _ _) _)) _) _ => if i = 1 then (eE T n nm res nx l).map .rev else none
    | .Subscript l i _ => (match isSlice i, eE T n nm res nx l, eE T n nm res nx i with
        | false, some a, some x => some (.idx a x)
        | _, _, _ => none)
    | .Call (.Name f _) es [] _ => (match isGlob nm f, T.g.lookup f with
        | true, some .fn => (es.mapM (eE T n nm res nx)).bind fun xs => if es.all notStar && !es.isEmpty then some (.call f xs) else none
        | true, some (.blt b) => (es.mapM (eE T n nm res nx)).bind fun xs => if es.all notStar && !es.isEmpty then some (.blt b xs) else none
        | true, some .isi => (match es with
            | [e, .Name t _] => (match isGlob nm t, T.t.lookup t, eE T n nm res nx e with
                | true, some tc, some x => if notStar e then some (.isi x tc) else none
                | _, _, _ => none)
            | _ => none)
        | _, _ => none)
    | .Call (.Attribute o m apos) es [] pos => (match meOf m, eE T n nm res nx o, es.mapM (eE T n nm res nx) with
        | some me, some x, some xs => if es.all notStar && baseOk o && (apos.endLine == pos.line) && decide (es.length < 20) then some (.meth me x xs) else none
        | _, _, _ => none)
    | .ListComp elt [⟨tgt, iter, ifs, 0⟩] scope _ => (match cOk nm scope.names res nx && scope.kind == .function && notSet iter, tgOf scope.names (res0Of res scope.names) nx tgt, eE T n nm res nx iter with
        | true, some (res', t, nx'), some xs => (match eE T n (relN nm scope.names) res' nx' elt, ifs.mapM (eE T n (relN nm scope.names) res' nx') with
            | some x, some ys => some (.comp x t xs ys)
            | _, _ => none)
        | _, _, _ => none)
    | _ => none
structure TabOk (c : Cx) (T : Tab) : Prop where
  fn : ∀ x, T.g.lookup x = some .fn → ∃ a o fd, c.g x = some (.ref a) ∧ c.h0.get? a = some o ∧ o.data = .func fd
  val : ∀ x v, T.g.lookup x = some (.val v) → ∃ r, c.g x = some r ∧ Rep c [] c.h0 v r
  blt : ∀ x b, T.g.lookup x = some (.blt b) → c.g x = none ∧ c.b x = some b.real
  isi : ∀ x, T.g.lookup x = some .isi → x = Str.ofString "isinstance" ∧ c.g x = none ∧ c.b x = some (.builtin "isinstance")
  enum : ∀ x, T.g.lookup x = some .enum → c.g x = none ∧ c.b x = some (.type "enumerate")
  rev : ∀ x, T.g.lookup x = some .rev → c.g x = none ∧ c.b x = some (.type "reversed")
  ty : ∀ x t, T.t.lookup x = some t → ∃ S, t.real = some S ∧ x = Str.ofString S ∧ c.g x = none ∧ c.b x = some (.type S)
def Both (c : Cx) (env : Env) (res : Res) (e : Expr) (x : Ex) : Prop := SoundE c env res e x ∧ SoundT c env res e x
inductive F2 {α β : Type} (R : α → β → Prop) : List α → List β → Prop
  | nil : F2 R [] []
  | cons {a b as bs} : R a b → F2 R as bs → F2 R (a :: as) (b :: bs)
theorem mapM_F2 {α β : Type} {f : α → Option β} : ∀ {l : List α} {r : List β}, l.mapM f = some r → F2 (fun a b => f a = some b) l r
  | [], r, h => by simp at h; subst h; exact .nil
  | a :: l, r, h => by
    rw [List.mapM_cons] at h
    cases ha : f a with
    | none => rw [ha] at h; simp at h
    | some b =>
      rw [ha] at h
      cases hl : l.mapM f with
      | none => rw [hl] at h; simp at h
      | some bs =>
        rw [hl] at h
        simp at h; subst h
        exact .cons ha (mapM_F2 hl)
theorem F2.imp {α β : Type} {R S : α → β → Prop} (h : ∀ a b, R a b → S a b) : ∀ {l : List α} {r : List β}, F2 R l r → F2 S l r
  | _, _, .nil => .nil
  | _, _, .cons h1 h2 => .cons (h _ _ h1) (h2.imp h)
theorem F2.len {α β : Type} {R : α → β → Prop} : ∀ {l : List α} {r : List β}, F2 R l r → l.length = r.length
  | _, _, .nil => rfl
  | _, _, .cons _ h => by simp [h.len]
section
variable {c : Cx} {env : Env} {res : Res}
theorem F2.soundL : ∀ {es : List Expr} {xs : List Ex}, F2 (Both c env res) es xs → es.all notStar = true → SoundL c env res es xs
  | _, _, .nil, _ => soundL_nil
  | _, _, .cons h1 h2, hn => by
    simp only [List.all_cons, Bool.and_eq_true] at hn
    exact soundL_cons hn.1 h1.1 (h2.soundL hn.2)
theorem F2.soundEs : ∀ {es : List Expr} {xs : List Ex}, F2 (Both c env res) es xs → SoundEs c env res es xs
  | _, _, .nil => by simp only [SoundEs]
  | _, _, .cons h1 h2 => by simp only [SoundEs]; exact ⟨h1.1, h2.soundEs⟩
theorem F2.soundTs : ∀ {es : List Expr} {xs : List Ex}, F2 (Both c env res) es xs → SoundTs c env res es xs
  | _, _, .nil => by simp only [SoundTs]
  | _, _, .cons h1 h2 => by simp only [SoundTs]; exact ⟨h1.2, h2.soundTs⟩
theorem F2.soundTs' : ∀ {es : List Expr} {xs : List Ex}, F2 (Both c env res) es xs → SoundTs' c env res es xs
  | _, _, .nil => by simp only [SoundTs']
  | _, _, .cons h1 h2 => by simp only [SoundTs']; exact ⟨h1.2, h2.soundTs'⟩
end
end Bn
namespace Bn
open PySem PyProof.Rows
section
variable {c : Cx} {T : Tab}
theorem plainBoth {env : Env} {res : Res} {e : Expr} {x : Ex} (h : SoundE c env res e x) (hp : plainTest e = true) : Both c env res e x := ⟨h, soundT_plain h hp⟩
theorem relabel_names {scope : Scope} {env : Env} {nm : List (Str × NameKind)} (h : env.scope.names = nm) (hk : env.scope.kind = .function) : (relabel scope env).names = relN nm scope.names := by
  unfold relabel relN
  simp only
  refine List.map_congr_left fun p _ => ?_
  obtain ⟨n, k⟩ := p
  have : env.kindOf n = nm.lookup n := by rw [← h]; rfl
  simp only [this, hk]
  cases k <;> simp
theorem lookup_filterMap_some {α β : Type} {f : Str × α → Option (Str × β)} (hf : ∀ p q, f p = some q → q.1 = p.1) : ∀ {l : List (Str × α)} {x : Str} {i : β}, (l.filterMap f).lookup x = some i → ∃ p ∈ l, f p = some (x, i)
  | [], x, i, h => by simp at h
  | p :: l, x, i, h => by
    rw [List.filterMap_cons] at h
    cases hp : f p with
    | none => rw [hp] at h; obtain ⟨q, hq, hq'⟩ := lookup_filterMap_some hf h; exact ⟨q, List.mem_cons_of_mem _ hq, hq'⟩
    | some r =>
      rw [hp] at h
      obtain ⟨k, v⟩ := r
      simp only [List.lookup_cons] at h
      cases hb : x == k with
      | true =>
        rw [hb] at h; simp at h; subst h
        have := beq_iff_eq.mp hb; subst this
        exact ⟨p, List.mem_cons_self, hp⟩
      | false =>
        rw [hb] at h
        obtain ⟨q, hq, hq'⟩ := lookup_filterMap_some hf h; exact ⟨q, List.mem_cons_of_mem _ hq, hq'⟩
theorem res0_of {res : Res} {names : List (Str × NameKind)} {x : Str} {i : Nat} (h : (res0Of res names).lookup x = some i) : (x, NameKind.free) ∈ names ∧ res.lookup x = some i := by
  obtain ⟨p, hp, hp'⟩ := lookup_filterMap_some (f := fun p : Str × NameKind => if p.2 == .free then (res.lookup p.1).map fun i => (p.1, i) else none) (by
    intro p q h
    split at h
    · cases hl : res.lookup p.1 with
      | none => rw [hl] at h; simp at h
      | some j => rw [hl] at h; simp at h; rw [← h]
    · cases h) (show List.lookup x _ = some i from h)
  split at hp'
  · rename_i hk
    cases hl : res.lookup p.1 with
    | none => rw [hl] at hp'; simp at hp'
    | some j =>
      rw [hl] at hp'
      simp at hp'
      obtain ⟨h1, h2⟩ := hp'
      obtain ⟨n, k⟩ := p
      simp only [beq_iff_eq] at hk h1 h2 hl
      subst hk h1 h2
      exact ⟨hp, hl⟩
  · cases hp'
theorem store_new {al : Bool} {cenv : Env} {r0 : Res} {x : Str} {nx : Nat} (hk : cenv.kindOf x = some .local) (hj : x ≠ joinName) (hat : x ≠ Str.ofString "at") (hlt : nx < r0.n) (hb : ∀ y j, r0.lookup y = some j → j < nx) :
    StoreOk al cenv r0 ⟨r0.fr, r0.n, (x, nx) :: r0.t⟩ x nx := by
  refine ⟨rfl, rfl, fun y j hy => ?_, hlt, .inl hk, hj, .inl hat⟩
  have hy' : List.lookup y ((x, nx) :: r0.t) = some j := hy
  rw [List.lookup_cons] at hy'
  cases hb' : y == x with
  | true => rw [hb'] at hy'; simp at hy'; exact .inl ⟨beq_iff_eq.mp hb', hy'.symm⟩
  | false =>
    rw [hb'] at hy'
    exact .inr ⟨fun q => by rw [q] at hb'; simp at hb', hy', Nat.ne_of_lt (hb y j hy')⟩
theorem comp_static {env : Env} {res res' : Res} {nm : List (Str × NameKind)} {nx nx' : Nat} {scope : Scope} {tgt : Expr} {t : Tg} (hnm : env.scope.names = nm) (hef : env.scope.kind = .function) (hc : cOk nm scope.names res nx = true) (hkind : scope.kind = .function)
    (ht : tgOf scope.names (res0Of res scope.names) nx tgt = some (res', t, nx')) : CompOk c env res (res0Of res scope.names) res' scope tgt t := by
  have hall := List.all_eq_true.mp hc
  have hfree : ∀ n, (n, NameKind.free) ∈ scope.names → scope.names.lookup n = some .free ∧ (nm.lookup n = some .cell ∨ nm.lookup n = some .free) ∧ ∃ i, res.lookup n = some i ∧ i < nx := fun n hn => by
    have := hall _ hn
    simp only [Bool.and_eq_true, Bool.or_eq_true, bne_self_eq_false, Bool.false_eq_true, false_or, beq_iff_eq] at this
    obtain ⟨_, ⟨h1, h2⟩, h3⟩ := this
    refine ⟨h1, h2, ?_⟩
    split at h3
    · rename_i i hi; exact ⟨i, hi, of_decide_eq_true h3⟩
    · cases h3
  have hb : ∀ y j, (res0Of res scope.names).lookup y = some j → j < nx := fun y j hy => by
    obtain ⟨h1, h2⟩ := res0_of hy
    obtain ⟨_, _, i, h3, h4⟩ := hfree y h1
    rw [h2] at h3; cases h3; exact h4
  have hloc : ∀ cenv : Env, cenv.scope = relabel scope env → ∀ x, scope.names.lookup x = some .local → cenv.kindOf x = some .local := fun cenv hcs x hx => by
    show List.lookup x cenv.scope.names = _
    rw [hcs]
    exact lookup_relabel_local hx
  have base : (res'.n = res.n ∧ res'.fr = false) ∧ (∀ cenv : Env, cenv.scope = relabel scope env → TgOk false cenv (res0Of res scope.names) res' tgt t) ∧ ∀ y i, (res0Of res scope.names).lookup y = some i → res'.lookup y = some i ∧ t.out i := by
    have ne : ∀ {x y : Str}, scope.names.lookup x = some .local → (y, NameKind.free) ∈ scope.names → (y == x) = false := fun {x y} hx hy => by
      rw [beq_eq_false_iff_ne]
      rintro rfl
      rw [(hfree y hy).1] at hx; cases hx
    unfold tgOf at ht
    split at ht
    · rename_i x p
      split at ht
      · rename_i h
        cases ht
        simp only [tOk, Bool.and_eq_true, beq_iff_eq, bne_iff_ne, ne_eq, decide_eq_true_eq] at h
        obtain ⟨⟨⟨h1, h2⟩, h3⟩, h4⟩ := h
        refine ⟨⟨rfl, rfl⟩, fun cenv hcs => ?_, fun y i hy => ?_⟩
        · exact store_new (hloc cenv hcs x h1) h2 h3 h4 hb
        · obtain ⟨g1, _⟩ := res0_of hy
          refine ⟨?_, Nat.ne_of_lt (hb y i hy)⟩
          show List.lookup y ((x, nx) :: _) = some i
          rw [List.lookup_cons, ne h1 g1]; exact hy
      · cases ht
    · rename_i x p y p' n1 p''
      split at ht
      · rename_i h
        cases ht
        simp only [tOk, Bool.and_eq_true, beq_iff_eq, bne_iff_ne, ne_eq, decide_eq_true_eq] at h
        obtain ⟨⟨⟨⟨h1, h2⟩, h3⟩, ⟨h1', h2'⟩, h3'⟩, h4⟩ := h
        refine ⟨⟨rfl, rfl⟩, fun cenv hcs => ?_, fun z i hz => ?_⟩
        · refine ⟨x, p, ⟨false, (res0Of res scope.names).n, (x, nx) :: (res0Of res scope.names).t⟩, rfl, store_new (hloc cenv hcs x h1) h2 h3 (by omega) hb, y, p', _, rfl, store_new (r0 := ⟨false, (res0Of res scope.names).n, (x, nx) :: (res0Of res scope.names).t⟩) (hloc cenv hcs y h1') h2' h3' h4 fun z j hz => ?_, rfl⟩
          have hz' : List.lookup z ((x, nx) :: (res0Of res scope.names).t) = some j := hz
          rw [List.lookup_cons] at hz'
          cases hb' : z == x with
          | true => rw [hb'] at hz'; simp at hz'; omega
          | false => rw [hb'] at hz'; have := hb z j hz'; omega
        · obtain ⟨g1, _⟩ := res0_of hz
          have hlt := hb z i hz
          refine ⟨?_, Nat.ne_of_lt hlt, by omega⟩
          show List.lookup z ((y, nx + 1) :: (x, nx) :: _) = some i
          rw [List.lookup_cons, ne h1' g1, List.lookup_cons, ne h1 g1]; exact hz
      · cases ht
    · cases ht
  obtain ⟨b1, b2, b3⟩ := base
  refine ⟨hkind, fun y hy q => ?_, fun y hy q => ?_, fun n hn => ?_, rfl, rfl, fun x i hx => ?_, b1, b2⟩
  · have := hall y hy
    simp [q] at this
  · have := hall y hy
    simp only [q, Bool.and_eq_true, Bool.or_eq_true, bne_self_eq_false, Bool.false_eq_true, false_or, beq_iff_eq] at this
    exact this.1.2
  · obtain ⟨_, h2, i, h3, _⟩ := hfree n hn
    have : env.kindOf n = nm.lookup n := by rw [← hnm]; rfl
    rw [this]
    exact ⟨h2, i, h3⟩
  · obtain ⟨h1, h2⟩ := res0_of hx
    exact ⟨h2, h1, (hfree x h1).1, b3 x i hx⟩
theorem glob_of {nm : List (Str × NameKind)} {f : Str} {env : Env} (hnm : env.scope.names = nm) (h : isGlob nm f = true) : env.kindOf f = some .globalImplicit ∧ (f == ("__debug__" : Str)) = false := by
  simp only [isGlob, okName, Bool.and_eq_true, beq_iff_eq, Bool.not_eq_true'] at h
  refine ⟨?_, h.1.1⟩
  show List.lookup f env.scope.names = _
  rw [hnm]; exact h.2
theorem fold_of {iter : Expr} {env : Env} (h : notSet iter = true) : ∀ x, foldedSetIterable iter env x = pure x := fun x => by
  cases iter <;> first | rfl | cases h
set_option maxHeartbeats 1000000 in
theorem eE_sound (O : c.Ok) (TO : TabOk c T) : ∀ n {nm : List (Str × NameKind)} {res : Res} {nx : Nat} {e : Expr} {x : Ex} {env : Env}, eE T n nm res nx e = some x → env.scope.names = nm → env.scope.kind = .function → Both c env res e x
  | 0, _, _, _, _, _, _, h, _, _ => by simp [eE] at h
  | n + 1, nm, res, nx, e, x, env, h, hnm, hef => by
    have ih := @eE_sound O TO n
    have list : ∀ {es : List Expr} {xs : List Ex}, es.mapM (eE T n nm res nx) = some xs → F2 (Both c env res) es xs := fun h => (mapM_F2 h).imp fun _ _ h => ih h hnm hef
    unfold eE at h
    split at h
    · cases h; exact plainBoth sound_int rfl
    · cases h; exact plainBoth sound_str rfl
    · cases h; exact plainBoth sound_bool rfl
    · cases h; exact plainBoth sound_none rfl
    ·
      split at h
      · rename_i h1 h2
        cases h
        simp only [okName, Bool.and_eq_true, Bool.not_eq_true'] at h1
        exact plainBoth (sound_var h2 h1.1 h1.2) rfl
      · rename_i x' _ h1 _
        simp only [okName, Bool.and_eq_true, Bool.not_eq_true'] at h1
        split at h
        · rename_i h2 h3
          cases h
          obtain ⟨r, hr, hR⟩ := TO.val _ _ h3
          refine plainBoth (sound_glob O ?_ hr hR h1.1) rfl
          show List.lookup _ env.scope.names = _
          rw [hnm]; simpa using h2
        · cases h
      · cases h
    ·
      rw [Option.bind_eq_some_iff] at h
      obtain ⟨xs, h1, h2⟩ := h
      split at h2
      · rename_i h3
        cases h2
        simp only [Bool.and_eq_true, decide_eq_true_eq] at h3
        exact plainBoth (sound_tup ((list h1).soundL h3.1) h3.2) rfl
      · cases h2
    · rw [Option.bind_eq_some_iff] at h
      obtain ⟨xs, h1, h2⟩ := h
      split at h2
      · rename_i h3
        cases h2
        simp only [Bool.and_eq_true, decide_eq_true_eq] at h3
        exact plainBoth (sound_list ((list h1).soundL h3.1) h3.2) rfl
      · cases h2
    · cases h; exact plainBoth sound_dict0 rfl
    · split at h
      · rename_i h1 h2 h3
        cases h
        rw [opOf_real h1]
        exact plainBoth (sound_bin O (ih h2 hnm hef).1 (ih h3 hnm hef).1) rfl
      · cases h
    · rw [Option.map_eq_some_iff] at h
      obtain ⟨y, h1, rfl⟩ := h
      exact plainBoth (sound_neg (ih h1 hnm hef).1) rfl
    · rw [Option.map_eq_some_iff] at h
      obtain ⟨y, h1, rfl⟩ := h
      exact ⟨sound_not (ih h1 hnm hef).1, soundT_not (ih h1 hnm hef).2⟩
    · rw [Option.map_eq_some_iff] at h
      obtain ⟨y, h1, rfl⟩ := h
      exact ⟨sound_and (list h1).soundEs, soundT_and (list h1).soundTs⟩
    · rw [Option.map_eq_some_iff] at h
      obtain ⟨y, h1, rfl⟩ := h
      exact ⟨sound_or (list h1).soundEs, soundT_or (list h1).soundTs⟩
    · split at h
      · rename_i h1 h2 h3
        split at h
        · rename_i h4
          cases h
          simp only [Bool.and_eq_true, decide_eq_true_eq] at h4
          rw [cmsOf_real h1]
          exact ⟨sound_cmp (ih h2 hnm hef).1 (list h3).soundEs h4.2 h4.1, soundT_cmp (ih h2 hnm hef).1 (list h3).soundEs h4.2 h4.1⟩
        · cases h
      · cases h
    ·
      split at h
      · rename_i lo hi _ _ _ _ _ _ h1 h2 h3
        cases h
        have part : ∀ {o : Option Expr} {y : Ex}, o.elim (some (.lit .none)) (eE T n nm res nx) = some y → SoundO c env res o y := fun {o y} q => by
          cases o with
          | none => simp at q; simp only [SoundO]; exact q.symm
          | some e => exact (ih q hnm hef).1
        exact plainBoth (sound_slice (ih h1 hnm hef).1 (part h2) (part h3)) rfl
      · cases h
    · split at h
      · rename_i h1
        subst h1
        rw [Option.map_eq_some_iff] at h
        obtain ⟨y, h1, rfl⟩ := h
        exact plainBoth (sound_rev (ih h1 hnm hef).1) rfl
      · cases h
    · split at h
      · rename_i h1 h2 h3
        cases h
        exact plainBoth (sound_idx (ih h2 hnm hef).1 (ih h3 hnm hef).1) rfl
      · cases h
    ·
      split at h
      · rename_i h1 h2
        rw [Option.bind_eq_some_iff] at h
        obtain ⟨xs, h3, h4⟩ := h
        split at h4
        · rename_i h5
          cases h4
          simp only [Bool.and_eq_true, Bool.not_eq_true', List.isEmpty_eq_false_iff] at h5
          obtain ⟨a, o, fd, g1, g2, g3⟩ := TO.fn _ h2
          obtain ⟨k1, k2⟩ := glob_of hnm h1
          exact plainBoth (sound_call O k1 g1 g2 g3 k2 ((list h3).soundL h5.1) h5.2) rfl
        · cases h4
      · rename_i h1 h2
        rw [Option.bind_eq_some_iff] at h
        obtain ⟨xs, h3, h4⟩ := h
        split at h4
        · rename_i h5
          cases h4
          simp only [Bool.and_eq_true, Bool.not_eq_true', List.isEmpty_eq_false_iff] at h5
          obtain ⟨g1, g2⟩ := TO.blt _ _ h2
          obtain ⟨k1, k2⟩ := glob_of hnm h1
          exact plainBoth (sound_blt O k1 g1 g2 k2 ((list h3).soundL h5.1) h5.2) rfl
        · cases h4
      · rename_i h1 h2
        split at h
        · split at h
          · rename_i h3 h4 h5
            split at h
            · rename_i h6
              cases h
              obtain ⟨rfl, g1, g2⟩ := TO.isi _ h2
              obtain ⟨S, s1, rfl, s3, s4⟩ := TO.ty _ _ h4
              obtain ⟨k1, _⟩ := glob_of hnm h1
              obtain ⟨k2, k3⟩ := glob_of hnm h3
              exact plainBoth (sound_isi O s1 k1 k2 g1 g2 s3 s4 k3 h6 (ih h5 hnm hef).1) rfl
            · cases h
          · cases h
        · cases h
      · cases h
    ·
      split at h
      · rename_i h1 h2 h3
        split at h
        · rename_i h4
          cases h
          simp only [Bool.and_eq_true, decide_eq_true_eq] at h4
          rw [meOf_nm h1]
          exact plainBoth (sound_meth h4.1.1.2 h4.1.2 h4.2 (ih h2 hnm hef).1 ((list h3).soundL h4.1.1.1)) rfl
        · cases h
      · cases h
    ·
      split at h
      · rename_i h1 h2 h3
        simp only [Bool.and_eq_true, beq_iff_eq] at h1
        split at h
        · rename_i h4 h5
          cases h
          have K := comp_static (c := c) hnm hef h1.1.1 h1.1.2 h2
          refine plainBoth (sound_comp K (fold_of h1.2) (ih h3 hnm hef).1 (fun cenv hcs => ?_) fun cenv hcs => ?_) rfl
          · exact (ih h4 (by rw [hcs]; exact relabel_names hnm hef) (by rw [hcs]; exact h1.1.2)).1
          · exact ((mapM_F2 h5).imp fun _ _ h => ih h (by rw [hcs]; exact relabel_names hnm hef) (by rw [hcs]; exact h1.1.2)).soundTs'
        · cases h
      · cases h
    · cases h
end
end Bn
namespace Bn
open PySem PyProof.Rows
def stIx (nm : List (Str × NameKind)) (res : Res) (y : Str) : Option Nat :=
  match res.lookup y with
  | some i => if (nm.lookup y == some .local || nm.lookup y == some .cell) && y != joinName && res.fr then some i else none
  | none => none
def resOk (res : Res) : Bool := decide ((res.t.map (·.2)).Nodup) && res.t.all fun p => decide (p.2 < res.n)
def nmsIx (nm : List (Str × NameKind)) (res : Res) : List Expr → Option (List Nat)
  | [] => some []
  | .Name x _ :: es => (match stIx nm res x, nmsIx nm res es with
      | some i, some is => some (i :: is)
      | _, _ => none)
  | _ => none
def tg2 (nm : List (Str × NameKind)) (res : Res) : Expr → Option Tg
  | .Name x _ => (stIx nm res x).map .one
  | .Tuple es _ _ => (match nmsIx nm res es with
      | some [i, j] => some (.two i j)
      | _ => none)
  | _ => none
def isTup : Expr → Bool
  | .Tuple .. => true
  | _ => false
def isComp : Expr → Bool
  | .ListComp .. | .SetComp .. | .DictComp .. => true
  | _ => false
def eSr (T : Tab) (n : Nat) (nm : List (Str × NameKind)) (res : Res) (nx : Nat) (tg : Expr) (iter : Expr) : Option Sr :=
  match iter with
  | .Call (.Name f _) [e] [] _ => (match isGlob nm f && notStar e, T.g.lookup f with
      | true, some .enum => if isTup tg then (eE T n nm res nx e).map .enum else none
      | true, some .rev => (eE T n nm res nx e).map .rev
      | _, _ => (eE T n nm res nx iter).map .val)
  | _ => (eE T n nm res nx iter).map .val
def eS (T : Tab) : Nat → List (Str × NameKind) → Res → Nat → Stmt → Option St
  | 0, _, _, _, _ => none
  | n + 1, nm, res, nx, st => match st with
    | .Assign [.Name y _] e _ => (match stIx nm res y, eE T n nm res nx e with
        | some i, some x => some (.set i x)
        | _, _ => none)
    | .Assign [.Tuple es _ _] e _ => (match nmsIx nm res es, eE T n nm res nx e with
        | some is, some x => if isTup e then none else some (.unp is x)
        | _, _ => none)
    | .Assign [.Subscript o i _] e _ => (match isSlice i, eE T n nm res nx o, eE T n nm res nx i, eE T n nm res nx e with
        | false, some a, some j, some x => some (.put a j x)
        | _, _, _, _ => none)
    | .Expr e _ => if isComp e then none else (eE T n nm res nx e).map .expr
    | .Return (some e) _ => (eE T n nm res nx e).map .ret
    | .If t a b _ => (match eE T n nm res nx t, a.mapM (eS T n nm res nx), b.mapM (eS T n nm res nx) with
        | some x, some xa, some xb => some (.ite x xa xb)
        | _, _, _ => none)
    | .While t b [] _ => (match eE T n nm res nx t, b.mapM (eS T n nm res nx) with
        | some x, some xb => some (.whil x xb)
        | _, _ => none)
    | .For tg iter b [] _ => (match notSet iter, tg2 nm res tg, eSr T n nm res nx tg iter, b.mapM (eS T n nm res nx) with
        | true, some t, some sr, some xb => some (.loop t sr xb)
        | _, _, _, _ => none)
    | .Raise .. => some .stuck
    | .Try .. => some .stuck
    | _ => none
section
variable {c : Cx} {T : Tab} {env : Env} {res : Res} {X : List Addr} {nm : List (Str × NameKind)}
theorem nodup_lookup : ∀ {l : List (Str × Nat)}, (l.map (·.2)).Nodup → ∀ {x y : Str} {i : Nat}, l.lookup x = some i → l.lookup y = some i → x = y
  | [], _, _, _, _, h, _ => by simp at h
  | (k, v) :: l, hn, x, y, i, hx, hy => by
    rw [List.map_cons, List.nodup_cons] at hn
    rw [List.lookup_cons] at hx hy
    have notin : ∀ {z : Str}, l.lookup z = some i → v ≠ i := fun {z} hz q => hn.1 (by
      rw [List.mem_map]; exact ⟨(z, i), mem_of_lookup hz, q.symm⟩)
    cases h1 : x == k with
    | true =>
      rw [h1] at hx; simp at hx
      cases h2 : y == k with
      | true => rw [beq_iff_eq.mp h1, beq_iff_eq.mp h2]
      | false => rw [h2] at hy; exact absurd hx (notin hy)
    | false =>
      rw [h1] at hx
      cases h2 : y == k with
      | true => rw [h2] at hy; simp at hy; exact absurd hy (notin hx)
      | false => rw [h2] at hy; exact nodup_lookup hn.2 hx hy
theorem stIx_ok (hr : resOk res = true) (hnm : env.scope.names = nm) {y : Str} {i : Nat} (h : stIx nm res y = some i) : StoreOk true env res res y i := by
  unfold stIx at h
  split at h
  · rename_i j hj
    split at h
    · rename_i hc
      cases h
      simp only [Bool.and_eq_true, Bool.or_eq_true, beq_iff_eq, bne_iff_ne, ne_eq] at hc
      simp only [resOk, Bool.and_eq_true, decide_eq_true_eq, List.all_eq_true] at hr
      have hk : env.kindOf y = nm.lookup y := by rw [← hnm]; rfl
      refine ⟨rfl, rfl, fun z j hz => ?_, hr.2 _ (mem_of_lookup hj), ?_, hc.1.2, .inr hc.2⟩
      · by_cases q : z = y
        · subst q; rw [hj] at hz; cases hz; exact .inl ⟨rfl, rfl⟩
        · exact .inr ⟨q, hz, fun e => q (nodup_lookup hr.1 hz (e ▸ hj))⟩
      · rw [hk]
        rcases hc.1.1 with h | h
        · exact .inl h
        · exact .inr ⟨rfl, h, i, hj⟩
    · cases h
  · cases h
theorem nmsIx_ok (hr : resOk res = true) (hnm : env.scope.names = nm) : ∀ {es : List Expr} {is : List Nat}, nmsIx nm res es = some is → StoresOk true env res res es is
  | [], is, h => by simp [nmsIx] at h; subst h; simp [StoresOk]
  | e :: es, is, h => by
    cases e <;> simp only [nmsIx, reduceCtorEq] at h
    split at h
    · rename_i h1 h2
      cases h
      simp only [StoresOk]
      exact ⟨_, _, res, rfl, stIx_ok hr hnm h1, nmsIx_ok hr hnm h2⟩
    · cases h
theorem tg2_ok (hr : resOk res = true) (hnm : env.scope.names = nm) {tg : Expr} {t : Tg} (h : tg2 nm res tg = some t) : TgOk true env res res tg t := by
  cases tg <;> simp only [tg2, reduceCtorEq] at h
  · rw [Option.map_eq_some_iff] at h
    obtain ⟨i, h1, rfl⟩ := h
    exact stIx_ok hr hnm h1
  · split at h
    · rename_i h1
      cases h
      exact nmsIx_ok hr hnm h1
    · cases h
theorem sound_stuck {st : Stmt} : SoundS c env res X st .stuck := fun A q d k loc φ H s Q E hA hh hF hS hw => by
  simp only [wpS] at hw
theorem swaps_no {e : Expr} {t : Option Expr} {l : Nat} (h : isComp e = false) : swapsWith e t l env = pure false := by
  cases e <;> first | rfl | cases h
theorem swapsSole_tup {es : List Expr} {k : Nat} {p : Pos} {e : Expr} {l : Nat} : swapsWithSole [.Tuple es k p] e l env = pure false := by cases e <;> rfl
theorem swapped_none {es : List Expr} {k : Nat} {p : Pos} {e : Expr} (h : isTup e = false) : swappedStores [.Tuple es k p] e env = pure none := by cases e <;> first | rfl | cases h
theorem swaps_sub {o i e : Expr} {p : Pos} {l : Nat} : swapsWith e (some (.Subscript o i p)) l env = pure false := by cases e <;> rfl
theorem F2.soundSs : ∀ {ss : List Stmt} {xs : List St}, F2 (SoundS c env res X) ss xs → SoundSs c env res X ss xs
  | _, _, .nil => sound_nil
  | _, _, .cons h1 h2 => sound_cons h1 h2.soundSs
theorem eSr_sound (O : c.Ok) (TO : TabOk c T) {n nx : Nat} {tg iter : Expr} {sr : Sr} (h : eSr T n nm res nx tg iter = some sr) (hnm : env.scope.names = nm) (hef : env.scope.kind = .function) : SoundSr c env res tg iter sr := by
  have val : ∀ {iter : Expr}, (eE T n nm res nx iter).map .val = some sr → SoundSr c env res tg iter sr := fun {iter} h => by
    rw [Option.map_eq_some_iff] at h
    obtain ⟨x, h1, rfl⟩ := h
    exact sr_val (eE_sound O TO n h1 hnm hef).1
  unfold eSr at h
  split at h
  · split at h
    · rename_i h1 h2
      simp only [Bool.and_eq_true] at h1
      obtain ⟨k1, k2⟩ := glob_of hnm h1.1
      obtain ⟨g1, g2⟩ := TO.enum _ h2
      split at h
      · rename_i ht
        rw [Option.map_eq_some_iff] at h
        obtain ⟨x, h3, rfl⟩ := h
        cases tg <;> simp only [isTup, Bool.false_eq_true] at ht
        exact sr_enum O k1 g1 g2 k2 h1.2 (eE_sound O TO n h3 hnm hef).1
      · cases h
    · rename_i h1 h2
      simp only [Bool.and_eq_true] at h1
      obtain ⟨k1, k2⟩ := glob_of hnm h1.1
      obtain ⟨g1, g2⟩ := TO.rev _ h2
      rw [Option.map_eq_some_iff] at h
      obtain ⟨x, h3, rfl⟩ := h
      exact sr_rev O k1 g1 g2 k2 h1.2 (eE_sound O TO n h3 hnm hef).1
    · exact val h
  · exact val h
theorem set_sound (O : c.Ok) (TO : TabOk c T) {n nx : Nat} {y : Str} {py pos : Pos} {i : Nat} {e : Expr} {x : Ex} (hX : EnvX true env X) (hy : StoreOk true env res res y i) (h : eE T n nm res nx e = some x) (hnm : env.scope.names = nm) (hef : env.scope.kind = .function) :
    SoundS c env res X (.Assign [.Name y py] e pos) (.set i x) := by
  cases hc : isComp e with
  | false => exact sound_set hX (eE_sound O TO n h hnm hef).1 (swaps_no hc) hy
  | true =>
    cases n with
    | zero => simp [eE] at h
    | succ n =>
      have h' := h
      unfold eE at h
      split at h <;> first | (simp only [isComp, Bool.false_eq_true] at hc; done) | skip
      · rename_i elt tgt iter ifs scope cpos
        cases hb : (env.blockKind == .function && env.kindOf y == some .local && py.line == cpos.line && !(scope.names.any fun (n, k) => n == y && (k == .local || k == .cell))) with
        | false =>
          refine sound_set hX (eE_sound O TO (n + 1) h' hnm hef).1 ?_ hy
          show (pure _ : Sem Bool) = pure false
          rw [← hb]; rfl
        | true =>
          split at h
          · rename_i h1 h2 h3
            simp only [Bool.and_eq_true, beq_iff_eq] at h1
            split at h
            · rename_i h4 h5
              cases h
              have K := comp_static (c := c) hnm hef h1.1.1 h1.1.2 h2
              refine sound_setComp hX K (fold_of h1.2) (eE_sound O TO n h3 hnm hef).1 (fun cenv hcs => ?_) (fun cenv hcs => ?_) ?_ hy
              · exact (eE_sound O TO n h4 (by rw [hcs]; exact relabel_names hnm hef) (by rw [hcs]; exact h1.1.2)).1
              · exact ((mapM_F2 h5).imp fun _ _ h => eE_sound O TO n h (by rw [hcs]; exact relabel_names hnm hef) (by rw [hcs]; exact h1.1.2)).soundTs'
              · show (pure _ : Sem Bool) = pure true
                rw [← hb]; rfl
            · cases h
          · cases h
      · cases h
theorem eS_sound (O : c.Ok) (TO : TabOk c T) (hX : EnvX true env X) (hr : resOk res = true) (hnm : env.scope.names = nm) (hef : env.scope.kind = .function) : ∀ n {nx : Nat} {st : Stmt} {x : St}, eS T n nm res nx st = some x → SoundS c env res X st x
  | 0, _, _, _, h => by simp [eS] at h
  | n + 1, nx, st, x, h => by
    have ih := @eS_sound O TO hX hr hnm hef n
    have list : ∀ {ss : List Stmt} {xs : List St}, ss.mapM (eS T n nm res nx) = some xs → SoundSs c env res X ss xs := fun h => ((mapM_F2 h).imp fun _ _ h => ih h).soundSs
    unfold eS at h
    split at h
    · split at h
      · rename_i h1 h2
        cases h
        exact set_sound O TO hX (stIx_ok hr hnm h1) h2 hnm hef
      · cases h
    · split at h
      · rename_i h1 h2
        split at h
        · cases h
        · rename_i h3
          cases h
          exact sound_unp hX (eE_sound O TO n h2 hnm hef).1 swapsSole_tup (swapped_none (by simpa using h3)) (nmsIx_ok hr hnm h1)
      · cases h
    · split at h
      · rename_i h1 h2 h3 h4
        cases h
        exact sound_put hX (eE_sound O TO n h2 hnm hef).1 (eE_sound O TO n h3 hnm hef).1 (eE_sound O TO n h4 hnm hef).1 swaps_sub
      · cases h
    · split at h
      · cases h
      · rename_i h1
        rw [Option.map_eq_some_iff] at h
        obtain ⟨y, h2, rfl⟩ := h
        exact sound_expr hX (eE_sound O TO n h2 hnm hef).1 (swaps_no (by simpa using h1))
    · rw [Option.map_eq_some_iff] at h
      obtain ⟨y, h2, rfl⟩ := h
      exact sound_ret hX (eE_sound O TO n h2 hnm hef).1
    · split at h
      · rename_i h1 h2 h3
        cases h
        exact sound_ite hX (eE_sound O TO n h1 hnm hef).2 (list h2) (list h3)
      · cases h
    · split at h
      · rename_i h1 h2
        cases h
        exact sound_while hX (eE_sound O TO n h1 hnm hef).2 (list h2)
      · cases h
    · split at h
      · rename_i h1 h2 h3 h4
        cases h
        exact sound_for hX (fold_of h1) (eSr_sound O TO h3 hnm hef) (tg2_ok hr hnm h2) (list h4)
      · cases h
    · cases h; exact sound_stuck
    · cases h; exact sound_stuck
    · cases h
end
end Bn
namespace Bn
open PySem PyProof.Rows
theorem zip_lookup_some : ∀ {ps : List Str} {vals : List Value}, vals.length = ps.length → ∀ n ∈ ps, ((ps.zip vals).lookup n).isSome = true
  | [], _, _, n, hn => by cases hn
  | p :: ps, v :: vals, hl, n, hn => by
    rw [List.zip_cons_cons, List.lookup_cons]
    cases hb : n == p with
    | true => rfl
    | false =>
      rcases List.mem_cons.mp hn with rfl | hn
      · simp at hb
      · exact zip_lookup_some (by simpa using hl) n hn
  | _ :: _, [], hl, _, _ => by simp at hl
theorem filterMap_cong {α β : Type} {f g : α → Option β} : ∀ {l : List α}, (∀ a ∈ l, f a = g a) → l.filterMap f = l.filterMap g
  | [], _ => rfl
  | a :: l, h => by
    rw [List.filterMap_cons, List.filterMap_cons, h a List.mem_cons_self, filterMap_cong fun b hb => h b (List.mem_cons_of_mem _ hb)]
theorem zip_filterMap : ∀ {ps : List Str} {vals : List Value}, ps.Nodup → vals.length = ps.length → ps.filterMap (fun n => ((ps.zip vals).lookup n).map (n, ·)) = ps.zip vals
  | [], _, _, _ => by simp
  | p :: ps, v :: vals, hn, hl => by
    rw [List.nodup_cons] at hn
    rw [List.zip_cons_cons, List.filterMap_cons]
    simp only [List.lookup_cons_self, Option.map_some]
    congr 1
    have ih := zip_filterMap hn.2 (show vals.length = ps.length by simpa using hl)
    rw [← ih]
    refine filterMap_cong fun n hm => ?_
    have hne : (n == p) = false := by
      rw [beq_eq_false_iff_ne]; rintro rfl; exact hn.1 hm
    rw [List.lookup_cons, hne, ih]
  | _ :: _, [], _, hl => by simp at hl
theorem bind_plain {name : Str} {params : Arguments} {body : List Stmt} {scope : Scope} {pm code doc : Value} (h1 : params.posonlyargs = []) (h2 : params.kwonlyargs = []) (h3 : params.vararg = none) (h4 : params.kwarg = none)
    (hn : (params.args.map (·.arg)).Nodup) (vals : List Value) (hl : vals.length = (params.args.map (·.arg)).length) : bindArgs (Calls.docDef name params body scope pm code doc) ⟨vals, []⟩ = pure ((params.args.map (·.arg)).zip vals) := by
  have hseq : seqItems? Value.none = pure none := rfl
  have hmiss : ((params.args.map (·.arg)).take ((params.args.map (·.arg)).length)).filter (fun n => (((params.args.map (·.arg)).zip vals).lookup n).isNone) = [] := by
    rw [List.take_length, List.filter_eq_nil_iff]
    intro n hm
    have := zip_lookup_some hl n hm
    cases h : ((params.args.map (·.arg)).zip vals).lookup n <;> simp_all
  unfold bindArgs
  simp only [Calls.docDef, h1, h2, h3, h4, List.map_nil, List.nil_append, List.append_nil, hseq, List.forIn_nil, pure_bind, Option.getD_none, List.drop_nil, List.length_nil, Nat.sub_zero, hmiss, List.isEmpty_nil, Bool.not_true, Bool.false_eq_true, if_false,
    zip_filterMap hn hl, List.zip_nil_right, Option.isNone_none, Bool.and_true]
  have hgt : decide (vals.length > (params.args.map (·.arg)).length) = false := by simp [hl]
  simp only [hgt, Bool.false_eq_true, if_false]
structure Fn where
  ps : List Str
  n : Nat
  k : Nat
  body : List St
def slots (names : List (Str × NameKind)) : List Str := (names.filter fun p => p.2 == .local || p.2 == .cell).map (·.1)
def resOf (names : List (Str × NameKind)) (r : Nat) : Res := ⟨true, (slots names).length + r, (slots names).zip (List.range (slots names).length)⟩
def funOk (e : DefItem) (r : Nat) : Bool :=
  e.params.posonlyargs.isEmpty && e.params.kwonlyargs.isEmpty && e.params.vararg.isNone && e.params.kwarg.isNone && decide ((e.params.args.map (·.arg)).Nodup) &&
  e.scope.kind == .function && !e.scope.isCoroutine && !e.scope.isGenerator && e.params.defaults.isEmpty && resOk (resOf e.scope.names r) &&
  ((e.scope.names.filter fun p => p.2 == .local || p.2 == .cell).all fun p => e.scope.names.lookup p.1 == some .local || e.scope.names.lookup p.1 == some .cell) &&
  ((e.params.args.map (·.arg)).zip (List.range (e.params.args.map (·.arg)).length)).all fun p => stIx e.scope.names (resOf e.scope.names r) p.1 == some p.2
def eFun (T : Tab) (fuel r : Nat) (e : DefItem) : Option (List St) :=
  if funOk e r then e.body.mapM (eS T fuel e.scope.names (resOf e.scope.names r) (slots e.scope.names).length) else none
section
variable {c : Cx} {T : Tab}
theorem params_ok {env : Env} {nm : List (Str × NameKind)} {res : Res} (hr : resOk res = true) (hnm : env.scope.names = nm) : ∀ {ps : List Str} {i : Nat}, (∀ j x, ps[j]? = some x → stIx nm res x = some (i + j)) → StoresP env res ps i
  | [], _, _ => trivial
  | x :: ps, i, h => by
    refine ⟨stIx_ok hr hnm (by simpa using h 0 x rfl), params_ok hr hnm fun j y hy => ?_⟩
    have := h (j + 1) y (by simpa using hy)
    rw [this]; congr 1; omega
theorem calls_fun (O : c.Ok) (TO : TabOk c T) {e : DefItem} (hat : e.At c.g c.h0) {fuel r : Nat} {xs : List St} (he : eFun T fuel r e = some xs)
    {q : Bool} {d : Nat} {vs : List V} {Q : V → Hp → Prop} {E : XPost} {H : Hp} (hlen : vs.length = e.params.args.length)
    (hw : wpSs (Calls c) q d none xs (vs.map some ++ List.replicate ((slots e.scope.names).length + r - vs.length) none) (fun f _ H => match f with
      | .ret v => Q v H
      | .next => Q .none H) (fun x _ H => E x H) H) : Calls c q (d + 1) e.name vs none Q E H := by
  unfold eFun at he
  split at he
  case isFalse => cases he
  rename_i hok
  obtain ⟨a, cc, P, o, pm, doc, g1, g2, g3, g4, _⟩ := hat
  simp only [funOk, Bool.and_eq_true, List.isEmpty_iff, Option.isNone_iff_eq_none, decide_eq_true_eq, beq_iff_eq, Bool.not_eq_true', List.all_eq_true] at hok
  obtain ⟨⟨⟨⟨⟨⟨⟨⟨⟨⟨⟨p1, p2⟩, p3⟩, p4⟩, p5⟩, p6⟩, p7⟩, p8⟩, p9⟩, p10⟩, p11⟩, p12⟩ := hok
  have K : FunOk c e.name a o (Calls.docDef e.name e.params e.body e.scope pm (.ref cc) doc) e.body (e.params.args.map (·.arg)) (resOf e.scope.names r) := by
    refine ⟨g1, g2, g3, g4, rfl, rfl, rfl, rfl, p6, p7, p8, fun vals hl => bind_plain p1 p2 p3 p4 p5 vals hl, rfl, fun x i hx => ?_, fun L => ?_, ?_⟩
    · have hm : x ∈ slots e.scope.names := by
        have := mem_of_lookup (show List.lookup x _ = some i from hx)
        exact (List.of_mem_zip this).1
      obtain ⟨p, hp, rfl⟩ := List.mem_map.mp hm
      have := p11 p hp
      simp only [Bool.or_eq_true, beq_iff_eq] at this
      exact this
    · refine params_ok p10 rfl fun j x hx => ?_
      have hlt := (List.getElem?_eq_some_iff.mp hx).1
      have := p12 (x, j) (by
        rw [List.mem_iff_getElem?]
        refine ⟨j, ?_⟩
        rw [List.getElem?_zip_eq_some]
        exact ⟨hx, by rw [List.getElem?_range hlt]⟩)
      rw [Nat.zero_add]
      exact this
    · show (e.params.args.map (·.arg)).length ≤ (slots e.scope.names).length + r
      by_cases h0 : (e.params.args.map (·.arg)).length = 0
      · omega
      · have hlt : (e.params.args.map (·.arg)).length - 1 < (e.params.args.map (·.arg)).length := by omega
        have hx := List.getElem?_eq_getElem hlt
        have := p12 ((e.params.args.map (·.arg))[(e.params.args.map (·.arg)).length - 1], (e.params.args.map (·.arg)).length - 1) (by
          rw [List.mem_iff_getElem?]
          refine ⟨(e.params.args.map (·.arg)).length - 1, ?_⟩
          rw [List.getElem?_zip_eq_some]
          exact ⟨hx, by rw [List.getElem?_range hlt]⟩)
        obtain ⟨_, _, _, h4, _⟩ := stIx_ok (env := callEnvC (Calls.docDef e.name e.params e.body e.scope pm (.ref cc) doc) 0 a) p10 rfl this
        have : (resOf e.scope.names r).n = (slots e.scope.names).length + r := rfl
        omega
  refine calls_of O K (xs := xs) (fun L hX => ?_) (by simpa using hlen) hw
  exact ((mapM_F2 he).imp fun _ _ h => eS_sound O TO hX p10 rfl p6 fuel h).soundSs
end
end Bn
namespace Bn
open PySem
theorem wpFor_rule {ok : Hp → Prop} {body : V → Loc → SPost → Hp → Prop} {Q : SPost} (I : Nat → Loc → Hp → Prop) {items : List V}
    (step : ∀ i x l H (K : SPost), items[i]? = some x → I i l H → (∀ l' H', ok H' → I (i + 1) l' H' → K .next l' H') → (∀ v l' H', Q (.ret v) l' H' → K (.ret v) l' H') → body x l K H)
    (hend : ∀ l H, I items.length l H → Q .next l H) {l : Loc} {H : Hp} (h0 : I 0 l H) : wpFor ok body items l Q H := by
  have key : ∀ (n i : Nat), n + i = items.length → ∀ l H, I i l H → wpFor ok body (items.drop i) l Q H := by
    intro n
    induction n with
    | zero =>
      intro i hi l H hI
      have : i = items.length := by omega
      subst this
      rw [List.drop_length]
      exact hend l H hI
    | succ n ih =>
      intro i hi l H hI
      have hlt : i < items.length := by omega
      rw [List.drop_eq_getElem_cons hlt]
      simp only [wpFor]
      refine step i _ l H _ (List.getElem?_eq_getElem hlt) hI (fun l' H' hok hI' => ⟨hok, ih (i + 1) (by omega) l' H' hI'⟩) fun v l' H' hq => hq
  simpa using key items.length 0 rfl l H h0
theorem wpIter_rule {σ : Type} {ok : Hp → Prop} {f : V → σ → (σ → Hp → Prop) → Hp → Prop} {Q : σ → Hp → Prop} (I : Nat → σ → Hp → Prop) {items : List V}
    (step : ∀ i x a H (K : σ → Hp → Prop), items[i]? = some x → I i a H → (∀ a' H', ok H' → I (i + 1) a' H' → K a' H') → f x a K H)
    (hend : ∀ a H, I items.length a H → Q a H) {a : σ} {H : Hp} (h0 : I 0 a H) : wpIter ok f items a Q H := by
  have key : ∀ (n i : Nat), n + i = items.length → ∀ a H, I i a H → wpIter ok f (items.drop i) a Q H := by
    intro n
    induction n with
    | zero =>
      intro i hi a H hI
      have : i = items.length := by omega
      subst this
      rw [List.drop_length]
      exact hend a H hI
    | succ n ih =>
      intro i hi a H hI
      have hlt : i < items.length := by omega
      rw [List.drop_eq_getElem_cons hlt]
      simp only [wpIter]
      exact step i _ a H _ (List.getElem?_eq_getElem hlt) hI fun a' H' hok hI' => ⟨hok, ih (i + 1) (by omega) a' H' hI'⟩
  simpa using key items.length 0 rfl a H h0
def Has (c : Cx) (f : String) (np n : Nat) (xs : List St) : Prop :=
  ∀ q d vs Q E H, vs.length = np → wpSs (Calls c) q d none xs (vs.map some ++ List.replicate (n - np) none) (fun f _ H => match f with
    | .ret v => Q v H
    | .next => Q .none H) (fun x _ H => E x H) H → Calls c q (d + 1) (Str.ofString f) vs none Q E H
theorem has_of {c : Cx} {T : Tab} (O : c.Ok) (TO : TabOk c T) {e : PyProof.Rows.DefItem} (hat : e.At c.g c.h0) {fuel r : Nat} {xs : List St} (he : eFun T fuel r e = some xs) {f : String} (hf : e.name = Str.ofString f) {np n : Nat} (hnp : e.params.args.length = np) (hn : (slots e.scope.names).length + r = n) : Has c f np n xs := by
  intro q d vs Q E H hl hw
  rw [← hf]
  refine calls_fun O TO hat he (by rw [hl, hnp]) ?_
  rw [hn, hl]; exact hw
section
variable {C : CallT} {q : Bool} {d : Nat} {k : Clo} {l : Loc} {H : Hp}
def VarK (o : Option V) (Q : V → Hp → Prop) (H : Hp) : Prop := match o with | some v => Q v H | none => False
def BinK (op : Op) (x y : V) (Q : V → Hp → Prop) (H : Hp) : Prop := match binV H op x y with | some (v, H') => Q v H' | none => False
def NegK (x : V) (Q : V → Hp → Prop) (H : Hp) : Prop := match x with | .int i => Q (.int (-i)) H | _ => False
def NotK (x : V) (Q : V → Hp → Prop) (H : Hp) : Prop := match x with | .bool b => Q (.bool !b) H | _ => False
def IdxK (x y : V) (Q : V → Hp → Prop) (H : Hp) : Prop := match idxV H x y with | some v => Q v H | none => False
def SliceK (x y z : V) (Q : V → Hp → Prop) (H : Hp) : Prop := match sliceV H x y z with | some (v, H') => Q v H' | none => False
def RevK (x : V) (Q : V → Hp → Prop) (H : Hp) : Prop := match revV H x with | some (v, H') => Q v H' | none => False
def BltK (q : Bool) (b : Bl) (vs : List V) (Q : V → Hp → Prop) (H : Hp) : Prop := match bltV H b vs with | some (v, H') => q = true ∧ Q v H' | none => False
def MethA (C : CallT) (q : Bool) (d : Nat) (k : Clo) (m : Me) (x : V) (es : List Ex) (l : Loc) (Q : V → Hp → Prop) (E : XPost) (H : Hp) : Prop := match methOk m x with
  | true => wpL C q d k es l (fun vs H => match methV H m x vs with | some (v, H') => Q v H' | none => False) E H
  | false => False
def MethK (m : Me) (x : V) (vs : List V) (Q : V → Hp → Prop) (H : Hp) : Prop := match methV H m x vs with | some (v, H') => Q v H' | none => False
def IsiK (x : V) (t : Tc) (Q : V → Hp → Prop) (H : Hp) : Prop := match isiV x t with | some b => Q (.bool b) H | none => False
def AndK (C : CallT) (q : Bool) (d : Nat) (k : Clo) (es : List Ex) (l : Loc) (Q : V → Hp → Prop) (E : XPost) (v : V) (H : Hp) : Prop := match es, truth v with
  | [], _ => Q v H
  | _ :: _, some true => wpAnd C q d k es l Q E H
  | _ :: _, some false => Q v H
  | _ :: _, none => False
def OrK (C : CallT) (q : Bool) (d : Nat) (k : Clo) (es : List Ex) (l : Loc) (Q : V → Hp → Prop) (E : XPost) (v : V) (H : Hp) : Prop := match es, truth v with
  | [], _ => Q v H
  | _ :: _, some false => wpOr C q d k es l Q E H
  | _ :: _, some true => Q v H
  | _ :: _, none => False
def CmpR (C : CallT) (q : Bool) (d : Nat) (k : Clo) (y : V) (os : List Cm) (es : List Ex) (l : Loc) (Q : Bool → Hp → Prop) (E : XPost) (b : Bool) (H : Hp) : Prop := match es, b with
  | [], _ => Q b H
  | _ :: _, true => wpC C q d k y os es l Q E H
  | _ :: _, false => Q false H
def CmpK (C : CallT) (q : Bool) (d : Nat) (k : Clo) (o : Cm) (x y : V) (os : List Cm) (es : List Ex) (l : Loc) (Q : Bool → Hp → Prop) (E : XPost) (H : Hp) : Prop := match cmpV H o x y with
  | some b => CmpR C q d k y os es l Q E b H
  | none => False
def TestK (C : CallT) (q : Bool) (d : Nat) (k : Clo) (es : List Ex) (l : Loc) (Q : Bool → Hp → Prop) (v : V) (H : Hp) : Prop := match truth v with
  | some true => wpI C q d k es l Q H
  | some false => Q false H
  | none => False
def CompS (C : CallT) (q : Bool) (d : Nat) (t : Tg) (ifs : List Ex) (elt : Ex) (l : Loc) (x : V) (acc : List V) (K : List V → Hp → Prop) (H : Hp) : Prop := match bindT t x l with
  | some l' => wpI C q d none ifs l' (fun b H => match b with
      | true => wpE C q d none elt l' (fun v H => K (acc ++ [v]) H) noX H
      | false => K acc H) H
  | none => False
def CompK (C : CallT) (q : Bool) (d : Nat) (t : Tg) (ifs : List Ex) (elt : Ex) (l : Loc) (Q : V → Hp → Prop) (sv : V) (H : Hp) : Prop := match srcV H sv with
  | some items => q = true ∧ items.length ≤ sizeLine ∧ wpIter (okV sv items) (CompS C q d t ifs elt l) items [] (fun acc H' => Q (.lst H'.length) (H' ++ [acc])) H
  | none => False
theorem E_lit {v : V} {Q E} : wpE C q d k (.lit v) l Q E H = Q v H := rfl
theorem E_var {i : Nat} {Q E} : wpE C q d k (.var i) l Q E H = VarK (l.getD i none) Q H := rfl
theorem E_tup {es : List Ex} {Q E} : wpE C q d k (.tup es) l Q E H = wpL C q d k es l (fun vs H => Q (.tup vs) H) E H := rfl
theorem E_list {es : List Ex} {Q E} : wpE C q d k (.list es) l Q E H = wpL C q d k es l (fun vs H => Q (.lst H.length) (H ++ [vs])) E H := rfl
theorem E_dict0 {Q E} : wpE C q d k .dict0 l Q E H = Q .dict0 H := rfl
theorem E_bin {op : Op} {a b : Ex} {Q E} : wpE C q d k (.bin op a b) l Q E H = wpE C q d k a l (fun x H => wpE C q d k b l (fun y H => BinK op x y Q H) E H) E H := rfl
theorem E_neg {a : Ex} {Q E} : wpE C q d k (.neg a) l Q E H = wpE C q d k a l (fun x H => NegK x Q H) E H := rfl
theorem E_not {a : Ex} {Q E} : wpE C q d k (.not a) l Q E H = wpE C q d k a l (fun x H => NotK x Q H) E H := rfl
theorem E_cmp {a : Ex} {os : List Cm} {bs : List Ex} {Q E} : wpE C q d k (.cmp a os bs) l Q E H = wpE C q d k a l (fun x H => wpC C q d k x os bs l (fun b H => Q (.bool b) H) E H) E H := rfl
theorem E_and {es : List Ex} {Q E} : wpE C q d k (.and es) l Q E H = wpAnd C q d k es l Q E H := rfl
theorem E_or {es : List Ex} {Q E} : wpE C q d k (.or es) l Q E H = wpOr C q d k es l Q E H := rfl
theorem E_idx {a b : Ex} {Q E} : wpE C q d k (.idx a b) l Q E H = wpE C q d k a l (fun x H => wpE C q d k b l (fun y H => IdxK x y Q H) E H) E H := rfl
theorem E_slice {a b c : Ex} {Q E} : wpE C q d k (.slice a b c) l Q E H = wpE C q d k a l (fun x H => wpE C q d k b l (fun y H => wpE C q d k c l (fun z H => SliceK x y z Q H) E H) E H) E H := rfl
theorem E_rev {a : Ex} {Q E} : wpE C q d k (.rev a) l Q E H = wpE C q d k a l (fun x H => RevK x Q H) E H := rfl
theorem E_call {f : Str} {es : List Ex} {Q E} : wpE C q d k (.call f es) l Q E H = wpL C q d k es l (fun vs H => C q d f vs none Q E H) E H := rfl
theorem E_blt {b : Bl} {es : List Ex} {Q E} : wpE C q d k (.blt b es) l Q E H = wpL C q d k es l (fun vs H => BltK q b vs Q H) E H := rfl
theorem E_meth {m : Me} {o : Ex} {es : List Ex} {Q E} : wpE C q d k (.meth m o es) l Q E H = wpE C q d k o l (fun x H => MethA C q d k m x es l Q E H) E H := by
  first | (simp only [wpE, MethA]; rfl) | simp only [wpE, MethA]
theorem E_isi {a : Ex} {t : Tc} {Q E} : wpE C q d k (.isi a t) l Q E H = wpE C q d k a l (fun x H => IsiK x t Q H) E H := rfl
theorem E_comp {elt src : Ex} {t : Tg} {ifs : List Ex} {Q E} : wpE C q d k (.comp elt t src ifs) l Q E H = wpE C q d k src l (fun sv H => CompK C q d t ifs elt l Q sv H) E H := rfl
theorem L_nil {Q E} : wpL C q d k [] l Q E H = Q [] H := rfl
theorem L_cons {e : Ex} {es : List Ex} {Q E} : wpL C q d k (e :: es) l Q E H = wpE C q d k e l (fun v H => wpL C q d k es l (fun vs H => Q (v :: vs) H) E H) E H := rfl
theorem A_cons {e : Ex} {es : List Ex} {Q E} : wpAnd C q d k (e :: es) l Q E H = wpE C q d k e l (fun v H => AndK C q d k es l Q E v H) E H := rfl
theorem O_cons {e : Ex} {es : List Ex} {Q E} : wpOr C q d k (e :: es) l Q E H = wpE C q d k e l (fun v H => OrK C q d k es l Q E v H) E H := rfl
theorem C_cons {x : V} {o : Cm} {os : List Cm} {e : Ex} {es : List Ex} {Q E} : wpC C q d k x (o :: os) (e :: es) l Q E H = wpE C q d k e l (fun y H => CmpK C q d k o x y os es l Q E H) E H := rfl
theorem I_nil {Q} : wpI C q d k [] l Q H = Q true H := rfl
theorem I_cons {e : Ex} {es : List Ex} {Q} : wpI C q d k (e :: es) l Q H = wpE C q d k e l (fun v H => TestK C q d k es l Q v H) noX H := rfl
theorem VarK_some {v : V} {Q} : VarK (some v) Q H = Q v H := rfl
theorem NegK_int {i : Int} {Q} : NegK (.int i) Q H = Q (.int (-i)) H := rfl
theorem NotK_bool {b : Bool} {Q} : NotK (.bool b) Q H = Q (.bool !b) H := rfl
theorem truthP_bool {b : Bool} {Q} : truthP Q (.bool b) H = Q b H := rfl
theorem AndK_nil {v : V} {Q E} : AndK C q d k [] l Q E v H = Q v H := rfl
theorem AndK_cons {e : Ex} {es : List Ex} {b : Bool} {Q E} : AndK C q d k (e :: es) l Q E (.bool b) H = if b = true then wpAnd C q d k (e :: es) l Q E H else Q (.bool false) H := by cases b <;> rfl
theorem OrK_nil {v : V} {Q E} : OrK C q d k [] l Q E v H = Q v H := rfl
theorem OrK_cons {e : Ex} {es : List Ex} {b : Bool} {Q E} : OrK C q d k (e :: es) l Q E (.bool b) H = if b = true then Q (.bool true) H else wpOr C q d k (e :: es) l Q E H := by cases b <;> rfl
theorem CmpR_nil {y : V} {os : List Cm} {b : Bool} {Q E} : CmpR C q d k y os [] l Q E b H = Q b H := rfl
theorem CmpR_cons {y : V} {os : List Cm} {e : Ex} {es : List Ex} {b : Bool} {Q E} : CmpR C q d k y os (e :: es) l Q E b H = if b = true then wpC C q d k y os (e :: es) l Q E H else Q false H := by cases b <;> rfl
theorem CmpK_lt {a b : Int} {os : List Cm} {es : List Ex} {Q E} : CmpK C q d k .lt (.int a) (.int b) os es l Q E H = CmpR C q d k (.int b) os es l Q E (decide (a < b)) H := rfl
theorem CmpK_le {a b : Int} {os : List Cm} {es : List Ex} {Q E} : CmpK C q d k .le (.int a) (.int b) os es l Q E H = CmpR C q d k (.int b) os es l Q E (decide (a ≤ b)) H := rfl
theorem CmpK_gt {a b : Int} {os : List Cm} {es : List Ex} {Q E} : CmpK C q d k .gt (.int a) (.int b) os es l Q E H = CmpR C q d k (.int b) os es l Q E (decide (a > b)) H := rfl
theorem CmpK_ge {a b : Int} {os : List Cm} {es : List Ex} {Q E} : CmpK C q d k .ge (.int a) (.int b) os es l Q E H = CmpR C q d k (.int b) os es l Q E (decide (a ≥ b)) H := rfl
theorem CmpK_eqi {a b : Int} {os : List Cm} {es : List Ex} {Q E} : CmpK C q d k .eq (.int a) (.int b) os es l Q E H = CmpR C q d k (.int b) os es l Q E (decide (a = b)) H := rfl
theorem CmpK_nei {a b : Int} {os : List Cm} {es : List Ex} {Q E} : CmpK C q d k .ne (.int a) (.int b) os es l Q E H = CmpR C q d k (.int b) os es l Q E (!decide (a = b)) H := rfl
theorem CmpK_of {o : Cm} {x y : V} {b : Bool} {os : List Cm} {es : List Ex} {Q E} (h : cmpV H o x y = some b) (hq : CmpR C q d k y os es l Q E b H) : CmpK C q d k o x y os es l Q E H := by unfold CmpK; rw [h]; exact hq
theorem TestK_bool {es : List Ex} {b : Bool} {Q} : TestK C q d k es l Q (.bool b) H = if b = true then wpI C q d k es l Q H else Q false H := by cases b <;> rfl
theorem BinK_addi {a b : Int} {Q} : BinK .add (.int a) (.int b) Q H = Q (.int (a + b)) H := rfl
theorem BinK_subi {a b : Int} {Q} : BinK .sub (.int a) (.int b) Q H = Q (.int (a - b)) H := rfl
theorem BinK_of {op : Op} {x y v : V} {H' : Hp} {Q} (h : binV H op x y = some (v, H')) (hq : Q v H') : BinK op x y Q H := by unfold BinK; rw [h]; exact hq
theorem IdxK_of {x y v : V} {Q} (h : idxV H x y = some v) (hq : Q v H) : IdxK x y Q H := by unfold IdxK; rw [h]; exact hq
theorem SliceK_of {x y z v : V} {H' : Hp} {Q} (h : sliceV H x y z = some (v, H')) (hq : Q v H') : SliceK x y z Q H := by unfold SliceK; rw [h]; exact hq
theorem RevK_of {x v : V} {H' : Hp} {Q} (h : revV H x = some (v, H')) (hq : Q v H') : RevK x Q H := by unfold RevK; rw [h]; exact hq
theorem BltK_of {b : Bl} {vs : List V} {v : V} {H' : Hp} {Q} (h : bltV H b vs = some (v, H')) (hc : q = true) (hq : Q v H') : BltK q b vs Q H := by unfold BltK; rw [h]; exact ⟨hc, hq⟩
theorem MethA_of {m : Me} {x : V} {es : List Ex} {Q E} (h : methOk m x = true) : MethA C q d k m x es l Q E H = wpL C q d k es l (fun vs H => MethK m x vs Q H) E H := by unfold MethA; rw [h]; rfl
theorem MethA_lst {m : Me} {a : Nat} {es : List Ex} {Q E} (h : m ≠ .join) : MethA C q d k m (.lst a) es l Q E H = wpL C q d k es l (fun vs H => MethK m (.lst a) vs Q H) E H := MethA_of (by cases m <;> first | rfl | exact absurd rfl h)
theorem MethK_of {m : Me} {x v : V} {vs : List V} {H' : Hp} {Q} (h : methV H m x vs = some (v, H')) (hq : Q v H') : MethK m x vs Q H := by unfold MethK; rw [h]; exact hq
theorem IsiK_of {x : V} {t : Tc} {b : Bool} {Q} (h : isiV x t = some b) : IsiK x t Q H = Q (.bool b) H := by unfold IsiK; rw [h]
theorem CompK_of {t : Tg} {ifs : List Ex} {elt : Ex} {sv : V} {items : List V} {Q} (h : srcV H sv = some items) (hc : q = true) (hz : items.length ≤ sizeLine) (hw : wpIter (okV sv items) (CompS C q d t ifs elt l) items [] (fun acc H' => Q (.lst H'.length) (H' ++ [acc])) H) : CompK C q d t ifs elt l Q sv H := by
  unfold CompK; rw [h]; exact ⟨hc, hz, hw⟩
theorem CompS_one {i : Nat} {ifs : List Ex} {elt : Ex} {x : V} {acc : List V} {K} : CompS C q d (.one i) ifs elt l x acc K H = wpI C q d none ifs (l.set i (some x)) (fun b H => if b = true then wpE C q d none elt (l.set i (some x)) (fun v H => K (acc ++ [v]) H) noX H else K acc H) H := by
  show wpI C q d none ifs (l.set i (some x)) (fun b H => match b with
      | true => wpE C q d none elt (l.set i (some x)) (fun v H => K (acc ++ [v]) H) noX H
      | false => K acc H) H = _
  congr 1; funext b H; cases b <;> rfl
theorem CompS_two {i j : Nat} {ifs : List Ex} {elt : Ex} {a b : V} {acc : List V} {K} : CompS C q d (.two i j) ifs elt l (.tup [a, b]) acc K H = wpI C q d none ifs ((l.set i (some a)).set j (some b)) (fun t H => if t = true then wpE C q d none elt ((l.set i (some a)).set j (some b)) (fun v H => K (acc ++ [v]) H) noX H else K acc H) H := by
  show wpI C q d none ifs ((l.set i (some a)).set j (some b)) (fun b_1 H => match b_1 with
      | true => wpE C q d none elt ((l.set i (some a)).set j (some b)) (fun v H => K (acc ++ [v]) H) noX H
      | false => K acc H) H = _
  congr 1; funext b H; cases b <;> rfl
def Then (C : CallT) (q : Bool) (d : Nat) (k : Clo) (ss : List St) (Q : SPost) (E : SX) : SPost := fun f l' H' => match f with
  | .next => wpSs C q d k ss l' Q E H'
  | .ret v => Q (.ret v) l' H'
def IteK (C : CallT) (q : Bool) (d : Nat) (k : Clo) (a b : List St) (l : Loc) (Q : SPost) (E : SX) (t : Bool) (H : Hp) : Prop := match t with
  | true => wpSs C q d k a l Q E H
  | false => wpSs C q d k b l Q E H
def PutK (l : Loc) (Q : SPost) (a j v : V) (H : Hp) : Prop := match putV H a j v with
  | some H' => Q .next l H'
  | none => False
def UnpK (is : List Nat) (l : Loc) (Q : SPost) (v : V) (H : Hp) : Prop := match v with
  | .tup vs => (match bindL is vs l with
    | some l' => Q .next l' H
    | none => False)
  | _ => False
def LoopB (C : CallT) (q : Bool) (d : Nat) (k : Clo) (t : Tg) (b : List St) (E : SX) (x : V) (l : Loc) (Q : SPost) (H : Hp) : Prop := match bindT t x l with
  | some l' => wpSs C q d k b l' Q E H
  | none => False
def LoopI (C : CallT) (q : Bool) (d : Nat) (k : Clo) (t : Tg) (b : List St) (l : Loc) (Q : SPost) (E : SX) (items : List V) (ok : Hp → Prop) (H : Hp) : Prop := wpFor ok (LoopB C q d k t b E) items l Q H
def WhilK (C : CallT) (q : Bool) (d : Nat) (k : Clo) (t : Ex) (b : List St) (l : Loc) (Q : SPost) (H : Hp) : Prop :=
  wpWhile (fun l Q H => wpT C q d k t l Q noX H) (fun l Q H => wpSs C q d k b l Q (fun _ _ _ => False) H) l Q H
theorem S_nil {Q E} : wpSs C q d k [] l Q E H = Q .next l H := rfl
theorem S_cons {s : St} {ss : List St} {Q E} : wpSs C q d k (s :: ss) l Q E H = wpS C q d k s l (Then C q d k ss Q E) E H := rfl
theorem Then_next {ss : List St} {Q E} : Then C q d k ss Q E .next l H = wpSs C q d k ss l Q E H := rfl
theorem Then_ret {ss : List St} {v : V} {Q E} : Then C q d k ss Q E (.ret v) l H = Q (.ret v) l H := rfl
theorem S_set {i : Nat} {e : Ex} {Q E} : wpS C q d k (.set i e) l Q E H = wpE C q d k e l (fun v H => Q .next (l.set i (some v)) H) (fun x H => E x l H) H := rfl
theorem S_unp {is : List Nat} {e : Ex} {Q E} : wpS C q d k (.unp is e) l Q E H = (q = true ∧ wpE C q d k e l (fun v H => UnpK is l Q v H) (fun x H => E x l H) H) := rfl
theorem S_put {o i e : Ex} {Q E} : wpS C q d k (.put o i e) l Q E H = wpE C q d k e l (fun v H => wpE C q d k o l (fun a H => wpE C q d k i l (fun j H => PutK l Q a j v H) (fun x H => E x l H) H) (fun x H => E x l H) H) (fun x H => E x l H) H := rfl
theorem S_expr {e : Ex} {Q E} : wpS C q d k (.expr e) l Q E H = wpE C q d k e l (fun _ H => Q .next l H) (fun x H => E x l H) H := rfl
theorem S_ret {e : Ex} {Q E} : wpS C q d k (.ret e) l Q E H = wpE C q d k e l (fun v H => Q (.ret v) l H) (fun x H => E x l H) H := rfl
theorem S_ite {t : Ex} {a b : List St} {Q E} : wpS C q d k (.ite t a b) l Q E H = wpE C q d k t l (truthP (IteK C q d k a b l Q E)) (fun x H => E x l H) H := rfl
theorem S_whil {t : Ex} {b : List St} {Q E} : wpS C q d k (.whil t b) l Q E H = (q = true ∧ WhilK C q d k t b l Q H) := rfl
theorem S_loop {t : Tg} {s : Sr} {b : List St} {Q E} : wpS C q d k (.loop t s b) l Q E H = (q = true ∧ wpSr C q d k s l (LoopI C q d k t b l Q E) (fun x H => E x l H) H) := rfl
theorem IteK_eq {a b : List St} {t : Bool} {Q E} : IteK C q d k a b l Q E t H = if t = true then wpSs C q d k a l Q E H else wpSs C q d k b l Q E H := by cases t <;> rfl
theorem PutK_of {a j v : V} {H' : Hp} {Q} (h : putV H a j v = some H') (hq : Q .next l H') : PutK l Q a j v H := by unfold PutK; rw [h]; exact hq
theorem UnpK_of {is : List Nat} {vs : List V} {l' : Loc} {Q} (h : bindL is vs l = some l') (hq : Q .next l' H) : UnpK is l Q (.tup vs) H := by simp only [UnpK, h]; exact hq
theorem LoopB_one {i : Nat} {b : List St} {x : V} {Q E} : LoopB C q d k (.one i) b E x l Q H = wpSs C q d k b (l.set i (some x)) Q E H := rfl
theorem LoopB_two {i j : Nat} {b : List St} {x y : V} {Q E} : LoopB C q d k (.two i j) b E (.tup [x, y]) l Q H = wpSs C q d k b ((l.set i (some x)).set j (some y)) Q E H := rfl
theorem Sr_val {e : Ex} {items : List V} {Q : List V → (Hp → Prop) → Hp → Prop} {E} {v : V} (hv : ∀ (K : V → Hp → Prop) E', K v H → wpE C q d k e l K E' H) (h : srcV H v = some items) (hq : Q items (okV v items) H) : wpSr C q d k (.val e) l Q E H := by
  simp only [wpSr]
  refine hv _ _ ?_
  simp only [h]; exact hq
end
end Bn
local macro_rules | `(tactic| walk_at "wps") => `(tactic| try simp only [Bn.S_nil, Bn.S_cons, Bn.Then_next, Bn.Then_ret, Bn.S_set, Bn.S_unp, Bn.S_put, Bn.S_expr, Bn.S_ret, Bn.S_ite, Bn.S_whil, Bn.S_loop, Bn.IteK_eq, Bn.LoopB_one, Bn.LoopB_two, Bn.E_lit, Bn.E_var, Bn.E_tup, Bn.E_list, Bn.E_dict0, Bn.E_bin, Bn.E_neg, Bn.E_not, Bn.E_cmp, Bn.E_and, Bn.E_or, Bn.E_idx, Bn.E_slice, Bn.E_rev, Bn.E_call, Bn.E_blt, Bn.E_meth, Bn.E_isi, Bn.E_comp, Bn.L_nil, Bn.L_cons, Bn.A_cons, Bn.O_cons, Bn.C_cons, Bn.I_nil, Bn.I_cons, Bn.VarK_some, Bn.NegK_int, Bn.NotK_bool, Bn.truthP_bool, Bn.AndK_nil, Bn.AndK_cons, Bn.OrK_nil, Bn.OrK_cons, Bn.CmpR_nil, Bn.CmpR_cons, Bn.CmpK_lt, Bn.CmpK_le, Bn.CmpK_gt, Bn.CmpK_ge, Bn.CmpK_eqi, Bn.CmpK_nei, Bn.TestK_bool, Bn.BinK_addi, Bn.BinK_subi, Bn.CompS_one, Bn.CompS_two, List.getD_eq_getElem?_getD, List.getElem?_cons_zero, List.getElem?_cons_succ, Option.getD_some, Option.getD_none, List.map_cons, List.map_nil, List.cons_append, List.nil_append, List.replicate, List.set_cons_zero, List.set_cons_succ, Nat.sub_self, if_true, if_false, Bool.false_eq_true, Bool.not_true, Bool.not_false, decide_true, decide_false, decide_eq_true_eq, Bool.not_eq_true', true_and])
namespace Bn
open PySem
def p_is_among : List St := [.ret (.and [(.isi (.var 0) .int), (.not (.isi (.var 0) .bool)), (.cmp (.var 1) [.le, .le] [(.var 0), (.var 2)])])]
def p_need_lines : List St := [.ite (.not (.call "is_among" [(.var 0), (.lit (.int 1)), (.lit (.int 64))])) [.stuck] []]
def p_is_joint : List St := [.ite (.or [(.not (.isi (.var 0) .tuple)), (.cmp (.blt .len [(.var 0)]) [.ne] [(.lit (.int 2))])]) [.ret (.lit (.bool false))] [], .ite (.or [(.not (.call "is_among" [(.idx (.var 0) (.lit (.int 0))), (.lit (.int 0)), (.bin .sub (.var 1) (.lit (.int 1)))])), (.not (.call "is_among" [(.idx (.var 0) (.lit (.int 1))), (.lit (.int 0)), (.bin .sub (.var 1) (.lit (.int 1)))]))]) [.ret (.lit (.bool false))] [], .ret (.cmp (.idx (.var 0) (.lit (.int 0))) [.lt] [(.idx (.var 0) (.lit (.int 1)))])]
def p_is_layer : List St := [.ite (.or [(.not (.isi (.var 0) .list)), (.not (.cmp (.lit (.int 1)) [.le, .le] [(.blt .len [(.var 0)]), (.lit (.int 63))]))]) [.ret (.lit (.bool false))] [], .set 2 (.neg (.lit (.int 1))), .loop (.one 3) (.val (.var 0)) [.ite (.or [(.not (.call "is_joint" [(.var 3), (.var 1)])), (.cmp (.idx (.var 3) (.lit (.int 1))) [.le] [(.var 2)])]) [.ret (.lit (.bool false))] [], .set 2 (.idx (.var 3) (.lit (.int 1)))], .ret (.lit (.bool true))]
def p_need_net : List St := [.expr (.call "need_lines" [(.var 0)]), .ite (.or [(.not (.isi (.var 1) .list)), (.cmp (.blt .len [(.var 1)]) [.gt] [(.lit (.int 80))])]) [.stuck] [], .loop (.two 2 3) (.enum (.var 1)) [.ite (.not (.call "is_layer" [(.var 3), (.var 0)])) [.stuck] []]]
def p_rows : List St := [.expr (.call "need_net" [(.var 0), (.var 1)]), .set 2 (.comp (.list [(.var 7)]) (.one 7) (.blt .range [(.var 0)]) []), .loop (.one 3) (.val (.var 1)) [.set 4 (.blt .list [(.var 2)]), .loop (.two 5 6) (.val (.var 3)) [.put (.var 4) (.var 6) (.bin .add (.idx (.var 2) (.var 5)) (.idx (.var 2) (.var 6)))], .set 2 (.var 4)], .ret (.comp (.blt .list [(.var 7)]) (.one 7) (.var 2) [])]
def p_does_tell : List St := [.set 2 (.blt .list [(.blt .range [(.var 0)])]), .loop (.one 3) (.val (.var 1)) [.set 4 (.blt .list [(.var 2)]), .loop (.two 5 6) (.val (.var 3)) [.ite (.cmp (.bin .add (.var 5) (.lit (.int 1))) [.ne] [(.idx (.var 2) (.var 6))]) [.ret (.lit (.bool false))] [], .put (.var 4) (.var 6) (.idx (.var 2) (.var 5))], .set 2 (.var 4)], .ret (.blt .all [(.comp (.cmp (.var 7) [.eq] [(.lit (.int 0))]) (.one 7) (.var 2) [])])]
def p_tells : List St := [.expr (.call "need_net" [(.var 0), (.var 1)]), .ret (.call "does_tell" [(.var 0), (.var 1)])]
def p__law_cell_at : List St := [.ite (.cmp (.var 1) [.lt] [(.blt .len [(.var 0)])]) [.ret (.idx (.var 0) (.var 1))] [], .ret (.lit (.int 0))]
def p__law_whole : List St := [.ret (.and [(.isi (.var 0) .int), (.not (.isi (.var 0) .bool))])]
def p__law_place : List St := [.set 5 (.blt .max [(.idx (.var 3) (.var 1)), (.idx (.var 3) (.var 2)), (.idx (.var 4) (.var 2))]), .whil (.cmp (.blt .len [(.var 0)]) [.le] [(.var 5)]) [.expr (.meth .append (.var 0) [(.list [])])], .expr (.meth .append (.idx (.var 0) (.var 5)) [(.tup [(.var 2), (.var 1)])]), .put (.var 4) (.var 1) (.blt .max [(.idx (.var 4) (.var 1)), (.var 5)]), .put (.var 3) (.var 2) (.bin .add (.var 5) (.lit (.int 1)))]
def p__law_thinner : List St := [.set 6 (.list []), .set 7 (.lit (.int 0)), .whil (.cmp (.var 7) [.lt] [(.blt .len [(.var 1)])]) [.ite (.and [(.cmp (.bin .add (.var 7) (.lit (.int 1))) [.lt] [(.blt .len [(.var 1)])]), (.cmp (.bin .mod (.bin .div (.var 2) (.bin .add (.lit (.int 1)) (.var 7))) (.lit (.int 4))) [.gt] [(.lit (.int 0))])]) [.expr (.call "_law_place" [(.var 0), (.idx (.var 1) (.var 7)), (.idx (.var 1) (.bin .add (.var 7) (.lit (.int 1)))), (.var 3), (.var 4)]), .ite (.cmp (.var 6) [.ne] [(.list [])]) [.expr (.meth .append (.var 5) [(.tup [(.idx (.var 6) (.neg (.lit (.int 1)))), (.idx (.var 1) (.var 7))])])] [], .set 7 (.bin .add (.var 7) (.lit (.int 1)))] [], .expr (.meth .append (.var 6) [(.idx (.var 1) (.var 7))]), .set 7 (.bin .add (.var 7) (.lit (.int 1)))], .ret (.var 6)]
def p__law_telling : List St := [.set 0 (.bin .mod (.bin .mul (.var 0) (.lit (.int 48271))) (.lit (.int 2147483647))), .set 2 (.list []), .set 3 (.list []), .set 4 (.bin .mul (.list [(.lit (.int 0))]) (.var 1)), .set 5 (.bin .mul (.list [(.lit (.int 0))]) (.var 1)), .set 6 (.blt .list [(.blt .range [(.var 1)])]), .loop (.one 7) (.val (.blt .range [(.bin .mod (.var 0) (.lit (.int 4)))])) [.set 6 (.call "_law_thinner" [(.var 2), (.var 6), (.bin .div (.bin .div (.var 0) (.lit (.int 4))) (.bin .add (.lit (.int 1)) (.var 7))), (.var 4), (.var 5), (.var 3)])], .set 8 (.comp (.list [(.var 13)]) (.one 13) (.var 6) []), .whil (.cmp (.blt .len [(.var 8)]) [.gt] [(.lit (.int 1))]) [.set 0 (.bin .mod (.bin .mul (.var 0) (.lit (.int 16807))) (.lit (.int 2147483647))), .set 9 (.idx (.list [(.bin .mod (.bin .div (.var 0) (.lit (.int 3))) (.bin .sub (.blt .len [(.var 8)]) (.lit (.int 1)))), (.lit (.int 0)), (.bin .sub (.blt .len [(.var 8)]) (.lit (.int 2)))]) (.bin .mod (.var 0) (.lit (.int 3)))), .loop (.one 10) (.val (.idx (.var 8) (.bin .add (.var 9) (.lit (.int 1))))) [.expr (.call "_law_place" [(.var 2), (.idx (.idx (.var 8) (.var 9)) (.neg (.lit (.int 1)))), (.var 10), (.var 4), (.var 5)])], .set 11 (.bin .add (.idx (.var 8) (.var 9)) (.idx (.var 8) (.bin .add (.var 9) (.lit (.int 1))))), .set 8 (.bin .add (.bin .add (.slice (.var 8) (.lit .none) (.var 9)) (.list [(.var 11)])) (.slice (.var 8) (.bin .add (.var 9) (.lit (.int 2))) (.lit .none)))], .loop (.two 12 10) (.rev (.var 3)) [.expr (.call "_law_place" [(.var 2), (.var 12), (.var 10), (.var 4), (.var 5)])], .ret (.comp (.comp (.tup [(.var 15), (.var 14)]) (.two 14 15) (.blt .sorted [(.var 13)]) []) (.one 13) (.var 2) [])]
def p__law_lines_by : List St := [.set 1 (.bin .add (.lit (.int 1)) (.bin .mod (.var 0) (.lit (.int 12)))), .ite (.cmp (.bin .mod (.bin .div (.var 0) (.lit (.int 12))) (.lit (.int 9))) [.eq] [(.lit (.int 1))]) [.set 1 (.bin .add (.lit (.int 13)) (.bin .mod (.bin .div (.var 0) (.lit (.int 108))) (.lit (.int 20))))] [], .ret (.var 1)]
def p__law_with : List St := [.set 0 (.bin .add (.comp (.blt .list [(.var 5)]) (.one 5) (.var 0) []) (.list [(.list [])])), .ite (.cmp (.var 3) [.isIn] [(.comp (.idx (.var 5) (.lit (.int 1))) (.one 5) (.idx (.var 0) (.var 1)) [])]) [.ret (.comp (.var 5) (.one 5) (.var 0) [(.cmp (.var 5) [.ne] [(.list [])])])] [], .set 4 (.bin .add (.comp (.tup [(.idx (.var 5) (.lit (.int 1))), (.idx (.var 5) (.lit (.int 0)))]) (.one 5) (.idx (.var 0) (.var 1)) []) (.list [(.tup [(.var 3), (.var 2)])])), .put (.var 0) (.var 1) (.comp (.tup [(.var 6), (.var 5)]) (.two 5 6) (.blt .sorted [(.var 4)]) []), .ret (.comp (.var 5) (.one 5) (.var 0) [(.cmp (.var 5) [.ne] [(.list [])])])]
def p__law_bent : List St := [.ite (.cmp (.var 0) [.eq] [(.list [])]) [.ret (.var 0)] [], .set 2 (.bin .mod (.bin .div (.var 1) (.lit (.int 6))) (.blt .len [(.var 0)])), .set 3 (.bin .mod (.bin .div (.var 1) (.lit (.int 60))) (.blt .len [(.idx (.var 0) (.var 2))])), .unp [4, 5] (.idx (.idx (.var 0) (.var 2)) (.var 3)), .set 6 (.comp (.blt .list [(.var 7)]) (.one 7) (.var 0) []), .expr (.meth .pop (.idx (.var 6) (.var 2)) [(.var 3)]), .ite (.cmp (.bin .mod (.var 1) (.lit (.int 6))) [.eq] [(.lit (.int 0))]) [.ret (.comp (.var 7) (.one 7) (.var 6) [(.cmp (.var 7) [.ne] [(.list [])])])] [], .ite (.cmp (.bin .mod (.var 1) (.lit (.int 6))) [.eq] [(.lit (.int 1))]) [.ret (.call "_law_with" [(.var 6), (.var 2), (.bin .mod (.bin .div (.var 1) (.lit (.int 600))) (.var 5)), (.var 5)])] [], .ite (.cmp (.bin .mod (.var 1) (.lit (.int 6))) [.eq] [(.lit (.int 2))]) [.ret (.call "_law_with" [(.var 6), (.blt .max [(.lit (.int 0)), (.bin .sub (.var 2) (.lit (.int 1)))]), (.var 4), (.var 5)])] [], .ite (.cmp (.bin .mod (.var 1) (.lit (.int 6))) [.eq] [(.lit (.int 3))]) [.ret (.call "_law_with" [(.var 6), (.blt .min [(.blt .len [(.var 0)]), (.bin .add (.var 2) (.lit (.int 1)))]), (.var 4), (.var 5)])] [], .ite (.cmp (.bin .mod (.var 1) (.lit (.int 6))) [.eq] [(.lit (.int 4))]) [.ret (.call "_law_with" [(.var 0), (.bin .mod (.bin .div (.var 1) (.lit (.int 600))) (.bin .add (.blt .len [(.var 0)]) (.lit (.int 1)))), (.var 4), (.var 5)])] [], .ret (.bin .add (.bin .add (.bin .add (.slice (.var 0) (.lit .none) (.var 2)) (.slice (.var 0) (.bin .add (.var 2) (.lit (.int 1))) (.bin .add (.var 2) (.lit (.int 2))))) (.list [(.idx (.var 0) (.var 2))])) (.slice (.var 0) (.bin .add (.var 2) (.lit (.int 2))) (.lit .none)))]
def p__law_slow : List St := [.set 2 (.list []), .loop (.one 3) (.val (.blt .range [(.bin .sub (.var 0) (.lit (.int 1)))])) [.set 4 (.bin .sub (.bin .sub (.var 0) (.lit (.int 1))) (.var 3)), .set 5 (.rev (.blt .list [(.blt .range [(.var 4)])])), .ite (.and [(.cmp (.bin .mod (.bin .div (.var 1) (.bin .add (.lit (.int 1)) (.var 4))) (.lit (.int 4))) [.eq] [(.lit (.int 1))]), (.cmp (.var 4) [.gt] [(.lit (.int 1))])]) [.set 6 (.bin .mod (.bin .div (.var 1) (.bin .add (.lit (.int 4)) (.var 4))) (.bin .sub (.var 4) (.lit (.int 1)))), .set 5 (.bin .add (.bin .add (.slice (.var 5) (.lit .none) (.var 6)) (.list [(.idx (.var 5) (.bin .add (.var 6) (.lit (.int 1)))), (.idx (.var 5) (.var 6))])) (.slice (.var 5) (.bin .add (.var 6) (.lit (.int 2))) (.lit .none)))] [], .set 2 (.bin .add (.var 2) (.comp (.list [(.tup [(.var 7), (.var 4)])]) (.one 7) (.var 5) []))], .ret (.var 2)]
def p__law_due : List St := [.set 2 (.comp (.list [(.var 7)]) (.one 7) (.blt .range [(.var 0)]) []), .loop (.one 3) (.val (.var 1)) [.set 4 (.blt .list [(.var 2)]), .loop (.two 5 6) (.val (.var 3)) [.put (.var 2) (.var 6) (.bin .add (.idx (.var 4) (.var 5)) (.idx (.var 4) (.var 6)))]], .ret (.var 2)]
def p_law : List St := [.set 1 (.call "_law_lines_by" [(.call "_law_cell_at" [(.var 0), (.lit (.int 0))])]), .set 2 (.call "_law_telling" [(.call "_law_cell_at" [(.var 0), (.lit (.int 1))]), (.var 1)]), .set 3 (.bin .mod (.bin .mul (.call "_law_cell_at" [(.var 0), (.lit (.int 2))]) (.lit (.int 48271))) (.lit (.int 2147483647))), .set 4 (.lit (.bool true)), .ite (.cmp (.bin .mod (.var 3) (.lit (.int 3))) [.gt] [(.lit (.int 0))]) [.set 2 (.call "_law_bent" [(.var 2), (.bin .div (.var 3) (.lit (.int 3)))]), .set 4 (.lit (.bool false))] [], .ite (.cmp (.bin .mod (.bin .div (.var 3) (.lit (.int 3))) (.lit (.int 5))) [.eq] [(.lit (.int 1))]) [.set 1 (.bin .add (.lit (.int 1)) (.bin .mod (.var 1) (.lit (.int 12)))), .set 2 (.call "_law_slow" [(.var 1), (.bin .div (.var 3) (.lit (.int 15)))]), .set 4 (.lit (.bool false))] [], .set 5 (.call "_law_due" [(.var 1), (.var 2)]), .set 4 (.or [(.var 4), (.cmp (.var 5) [.eq] [(.comp (.blt .list [(.blt .range [(.bin .add (.var 10) (.lit (.int 1)))])]) (.one 10) (.blt .range [(.var 1)]) [])])]), .set 7 (.comp (.blt .list [(.var 10)]) (.one 10) (.var 2) []), .set 8 (.call "rows" [(.var 1), (.var 7)]), .set 9 (.call "tells" [(.var 1), (.var 7)]), .ite (.or [(.not (.isi (.var 8) .list)), (.cmp (.var 8) [.ne] [(.var 5)]), (.not (.isi (.var 9) .bool)), (.cmp (.var 9) [.ne] [(.var 4)]), (.cmp (.var 7) [.ne] [(.var 2)])]) [.ret (.lit (.bool false))] [], .loop (.one 6) (.val (.blt .range [(.var 1)])) [.ite (.or [(.not (.isi (.idx (.var 8) (.var 6)) .list)), (.not (.blt .all [(.comp (.call "_law_whole" [(.var 10)]) (.one 10) (.idx (.var 8) (.var 6)) [])]))]) [.ret (.lit (.bool false))] [], .expr (.meth .append (.idx (.var 8) (.var 6)) [(.bin .add (.lit (.int 1000)) (.var 6))])], .loop (.one 6) (.val (.blt .range [(.var 1)])) [.ite (.cmp (.idx (.var 8) (.var 6)) [.ne] [(.bin .add (.idx (.var 5) (.var 6)) (.list [(.bin .add (.lit (.int 1000)) (.var 6))]))]) [.ret (.lit (.bool false))] []], .ret (.and [(.cmp (.call "rows" [(.var 1), (.var 7)]) [.eq] [(.var 5)]), (.cmp (.call "tells" [(.var 1), (.var 7)]) [.eq] [(.var 4)])])]
section
variable {c : Cx} {q : Bool} {d : Nat} {Q : V → Hp → Prop} {E : XPost} {H : Hp}
def isAmong (v : V) (lo hi : Int) : Bool := match v with
  | .int i => decide (lo ≤ i) && decide (i ≤ hi)
  | _ => false
def plainV : V → Bool
  | .none | .bool _ | .int _ | .str _ | .tup _ | .lst _ | .dict0 => true
  | _ => false
def isInt : V → Bool
  | .bool _ | .int _ => true
  | _ => false
def isBool : V → Bool
  | .bool _ => true
  | _ => false
def isTupV : V → Bool
  | .tup _ => true
  | _ => false
def isLst : V → Bool
  | .lst _ => true
  | _ => false
def isStr : V → Bool
  | .str _ => true
  | _ => false
theorem isi_int {v : V} {K : V → Hp → Prop} (h : plainV v = true) : IsiK v .int K H = K (.bool (isInt v)) H := IsiK_of (by cases v <;> first | rfl | cases h)
theorem isi_bool {v : V} {K : V → Hp → Prop} (h : plainV v = true) : IsiK v .bool K H = K (.bool (isBool v)) H := IsiK_of (by cases v <;> first | rfl | cases h)
theorem isi_tup {v : V} {K : V → Hp → Prop} (h : plainV v = true) : IsiK v .tuple K H = K (.bool (isTupV v)) H := IsiK_of (by cases v <;> first | rfl | cases h)
theorem isi_lst {v : V} {K : V → Hp → Prop} (h : plainV v = true) : IsiK v .list K H = K (.bool (isLst v)) H := IsiK_of (by cases v <;> first | rfl | cases h)
theorem isi_str {v : V} {K : V → Hp → Prop} (h : plainV v = true) : IsiK v .str K H = K (.bool (isStr v)) H := IsiK_of (by cases v <;> first | rfl | cases h)
theorem s_is_among (P : Has c "is_among" 3 3 p_is_among) {v : V} {lo hi : Int} (hv : plainV v = true) (hq : Q (.bool (isAmong v lo hi)) H) : Calls c q (d + 1) "is_among" [v, .int lo, .int hi] none Q E H := by
  refine P q d _ Q E H rfl ?_
  unfold p_is_among
  (try simp only [S_nil, S_cons, Then_next, Then_ret, S_set, S_unp, S_put, S_expr, S_ret, S_ite, S_whil, S_loop, IteK_eq, LoopB_one, LoopB_two, E_lit, E_var, E_tup, E_list, E_dict0, E_bin, E_neg, E_not, E_cmp, E_and, E_or, E_idx, E_slice, E_rev, E_call, E_blt, E_meth, E_isi, E_comp, L_nil, L_cons, A_cons, O_cons, C_cons, I_nil, I_cons, VarK_some, NegK_int, NotK_bool, truthP_bool, AndK_nil, AndK_cons, OrK_nil, OrK_cons, CmpR_nil, CmpR_cons, CmpK_lt, CmpK_le, CmpK_gt, CmpK_ge, CmpK_eqi, CmpK_nei, TestK_bool, BinK_addi, BinK_subi, CompS_one, CompS_two, List.getD_eq_getElem?_getD, List.getElem?_cons_zero, List.getElem?_cons_succ, Option.getD_some, Option.getD_none, List.map_cons, List.map_nil, List.cons_append, List.nil_append, List.replicate, List.set_cons_zero, List.set_cons_succ, Nat.sub_self, if_true, if_false, Bool.false_eq_true, Bool.not_true, Bool.not_false, decide_true, decide_false, decide_eq_true_eq, Bool.not_eq_true', true_and, isi_int hv, isi_bool hv])
  cases v <;> simp only [plainV, Bool.false_eq_true] at hv <;> (try simp only [S_nil, S_cons, Then_next, Then_ret, S_set, S_unp, S_put, S_expr, S_ret, S_ite, S_whil, S_loop, IteK_eq, LoopB_one, LoopB_two, E_lit, E_var, E_tup, E_list, E_dict0, E_bin, E_neg, E_not, E_cmp, E_and, E_or, E_idx, E_slice, E_rev, E_call, E_blt, E_meth, E_isi, E_comp, L_nil, L_cons, A_cons, O_cons, C_cons, I_nil, I_cons, VarK_some, NegK_int, NotK_bool, truthP_bool, AndK_nil, AndK_cons, OrK_nil, OrK_cons, CmpR_nil, CmpR_cons, CmpK_lt, CmpK_le, CmpK_gt, CmpK_ge, CmpK_eqi, CmpK_nei, TestK_bool, BinK_addi, BinK_subi, CompS_one, CompS_two, List.getD_eq_getElem?_getD, List.getElem?_cons_zero, List.getElem?_cons_succ, Option.getD_some, Option.getD_none, List.map_cons, List.map_nil, List.cons_append, List.nil_append, List.replicate, List.set_cons_zero, List.set_cons_succ, Nat.sub_self, if_true, if_false, Bool.false_eq_true, Bool.not_true, Bool.not_false, decide_true, decide_false, decide_eq_true_eq, Bool.not_eq_true', true_and, isInt, isBool, isi_bool (H := H) (v := .bool _) rfl, isi_bool (H := H) (v := .int _) rfl]) <;> simp only [isAmong] at hq <;> try exact hq
  rename_i i
  by_cases h : lo ≤ i
  · (try simp only [S_nil, S_cons, Then_next, Then_ret, S_set, S_unp, S_put, S_expr, S_ret, S_ite, S_whil, S_loop, IteK_eq, LoopB_one, LoopB_two, E_lit, E_var, E_tup, E_list, E_dict0, E_bin, E_neg, E_not, E_cmp, E_and, E_or, E_idx, E_slice, E_rev, E_call, E_blt, E_meth, E_isi, E_comp, L_nil, L_cons, A_cons, O_cons, C_cons, I_nil, I_cons, VarK_some, NegK_int, NotK_bool, truthP_bool, AndK_nil, AndK_cons, OrK_nil, OrK_cons, CmpR_nil, CmpR_cons, CmpK_lt, CmpK_le, CmpK_gt, CmpK_ge, CmpK_eqi, CmpK_nei, TestK_bool, BinK_addi, BinK_subi, CompS_one, CompS_two, List.getD_eq_getElem?_getD, List.getElem?_cons_zero, List.getElem?_cons_succ, Option.getD_some, Option.getD_none, List.map_cons, List.map_nil, List.cons_append, List.nil_append, List.replicate, List.set_cons_zero, List.set_cons_succ, Nat.sub_self, if_true, if_false, Bool.false_eq_true, Bool.not_true, Bool.not_false, decide_true, decide_false, decide_eq_true_eq, Bool.not_eq_true', true_and, h])
    simp only [h, decide_true, Bool.true_and] at hq
    exact hq
  · (try simp only [S_nil, S_cons, Then_next, Then_ret, S_set, S_unp, S_put, S_expr, S_ret, S_ite, S_whil, S_loop, IteK_eq, LoopB_one, LoopB_two, E_lit, E_var, E_tup, E_list, E_dict0, E_bin, E_neg, E_not, E_cmp, E_and, E_or, E_idx, E_slice, E_rev, E_call, E_blt, E_meth, E_isi, E_comp, L_nil, L_cons, A_cons, O_cons, C_cons, I_nil, I_cons, VarK_some, NegK_int, NotK_bool, truthP_bool, AndK_nil, AndK_cons, OrK_nil, OrK_cons, CmpR_nil, CmpR_cons, CmpK_lt, CmpK_le, CmpK_gt, CmpK_ge, CmpK_eqi, CmpK_nei, TestK_bool, BinK_addi, BinK_subi, CompS_one, CompS_two, List.getD_eq_getElem?_getD, List.getElem?_cons_zero, List.getElem?_cons_succ, Option.getD_some, Option.getD_none, List.map_cons, List.map_nil, List.cons_append, List.nil_append, List.replicate, List.set_cons_zero, List.set_cons_succ, Nat.sub_self, if_true, if_false, Bool.false_eq_true, Bool.not_true, Bool.not_false, decide_true, decide_false, decide_eq_true_eq, Bool.not_eq_true', true_and, h])
    simp only [h, decide_false, Bool.false_and] at hq
    exact hq
theorem s_need_lines (P1 : Has c "is_among" 3 3 p_is_among) (P : Has c "need_lines" 1 1 p_need_lines) {n : Int} (h : 1 ≤ n ∧ n ≤ 64) (hq : Q .none H) : Calls c q (d + 2) "need_lines" [.int n] none Q E H := by
  refine P q (d + 1) _ Q E H rfl ?_
  unfold p_need_lines
  walk_at "wps"
  refine s_is_among P1 rfl ?_
  simp only [isAmong, h.1, h.2, decide_true, Bool.and_self]
  walk_at "wps"
  exact hq
def isJointV (v : V) (n : Int) : Bool := match v with
  | .tup [x, y] => isAmong x 0 (n - 1) && isAmong y 0 (n - 1) && (match x, y with
    | .int a, .int b => decide (a < b)
    | _, _ => false)
  | _ => false
def plainJ (v : V) : Bool := plainV v && (match v with
  | .tup [x, y] => plainV x && plainV y
  | _ => true)
theorem len_tup {l : List V} {K : V → Hp → Prop} (hc : q = true) : BltK q .len [.tup l] K H = K (.int l.length) H := by
  subst hc; simp only [BltK, bltV, true_and]
theorem idx_tup0 {x : V} {r : List V} {K : V → Hp → Prop} : IdxK (.tup (x :: r)) (.int 0) K H = K x H := by
  simp [IdxK, idxV, itemsV, ix]
theorem idx_tup1 {x y : V} {r : List V} {K : V → Hp → Prop} : IdxK (.tup (x :: y :: r)) (.int 1) K H = K y H := by
  have : (1 : Int) < (r.length : Int) + 1 + 1 := by omega
  simp [IdxK, idxV, itemsV, ix, this]
theorem s_is_joint (P1 : Has c "is_among" 3 3 p_is_among) (P : Has c "is_joint" 2 2 p_is_joint) {v : V} {n : Int} (hv : plainJ v = true) (hc : q = true) (hq : Q (.bool (isJointV v n)) H) : Calls c q (d + 2) "is_joint" [v, .int n] none Q E H := by
  subst hc
  refine P true (d + 1) _ Q E H rfl ?_
  unfold p_is_joint
  have hp : plainV v = true := by simp only [plainJ, Bool.and_eq_true] at hv; exact hv.1
  walk_at "wps"
  simp only [isi_tup hp]
  by_cases h2 : ∃ x y, v = .tup [x, y]
  · obtain ⟨x, y, rfl⟩ := h2
    simp only [plainJ, plainV, Bool.true_and, Bool.and_eq_true] at hv
    simp only [isTupV]
    walk_at "wps"
    simp only [len_tup, List.length_cons, List.length_nil]
    walk_at "wps"
    simp only [idx_tup0, idx_tup1]
    refine s_is_among P1 hv.1 ?_
    cases hx : isAmong x 0 (n - 1)
    · walk_at "wps"
      simp only [isJointV, hx, Bool.false_and] at hq; exact hq
    · walk_at "wps"
      refine s_is_among P1 hv.2 ?_
      cases hy : isAmong y 0 (n - 1)
      · walk_at "wps"
        simp only [isJointV, hx, hy, Bool.and_false, Bool.false_and] at hq; exact hq
      · walk_at "wps"
        cases x <;> simp only [isAmong, Bool.false_eq_true] at hx
        cases y <;> simp only [isAmong, Bool.false_eq_true] at hy
        (try simp only [S_nil, S_cons, Then_next, Then_ret, S_set, S_unp, S_put, S_expr, S_ret, S_ite, S_whil, S_loop, IteK_eq, LoopB_one, LoopB_two, E_lit, E_var, E_tup, E_list, E_dict0, E_bin, E_neg, E_not, E_cmp, E_and, E_or, E_idx, E_slice, E_rev, E_call, E_blt, E_meth, E_isi, E_comp, L_nil, L_cons, A_cons, O_cons, C_cons, I_nil, I_cons, VarK_some, NegK_int, NotK_bool, truthP_bool, AndK_nil, AndK_cons, OrK_nil, OrK_cons, CmpR_nil, CmpR_cons, CmpK_lt, CmpK_le, CmpK_gt, CmpK_ge, CmpK_eqi, CmpK_nei, TestK_bool, BinK_addi, BinK_subi, CompS_one, CompS_two, List.getD_eq_getElem?_getD, List.getElem?_cons_zero, List.getElem?_cons_succ, Option.getD_some, Option.getD_none, List.map_cons, List.map_nil, List.cons_append, List.nil_append, List.replicate, List.set_cons_zero, List.set_cons_succ, Nat.sub_self, if_true, if_false, Bool.false_eq_true, Bool.not_true, Bool.not_false, decide_true, decide_false, decide_eq_true_eq, Bool.not_eq_true', true_and, idx_tup0, idx_tup1])
        simp only [isJointV, isAmong, hx, hy, Bool.true_and] at hq
        exact hq
  · have hj : isJointV v n = false := by
      unfold isJointV
      split
      · rename_i x y; exact absurd ⟨x, y, rfl⟩ h2
      · rfl
    rw [hj] at hq
    cases v <;> simp only [plainV, Bool.false_eq_true] at hp <;> simp only [isTupV] <;> walk_at "wps" <;> try exact hq
    rename_i l
    simp only [len_tup]
    walk_at "wps"
    have : ¬ (l.length : Int) = 2 := fun h => by
      have : l.length = 2 := by omega
      match l, this with
      | [x, y], _ => exact h2 ⟨x, y, rfl⟩
    simp only [this, decide_false, if_true]
    walk_at "wps"
    exact hq
def risingV (n : Int) : Int → List V → Bool
  | _, [] => true
  | last, x :: xs => isJointV x n && (match x with
    | .tup [_, .int h] => !decide (h ≤ last) && risingV n h xs
    | _ => false)
def isLayerV (H : Hp) (v : V) (n : Int) : Bool := match v with
  | .lst a => (match H[a]? with
    | some items => decide (1 ≤ items.length) && decide (items.length ≤ 63) && risingV n (-1) items
    | none => false)
  | _ => false
def plainL (H : Hp) (v : V) : Bool := plainV v && (match v with
  | .lst a => (match H[a]? with
    | some items => items.all plainJ
    | none => false)
  | _ => true)
theorem len_lst {a : Nat} {xs : List V} {K : V → Hp → Prop} (h : H[a]? = some xs) : BltK true .len [.lst a] K H = K (.int xs.length) H := by
  simp only [BltK, bltV, h, Option.map_some, true_and]
theorem s_is_layer (P1 : Has c "is_among" 3 3 p_is_among) (P2 : Has c "is_joint" 2 2 p_is_joint) (P : Has c "is_layer" 2 4 p_is_layer) {v : V} {n : Int} (hv : plainL H v = true) (hc : q = true) (hq : Q (.bool (isLayerV H v n)) H) : Calls c q (d + 3) "is_layer" [v, .int n] none Q E H := by
  subst hc
  refine P true (d + 2) _ Q E H rfl ?_
  unfold p_is_layer
  have hp : plainV v = true := by simp only [plainL, Bool.and_eq_true] at hv; exact hv.1
  walk_at "wps"
  simp only [isi_lst hp]
  by_cases h2 : ∃ a, v = .lst a
  · obtain ⟨a, rfl⟩ := h2
    simp only [plainL, plainV, Bool.true_and] at hv
    cases ha : H[a]? with
    | none => rw [ha] at hv; cases hv
    | some all =>
      rw [ha] at hv
      simp only [isLayerV, ha] at hq
      simp only [isLst]
      walk_at "wps"
      simp only [len_lst ha]
      walk_at "wps"
      by_cases g1 : 1 ≤ (all.length : Int)
      · have e1 : 1 ≤ all.length := by omega
        simp only [g1, if_true]
        by_cases g2 : (all.length : Int) ≤ 63
        · have e2 : all.length ≤ 63 := by omega
          simp only [g2, decide_true]
          walk_at "wps"
          refine Sr_val (v := .lst a) (fun K E' h => by walk_at "wps"; exact h) (by simp only [srcV]; exact ha) ?_
          unfold LoopI
          simp only [e1, e2, decide_true, Bool.true_and] at hq
          have key : ∀ (items : List V) (last : Int) (z : Option V), items.all plainJ = true → risingV n (-1) all = risingV n last items →
            wpFor (okV (.lst a) all) (LoopB (Calls c) true (d + 2) none (.one 3) [.ite (.or [(.not (.call "is_joint" [(.var 3), (.var 1)])), (.cmp (.idx (.var 3) (.lit (.int 1))) [.le] [(.var 2)])]) [.ret (.lit (.bool false))] [], .set 2 (.idx (.var 3) (.lit (.int 1)))] (fun x _ H => E x H))
              items [some (.lst a), some (.int n), some (.int last), z] (Then (Calls c) true (d + 2) none [.ret (.lit (.bool true))] (fun f _ H => match f with
                | .ret v => Q v H
                | .next => Q .none H) (fun x _ H => E x H)) H := by
            intro items
            induction items with
            | nil =>
              intro last z _ hr
              simp only [wpFor]
              walk_at "wps"
              rw [hr] at hq; exact hq
            | cons x xs ih =>
              intro last z hpl hr
              simp only [List.all_cons, Bool.and_eq_true] at hpl
              simp only [wpFor]
              walk_at "wps"
              refine s_is_joint P1 P2 hpl.1 rfl ?_
              cases hj : isJointV x n
              · walk_at "wps"
                rw [hr] at hq
                simp only [risingV, hj, Bool.false_and] at hq
                exact hq
              · obtain ⟨y, h, rfl⟩ : ∃ y h, x = .tup [y, .int h] := by
                  unfold isJointV at hj
                  split at hj
                  · rename_i y z'
                    cases z' <;> simp [isAmong] at hj
                    exact ⟨_, _, rfl⟩
                  · cases hj
                walk_at "wps"
                simp only [idx_tup1]
                walk_at "wps"
                by_cases hl : h ≤ last
                · simp only [hl, if_true]
                  rw [hr] at hq
                  simp only [risingV, hj, hl, decide_true, Bool.not_true, Bool.false_and, Bool.and_false] at hq
                  exact hq
                · simp only [hl, if_false]
                  refine ⟨ha, ih h _ hpl.2 ?_⟩
                  rw [hr]; simp only [risingV, hj, hl, decide_false, Bool.not_false, Bool.true_and]
          exact key all (-1) none hv rfl
        · simp only [g2, decide_false]
          walk_at "wps"
          have : ¬ all.length ≤ 63 := by omega
          simp only [this, decide_false, Bool.and_false, Bool.false_and] at hq
          exact hq
      · simp only [g1, if_false]
        walk_at "wps"
        have : ¬ 1 ≤ all.length := by omega
        simp only [this, decide_false, Bool.false_and] at hq
        exact hq
  · have hj : isLayerV H v n = false := by
      unfold isLayerV
      split
      · rename_i a; exact absurd ⟨a, rfl⟩ h2
      · rfl
    rw [hj] at hq
    cases v <;> simp only [plainV, Bool.false_eq_true] at hp <;> simp only [isLst] <;> walk_at "wps" <;> try exact hq
    rename_i a
    exact absurd ⟨a, rfl⟩ h2
end
end Bn
namespace Bn
open PySem
def pr (p : Nat × Nat) : V := .tup [.int p.1, .int p.2]
structure NetAt (H : Hp) (a : Nat) (bs : List Nat) (net : Net) : Prop where
  top : H[a]? = some (bs.map .lst)
  len : bs.length = net.length
  lay : ∀ (i b : Nat) (layer : List (Nat × Nat)), bs[i]? = some b → net[i]? = some layer → H[b]? = some (layer.map pr)
theorem joint_ok {n l h : Nat} (h1 : l < h) (h2 : h < n) : isJointV (pr (l, h)) n = true := by
  have e1 : (l : Int) ≤ n - 1 := by omega
  have e2 : (h : Int) ≤ n - 1 := by omega
  have e3 : (l : Int) < h := by omega
  simp [isJointV, pr, isAmong, e1, e2, h1]
theorem rising_ok {n : Nat} : ∀ {layer : List (Nat × Nat)} {lo : Nat}, rising n lo layer → risingV n ((lo : Int) - 1) (layer.map pr) = true
  | [], _, _ => rfl
  | (l, h) :: r, lo, hr => by
    obtain ⟨h1, h2, h3, h4⟩ := hr
    have e : ¬ ((h : Int) ≤ (lo : Int) - 1) := by omega
    have ih := rising_ok h4
    have e2 : ((h + 1 : Nat) : Int) - 1 = h := by omega
    rw [e2] at ih
    have hj := joint_ok h1 h2
    simp only [List.map_cons, risingV]
    simp only [pr] at hj ⊢
    simp only [hj, Bool.true_and]
    rw [ih]
    simp [e]
theorem layer_ok {H : Hp} {b n : Nat} {layer : List (Nat × Nat)} (hb : H[b]? = some (layer.map pr)) (hn : n ≤ 64) (h : okLayer n layer) : isLayerV H (.lst b) n = true := by
  obtain ⟨h1, h2⟩ := h
  have hl := rising_len h2 h1
  have e0 : 1 ≤ layer.length := by cases layer with | nil => exact absurd rfl h1 | cons => simp
  have e1 : layer.length ≤ 63 := by omega
  have := rising_ok h2
  simp only [isLayerV, hb, List.length_map, e0, e1, decide_true, Bool.true_and]
  simpa using this
theorem plainJ_pr (p : Nat × Nat) : plainJ (pr p) = true := rfl
theorem layer_plain {H : Hp} {b : Nat} {layer : List (Nat × Nat)} (hb : H[b]? = some (layer.map pr)) : plainL H (.lst b) = true := by
  simp only [plainL, plainV, hb, Bool.true_and, List.all_map, List.all_eq_true]
  intro p _; rfl
section
variable {c : Cx} {q : Bool} {d : Nat} {Q : V → Hp → Prop} {E : XPost} {H : Hp} {C : CallT} {k : Clo} {l : Loc}
theorem Sr_enum {e : Ex} {a : Nat} {items : List V} {Q : List V → (Hp → Prop) → Hp → Prop} {E} (hv : ∀ (K : V → Hp → Prop) E', K (.lst a) H → wpE C q d k e l K E' H) (h : H[a]? = some items) (hq : Q (enumFrom 0 items) (okV (.lst a) items) H) : wpSr C q d k (.enum e) l Q E H := by
  simp only [wpSr]
  refine hv _ _ ?_
  simp only [h]; exact hq
theorem Sr_rev {e : Ex} {a : Nat} {items : List V} {Q : List V → (Hp → Prop) → Hp → Prop} {E} (hv : ∀ (K : V → Hp → Prop) E', K (.lst a) H → wpE C q d k e l K E' H) (h : H[a]? = some items) (hq : Q items.reverse (okV (.lst a) items) H) : wpSr C q d k (.rev e) l Q E H := by
  simp only [wpSr]
  refine hv _ _ ?_
  simp only [h]; exact hq
structure Checks (c : Cx) : Prop where
  among : Has c "is_among" 3 3 p_is_among
  lines : Has c "need_lines" 1 1 p_need_lines
  joint : Has c "is_joint" 2 2 p_is_joint
  layer : Has c "is_layer" 2 4 p_is_layer
  net : Has c "need_net" 2 4 p_need_net
theorem s_need_net (P : Checks c) {n a : Nat} {bs : List Nat} {net : Net} (hn : 1 ≤ n ∧ n ≤ 64) (hN : NetAt H a bs net) (hok : okNet n net) (hc : q = true) (hq : Q .none H) : Calls c q (d + 4) "need_net" [.int n, .lst a] none Q E H := by
  subst hc
  refine P.net true (d + 3) _ Q E H rfl ?_
  unfold p_need_net
  walk_at "wps"
  refine s_need_lines (d := d + 1) P.among P.lines (by omega) ?_
  (try simp only [S_nil, S_cons, Then_next, Then_ret, S_set, S_unp, S_put, S_expr, S_ret, S_ite, S_whil, S_loop, IteK_eq, LoopB_one, LoopB_two, E_lit, E_var, E_tup, E_list, E_dict0, E_bin, E_neg, E_not, E_cmp, E_and, E_or, E_idx, E_slice, E_rev, E_call, E_blt, E_meth, E_isi, E_comp, L_nil, L_cons, A_cons, O_cons, C_cons, I_nil, I_cons, VarK_some, NegK_int, NotK_bool, truthP_bool, AndK_nil, AndK_cons, OrK_nil, OrK_cons, CmpR_nil, CmpR_cons, CmpK_lt, CmpK_le, CmpK_gt, CmpK_ge, CmpK_eqi, CmpK_nei, TestK_bool, BinK_addi, BinK_subi, CompS_one, CompS_two, List.getD_eq_getElem?_getD, List.getElem?_cons_zero, List.getElem?_cons_succ, Option.getD_some, Option.getD_none, List.map_cons, List.map_nil, List.cons_append, List.nil_append, List.replicate, List.set_cons_zero, List.set_cons_succ, Nat.sub_self, if_true, if_false, Bool.false_eq_true, Bool.not_true, Bool.not_false, decide_true, decide_false, decide_eq_true_eq, Bool.not_eq_true', true_and, isi_lst (H := H) (v := .lst a) rfl, isLst, len_lst hN.top, List.length_map])
  have h80 : ¬ ((bs.length : Int) > 80) := by have := hok.1; have := hN.len; omega
  (try simp only [S_nil, S_cons, Then_next, Then_ret, S_set, S_unp, S_put, S_expr, S_ret, S_ite, S_whil, S_loop, IteK_eq, LoopB_one, LoopB_two, E_lit, E_var, E_tup, E_list, E_dict0, E_bin, E_neg, E_not, E_cmp, E_and, E_or, E_idx, E_slice, E_rev, E_call, E_blt, E_meth, E_isi, E_comp, L_nil, L_cons, A_cons, O_cons, C_cons, I_nil, I_cons, VarK_some, NegK_int, NotK_bool, truthP_bool, AndK_nil, AndK_cons, OrK_nil, OrK_cons, CmpR_nil, CmpR_cons, CmpK_lt, CmpK_le, CmpK_gt, CmpK_ge, CmpK_eqi, CmpK_nei, TestK_bool, BinK_addi, BinK_subi, CompS_one, CompS_two, List.getD_eq_getElem?_getD, List.getElem?_cons_zero, List.getElem?_cons_succ, Option.getD_some, Option.getD_none, List.map_cons, List.map_nil, List.cons_append, List.nil_append, List.replicate, List.set_cons_zero, List.set_cons_succ, Nat.sub_self, if_true, if_false, Bool.false_eq_true, Bool.not_true, Bool.not_false, decide_true, decide_false, decide_eq_true_eq, Bool.not_eq_true', true_and, h80])
  refine Sr_enum (a := a) (fun K E' h => by walk_at "wps"; exact h) hN.top ?_
  unfold LoopI
  refine wpFor_rule (fun i l H' => H' = H ∧ ∃ x y, l = [some (.int n), some (.lst a), x, y]) ?_ ?_ ⟨rfl, none, none, rfl⟩
  · rintro i x l H' K hx ⟨rfl, x', y', rfl⟩ hnext _
    obtain ⟨v, hv, rfl⟩ := enumFrom_get hx
    rw [List.getElem?_map] at hv
    cases hb : bs[i]? with
    | none => rw [hb] at hv; cases hv
    | some b =>
      rw [hb] at hv; cases hv
      have hi := (List.getElem?_eq_some_iff.mp hb).1
      have hi' : i < net.length := by rw [← hN.len]; exact hi
      have hl : net[i]? = some net[i] := List.getElem?_eq_getElem hi'
      have hb' := hN.lay i b _ hb hl
      walk_at "wps"
      refine s_is_layer P.among P.joint P.layer (layer_plain hb') rfl ?_
      rw [layer_ok hb' hn.2 (hok.2 _ (List.mem_of_getElem? hl))]
      walk_at "wps"
      exact hnext _ _ hN.top ⟨rfl, _, _, rfl⟩
  · rintro l H' ⟨rfl, _⟩
    walk_at "wps"
    exact hq
end
end Bn
namespace Bn
open PySem PyProof.Rows
def builtinG : List (Str × Gk) := [("len", .blt .len), ("max", .blt .max), ("min", .blt .min), ("range", .blt .range), ("list", .blt .list), ("tuple", .blt .tuple), ("sum", .blt .sum), ("all", .blt .all), ("sorted", .blt .sorted), ("abs", .blt .abs), ("int", .blt .int), ("isinstance", .isi), ("enumerate", .enum), ("reversed", .rev)]
def builtinT : List (Str × Tc) := [("int", .int), ("bool", .bool), ("str", .str), ("list", .list), ("tuple", .tuple)]
def mkTab (fs : List Str) (vals : List (Str × V)) : Tab := ⟨fs.map (fun f => (f, Gk.fn)) ++ vals.map (fun p => (p.1, Gk.val p.2)) ++ builtinG, builtinT⟩
def freeB (p : Program) (loose : List Str) (x : Str) : Bool := !(startupNames.contains x) && !(loose.contains x) && !(((recsOf p).map (·.name)).contains x) && !(((litsOf p).map (·.1)).contains x) && !(((clssOf p loose).map (·.name)).contains x)
def valB (p : Program) (x : Str) (v : V) : Bool := match valOf p x, v with
  | some (.int i), .int j => i == j
  | some (.str s), .str t => s == t
  | some (.bool s), .bool t => s == t
  | _, _ => false
def meanG : Gk → Option Value
  | .blt b => some b.real
  | .isi => some (.builtin "isinstance")
  | .enum => some (.type "enumerate")
  | .rev => some (.type "reversed")
  | _ => none
theorem boots : ∀ p ∈ builtinG, p.1 ≠ "__name__" ∧ bootBuiltins p.1 = meanG p.2 ∧ (p.2 matches .isi → p.1 = Str.ofString "isinstance") ∧ (∀ v, p.2 ≠ .val v) ∧ p.2 ≠ .fn := by
  intro p hp
  simp only [builtinG, List.mem_cons, List.not_mem_nil, or_false] at hp
  rcases hp with rfl | rfl | rfl | rfl | rfl | rfl | rfl | rfl | rfl | rfl | rfl | rfl | rfl | rfl <;>
    exact ⟨by decide +kernel, by kernel_rfl, (by intro h; first | rfl | cases h), (by intro v h; cases h), (by intro h; cases h)⟩
theorem bootsT : ∀ p ∈ builtinT, p.1 ≠ "__name__" ∧ ∃ S, p.2.real = some S ∧ p.1 = Str.ofString S ∧ bootBuiltins p.1 = some (.type S) := by
  intro p hp
  simp only [builtinT, List.mem_cons, List.not_mem_nil, or_false] at hp
  rcases hp with rfl | rfl | rfl | rfl | rfl
  · exact ⟨by decide +kernel, "int", rfl, rfl, by kernel_rfl⟩
  · exact ⟨by decide +kernel, "bool", rfl, rfl, by kernel_rfl⟩
  · exact ⟨by decide +kernel, "str", rfl, rfl, by kernel_rfl⟩
  · exact ⟨by decide +kernel, "list", rfl, rfl, by kernel_rfl⟩
  · exact ⟨by decide +kernel, "tuple", rfl, rfl, by kernel_rfl⟩
section
variable {p : Program} {loose : List Str} {mean : ExcName → Option Value} {mg mb : Str → Option Value} {h : Heap}
theorem free_of (T : Top p loose mean mg mb h) {x : Str} (hx : freeB p loose x = true) : mg x = none := by
  simp only [freeB, Bool.and_eq_true, Bool.not_eq_true', List.contains_eq_mem, decide_eq_false_iff_not] at hx
  exact T.free x hx.1.1.1.1 hx.1.1.1.2 hx.1.1.2 hx.1.2 hx.2
theorem tab_ok (T : Top p loose mean mg mb h) {c : Cx} (hg : c.g = mg) (hb : c.b = mb) (h0 : c.h0 = h) {fs : List Str} {vals : List (Str × V)} (h1 : fs.all (fun f => ((recsOf p).map (·.name)).contains f) = true) (h2 : vals.all (fun q => valB p q.1 q.2) = true)
    (h3 : (builtinG.map (·.1) ++ builtinT.map (·.1)).all (freeB p loose) = true) : TabOk c (mkTab fs vals) := by
  subst hg hb h0
  simp only [List.all_eq_true] at h1 h2 h3
  have cases3 : ∀ {x : Str} {k : Gk}, (mkTab fs vals).g.lookup x = some k → (k = .fn ∧ x ∈ fs) ∨ (∃ v, k = .val v ∧ (x, v) ∈ vals) ∨ (x, k) ∈ builtinG := fun {x k} hx => by
    have := mem_of_lookup hx
    simp only [mkTab, List.mem_append, List.mem_map] at this
    rcases this with (⟨f, hf, e⟩ | ⟨q, hq, e⟩) | h
    · cases e; exact .inl ⟨rfl, hf⟩
    · cases e; exact .inr (.inl ⟨_, rfl, hq⟩)
    · exact .inr (.inr h)
  have bl : ∀ {x : Str} {k : Gk}, (x, k) ∈ builtinG → c.g x = none ∧ c.b x = meanG k := fun {x k} hx => by
    obtain ⟨b1, b2, _⟩ := boots _ hx
    exact ⟨free_of T (h3 x (List.mem_append_left _ (List.mem_map.mpr ⟨_, hx, rfl⟩))), (T.builtins x b1).trans b2⟩
  refine ⟨fun x hx => ?_, fun x v hx => ?_, fun x b hx => ?_, fun x hx => ?_, fun x hx => ?_, fun x hx => ?_, fun x t hx => ?_⟩
  · rcases cases3 hx with ⟨_, hm⟩ | ⟨v, hk, _⟩ | hm
    · have := h1 x hm
      simp only [List.contains_eq_mem, List.mem_map, decide_eq_true_eq] at this
      obtain ⟨dd, hd, rfl⟩ := this
      obtain ⟨a, o, pm, code, doc, g1, g2, g3, _⟩ := T.fn dd hd
      exact ⟨a, o, _, g1, g2, g3⟩
    · cases hk
    · exact absurd rfl (boots _ hm).2.2.2.2
  · rcases cases3 hx with ⟨hk, _⟩ | ⟨v', hk, hm⟩ | hm
    · cases hk
    · cases hk
      have := h2 _ hm
      simp only [valB] at this
      split at this
      · rename_i _ _ i j hi
        obtain ⟨r, hr, hR⟩ := T.const _ _ hi
        have e : i = j := by simpa using this
        subst e
        refine ⟨r, hr, ?_⟩
        cases hR c.h0
        simp only [Rep]; exact ⟨_, rfl⟩
      · rename_i _ _ i j hi
        obtain ⟨r, hr, hR⟩ := T.const _ _ hi
        have e : i = j := by simpa using this
        subst e
        refine ⟨r, hr, ?_⟩
        cases hR c.h0
        simp only [Rep]; exact ⟨_, rfl⟩
      · rename_i _ _ i j hi
        obtain ⟨r, hr, hR⟩ := T.const _ _ hi
        have e : i = j := by simpa using this
        subst e
        refine ⟨r, hr, ?_⟩
        cases hR c.h0
        simp only [Rep]
      · cases this
    · exact absurd rfl ((boots _ hm).2.2.2.1 v)
  · rcases cases3 hx with ⟨hk, _⟩ | ⟨v', hk, hm⟩ | hm
    · cases hk
    · cases hk
    · exact bl hm
  · rcases cases3 hx with ⟨hk, _⟩ | ⟨v', hk, hm⟩ | hm
    · cases hk
    · cases hk
    · exact ⟨(boots _ hm).2.2.1 rfl, bl hm⟩
  · rcases cases3 hx with ⟨hk, _⟩ | ⟨v', hk, hm⟩ | hm
    · cases hk
    · cases hk
    · exact bl hm
  · rcases cases3 hx with ⟨hk, _⟩ | ⟨v', hk, hm⟩ | hm
    · cases hk
    · cases hk
    · exact bl hm
  · have hm := mem_of_lookup hx
    obtain ⟨b1, S, b2, b3, b4⟩ := bootsT _ hm
    exact ⟨S, b2, b3, free_of T (h3 x (List.mem_append_right _ (List.mem_map.mpr ⟨_, hm, rfl⟩))), (T.builtins x b1).trans b4⟩
theorem ints_of : ∀ {vs : List Value} {l : List Int}, IntsAre vs l → IntsL l vs := by
  intro vs l h
  induction h with
  | nil => simp [IntsL]
  | cons => simp only [IntsL]; exact ⟨⟨_, rfl⟩, by assumption⟩
theorem has_at {c : Cx} {Tb : Tab} (TA : ∀ e ∈ (recsOf p).map W.itemOf, e.params.defaults = [] → e.At c.g c.h0) (O : c.Ok) (TO : TabOk c Tb) (j fuel r : Nat) {f : String} {np n : Nat} {xs : List St}
    (hj : (((recsOf p).map W.itemOf)[j]?.bind fun e => if e.name == Str.ofString f && decide (e.params.args.length = np) && decide ((slots e.scope.names).length + r = n) then eFun Tb fuel r e else none) = some xs) : Has c f np n xs := by
  rw [Option.bind_eq_some_iff] at hj
  obtain ⟨e, he, hx⟩ := hj
  split at hx
  · rename_i hc
    simp only [Bool.and_eq_true, beq_iff_eq, decide_eq_true_eq] at hc
    have hd : e.params.defaults = [] := by
      unfold eFun at hx
      split at hx
      · rename_i hok
        simp only [funOk, Bool.and_eq_true, List.isEmpty_iff] at hok
        exact hok.1.1.1.2
      · cases hx
    exact has_of O TO (TA e (List.mem_of_getElem? he) hd) hx hc.1.1 hc.1.2 hc.2
  · cases hx
theorem law_end {c : Cx} {d : Nat} {fa a : Addr} {l : List Int} {A : Around} {s : Shared} {R : Result → Shared → Prop} (hA : OkA c A true d [] s.heap) (h0 : c.h0 = s.heap) (hgens : s.gens = #[]) (hg : c.g (Str.ofString "law") = some (.ref fa)) {vs : List Value} (hL : s.heap.IsList a vs.toArray) (hI : IntsAre vs l) (hl : l.length ≤ sizeLine)
    (hc : Calls c true d (Str.ofString "law") [.scr l] none (fun v _ => v = .bool true) noX [])
    (hR : ∀ s', (∀ b o, s.heap.get? b = some o → s'.heap.get? b = some o) → s'.os = s.os → s'.gens = #[] → R (.ok (.ret (.bool true))) s') : codeAny (model c.prog c.w) A (.call (.ref fa) ⟨[.ref a], []⟩) R s := by
  obtain ⟨a', o', fd', g1, g2, g3, g4⟩ := hc
  rw [hg] at g1; cases g1
  have S : Sim c [] [] s := ⟨fun b o h => h0 ▸ h, by simp, List.nodup_nil, rfl, by simp, hgens⟩
  obtain ⟨ol, ho, hcl, n, hd⟩ := hL
  have R1 : RepL c [] s.heap [.scr l] [.ref a] := by
    simp only [RepL, and_true, Rep]
    exact ⟨a, ol, vs.toArray, n, rfl, by simp, h0 ▸ ho, ho, hcl, hd, hl, by simpa using ints_of hI⟩
  have := g4 A [] s [.ref a] [] hA S R1 rfl
  rw [List.append_nil] at this
  refine codeAny_mono this ?_
  intro r s' hr
  unfold Ends at hr
  split at hr
  · obtain ⟨φ', H', v, e, S', Rv, hv⟩ := hr
    subst hv
    simp only [Rep] at Rv
    subst Rv
    exact hR s' (fun b o hb => S'.stays b o (h0 ▸ hb)) e.os S'.gens
  · exact hr.elim
  · exact OutX.no hr
end
end Bn
namespace Bn
open PySem
section
variable {c : Cx} {q : Bool} {d : Nat} {Q : V → Hp → Prop} {E : XPost} {H : Hp} {C : CallT} {k : Clo} {l : Loc}
theorem len_scr {xs : List Int} {K : V → Hp → Prop} : BltK true .len [.scr xs] K H = K (.int xs.length) H := by
  simp only [BltK, bltV, true_and]
theorem idx_scr {xs : List Int} {i : Nat} {x : Int} (h : xs[i]? = some x) : idxV H (.scr xs) (.int i) = some (.int x) := by
  obtain ⟨hlt, hx⟩ := List.getElem?_eq_some_iff.mp h
  simp [idxV, itemsV, ix, hlt, hx]
theorem idx_lst {a i : Nat} {xs : List V} {x : V} (ha : H[a]? = some xs) (h : xs[i]? = some x) : idxV H (.lst a) (.int i) = some x := by
  obtain ⟨hlt, hx⟩ := List.getElem?_eq_some_iff.mp h
  simp [idxV, itemsV, ix, ha, hlt, hx]
theorem idx_last {a : Nat} {xs : List V} {x : V} (ha : H[a]? = some xs) (h : xs.getLast? = some x) : idxV H (.lst a) (.int (-1)) = some x := by
  have hne : xs ≠ [] := fun q => by rw [q] at h; cases h
  have hlen : 0 < xs.length := List.length_pos_iff.mpr hne
  rw [List.getLast?_eq_getElem?] at h
  have e1 : (1 : Int) ≤ xs.length := by omega
  have e2 : ((-1 : Int) + xs.length).toNat = xs.length - 1 := by omega
  simp [idxV, itemsV, ix, ha, e1, e2, h]
theorem s_cell_at (P : Has c "_law_cell_at" 2 2 p__law_cell_at) {xs : List Int} {i : Nat} (hc : q = true) (hq : Q (.int (xs.getD i 0)) H) : Calls c q (d + 1) "_law_cell_at" [.scr xs, .int i] none Q E H := by
  subst hc
  refine P true d _ Q E H rfl ?_
  unfold p__law_cell_at
  (try simp only [S_nil, S_cons, Then_next, Then_ret, S_set, S_unp, S_put, S_expr, S_ret, S_ite, S_whil, S_loop, IteK_eq, LoopB_one, LoopB_two, E_lit, E_var, E_tup, E_list, E_dict0, E_bin, E_neg, E_not, E_cmp, E_and, E_or, E_idx, E_slice, E_rev, E_call, E_blt, E_meth, E_isi, E_comp, L_nil, L_cons, A_cons, O_cons, C_cons, I_nil, I_cons, VarK_some, NegK_int, NotK_bool, truthP_bool, AndK_nil, AndK_cons, OrK_nil, OrK_cons, CmpR_nil, CmpR_cons, CmpK_lt, CmpK_le, CmpK_gt, CmpK_ge, CmpK_eqi, CmpK_nei, TestK_bool, BinK_addi, BinK_subi, CompS_one, CompS_two, List.getD_eq_getElem?_getD, List.getElem?_cons_zero, List.getElem?_cons_succ, Option.getD_some, Option.getD_none, List.map_cons, List.map_nil, List.cons_append, List.nil_append, List.replicate, List.set_cons_zero, List.set_cons_succ, Nat.sub_self, if_true, if_false, Bool.false_eq_true, Bool.not_true, Bool.not_false, decide_true, decide_false, decide_eq_true_eq, Bool.not_eq_true', true_and, len_scr])
  by_cases h : (i : Int) < xs.length
  · have hlt : i < xs.length := by omega
    (try simp only [S_nil, S_cons, Then_next, Then_ret, S_set, S_unp, S_put, S_expr, S_ret, S_ite, S_whil, S_loop, IteK_eq, LoopB_one, LoopB_two, E_lit, E_var, E_tup, E_list, E_dict0, E_bin, E_neg, E_not, E_cmp, E_and, E_or, E_idx, E_slice, E_rev, E_call, E_blt, E_meth, E_isi, E_comp, L_nil, L_cons, A_cons, O_cons, C_cons, I_nil, I_cons, VarK_some, NegK_int, NotK_bool, truthP_bool, AndK_nil, AndK_cons, OrK_nil, OrK_cons, CmpR_nil, CmpR_cons, CmpK_lt, CmpK_le, CmpK_gt, CmpK_ge, CmpK_eqi, CmpK_nei, TestK_bool, BinK_addi, BinK_subi, CompS_one, CompS_two, List.getD_eq_getElem?_getD, List.getElem?_cons_zero, List.getElem?_cons_succ, Option.getD_some, Option.getD_none, List.map_cons, List.map_nil, List.cons_append, List.nil_append, List.replicate, List.set_cons_zero, List.set_cons_succ, Nat.sub_self, if_true, if_false, Bool.false_eq_true, Bool.not_true, Bool.not_false, decide_true, decide_false, decide_eq_true_eq, Bool.not_eq_true', true_and, h])
    refine IdxK_of (idx_scr (List.getElem?_eq_getElem hlt)) ?_
    simpa [hlt] using hq
  · have hlt : ¬ i < xs.length := by omega
    (try simp only [S_nil, S_cons, Then_next, Then_ret, S_set, S_unp, S_put, S_expr, S_ret, S_ite, S_whil, S_loop, IteK_eq, LoopB_one, LoopB_two, E_lit, E_var, E_tup, E_list, E_dict0, E_bin, E_neg, E_not, E_cmp, E_and, E_or, E_idx, E_slice, E_rev, E_call, E_blt, E_meth, E_isi, E_comp, L_nil, L_cons, A_cons, O_cons, C_cons, I_nil, I_cons, VarK_some, NegK_int, NotK_bool, truthP_bool, AndK_nil, AndK_cons, OrK_nil, OrK_cons, CmpR_nil, CmpR_cons, CmpK_lt, CmpK_le, CmpK_gt, CmpK_ge, CmpK_eqi, CmpK_nei, TestK_bool, BinK_addi, BinK_subi, CompS_one, CompS_two, List.getD_eq_getElem?_getD, List.getElem?_cons_zero, List.getElem?_cons_succ, Option.getD_some, Option.getD_none, List.map_cons, List.map_nil, List.cons_append, List.nil_append, List.replicate, List.set_cons_zero, List.set_cons_succ, Nat.sub_self, if_true, if_false, Bool.false_eq_true, Bool.not_true, Bool.not_false, decide_true, decide_false, decide_eq_true_eq, Bool.not_eq_true', true_and, h])
    simpa [hlt] using hq
theorem bin_mod {a b : Int} (hb : 0 < b) : binV H .mod (.int a) (.int b) = some (.int (a % b), H) := by
  have h0 : ¬ b = 0 := by omega
  simp only [binV, if_neg h0, Option.some.injEq, Prod.mk.injEq, V.int.injEq, and_true]
  exact Int.fmod_eq_emod_of_nonneg _ (by omega)
theorem bin_div {a b : Int} (hb : 0 < b) : binV H .div (.int a) (.int b) = some (.int (a / b), H) := by
  have h0 : ¬ b = 0 := by omega
  simp only [binV, if_neg h0, Option.some.injEq, Prod.mk.injEq, V.int.injEq, and_true]
  exact Int.fdiv_eq_ediv_of_nonneg _ (by omega)
theorem modK {a b : Int} {K : V → Hp → Prop} (hb : 0 < b) : BinK .mod (.int a) (.int b) K H = K (.int (a % b)) H := by
  simp only [BinK, bin_mod hb]
theorem divK {a b : Int} {K : V → Hp → Prop} (hb : 0 < b) : BinK .div (.int a) (.int b) K H = K (.int (a / b)) H := by
  simp only [BinK, bin_div hb]
def linesBy (x : Int) : Int := if x / 12 % 9 = 1 then 13 + x / 108 % 20 else 1 + x % 12
theorem linesBy_le (x : Int) : 1 ≤ linesBy x ∧ linesBy x ≤ 32 := by unfold linesBy; split <;> omega
theorem s_lines_by (P : Has c "_law_lines_by" 1 2 p__law_lines_by) {x : Int} (hq : Q (.int (linesBy x)) H) : Calls c q (d + 1) "_law_lines_by" [.int x] none Q E H := by
  refine P q d _ Q E H rfl ?_
  unfold p__law_lines_by
  (try simp only [S_nil, S_cons, Then_next, Then_ret, S_set, S_unp, S_put, S_expr, S_ret, S_ite, S_whil, S_loop, IteK_eq, LoopB_one, LoopB_two, E_lit, E_var, E_tup, E_list, E_dict0, E_bin, E_neg, E_not, E_cmp, E_and, E_or, E_idx, E_slice, E_rev, E_call, E_blt, E_meth, E_isi, E_comp, L_nil, L_cons, A_cons, O_cons, C_cons, I_nil, I_cons, VarK_some, NegK_int, NotK_bool, truthP_bool, AndK_nil, AndK_cons, OrK_nil, OrK_cons, CmpR_nil, CmpR_cons, CmpK_lt, CmpK_le, CmpK_gt, CmpK_ge, CmpK_eqi, CmpK_nei, TestK_bool, BinK_addi, BinK_subi, CompS_one, CompS_two, List.getD_eq_getElem?_getD, List.getElem?_cons_zero, List.getElem?_cons_succ, Option.getD_some, Option.getD_none, List.map_cons, List.map_nil, List.cons_append, List.nil_append, List.replicate, List.set_cons_zero, List.set_cons_succ, Nat.sub_self, if_true, if_false, Bool.false_eq_true, Bool.not_true, Bool.not_false, decide_true, decide_false, decide_eq_true_eq, Bool.not_eq_true', true_and, modK (H := H) (show (0 : Int) < 12 by decide), divK (H := H) (show (0 : Int) < 12 by decide), modK (H := H) (show (0 : Int) < 9 by decide)])
  by_cases h : x / 12 % 9 = 1
  · (try simp only [S_nil, S_cons, Then_next, Then_ret, S_set, S_unp, S_put, S_expr, S_ret, S_ite, S_whil, S_loop, IteK_eq, LoopB_one, LoopB_two, E_lit, E_var, E_tup, E_list, E_dict0, E_bin, E_neg, E_not, E_cmp, E_and, E_or, E_idx, E_slice, E_rev, E_call, E_blt, E_meth, E_isi, E_comp, L_nil, L_cons, A_cons, O_cons, C_cons, I_nil, I_cons, VarK_some, NegK_int, NotK_bool, truthP_bool, AndK_nil, AndK_cons, OrK_nil, OrK_cons, CmpR_nil, CmpR_cons, CmpK_lt, CmpK_le, CmpK_gt, CmpK_ge, CmpK_eqi, CmpK_nei, TestK_bool, BinK_addi, BinK_subi, CompS_one, CompS_two, List.getD_eq_getElem?_getD, List.getElem?_cons_zero, List.getElem?_cons_succ, Option.getD_some, Option.getD_none, List.map_cons, List.map_nil, List.cons_append, List.nil_append, List.replicate, List.set_cons_zero, List.set_cons_succ, Nat.sub_self, if_true, if_false, Bool.false_eq_true, Bool.not_true, Bool.not_false, decide_true, decide_false, decide_eq_true_eq, Bool.not_eq_true', true_and, h, modK (H := H) (show (0 : Int) < 20 by decide), divK (H := H) (show (0 : Int) < 108 by decide)])
    simpa only [linesBy, h, if_true] using hq
  · (try simp only [S_nil, S_cons, Then_next, Then_ret, S_set, S_unp, S_put, S_expr, S_ret, S_ite, S_whil, S_loop, IteK_eq, LoopB_one, LoopB_two, E_lit, E_var, E_tup, E_list, E_dict0, E_bin, E_neg, E_not, E_cmp, E_and, E_or, E_idx, E_slice, E_rev, E_call, E_blt, E_meth, E_isi, E_comp, L_nil, L_cons, A_cons, O_cons, C_cons, I_nil, I_cons, VarK_some, NegK_int, NotK_bool, truthP_bool, AndK_nil, AndK_cons, OrK_nil, OrK_cons, CmpR_nil, CmpR_cons, CmpK_lt, CmpK_le, CmpK_gt, CmpK_ge, CmpK_eqi, CmpK_nei, TestK_bool, BinK_addi, BinK_subi, CompS_one, CompS_two, List.getD_eq_getElem?_getD, List.getElem?_cons_zero, List.getElem?_cons_succ, Option.getD_some, Option.getD_none, List.map_cons, List.map_nil, List.cons_append, List.nil_append, List.replicate, List.set_cons_zero, List.set_cons_succ, Nat.sub_self, if_true, if_false, Bool.false_eq_true, Bool.not_true, Bool.not_false, decide_true, decide_false, decide_eq_true_eq, Bool.not_eq_true', true_and, h])
    simpa only [linesBy, h, if_false] using hq
theorem s_whole (P : Has c "_law_whole" 1 1 p__law_whole) {i : Int} (hq : Q (.bool true) H) : Calls c q (d + 1) "_law_whole" [.int i] none Q E H := by
  refine P q d _ Q E H rfl ?_
  unfold p__law_whole
  (try simp only [S_nil, S_cons, Then_next, Then_ret, S_set, S_unp, S_put, S_expr, S_ret, S_ite, S_whil, S_loop, IteK_eq, LoopB_one, LoopB_two, E_lit, E_var, E_tup, E_list, E_dict0, E_bin, E_neg, E_not, E_cmp, E_and, E_or, E_idx, E_slice, E_rev, E_call, E_blt, E_meth, E_isi, E_comp, L_nil, L_cons, A_cons, O_cons, C_cons, I_nil, I_cons, VarK_some, NegK_int, NotK_bool, truthP_bool, AndK_nil, AndK_cons, OrK_nil, OrK_cons, CmpR_nil, CmpR_cons, CmpK_lt, CmpK_le, CmpK_gt, CmpK_ge, CmpK_eqi, CmpK_nei, TestK_bool, BinK_addi, BinK_subi, CompS_one, CompS_two, List.getD_eq_getElem?_getD, List.getElem?_cons_zero, List.getElem?_cons_succ, Option.getD_some, Option.getD_none, List.map_cons, List.map_nil, List.cons_append, List.nil_append, List.replicate, List.set_cons_zero, List.set_cons_succ, Nat.sub_self, if_true, if_false, Bool.false_eq_true, Bool.not_true, Bool.not_false, decide_true, decide_false, decide_eq_true_eq, Bool.not_eq_true', true_and, isi_int (H := H) (v := .int i) rfl, isi_bool (H := H) (v := .int i) rfl, isInt, isBool])
  exact hq
end
end Bn
namespace Bn
open PySem
def nat (n : Nat) : V := .int n
def fl (p : Nat × Nat) : V := .tup [.int p.2, .int p.1]
structure Build (H : Hp) (f dn rd : Nat) (bs : List Nat) (lays : Net) (done read : List Nat) : Prop where
  F : H[f]? = some (bs.map .lst)
  len : bs.length = lays.length
  L : ∀ (i b : Nat) (y : List (Nat × Nat)), bs[i]? = some b → lays[i]? = some y → H[b]? = some (y.map fl)
  D : H[dn]? = some (done.map nat)
  R : H[rd]? = some (read.map nat)
  nd : (f :: dn :: rd :: bs).Nodup
structure Stay (S : List Nat) (H H' : Hp) : Prop where
  len : H.length ≤ H'.length
  same : ∀ x, x < H.length → x ∉ S → H'[x]? = H[x]?
theorem Stay.refl {S : List Nat} {H : Hp} : Stay S H H := ⟨Nat.le_refl _, fun _ _ _ => rfl⟩
section
variable {c : Cx} {q : Bool} {d : Nat} {Q : V → Hp → Prop} {E : XPost} {H : Hp}
theorem Build.grow {f dn rd : Nat} {bs : List Nat} {lays : Net} {done read : List Nat} (B : Build H f dn rd bs lays done read) : Build ((H ++ [[]]).set f (bs.map V.lst ++ [V.lst H.length])) f dn rd (bs ++ [H.length]) (lays ++ [[]]) done read := by
  have lt : ∀ {x : Nat} {y : List V}, H[x]? = some y → x < H.length := fun h => (List.getElem?_eq_some_iff.mp h).1
  have hf := lt B.F
  have hd := lt B.D
  have hr := lt B.R
  have nd := B.nd
  simp only [List.nodup_cons, List.mem_cons, not_or] at nd
  obtain ⟨⟨n1, n2, n3⟩, ⟨n4, n5⟩, n6, n7⟩ := nd
  have keep : ∀ {x : Nat} {y : List V}, x ≠ f → H[x]? = some y → ((H ++ [[]]).set f (bs.map V.lst ++ [V.lst H.length]))[x]? = some y := fun {x y} hx h => by
    rw [List.getElem?_set_ne (Ne.symm hx), List.getElem?_append_left (lt h)]; exact h
  have hbs : ∀ b ∈ bs, b < H.length := fun b hb => by
    obtain ⟨i, hi⟩ := List.mem_iff_getElem?.mp hb
    have hi' := (List.getElem?_eq_some_iff.mp hi).1
    have hi2 : i < lays.length := by rw [← B.len]; exact hi'
    exact lt (B.L i b _ hi (List.getElem?_eq_getElem hi2))
  refine ⟨?_, by simp [B.len], fun i b y hb hy => ?_, keep (Ne.symm n1) B.D, keep (Ne.symm n2) B.R, ?_⟩
  · rw [List.getElem?_set_self (by simp; omega)]; simp
  · by_cases hi : i < bs.length
    · rw [List.getElem?_append_left hi] at hb
      rw [List.getElem?_append_left (by rw [← B.len]; exact hi)] at hy
      exact keep (fun q => n3 (q ▸ List.mem_of_getElem? hb)) (B.L i b y hb hy)
    · have hlt := (List.getElem?_eq_some_iff.mp hb).1
      have : i = bs.length := by simp at hlt; omega
      subst this
      rw [List.getElem?_append_right (Nat.le_refl _)] at hb
      rw [List.getElem?_append_right (by rw [B.len]; exact Nat.le_refl _), B.len] at hy
      simp at hb hy
      subst hb hy
      rw [List.getElem?_set_ne (Nat.ne_of_lt hf)]
      simp
  · have e : f :: dn :: rd :: (bs ++ [H.length]) = (f :: dn :: rd :: bs) ++ [H.length] := by simp
    rw [e, List.nodup_append]
    refine ⟨B.nd, by simp, fun x hx y hy => ?_⟩
    rw [List.mem_singleton.mp hy]
    have : x < H.length := by
      simp only [List.mem_cons] at hx
      rcases hx with rfl | rfl | rfl | hx
      · exact hf
      · exact hd
      · exact hr
      · exact hbs x hx
    exact Nat.ne_of_lt this
theorem Build.lt {f dn rd : Nat} {bs : List Nat} {lays : Net} {done read : List Nat} (B : Build H f dn rd bs lays done read) {i b : Nat} (hb : bs[i]? = some b) : b < H.length ∧ i < lays.length := by
  have hi' := (List.getElem?_eq_some_iff.mp hb).1
  have hi2 : i < lays.length := by rw [← B.len]; exact hi'
  exact ⟨(List.getElem?_eq_some_iff.mp (B.L i b _ hb (List.getElem?_eq_getElem hi2))).1, hi2⟩
theorem Build.putL {f dn rd : Nat} {bs : List Nat} {lays : Net} {done read : List Nat} (B : Build H f dn rd bs lays done read) {i b : Nat} {y : List (Nat × Nat)} (hb : bs[i]? = some b) : Build (H.set b (y.map fl)) f dn rd bs (lays.set i y) done read := by
  have nd := B.nd
  simp only [List.nodup_cons, List.mem_cons, not_or] at nd
  obtain ⟨⟨n1, n2, n3⟩, ⟨n4, n5⟩, n6, n7⟩ := nd
  have hm := List.mem_of_getElem? hb
  obtain ⟨hlt, hi⟩ := B.lt hb
  have keep : ∀ {x : Nat} {z : List V}, x ≠ b → H[x]? = some z → (H.set b (y.map fl))[x]? = some z := fun {x z} hx h => by
    rw [List.getElem?_set_ne (Ne.symm hx)]; exact h
  refine ⟨keep (fun q => n3 (q ▸ hm)) B.F, by simpa using B.len, fun j b' y' hb' hy' => ?_, keep (fun q => n5 (q ▸ hm)) B.D, keep (fun q => n6 (q ▸ hm)) B.R, B.nd⟩
  by_cases hij : j = i
  · subst hij
    rw [hb] at hb'; cases hb'
    rw [List.getElem?_set_self hi] at hy'; cases hy'
    exact List.getElem?_set_self hlt
  · rw [List.getElem?_set_ne (Ne.symm hij)] at hy'
    refine keep (fun q => hij ?_) (B.L j b' y' hb' hy')
    subst q
    exact nodup_get n7 hb' hb
theorem Build.putD {f dn rd : Nat} {bs : List Nat} {lays : Net} {done read done' : List Nat} (B : Build H f dn rd bs lays done read) : Build (H.set dn (done'.map nat)) f dn rd bs lays done' read := by
  have nd := B.nd
  simp only [List.nodup_cons, List.mem_cons, not_or] at nd
  obtain ⟨⟨n1, n2, n3⟩, ⟨n4, n5⟩, n6, n7⟩ := nd
  have keep : ∀ {x : Nat} {z : List V}, x ≠ dn → H[x]? = some z → (H.set dn (done'.map nat))[x]? = some z := fun {x z} hx h => by
    rw [List.getElem?_set_ne (Ne.symm hx)]; exact h
  exact ⟨keep n1 B.F, B.len, fun j b y hb hy => keep (fun q => n5 (q ▸ List.mem_of_getElem? hb)) (B.L j b y hb hy), List.getElem?_set_self (List.getElem?_eq_some_iff.mp B.D).1, keep (Ne.symm n4) B.R, B.nd⟩
theorem Build.putR {f dn rd : Nat} {bs : List Nat} {lays : Net} {done read read' : List Nat} (B : Build H f dn rd bs lays done read) : Build (H.set rd (read'.map nat)) f dn rd bs lays done read' := by
  have nd := B.nd
  simp only [List.nodup_cons, List.mem_cons, not_or] at nd
  obtain ⟨⟨n1, n2, n3⟩, ⟨n4, n5⟩, n6, n7⟩ := nd
  have keep : ∀ {x : Nat} {z : List V}, x ≠ rd → H[x]? = some z → (H.set rd (read'.map nat))[x]? = some z := fun {x z} hx h => by
    rw [List.getElem?_set_ne (Ne.symm hx)]; exact h
  exact ⟨keep n2 B.F, B.len, fun j b y hb hy => keep (fun q => n6 (q ▸ List.mem_of_getElem? hb)) (B.L j b y hb hy), keep n4 B.D, List.getElem?_set_self (List.getElem?_eq_some_iff.mp B.R).1, B.nd⟩
theorem Stay.set {S : List Nat} {H H' : Hp} {a : Nat} {xs : List V} (h : Stay S H H') (ha : a ∈ S ∨ H.length ≤ a) : Stay S H (H'.set a xs) :=
  ⟨by simpa using h.len, fun x hx hn => by
    rw [List.getElem?_set_ne (fun q => ?_)]
    · exact h.same x hx hn
    · subst q; rcases ha with ha | ha
      · exact hn ha
      · omega⟩
theorem Stay.app {S : List Nat} {H H' : Hp} {xs : List V} (h : Stay S H H') : Stay S H (H' ++ [xs]) :=
  ⟨by have := h.len; simp; omega, fun x hx hn => by
    rw [List.getElem?_append_left (by have := h.len; omega)]; exact h.same x hx hn⟩
end
end Bn
namespace Bn
open PySem
section
variable {c : Cx} {q : Bool} {d : Nat} {Q : V → Hp → Prop} {E : XPost} {H : Hp}
theorem blt_max3 {a b e : Nat} {K : V → Hp → Prop} : BltK true .max [.int a, .int b, .int e] K H = K (.int (max (max a b) e : Nat)) H := by
  simp only [BltK, bltV, true_and]
  have : (if (if (a : Int) < b then (b : Int) else a) < (e : Int) then (e : Int) else (if (a : Int) < b then (b : Int) else a)) = ((max (max a b) e : Nat) : Int) := by
    split <;> split <;> omega
  rw [this]
theorem blt_max2 {a b : Nat} {K : V → Hp → Prop} : BltK true .max [.int a, .int b] K H = K (.int (max a b : Nat)) H := by
  simp only [BltK, bltV, true_and]
  have : (if (a : Int) < b then (b : Int) else a) = ((max a b : Nat) : Int) := by split <;> omega
  rw [this]
theorem idx_nat {a i x : Nat} {xs : List Nat} (ha : H[a]? = some (xs.map nat)) (h : xs[i]? = some x) : idxV H (.lst a) (.int i) = some (.int x) :=
  idx_lst ha (by rw [List.getElem?_map, h]; rfl)
theorem put_nat {a i x : Nat} {xs : List Nat} (ha : H[a]? = some (xs.map nat)) (h : i < xs.length) : putV H (.lst a) (.int i) (.int x) = some (H.set a ((xs.set i x).map nat)) := by
  have e : (xs.set i x).map nat = (xs.map nat).set i (nat x) := by rw [List.map_set]
  rw [e]
  have h' : (i : Int) < (xs.length : Int) := by omega
  simp [putV, ha, h', nat]
theorem meth_append {a : Nat} {xs : List V} {v : V} (ha : H[a]? = some xs) (hz : xs.length < sizeLine) : methV H .append (.lst a) [v] = some (.none, H.set a (xs ++ [v])) := by
  simp only [methV, ha, if_pos hz]
structure Placed (H : Hp) (f dn rd : Nat) (bs : List Nat) (lays : Net) (done read : List Nat) (l h : Nat) (bs' : List Nat) (H' : Hp) : Prop where
  build : Build H' f dn rd bs' (putLay lays (placeAt done read l h) (l, h)) (done.set h (placeAt done read l h + 1)) (read.set l (max (g0 read l) (placeAt done read l h)))
  stay : Stay (f :: dn :: rd :: bs) H H'
  new : ∀ b ∈ bs', b ∈ bs ∨ H.length ≤ b
theorem s_place (P : Has c "_law_place" 5 6 p__law_place) {f dn rd : Nat} {bs : List Nat} {lays : Net} {done read : List Nat} {l h : Nat} (B : Build H f dn rd bs lays done read) (hl : l < done.length) (hh : h < done.length) (hrl : read.length = done.length) (hc : q = true)
    (hsz : placeAt done read l h < 1000) (hlz : lays.length < 1000) (hyz : ∀ y ∈ lays, y.length < 1000) (hq : ∀ bs' H', Placed H f dn rd bs lays done read l h bs' H' → Q .none H') :
    Calls c q (d + 1) "_law_place" [.lst f, .int l, .int h, .lst dn, .lst rd] none Q E H := by
  subst hc
  have hsl : sizeLine = 2 ^ 24 := rfl
  refine P true d _ Q E H rfl ?_
  unfold p__law_place
  have gD : ∀ {x : Nat}, x < done.length → done[x]? = some (g0 done x) := fun {x} hx => by simp [g0, List.getD_eq_getElem?_getD, hx]
  have gR : ∀ {x : Nat}, x < done.length → read[x]? = some (g0 read x) := fun {x} hx => by
    have : x < read.length := by omega
    simp [g0, List.getD_eq_getElem?_getD, this]
  walk_at "wps"
  refine IdxK_of (idx_nat B.D (gD hl)) ?_
  walk_at "wps"
  refine IdxK_of (idx_nat B.D (gD hh)) ?_
  walk_at "wps"
  refine IdxK_of (idx_nat B.R (gR hh)) ?_
  (try simp only [S_nil, S_cons, Then_next, Then_ret, S_set, S_unp, S_put, S_expr, S_ret, S_ite, S_whil, S_loop, IteK_eq, LoopB_one, LoopB_two, E_lit, E_var, E_tup, E_list, E_dict0, E_bin, E_neg, E_not, E_cmp, E_and, E_or, E_idx, E_slice, E_rev, E_call, E_blt, E_meth, E_isi, E_comp, L_nil, L_cons, A_cons, O_cons, C_cons, I_nil, I_cons, VarK_some, NegK_int, NotK_bool, truthP_bool, AndK_nil, AndK_cons, OrK_nil, OrK_cons, CmpR_nil, CmpR_cons, CmpK_lt, CmpK_le, CmpK_gt, CmpK_ge, CmpK_eqi, CmpK_nei, TestK_bool, BinK_addi, BinK_subi, CompS_one, CompS_two, List.getD_eq_getElem?_getD, List.getElem?_cons_zero, List.getElem?_cons_succ, Option.getD_some, Option.getD_none, List.map_cons, List.map_nil, List.cons_append, List.nil_append, List.replicate, List.set_cons_zero, List.set_cons_succ, Nat.sub_self, if_true, if_false, Bool.false_eq_true, Bool.not_true, Bool.not_false, decide_true, decide_false, decide_eq_true_eq, Bool.not_eq_true', true_and, blt_max3])
  rw [show max (max (g0 done l) (g0 done h)) (g0 read h) = placeAt done read l h from rfl]
  generalize hat : placeAt done read l h = k at hsz
  unfold WhilK wpWhile
  refine ⟨fun n l' H' => ∃ bs' m, n + m = k + 1 - lays.length ∧ l' = [some (.lst f), some (.int l), some (.int h), some (.lst dn), some (.lst rd), some (.int k)] ∧
      Build H' f dn rd bs' (lays ++ List.replicate m []) done read ∧ Stay (f :: dn :: rd :: bs) H H' ∧ (∀ b ∈ bs', b ∈ bs ∨ H.length ≤ b), ⟨k + 1 - lays.length, bs, 0, by omega, rfl, by simpa using B, Stay.refl, fun b hb => .inl hb⟩, ?_⟩
  rintro n l' H' ⟨bs', m, hnm, rfl, B', st, hnew⟩
  have hlen : (bs'.length : Int) = lays.length + m := by rw [B'.len]; simp
  unfold wpT
  (try simp only [S_nil, S_cons, Then_next, Then_ret, S_set, S_unp, S_put, S_expr, S_ret, S_ite, S_whil, S_loop, IteK_eq, LoopB_one, LoopB_two, E_lit, E_var, E_tup, E_list, E_dict0, E_bin, E_neg, E_not, E_cmp, E_and, E_or, E_idx, E_slice, E_rev, E_call, E_blt, E_meth, E_isi, E_comp, L_nil, L_cons, A_cons, O_cons, C_cons, I_nil, I_cons, VarK_some, NegK_int, NotK_bool, truthP_bool, AndK_nil, AndK_cons, OrK_nil, OrK_cons, CmpR_nil, CmpR_cons, CmpK_lt, CmpK_le, CmpK_gt, CmpK_ge, CmpK_eqi, CmpK_nei, TestK_bool, BinK_addi, BinK_subi, CompS_one, CompS_two, List.getD_eq_getElem?_getD, List.getElem?_cons_zero, List.getElem?_cons_succ, Option.getD_some, Option.getD_none, List.map_cons, List.map_nil, List.cons_append, List.nil_append, List.replicate, List.set_cons_zero, List.set_cons_succ, Nat.sub_self, if_true, if_false, Bool.false_eq_true, Bool.not_true, Bool.not_false, decide_true, decide_false, decide_eq_true_eq, Bool.not_eq_true', true_and, len_lst B'.F, List.length_map])
  by_cases hle : (bs'.length : Int) ≤ k
  · simp only [hle, decide_true]
    (try simp only [S_nil, S_cons, Then_next, Then_ret, S_set, S_unp, S_put, S_expr, S_ret, S_ite, S_whil, S_loop, IteK_eq, LoopB_one, LoopB_two, E_lit, E_var, E_tup, E_list, E_dict0, E_bin, E_neg, E_not, E_cmp, E_and, E_or, E_idx, E_slice, E_rev, E_call, E_blt, E_meth, E_isi, E_comp, L_nil, L_cons, A_cons, O_cons, C_cons, I_nil, I_cons, VarK_some, NegK_int, NotK_bool, truthP_bool, AndK_nil, AndK_cons, OrK_nil, OrK_cons, CmpR_nil, CmpR_cons, CmpK_lt, CmpK_le, CmpK_gt, CmpK_ge, CmpK_eqi, CmpK_nei, TestK_bool, BinK_addi, BinK_subi, CompS_one, CompS_two, List.getD_eq_getElem?_getD, List.getElem?_cons_zero, List.getElem?_cons_succ, Option.getD_some, Option.getD_none, List.map_cons, List.map_nil, List.cons_append, List.nil_append, List.replicate, List.set_cons_zero, List.set_cons_succ, Nat.sub_self, if_true, if_false, Bool.false_eq_true, Bool.not_true, Bool.not_false, decide_true, decide_false, decide_eq_true_eq, Bool.not_eq_true', true_and, MethA_lst (H := H' ++ [[]]) (m := .append) (a := f) (by decide), MethA_lst (H := H') (m := .append) (a := f) (by decide)])
    have hF : (H' ++ [[]])[f]? = some (bs'.map V.lst) := by rw [List.getElem?_append_left (List.getElem?_eq_some_iff.mp B'.F).1]; exact B'.F
    refine MethK_of (meth_append hF (by simp; omega)) ?_
    walk_at "wps"
    refine ⟨n - 1, by omega, bs' ++ [H'.length], m + 1, by omega, ?_, (st.app).set (.inl (by simp)), fun b hb => ?_⟩
    · have := B'.grow
      rw [List.append_assoc, ← List.replicate_succ'] at this
      exact this
    · rcases List.mem_append.mp hb with hb | hb
      · exact hnew b hb
      · rw [List.mem_singleton.mp hb]; exact .inr st.len
  · simp only [hle, decide_false]
    walk_at "wps"
    have hm : lays.length + m ≥ k + 1 := by omega
    have hmn : m = k + 1 - lays.length ∨ (m = 0) := by omega
    have hpad : lays ++ List.replicate m [] = padTo (k + 1) lays := by
      unfold padTo
      have : m = k + 1 - lays.length := by omega
      rw [this]
    rw [hpad] at B'
    have hk : k < bs'.length := by omega
    have hb := List.getElem?_eq_getElem hk
    generalize bs'[k] = b at hb
    obtain ⟨hblt, hkl⟩ := B'.lt hb
    have hy := List.getElem?_eq_getElem hkl
    generalize hyy : (padTo (k + 1) lays)[k] = y at hy
    have hyl : y.length < 1000 := by
      have := List.mem_of_getElem? hy
      simp only [padTo, List.mem_append, List.mem_replicate] at this
      rcases this with h1 | h1
      · exact hyz y h1
      · rw [h1.2]; decide
    refine IdxK_of (idx_lst B'.F (by rw [List.getElem?_map, hb]; rfl)) ?_
    (try simp only [S_nil, S_cons, Then_next, Then_ret, S_set, S_unp, S_put, S_expr, S_ret, S_ite, S_whil, S_loop, IteK_eq, LoopB_one, LoopB_two, E_lit, E_var, E_tup, E_list, E_dict0, E_bin, E_neg, E_not, E_cmp, E_and, E_or, E_idx, E_slice, E_rev, E_call, E_blt, E_meth, E_isi, E_comp, L_nil, L_cons, A_cons, O_cons, C_cons, I_nil, I_cons, VarK_some, NegK_int, NotK_bool, truthP_bool, AndK_nil, AndK_cons, OrK_nil, OrK_cons, CmpR_nil, CmpR_cons, CmpK_lt, CmpK_le, CmpK_gt, CmpK_ge, CmpK_eqi, CmpK_nei, TestK_bool, BinK_addi, BinK_subi, CompS_one, CompS_two, List.getD_eq_getElem?_getD, List.getElem?_cons_zero, List.getElem?_cons_succ, Option.getD_some, Option.getD_none, List.map_cons, List.map_nil, List.cons_append, List.nil_append, List.replicate, List.set_cons_zero, List.set_cons_succ, Nat.sub_self, if_true, if_false, Bool.false_eq_true, Bool.not_true, Bool.not_false, decide_true, decide_false, decide_eq_true_eq, Bool.not_eq_true', true_and, MethA_lst (H := H') (m := .append) (a := b) (by decide)])
    refine MethK_of (meth_append (B'.L k b y hb hy) (by simp; omega)) ?_
    have e1 : y.map fl ++ [.tup [.int h, .int l]] = (y ++ [(l, h)]).map fl := by simp [fl]
    rw [e1]
    have B2 := B'.putL (y := y ++ [(l, h)]) hb
    walk_at "wps"
    refine IdxK_of (idx_nat B2.R (gR hl)) ?_
    (try simp only [S_nil, S_cons, Then_next, Then_ret, S_set, S_unp, S_put, S_expr, S_ret, S_ite, S_whil, S_loop, IteK_eq, LoopB_one, LoopB_two, E_lit, E_var, E_tup, E_list, E_dict0, E_bin, E_neg, E_not, E_cmp, E_and, E_or, E_idx, E_slice, E_rev, E_call, E_blt, E_meth, E_isi, E_comp, L_nil, L_cons, A_cons, O_cons, C_cons, I_nil, I_cons, VarK_some, NegK_int, NotK_bool, truthP_bool, AndK_nil, AndK_cons, OrK_nil, OrK_cons, CmpR_nil, CmpR_cons, CmpK_lt, CmpK_le, CmpK_gt, CmpK_ge, CmpK_eqi, CmpK_nei, TestK_bool, BinK_addi, BinK_subi, CompS_one, CompS_two, List.getD_eq_getElem?_getD, List.getElem?_cons_zero, List.getElem?_cons_succ, Option.getD_some, Option.getD_none, List.map_cons, List.map_nil, List.cons_append, List.nil_append, List.replicate, List.set_cons_zero, List.set_cons_succ, Nat.sub_self, if_true, if_false, Bool.false_eq_true, Bool.not_true, Bool.not_false, decide_true, decide_false, decide_eq_true_eq, Bool.not_eq_true', true_and, blt_max2])
    refine PutK_of (put_nat B2.R (by omega)) ?_
    have B3 := B2.putR (read' := read.set l (max (g0 read l) k))
    walk_at "wps"
    refine PutK_of (show putV _ _ (.int h) (.int ((k : Int) + 1)) = _ from put_nat (x := k + 1) B3.D hh) ?_
    have B4 := B3.putD (done' := done.set h (k + 1))
    walk_at "wps"
    refine hq bs' _ ⟨?_, ((st.set ?_).set (.inl (by simp))).set (.inl (by simp)), hnew⟩
    · rw [hat]
      have e2 : (padTo (k + 1) lays).set k (y ++ [(l, h)]) = putLay lays k (l, h) := by
        unfold putLay
        rw [List.getD_eq_getElem?_getD, hy]; rfl
      rw [← e2]; exact B4
    · rcases hnew b (List.mem_of_getElem? hb) with h1 | h1
      · exact .inl (by simp [h1])
      · exact .inr h1
end
end Bn
namespace Bn
open PySem
theorem Stay.trans {S S' : List Nat} {H H' H'' : Hp} (h : Stay S H H') (h' : Stay S' H' H'') (hs : ∀ x ∈ S', x ∈ S ∨ H.length ≤ x) : Stay S H H'' :=
  ⟨Nat.le_trans h.len h'.len, fun x hx hn => by
    rw [h'.same x (Nat.lt_of_lt_of_le hx h.len) fun hm => (hs x hm).elim hn fun hl => by omega, h.same x hx hn]⟩
structure KeptB (H : Hp) (f dn rd : Nat) (bs : List Nat) (X : List Nat) (s : PS) (bs' : List Nat) (H' : Hp) : Prop where
  build : Build H' f dn rd bs' s.lays s.done s.read
  stay : Stay (X ++ f :: dn :: rd :: bs) H H'
  new : ∀ b ∈ bs', b ∈ bs ∨ H.length ≤ b
section
variable {c : Cx} {q : Bool} {d : Nat} {Q : V → Hp → Prop} {E : XPost} {H : Hp}
theorem g0_get {xs : List Nat} {i : Nat} (h : i < xs.length) : xs[i]? = some (g0 xs i) := by
  simp [g0, List.getD_eq_getElem?_getD, h]
theorem s_put (P : Has c "_law_place" 5 6 p__law_place) {f dn rd : Nat} {bs bs0 X : List Nat} {s : PS} {js : List (Nat × Nat)} {n l h : Nat} {H0 : Hp} (K : KeptB H0 f dn rd bs0 X s bs H) (L : Laid n s js) (hn : n ≤ 64) (hz : s.lays.length < 900) (hlh : l < h) (hhn : h < n) (hc : q = true)
    (hq : ∀ bs' H', KeptB H0 f dn rd bs0 X (s.put (l, h)) bs' H' → Stay (f :: dn :: rd :: bs) H H' → (∀ b ∈ bs', b ∈ bs ∨ H.length ≤ b) → Q .none H') :
    Calls c q (d + 1) "_law_place" [.lst f, .int l, .int h, .lst dn, .lst rd] none Q E H := by
  have dl := L.dl; have rl := L.rl
  refine s_place P K.build (by omega) (by omega) (by omega) hc ?_ (by omega) (fun y hy => by have := L.wide y hy; omega) ?_
  · have := L.at_le l h; omega
  · intro bs' H' Pl
    refine hq bs' H' ⟨Pl.build, K.stay.trans Pl.stay ?_, ?_⟩ Pl.stay Pl.new
    · intro x hx
      rcases List.mem_cons.mp hx with rfl | hx
      · exact .inl (by simp)
      · rcases List.mem_cons.mp hx with rfl | hx
        · exact .inl (by simp)
        · rcases List.mem_cons.mp hx with rfl | hx
          · exact .inl (by simp)
          · rcases K.new x hx with h | h
            · exact .inl (by simp [h])
            · exact .inr h
    · intro b hb
      rcases Pl.new b hb with h | h
      · exact K.new b h
      · exact .inr (Nat.le_trans K.stay.len h)
def thinC (cell : Int) (k : Nat) : Bool := decide (cell / (1 + k) % 4 > 0)
theorem Stay.at {S : List Nat} {H H' : Hp} (h : Stay S H H') {x : Nat} {y : List V} (hx : H[x]? = some y) (hn : x ∉ S) : H'[x]? = some y := by
  rw [h.same x (List.getElem?_eq_some_iff.mp hx).1 hn, hx]
end
end Bn
namespace Bn
open PySem
structure EqP {α : Type} [DecidableEq α] (f : α → PyData) : Prop where
  eq : ∀ a b, PyData.eqv (f a) (f b) = decide (a = b)
  lay : ∀ a, PyData.canLay0 (f a) = true
theorem EqP.all {α : Type} [DecidableEq α] {f : α → PyData} (h : EqP f) : ∀ xs ys : List α, PyData.eqvAll (xs.map f) (ys.map f) = decide (xs = ys)
  | [], [] => rfl
  | [], _ :: _ => by simp [PyData.eqvAll]
  | _ :: _, [] => by simp [PyData.eqvAll]
  | x :: xs, y :: ys => by
    simp only [List.map_cons, PyData.eqvAll, h.eq, h.all xs ys, List.cons.injEq]
    by_cases h1 : x = y <;> by_cases h2 : xs = ys <;> simp [h1, h2]
theorem EqP.layAll {α : Type} [DecidableEq α] {f : α → PyData} (h : EqP f) : ∀ xs : List α, PyData.canLayAll0 (xs.map f) = true
  | [] => rfl
  | x :: xs => by simp [PyData.canLayAll0, h.lay x, h.layAll xs]
def listP {α : Type} (f : α → PyData) (xs : List α) : PyData := .list (xs.map f)
theorem EqP.list {α : Type} [DecidableEq α] {f : α → PyData} (h : EqP f) : EqP (listP f) :=
  ⟨fun a b => by rw [listP, listP, PyData.eqv]; exact h.all a b, fun a => by rw [listP, PyData.canLay0]; exact h.layAll a⟩
def tupP {α : Type} (f : α → PyData) (xs : List α) : PyData := .tuple (xs.map f)
theorem EqP.tup {α : Type} [DecidableEq α] {f : α → PyData} (h : EqP f) : EqP (tupP f) :=
  ⟨fun a b => by rw [tupP, tupP, PyData.eqv]; exact h.all a b, fun a => by rw [tupP, PyData.canLay0]; exact h.layAll a⟩
def natP (n : Nat) : PyData := .int n
theorem eqP_nat : EqP natP := ⟨fun a b => by
  simp only [natP, PyData.eqv]
  by_cases h : a = b
  · subst h; simp
  · have : ¬ ((a : Int) = b) := by omega
    simp [h, this], fun a => rfl⟩
def jointP (p : Nat × Nat) : PyData := .tuple [.int p.1, .int p.2]
theorem eqP_joint : EqP jointP := ⟨fun a b => by
  obtain ⟨a1, a2⟩ := a
  obtain ⟨b1, b2⟩ := b
  simp only [jointP, PyData.eqv, PyData.eqvAll, Prod.mk.injEq]
  by_cases h1 : a1 = b1 <;> by_cases h2 : a2 = b2 <;> simp [h1, h2] <;> omega, fun a => rfl⟩
theorem mapM_of {α : Type} {g : α → V} {f : α → PyData} {F : V → Option PyData} : ∀ {xs : List α}, (∀ x ∈ xs, F (g x) = some (f x)) → (xs.map g).mapM F = some (xs.map f)
  | [], _ => rfl
  | x :: r, h => by
    rw [List.map_cons, List.mapM_cons, h x List.mem_cons_self, mapM_of fun y hy => h y (List.mem_cons_of_mem _ hy)]; rfl
theorem mapM_idx {β : Type} {f : β → PyData} {F : V → Option PyData} : ∀ {bs : List V} {ys : List β}, bs.length = ys.length → (∀ (i : Nat) b y, bs[i]? = some b → ys[i]? = some y → F b = some (f y)) → bs.mapM F = some (ys.map f)
  | [], [], _, _ => rfl
  | [], _ :: _, h, _ => by simp at h
  | _ :: _, [], h, _ => by simp at h
  | b :: bs, y :: ys, h, hh => by
    rw [List.mapM_cons, hh 0 b y rfl rfl, mapM_idx (by simpa using h) fun i b y h1 h2 => hh (i + 1) b y (by simpa using h1) (by simpa using h2)]; rfl
section
variable {H : Hp}
theorem toP_list {n a : Nat} {α : Type} {g : α → V} {f : α → PyData} {xs : List α} (ha : H[a]? = some (xs.map g)) (h : ∀ x ∈ xs, toP n H (g x) = some (f x)) : toP (n + 1) H (.lst a) = some (listP f xs) := by
  simp only [toP, ha, Option.bind_some, mapM_of h, Option.map_some, listP]
theorem toP_lists {n a : Nat} {β : Type} {f : β → PyData} {bs : List V} {ys : List β} (ha : H[a]? = some bs) (hl : bs.length = ys.length) (h : ∀ (i : Nat) b y, bs[i]? = some b → ys[i]? = some y → toP n H b = some (f y)) : toP (n + 1) H (.lst a) = some (listP f ys) := by
  simp only [toP, ha, Option.bind_some, mapM_idx hl h, Option.map_some, listP]
theorem toP_nat {n : Nat} (x : Nat) : toP n H (nat x) = some (natP x) := by cases n <;> rfl
theorem toP_pr {n : Nat} (p : Nat × Nat) : toP (n + 1) H (pr p) = some (jointP p) := by
  simp only [pr, toP, List.mapM_cons, List.mapM_nil]
  cases n <;> rfl
theorem toP_row {n a : Nat} {xs : List Nat} (ha : H[a]? = some (xs.map nat)) : toP (n + 1) H (.lst a) = some (listP natP xs) := toP_list ha fun x _ => toP_nat x
theorem toP_layer {n a : Nat} {y : List (Nat × Nat)} (ha : H[a]? = some (y.map pr)) : toP (n + 2) H (.lst a) = some (listP jointP y) := toP_list ha fun x _ => toP_pr x
theorem toP_net {n a : Nat} {bs : List Nat} {net : Net} (N : NetAt H a bs net) : toP (n + 3) H (.lst a) = some (listP (listP jointP) net) := by
  refine toP_lists N.top (by simp [N.len]) fun i b y h1 h2 => ?_
  rw [List.getElem?_map] at h1
  obtain ⟨b', hb, rfl⟩ := Option.map_eq_some_iff.mp h1
  exact toP_layer (N.lay i b' y hb h2)
theorem eqV_of {a : Nat} {w : V} {α : Type} [DecidableEq α] {f : α → PyData} (h : EqP f) {x y : α} (h1 : toP 9 H (.lst a) = some (f x)) (h2 : toP 9 H w = some (f y)) : eqV H (.lst a) w = some (decide (x = y)) := by
  have e : eqV H (.lst a) w = (match toP 9 H (.lst a), toP 9 H w with
    | some a, some b => if a.canLay0 && b.canLay0 then some (PyData.eqv a b) else none
    | _, _ => none) := by cases w <;> rfl
  rw [e, h1, h2]
  simp only [h.lay, Bool.and_self, if_true, h.eq]
theorem eqT_of {l : List V} {w : V} {α : Type} [DecidableEq α] {f : α → PyData} (h : EqP f) {x y : α} (h1 : toP 9 H (.tup l) = some (f x)) (h2 : toP 9 H w = some (f y)) : eqV H (.tup l) w = some (decide (x = y)) := by
  have e : eqV H (.tup l) w = (match toP 9 H (.tup l), toP 9 H w with
    | some a, some b => if a.canLay0 && b.canLay0 then some (PyData.eqv a b) else none
    | _, _ => none) := by cases w <;> rfl
  rw [e, h1, h2]
  simp only [h.lay, Bool.and_self, if_true, h.eq]
theorem eq_row {a b : Nat} {xs ys : List Nat} (ha : H[a]? = some (xs.map nat)) (hb : H[b]? = some (ys.map nat)) : eqV H (.lst a) (.lst b) = some (decide (xs = ys)) := eqV_of eqP_nat.list (toP_row ha) (toP_row hb)
theorem eq_layer {a b : Nat} {xs ys : List (Nat × Nat)} (ha : H[a]? = some (xs.map pr)) (hb : H[b]? = some (ys.map pr)) : eqV H (.lst a) (.lst b) = some (decide (xs = ys)) := eqV_of eqP_joint.list (toP_layer ha) (toP_layer hb)
theorem eq_net {a b : Nat} {bs cs : List Nat} {xs ys : Net} (ha : NetAt H a bs xs) (hb : NetAt H b cs ys) : eqV H (.lst a) (.lst b) = some (decide (xs = ys)) := eqV_of eqP_joint.list.list (toP_net ha) (toP_net hb)
theorem cmp_eq {v w : V} {b : Bool} (h : eqV H v w = some b) : cmpV H .eq v w = some b := by simpa only [cmpV] using h
theorem cmp_ne {v w : V} {b : Bool} (h : eqV H v w = some b) : cmpV H .ne v w = some (!b) := by
  have : cmpV H .ne v w = (eqV H v w).map (!·) := by simp only [cmpV]
  rw [this, h]; rfl
end
end Bn
namespace Bn
open PySem
section
variable {c : Cx} {q : Bool} {d : Nat} {Q : V → Hp → Prop} {E : XPost} {H : Hp}
theorem get_lt {x : Nat} {y : List V} (h : H[x]? = some y) : x < H.length := (List.getElem?_eq_some_iff.mp h).1
theorem Build.below {f dn rd : Nat} {bs : List Nat} {lays : Net} {done read : List Nat} (B : Build H f dn rd bs lays done read) : ∀ b ∈ f :: dn :: rd :: bs, b < H.length := by
  intro b hb
  rcases List.mem_cons.mp hb with rfl | hb
  · exact get_lt B.F
  · rcases List.mem_cons.mp hb with rfl | hb
    · exact get_lt B.D
    · rcases List.mem_cons.mp hb with rfl | hb
      · exact get_lt B.R
      · obtain ⟨i, hi, e⟩ := List.mem_iff_getElem.mp hb
        exact (B.lt (i := i) (by rw [List.getElem?_eq_getElem hi, e])).1
theorem Build.keep {f dn rd : Nat} {bs : List Nat} {lays : Net} {done read : List Nat} (B : Build H f dn rd bs lays done read) {H' : Hp} (h : ∀ x ∈ f :: dn :: rd :: bs, H'[x]? = H[x]?) : Build H' f dn rd bs lays done read where
  F := by rw [h f (by simp)]; exact B.F
  len := B.len
  L := fun i b y hb hy => by rw [h b (by simp [List.mem_of_getElem? hb])]; exact B.L i b y hb hy
  D := by rw [h dn (by simp)]; exact B.D
  R := by rw [h rd (by simp)]; exact B.R
  nd := B.nd
theorem KeptB.set {H0 : Hp} {f dn rd : Nat} {bs bs0 X : List Nat} {s : PS} (K : KeptB H0 f dn rd bs0 X s bs H) {a : Nat} {xs : List V} (hn : a ∉ f :: dn :: rd :: bs) (hx : a ∈ X ∨ H0.length ≤ a) : KeptB H0 f dn rd bs0 X s bs (H.set a xs) where
  build := K.build.keep fun x hx => by
    rw [List.getElem?_set_ne]
    rintro rfl; exact hn hx
  stay := K.stay.set (by rcases hx with h | h; exact .inl (by simp [h]); exact .inr h)
  new := K.new
theorem KeptB.app {H0 : Hp} {f dn rd : Nat} {bs bs0 X : List Nat} {s : PS} (K : KeptB H0 f dn rd bs0 X s bs H) {xs : List V} : KeptB H0 f dn rd bs0 X s bs (H ++ [xs]) where
  build := K.build.keep fun x hx => by rw [List.getElem?_append_left (K.build.below x hx)]
  stay := K.stay.app
  new := K.new
theorem get_app {x : Nat} {y xs : List V} (h : H[x]? = some y) : (H ++ [xs])[x]? = some y := by rw [List.getElem?_append_left (get_lt h)]; exact h
theorem get_new {xs : List V} : (H ++ [xs])[H.length]? = some xs := by simp
theorem get_set {x a : Nat} {y xs : List V} (h : H[x]? = some y) (hn : x ≠ a) : (H.set a xs)[x]? = some y := by rw [List.getElem?_set_ne (Ne.symm hn)]; exact h
theorem get_put {a : Nat} {y xs : List V} (h : H[a]? = some y) : (H.set a xs)[a]? = some xs := by rw [List.getElem?_set_self (get_lt h)]
end
structure ThinSt (H : Hp) (f dn rd lf la fw : Nat) (bs : List Nat) (s : PS) (left : List (Nat × Nat)) (act : List Nat) (fwx : List Nat) (H0 : Hp) (bs0 : List Nat) : Prop where
  kept : KeptB H0 f dn rd bs0 [lf] s bs H
  hact : H[la]? = some (act.map nat)
  hleft : H[lf]? = some (left.map pr)
  hfw : H[fw]? = some (fwx.map nat)
  nla : la ∉ f :: dn :: rd :: bs
  nlf : lf ∉ f :: dn :: rd :: bs
  nfw : fw ∉ f :: dn :: rd :: bs
  d1 : la ≠ lf
  d2 : la ≠ fw
  d3 : lf ≠ fw
  new : H0.length ≤ fw
section
variable {c : Cx} {q : Bool} {d : Nat} {Q : V → Hp → Prop} {E : XPost} {H : Hp}
theorem ThinSt.push {f dn rd lf la fw : Nat} {bs : List Nat} {s : PS} {left : List (Nat × Nat)} {act fwx : List Nat} {H0 : Hp} {bs0 : List Nat} (T : ThinSt H f dn rd lf la fw bs s left act fwx H0 bs0) {x : Nat} : ThinSt (H.set fw ((fwx ++ [x]).map nat)) f dn rd lf la fw bs s left act (fwx ++ [x]) H0 bs0 :=
  { T with
    kept := T.kept.set T.nfw (.inr T.new)
    hact := get_set T.hact T.d2
    hleft := get_set T.hleft T.d3
    hfw := get_put T.hfw }
theorem ThinSt.leave {f dn rd lf la fw : Nat} {bs : List Nat} {s : PS} {left : List (Nat × Nat)} {act fwx : List Nat} {H0 : Hp} {bs0 : List Nat} (T : ThinSt H f dn rd lf la fw bs s left act fwx H0 bs0) {p : Nat × Nat} : ThinSt (H.set lf ((left ++ [p]).map pr)) f dn rd lf la fw bs s (left ++ [p]) act fwx H0 bs0 :=
  { T with
    kept := T.kept.set T.nlf (.inl (by simp))
    hact := get_set T.hact T.d1
    hleft := get_put T.hleft
    hfw := get_set T.hfw (Ne.symm T.d3) }
theorem ThinSt.more {f dn rd lf la fw : Nat} {bs : List Nat} {s : PS} {left : List (Nat × Nat)} {act fwx : List Nat} {H0 : Hp} {bs0 : List Nat} (T : ThinSt H f dn rd lf la fw bs s left act fwx H0 bs0) {xs : List V} : ThinSt (H ++ [xs]) f dn rd lf la fw bs s left act fwx H0 bs0 :=
  { T with
    kept := T.kept.app
    hact := get_app T.hact
    hleft := get_app T.hleft
    hfw := get_app T.hfw }
theorem ThinSt.place {f dn rd lf la fw : Nat} {bs bs' : List Nat} {s s' : PS} {left : List (Nat × Nat)} {act fwx : List Nat} {H0 H' : Hp} {bs0 : List Nat} (T : ThinSt H f dn rd lf la fw bs s left act fwx H0 bs0) (K : KeptB H0 f dn rd bs0 [lf] s' bs' H') (st : Stay (f :: dn :: rd :: bs) H H') (hnew : ∀ b ∈ bs', b ∈ bs ∨ H.length ≤ b) : ThinSt H' f dn rd lf la fw bs' s' left act fwx H0 bs0 := by
  have out : ∀ {x : Nat}, x < H.length → x ∉ f :: dn :: rd :: bs → x ∉ f :: dn :: rd :: bs' := by
    intro x hx hn hm
    simp only [List.mem_cons, not_or] at hn hm
    rcases hm with h | h | h | h
    · exact hn.1 h
    · exact hn.2.1 h
    · exact hn.2.2.1 h
    · rcases hnew x h with h | h
      · exact hn.2.2.2 h
      · omega
  exact { T with
    kept := K
    hact := st.at T.hact T.nla
    hleft := st.at T.hleft T.nlf
    hfw := st.at T.hfw T.nfw
    nla := out (get_lt T.hact) T.nla
    nlf := out (get_lt T.hleft) T.nlf
    nfw := out (get_lt T.hfw) T.nfw }
def ThinInv (H : Hp) (f dn rd la lf : Nat) (bs : List Nat) (s : PS) (left : List (Nat × Nat)) (act : List Nat) (cell : Int) (m : Nat) (l' : Loc) (H' : Hp) : Prop :=
  ∃ k sp pl lfx fwx bs', m + k = act.length ∧ l' = [some (.lst f), some (.lst la), some (.int cell), some (.lst dn), some (.lst rd), some (.lst lf), some (.lst H.length), some (.int (k : Nat))] ∧
      thin (thinC cell) 0 0 act = (pl ++ (thin (thinC cell) k sp (act.drop k)).1, lfx ++ (thin (thinC cell) k sp (act.drop k)).2.1, fwx ++ (thin (thinC cell) k sp (act.drop k)).2.2) ∧
      (fwx = [] → sp = 0) ∧ (fwx ≠ [] → fwx.getLast? = some (sp - 1) ∧ sp ≠ 0) ∧ lfx.length ≤ k ∧ pl.length ≤ k ∧ fwx.length ≤ k ∧
      ThinSt H' f dn rd lf la H.length bs' (s.puts pl) (left ++ lfx) act fwx H bs
theorem s_thinner (P : Has c "_law_thinner" 6 8 p__law_thinner) (PP : Has c "_law_place" 5 6 p__law_place) {f dn rd la lf : Nat} {bs : List Nat} {s : PS} {js left : List (Nat × Nat)} {n : Nat} {act : List Nat} {cell : Int}
    (B : Build H f dn rd bs s.lays s.done s.read) (L : Laid n s js) (hn : n ≤ 64) (ha : H[la]? = some (act.map nat)) (hlf : H[lf]? = some (left.map pr)) (nla : la ∉ f :: dn :: rd :: bs) (nlf : lf ∉ f :: dn :: rd :: bs) (hal : la ≠ lf)
    (hlt : ∀ p ∈ (thin (thinC cell) 0 0 act).1, p.1 < p.2 ∧ p.2 < n) (hz : act.length ≤ 64) (hlz : left.length + act.length ≤ 200) (hsz : s.lays.length ≤ 800) (hc : q = true)
    (hq : ∀ bs' H' fw, ThinSt H' f dn rd lf la fw bs' (s.puts (thin (thinC cell) 0 0 act).1) (left ++ (thin (thinC cell) 0 0 act).2.1) act (thin (thinC cell) 0 0 act).2.2 H bs → Q (.lst fw) H') :
    Calls c q (d + 2) "_law_thinner" [.lst f, .lst la, .int cell, .lst dn, .lst rd, .lst lf] none Q E H := by
  subst hc
  have hsl : sizeLine = 2 ^ 24 := rfl
  refine P true (d + 1) _ Q E H rfl ?_
  unfold p__law_thinner
  walk_at "wps"
  unfold WhilK wpWhile
  have hbs := B.below
  have n0 : H.length ∉ f :: dn :: rd :: bs := fun h => Nat.lt_irrefl _ (hbs _ h)
  refine ⟨ThinInv H f dn rd la lf bs s left act cell, ⟨act.length, 0, 0, [], [], [], bs, by omega, rfl, by simp, fun _ => rfl, fun h => absurd rfl h, Nat.le_refl _, Nat.le_refl _, Nat.le_refl _, ?_⟩, ?_⟩
  · exact {
      kept := ⟨B.keep fun x hx => by rw [List.getElem?_append_left (hbs x hx)], Stay.refl.app, fun b hb => .inl hb⟩
      hact := get_app ha
      hleft := by simpa using get_app hlf
      hfw := by simp
      nla := nla
      nlf := nlf
      nfw := n0
      d1 := hal
      d2 := Nat.ne_of_lt (get_lt ha)
      d3 := Nat.ne_of_lt (get_lt hlf)
      new := Nat.le_refl _ }
  · rintro m l' H' ⟨k, sp, pl, lfx, fwx, bs', hmk, rfl, hth, hf0, hf1, hll, hpl, hfl, T⟩
    unfold wpT
    (try simp only [S_nil, S_cons, Then_next, Then_ret, S_set, S_unp, S_put, S_expr, S_ret, S_ite, S_whil, S_loop, IteK_eq, LoopB_one, LoopB_two, E_lit, E_var, E_tup, E_list, E_dict0, E_bin, E_neg, E_not, E_cmp, E_and, E_or, E_idx, E_slice, E_rev, E_call, E_blt, E_meth, E_isi, E_comp, L_nil, L_cons, A_cons, O_cons, C_cons, I_nil, I_cons, VarK_some, NegK_int, NotK_bool, truthP_bool, AndK_nil, AndK_cons, OrK_nil, OrK_cons, CmpR_nil, CmpR_cons, CmpK_lt, CmpK_le, CmpK_gt, CmpK_ge, CmpK_eqi, CmpK_nei, TestK_bool, BinK_addi, BinK_subi, CompS_one, CompS_two, List.getD_eq_getElem?_getD, List.getElem?_cons_zero, List.getElem?_cons_succ, Option.getD_some, Option.getD_none, List.map_cons, List.map_nil, List.cons_append, List.nil_append, List.replicate, List.set_cons_zero, List.set_cons_succ, Nat.sub_self, if_true, if_false, Bool.false_eq_true, Bool.not_true, Bool.not_false, decide_true, decide_false, decide_eq_true_eq, Bool.not_eq_true', true_and, len_lst T.hact, List.length_map])
    by_cases hk : (k : Int) < act.length
    · simp only [hk, decide_true]
      (try simp only [S_nil, S_cons, Then_next, Then_ret, S_set, S_unp, S_put, S_expr, S_ret, S_ite, S_whil, S_loop, IteK_eq, LoopB_one, LoopB_two, E_lit, E_var, E_tup, E_list, E_dict0, E_bin, E_neg, E_not, E_cmp, E_and, E_or, E_idx, E_slice, E_rev, E_call, E_blt, E_meth, E_isi, E_comp, L_nil, L_cons, A_cons, O_cons, C_cons, I_nil, I_cons, VarK_some, NegK_int, NotK_bool, truthP_bool, AndK_nil, AndK_cons, OrK_nil, OrK_cons, CmpR_nil, CmpR_cons, CmpK_lt, CmpK_le, CmpK_gt, CmpK_ge, CmpK_eqi, CmpK_nei, TestK_bool, BinK_addi, BinK_subi, CompS_one, CompS_two, List.getD_eq_getElem?_getD, List.getElem?_cons_zero, List.getElem?_cons_succ, Option.getD_some, Option.getD_none, List.map_cons, List.map_nil, List.cons_append, List.nil_append, List.replicate, List.set_cons_zero, List.set_cons_succ, Nat.sub_self, if_true, if_false, Bool.false_eq_true, Bool.not_true, Bool.not_false, decide_true, decide_false, decide_eq_true_eq, Bool.not_eq_true', true_and, len_lst T.hact, List.length_map])
      have hkn : k < act.length := by omega
      obtain ⟨x, hx⟩ : ∃ x, act[k]? = some x := ⟨_, List.getElem?_eq_getElem hkn⟩
      have hdr : act.drop k = x :: act.drop (k + 1) := by
        have := List.drop_eq_getElem_cons hkn
        rw [List.getElem?_eq_getElem hkn] at hx
        cases hx; exact this
      have hsz1 : fwx.length < sizeLine := by omega
      have plain : thin (thinC cell) k sp (act.drop k) = ((thin (thinC cell) (k + 1) (x + 1) (act.drop (k + 1))).1, (thin (thinC cell) (k + 1) (x + 1) (act.drop (k + 1))).2.1, x :: (thin (thinC cell) (k + 1) (x + 1) (act.drop (k + 1))).2.2) →
          MethA (Calls c) true (d + 1) none .append (.lst H.length) [(Ex.var 1).idx (Ex.var 7)] [some (.lst f), some (.lst la), some (.int cell), some (.lst dn), some (.lst rd), some (.lst lf), some (.lst H.length), some (.int k)]
            (fun _ H_1 => ∃ m', m' < m ∧ ThinInv H f dn rd la lf bs s left act cell m' [some (.lst f), some (.lst la), some (.int cell), some (.lst dn), some (.lst rd), some (.lst lf), some (.lst H.length), some (.int ((k : Int) + 1))] H_1) (fun _ _ => False) H' := by
        intro hth'
        (try simp only [S_nil, S_cons, Then_next, Then_ret, S_set, S_unp, S_put, S_expr, S_ret, S_ite, S_whil, S_loop, IteK_eq, LoopB_one, LoopB_two, E_lit, E_var, E_tup, E_list, E_dict0, E_bin, E_neg, E_not, E_cmp, E_and, E_or, E_idx, E_slice, E_rev, E_call, E_blt, E_meth, E_isi, E_comp, L_nil, L_cons, A_cons, O_cons, C_cons, I_nil, I_cons, VarK_some, NegK_int, NotK_bool, truthP_bool, AndK_nil, AndK_cons, OrK_nil, OrK_cons, CmpR_nil, CmpR_cons, CmpK_lt, CmpK_le, CmpK_gt, CmpK_ge, CmpK_eqi, CmpK_nei, TestK_bool, BinK_addi, BinK_subi, CompS_one, CompS_two, List.getD_eq_getElem?_getD, List.getElem?_cons_zero, List.getElem?_cons_succ, Option.getD_some, Option.getD_none, List.map_cons, List.map_nil, List.cons_append, List.nil_append, List.replicate, List.set_cons_zero, List.set_cons_succ, Nat.sub_self, if_true, if_false, Bool.false_eq_true, Bool.not_true, Bool.not_false, decide_true, decide_false, decide_eq_true_eq, Bool.not_eq_true', true_and, MethA_lst (H := H') (m := .append) (a := H.length) (by decide)])
        refine IdxK_of (idx_nat T.hact hx) ?_
        refine MethK_of (meth_append T.hfw (by simpa using hsz1)) ?_
        rw [hth'] at hth
        have e1 : fwx.map nat ++ [V.int x] = (fwx ++ [x]).map nat := by simp [nat]
        rw [e1]
        refine ⟨m - 1, by omega, k + 1, x + 1, pl, lfx, fwx ++ [x], bs', by omega, by rw [show ((k + 1 : Nat) : Int) = (k : Int) + 1 by omega], ?_, fun h => absurd h (by simp), fun _ => ⟨by simp, by omega⟩, by omega, by omega, by simp; omega, T.push⟩
        rw [hth]; simp
      by_cases hk1 : (k : Int) + 1 < act.length
      · rw [if_pos hk1]
        (try simp only [S_nil, S_cons, Then_next, Then_ret, S_set, S_unp, S_put, S_expr, S_ret, S_ite, S_whil, S_loop, IteK_eq, LoopB_one, LoopB_two, E_lit, E_var, E_tup, E_list, E_dict0, E_bin, E_neg, E_not, E_cmp, E_and, E_or, E_idx, E_slice, E_rev, E_call, E_blt, E_meth, E_isi, E_comp, L_nil, L_cons, A_cons, O_cons, C_cons, I_nil, I_cons, VarK_some, NegK_int, NotK_bool, truthP_bool, AndK_nil, AndK_cons, OrK_nil, OrK_cons, CmpR_nil, CmpR_cons, CmpK_lt, CmpK_le, CmpK_gt, CmpK_ge, CmpK_eqi, CmpK_nei, TestK_bool, BinK_addi, BinK_subi, CompS_one, CompS_two, List.getD_eq_getElem?_getD, List.getElem?_cons_zero, List.getElem?_cons_succ, Option.getD_some, Option.getD_none, List.map_cons, List.map_nil, List.cons_append, List.nil_append, List.replicate, List.set_cons_zero, List.set_cons_succ, Nat.sub_self, if_true, if_false, Bool.false_eq_true, Bool.not_true, Bool.not_false, decide_true, decide_false, decide_eq_true_eq, Bool.not_eq_true', true_and, divK (H := H') (a := cell) (b := 1 + (k : Int)) (by omega), modK (H := H') (b := 4) (by omega)])
        have hk1n : k + 1 < act.length := by omega
        obtain ⟨y, hy⟩ : ∃ y, act[k + 1]? = some y := ⟨_, List.getElem?_eq_getElem hk1n⟩
        have hdr2 : act.drop (k + 1) = y :: act.drop (k + 2) := by
          have := List.drop_eq_getElem_cons hk1n
          rw [List.getElem?_eq_getElem hk1n] at hy
          cases hy; exact this
        by_cases hcn : cell / (1 + (k : Int)) % 4 > 0
        · have hct : thinC cell k = true := by simp [thinC, hcn]
          rw [if_pos hcn]
          refine IdxK_of (idx_nat T.hact hx) ?_
          refine IdxK_of (show idxV H' (.lst la) (.int ((k : Int) + 1)) = some (.int y) from idx_nat (i := k + 1) T.hact hy) ?_
          have hth2 : thin (thinC cell) k sp (act.drop k) = ((x, y) :: (thin (thinC cell) (k + 2) (y + 1) (act.drop (k + 2))).1, (if sp = 0 then [] else [(sp - 1, x)]) ++ (thin (thinC cell) (k + 2) (y + 1) (act.drop (k + 2))).2.1, y :: (thin (thinC cell) (k + 2) (y + 1) (act.drop (k + 2))).2.2) := by
            rw [hdr, hdr2, thin, if_pos hct]
          rw [hth2] at hth
          have hplt : ∀ p ∈ pl, p.1 < p.2 ∧ p.2 < n := fun p hp => hlt p (by rw [hth]; simp [hp])
          have hxy := hlt (x, y) (by rw [hth]; simp)
          have L' := L.puts hplt
          have hpz := puts_len L hplt
          refine s_put PP T.kept L' hn (by omega) hxy.1 hxy.2 rfl fun bs'' H'' K'' st'' new'' => ?_
          have T1 := T.place K'' st'' new''
          have ep : (s.puts pl).put (x, y) = s.puts (pl ++ [(x, y)]) := by rw [PS.puts_append]; rfl
          rw [ep] at T1
          have T2 := T1.more (xs := [])
          have hne : eqV (H'' ++ [[]]) (.lst H.length) (.lst H''.length) = some (decide (fwx = [])) := eq_row T2.hfw (by simp)
          refine CmpK_of (cmp_ne hne) ?_
          walk_at "wps"
          have fin : ∀ (lfx' : List (Nat × Nat)) (H3 : Hp), lfx'.length ≤ k + 2 → thin (thinC cell) 0 0 act = ((pl ++ [(x, y)]) ++ (thin (thinC cell) (k + 2) (y + 1) (act.drop (k + 2))).1, lfx' ++ (thin (thinC cell) (k + 2) (y + 1) (act.drop (k + 2))).2.1, (fwx ++ [y]) ++ (thin (thinC cell) (k + 2) (y + 1) (act.drop (k + 2))).2.2) →
              ThinSt H3 f dn rd lf la H.length bs'' (s.puts (pl ++ [(x, y)])) (left ++ lfx') act fwx H bs →
              MethA (Calls c) true (d + 1) none .append (.lst H.length) [(Ex.var 1).idx (Ex.var 7)] [some (.lst f), some (.lst la), some (.int cell), some (.lst dn), some (.lst rd), some (.lst lf), some (.lst H.length), some (.int ((k : Int) + 1))]
                (fun _ H_1 => ∃ m', m' < m ∧ ThinInv H f dn rd la lf bs s left act cell m' [some (.lst f), some (.lst la), some (.int cell), some (.lst dn), some (.lst rd), some (.lst lf), some (.lst H.length), some (.int ((k : Int) + 1 + 1))] H_1) (fun _ _ => False) H3 := by
            intro lfx' H3 hl3 hth3 T3
            (try simp only [S_nil, S_cons, Then_next, Then_ret, S_set, S_unp, S_put, S_expr, S_ret, S_ite, S_whil, S_loop, IteK_eq, LoopB_one, LoopB_two, E_lit, E_var, E_tup, E_list, E_dict0, E_bin, E_neg, E_not, E_cmp, E_and, E_or, E_idx, E_slice, E_rev, E_call, E_blt, E_meth, E_isi, E_comp, L_nil, L_cons, A_cons, O_cons, C_cons, I_nil, I_cons, VarK_some, NegK_int, NotK_bool, truthP_bool, AndK_nil, AndK_cons, OrK_nil, OrK_cons, CmpR_nil, CmpR_cons, CmpK_lt, CmpK_le, CmpK_gt, CmpK_ge, CmpK_eqi, CmpK_nei, TestK_bool, BinK_addi, BinK_subi, CompS_one, CompS_two, List.getD_eq_getElem?_getD, List.getElem?_cons_zero, List.getElem?_cons_succ, Option.getD_some, Option.getD_none, List.map_cons, List.map_nil, List.cons_append, List.nil_append, List.replicate, List.set_cons_zero, List.set_cons_succ, Nat.sub_self, if_true, if_false, Bool.false_eq_true, Bool.not_true, Bool.not_false, decide_true, decide_false, decide_eq_true_eq, Bool.not_eq_true', true_and, MethA_lst (H := H3) (m := .append) (a := H.length) (by decide)])
            refine IdxK_of (show idxV H3 (.lst la) (.int ((k : Int) + 1)) = some (.int y) from idx_nat (i := k + 1) T3.hact hy) ?_
            refine MethK_of (meth_append T3.hfw (by simpa using hsz1)) ?_
            have e1 : fwx.map nat ++ [V.int y] = (fwx ++ [y]).map nat := by simp [nat]
            rw [e1]
            exact ⟨m - 2, by omega, k + 2, y + 1, pl ++ [(x, y)], lfx', fwx ++ [y], bs'', by omega, by rw [show ((k + 2 : Nat) : Int) = (k : Int) + 1 + 1 by omega], hth3, fun h => absurd h (by simp), fun _ => ⟨by simp, by omega⟩, hl3, by simp; omega, by simp; omega, T3.push⟩
          by_cases hfw : fwx = []
          · have hs0 := hf0 hfw
            simp only [hfw, decide_true, Bool.not_true, Bool.false_eq_true, if_false]
            rw [hfw] at fin
            refine fin lfx _ (by omega) ?_ (by rw [hfw] at T2; exact T2)
            rw [hth, hs0, hfw]; simp
          · obtain ⟨hlast, hs0⟩ := hf1 hfw
            simp only [hfw, decide_false, Bool.not_false, if_true]
            (try simp only [S_nil, S_cons, Then_next, Then_ret, S_set, S_unp, S_put, S_expr, S_ret, S_ite, S_whil, S_loop, IteK_eq, LoopB_one, LoopB_two, E_lit, E_var, E_tup, E_list, E_dict0, E_bin, E_neg, E_not, E_cmp, E_and, E_or, E_idx, E_slice, E_rev, E_call, E_blt, E_meth, E_isi, E_comp, L_nil, L_cons, A_cons, O_cons, C_cons, I_nil, I_cons, VarK_some, NegK_int, NotK_bool, truthP_bool, AndK_nil, AndK_cons, OrK_nil, OrK_cons, CmpR_nil, CmpR_cons, CmpK_lt, CmpK_le, CmpK_gt, CmpK_ge, CmpK_eqi, CmpK_nei, TestK_bool, BinK_addi, BinK_subi, CompS_one, CompS_two, List.getD_eq_getElem?_getD, List.getElem?_cons_zero, List.getElem?_cons_succ, Option.getD_some, Option.getD_none, List.map_cons, List.map_nil, List.cons_append, List.nil_append, List.replicate, List.set_cons_zero, List.set_cons_succ, Nat.sub_self, if_true, if_false, Bool.false_eq_true, Bool.not_true, Bool.not_false, decide_true, decide_false, decide_eq_true_eq, Bool.not_eq_true', true_and, MethA_lst (H := H'' ++ [[]]) (m := .append) (a := lf) (by decide)])
            refine IdxK_of (idx_last T2.hfw (by rw [List.getLast?_map, hlast]; rfl)) ?_
            refine IdxK_of (idx_nat T2.hact hx) ?_
            refine MethK_of (meth_append T2.hleft (by simp; omega)) ?_
            have e1 : (left ++ lfx).map pr ++ [V.tup [nat (sp - 1), V.int x]] = ((left ++ lfx) ++ [(sp - 1, x)]).map pr := by simp [pr, nat]
            rw [e1]
            have T3 := T2.leave (p := (sp - 1, x))
            rw [List.append_assoc] at T3 ⊢
            refine fin (lfx ++ [(sp - 1, x)]) _ (by simp; omega) ?_ T3
            rw [hth, if_neg hs0]; simp
        · have hct : ¬ thinC cell k = true := by simp only [thinC, decide_eq_true_eq]; exact hcn
          rw [if_neg hcn]
          refine plain ?_
          rw [hdr, hdr2, thin, if_neg hct]
      · rw [if_neg hk1]
        walk_at "wps"
        refine plain ?_
        have : act.drop (k + 1) = [] := List.drop_eq_nil_of_le (by omega)
        rw [hdr, this]
        rfl
    · simp only [hk, decide_false]
      walk_at "wps"
      have hd : act.drop k = [] := List.drop_eq_nil_of_le (by omega)
      rw [hd] at hth
      simp only [thin, List.append_nil] at hth
      rw [hth] at hq
      exact hq bs' H' _ T
end
end Bn
namespace Bn
open PySem
section
variable {c : Cx} {q : Bool} {d : Nat} {Q : V → Hp → Prop} {E : XPost} {H : Hp}
theorem mulK {a b : Int} {K : V → Hp → Prop} (h : small b = true) : BinK .mul (.int a) (.int b) K H = K (.int (a * b)) H := by
  simp only [BinK, binV, h, Bool.or_true, if_true]
theorem rangeL_nat (n : Nat) : rangeL 0 (n : Int) 1 = (List.range n).map nat := by
  unfold rangeL
  have : (if 0 < (1 : Int) ∧ 0 < (n : Int) then (((n : Int) - 0 - 1) / 1 + 1).toNat else 0) = n := by
    split <;> omega
  rw [this]
  apply List.map_congr_left
  intro i _
  simp [nat]
theorem range_nat {n : Nat} {K : V → Hp → Prop} (h : n < 1000000) : BltK true .range [.int n] K H = K (.rng 0 n 1) H := by
  have : (n : Int).natAbs < 2 ^ 31 := by omega
  simp only [BltK, bltV, this, if_true, true_and]
theorem list_range {n : Nat} {K : V → Hp → Prop} (h : n < 1000000) : BltK true .list [.rng 0 n 1] K H = K (.lst H.length) (H ++ [(List.range n).map nat]) := by
  have hs : sizeLine = 2 ^ 24 := rfl
  have : ((List.range n).map nat).length ≤ sizeLine := by simp; omega
  simp only [BltK, bltV, rangeL_nat, if_pos this, true_and]
theorem list_lst {a : Nat} {xs : List V} {K : V → Hp → Prop} (h : H[a]? = some xs) : BltK true .list [.lst a] K H = K (.lst H.length) (H ++ [xs]) := by
  simp only [BltK, bltV, h, Option.map_some, true_and]
theorem rep_one {α : Type} (x : α) : ∀ n, rep [x] n = List.replicate n x
  | 0 => rfl
  | n + 1 => by rw [rep, rep_one x n, List.replicate_succ]; rfl
theorem mul_zero {a n : Nat} {K : V → Hp → Prop} (h : H[a]? = some [V.int 0]) (hn : n < 1000000) : BinK .mul (.lst a) (.int n) K H = K (.lst H.length) (H ++ [(List.replicate n 0).map nat]) := by
  have hs : sizeLine = 2 ^ 24 := rfl
  have h1 : 0 ≤ (n : Int) ∧ (n : Int) ≤ 1000000 ∧ (n : Int).toNat * [V.int 0].length ≤ sizeLine := by simp; omega
  simp only [BinK, binV, h, h1, and_self, if_true]
  simp only [Int.toNat_natCast, rep_one, List.map_replicate]
  rfl
theorem add_lst {a b : Nat} {xs ys : List V} {K : V → Hp → Prop} (ha : H[a]? = some xs) (hb : H[b]? = some ys) (hz : xs.length + ys.length < 1000000) : BinK .add (.lst a) (.lst b) K H = K (.lst H.length) (H ++ [xs ++ ys]) := by
  have hs : sizeLine = 2 ^ 24 := rfl
  have : xs.length + ys.length ≤ sizeLine := by omega
  simp only [BinK, binV, ha, hb, this, if_true]
theorem slice_to {a i : Nat} {xs : List V} {K : V → Hp → Prop} (ha : H[a]? = some xs) : SliceK (.lst a) .none (.int i) K H = K (.lst H.length) (H ++ [xs.take i]) := by
  have e : clampI (i : Int) xs.length = min i xs.length := by unfold clampI; rw [if_neg (by omega)]; simp
  simp only [SliceK, sliceV, ha, bound?, e, List.drop_zero, Nat.sub_zero]
  rw [← List.take_eq_take_min]
theorem slice_from {a i : Nat} {xs : List V} {K : V → Hp → Prop} (ha : H[a]? = some xs) : SliceK (.lst a) (.int i) .none K H = K (.lst H.length) (H ++ [xs.drop i]) := by
  have e : clampI (i : Int) xs.length = min i xs.length := by unfold clampI; rw [if_neg (by omega)]; simp
  have e2 : (xs.drop (min i xs.length)).take (xs.length - min i xs.length) = xs.drop i := by
    rw [List.take_of_length_le (by simp)]
    by_cases h : i ≤ xs.length
    · rw [Nat.min_eq_left h]
    · rw [Nat.min_eq_right (by omega), List.drop_of_length_le (Nat.le_refl _), List.drop_of_length_le (by omega)]
  simp only [SliceK, sliceV, ha, bound?, e, e2]
end
structure TelSt (H0 H : Hp) (f dn rd lf : Nat) (bs : List Nat) (s : PS) (left : List (Nat × Nat)) : Prop where
  build : Build H f dn rd bs s.lays s.done s.read
  hleft : H[lf]? = some (left.map pr)
  nlf : lf ∉ f :: dn :: rd :: bs
  stay : Stay [] H0 H
  fresh : ∀ b ∈ lf :: f :: dn :: rd :: bs, H0.length ≤ b
structure GrAt (H : Hp) (g : Nat) (rs : List Nat) (gs : List (List Nat)) : Prop where
  top : H[g]? = some (rs.map .lst)
  len : rs.length = gs.length
  gr : ∀ (i r : Nat) (y : List Nat), rs[i]? = some r → gs[i]? = some y → H[r]? = some (y.map nat)
section
variable {H : Hp}
theorem stay_new {H0 H' : Hp} (h : Stay [] H0 H') : H0.length ≤ H'.length := h.len
theorem TelSt.app {H0 : Hp} {f dn rd lf : Nat} {bs : List Nat} {s : PS} {left : List (Nat × Nat)} (T : TelSt H0 H f dn rd lf bs s left) {xs : List V} : TelSt H0 (H ++ [xs]) f dn rd lf bs s left :=
  { T with
    build := T.build.keep fun x hx => by rw [List.getElem?_append_left (T.build.below x hx)]
    hleft := get_app T.hleft
    stay := T.stay.app }
theorem mem_grow {f dn rd : Nat} {bs bs' : List Nat} {n : Nat} (hnew : ∀ b ∈ bs', b ∈ bs ∨ n ≤ b) {x : Nat} (hx : x < n) (hn : x ∉ f :: dn :: rd :: bs) : x ∉ f :: dn :: rd :: bs' := by
  intro hm
  simp only [List.mem_cons, not_or] at hn hm
  rcases hm with h | h | h | h
  · exact hn.1 h
  · exact hn.2.1 h
  · exact hn.2.2.1 h
  · rcases hnew x h with h | h
    · exact hn.2.2.2 h
    · omega
theorem TelSt.place {H0 H' : Hp} {f dn rd lf : Nat} {bs bs' : List Nat} {s s' : PS} {left : List (Nat × Nat)} (T : TelSt H0 H f dn rd lf bs s left) (B : Build H' f dn rd bs' s'.lays s'.done s'.read) (st : Stay (f :: dn :: rd :: bs) H H') (hnew : ∀ b ∈ bs', b ∈ bs ∨ H.length ≤ b) : TelSt H0 H' f dn rd lf bs' s' left where
  build := B
  hleft := st.at T.hleft T.nlf
  nlf := mem_grow hnew (get_lt T.hleft) T.nlf
  stay := T.stay.trans st fun x hx => .inr (T.fresh x (List.mem_cons_of_mem _ hx))
  fresh := by
    intro b hb
    simp only [List.mem_cons] at hb
    rcases hb with h | h | h | h | h
    · exact T.fresh b (by simp [h])
    · exact T.fresh b (by simp [h])
    · exact T.fresh b (by simp [h])
    · exact T.fresh b (by simp [h])
    · rcases hnew b h with h | h
      · exact T.fresh b (by simp [h])
      · exact Nat.le_trans T.stay.len h
theorem TelSt.thin {H0 H' : Hp} {f dn rd lf la fw : Nat} {bs bs' : List Nat} {s s' : PS} {left left' : List (Nat × Nat)} {act fwx : List Nat} (T : TelSt H0 H f dn rd lf bs s left) (K : ThinSt H' f dn rd lf la fw bs' s' left' act fwx H bs) : TelSt H0 H' f dn rd lf bs' s' left' where
  build := K.kept.build
  hleft := K.hleft
  nlf := K.nlf
  stay := T.stay.trans K.kept.stay fun x hx => .inr (T.fresh x (by simpa using hx))
  fresh := by
    intro b hb
    simp only [List.mem_cons] at hb
    rcases hb with h | h | h | h | h
    · exact T.fresh b (by simp [h])
    · exact T.fresh b (by simp [h])
    · exact T.fresh b (by simp [h])
    · exact T.fresh b (by simp [h])
    · rcases K.kept.new b h with h | h
      · exact T.fresh b (by simp [h])
      · exact Nat.le_trans T.stay.len h
def Apart (f dn rd : Nat) (bs rs : List Nat) : Prop := ∀ r ∈ rs, r ∉ f :: dn :: rd :: bs
theorem GrAt.app {g : Nat} {rs : List Nat} {gs : List (List Nat)} (G : GrAt H g rs gs) {xs : List V} : GrAt (H ++ [xs]) g rs gs := ⟨get_app G.top, G.len, fun i r y h1 h2 => get_app (G.gr i r y h1 h2)⟩
theorem GrAt.lt {g : Nat} {rs : List Nat} {gs : List (List Nat)} (G : GrAt H g rs gs) : ∀ r ∈ rs, r < H.length := by
  intro r hr
  obtain ⟨i, hi, e⟩ := List.mem_iff_getElem.mp hr
  obtain ⟨y, hy⟩ : ∃ y, gs[i]? = some y := ⟨_, List.getElem?_eq_getElem (by rw [← G.len]; exact hi)⟩
  exact get_lt (G.gr i r y (by rw [List.getElem?_eq_getElem hi, e]) hy)
theorem GrAt.stay {H' : Hp} {g f dn rd : Nat} {bs rs : List Nat} {gs : List (List Nat)} (G : GrAt H g rs gs) (st : Stay (f :: dn :: rd :: bs) H H') (ap : Apart f dn rd bs (g :: rs)) : GrAt H' g rs gs :=
  ⟨st.at G.top (ap g List.mem_cons_self), G.len, fun i r y h1 h2 => st.at (G.gr i r y h1 h2) (ap r (List.mem_cons_of_mem _ (List.mem_of_getElem? h1)))⟩
end
def tel3 : List St := [.ret (.comp (.comp (.tup [(.var 15), (.var 14)]) (.two 14 15) (.blt .sorted [(.var 13)]) []) (.one 13) (.var 2) [])]
def tel2 : List St := .loop (.two 12 10) (.rev (.var 3)) [.expr (.call "_law_place" [(.var 2), (.var 12), (.var 10), (.var 4), (.var 5)])] :: tel3
def telW : List St := [.set 0 (.bin .mod (.bin .mul (.var 0) (.lit (.int 16807))) (.lit (.int 2147483647))), .set 9 (.idx (.list [(.bin .mod (.bin .div (.var 0) (.lit (.int 3))) (.bin .sub (.blt .len [(.var 8)]) (.lit (.int 1)))), (.lit (.int 0)), (.bin .sub (.blt .len [(.var 8)]) (.lit (.int 2)))]) (.bin .mod (.var 0) (.lit (.int 3)))), .loop (.one 10) (.val (.idx (.var 8) (.bin .add (.var 9) (.lit (.int 1))))) [.expr (.call "_law_place" [(.var 2), (.idx (.idx (.var 8) (.var 9)) (.neg (.lit (.int 1)))), (.var 10), (.var 4), (.var 5)])], .set 11 (.bin .add (.idx (.var 8) (.var 9)) (.idx (.var 8) (.bin .add (.var 9) (.lit (.int 1))))), .set 8 (.bin .add (.bin .add (.slice (.var 8) (.lit .none) (.var 9)) (.list [(.var 11)])) (.slice (.var 8) (.bin .add (.var 9) (.lit (.int 2))) (.lit .none)))]
def tel1 : List St := .whil (.cmp (.blt .len [(.var 8)]) [.gt] [(.lit (.int 1))]) telW :: tel2
def tel0 : List St := .set 8 (.comp (.list [(.var 13)]) (.one 13) (.var 6) []) :: tel1
def telT : List St := .loop (.one 7) (.val (.blt .range [(.bin .mod (.var 0) (.lit (.int 4)))])) [.set 6 (.call "_law_thinner" [(.var 2), (.var 6), (.bin .div (.bin .div (.var 0) (.lit (.int 4))) (.bin .add (.lit (.int 1)) (.var 7))), (.var 4), (.var 5), (.var 3)])] :: tel0
theorem tel_eq : p__law_telling = [.set 0 (.bin .mod (.bin .mul (.var 0) (.lit (.int 48271))) (.lit (.int 2147483647))), .set 2 (.list []), .set 3 (.list []), .set 4 (.bin .mul (.list [(.lit (.int 0))]) (.var 1)), .set 5 (.bin .mul (.list [(.lit (.int 0))]) (.var 1)), .set 6 (.blt .list [(.blt .range [(.var 1)])])] ++ telT := rfl
section
variable {c : Cx} {d : Nat} {R : SPost} {E : SX} {H H0 : Hp}
theorem sorted_fl {b n : Nat} {y : List (Nat × Nat)} {K : V → Hp → Prop} (hb : H[b]? = some (y.map fl)) (hy : ∀ p ∈ y, p.1 < p.2 ∧ p.2 < n) (hn : n ≤ 64) (hnd : (y.map (·.2)).Nodup) : BltK true .sorted [.lst b] K H = K (.lst H.length) (H ++ [(sortL y).map fl]) := by
  have e1 : ∀ z : List (Nat × Nat), pairsV (z.map fl) = some (z.map fun p => ((p.2 : Int), (p.1 : Int))) := by
    intro z
    induction z with
    | nil => rfl
    | cons p r ih => simp only [List.map_cons, fl, pairsV] at ih ⊢; rw [ih]; rfl
  have e2 : sortOk (y.map fun p => ((p.2 : Int), (p.1 : Int))) = true := by
    have hlen := nodup_len hnd fun x hx => by
      obtain ⟨p, hp, rfl⟩ := List.mem_map.mp hx
      exact (hy p hp).2
    rw [List.length_map] at hlen
    have hy1 : y = [] ∨ 1 ≤ n := by
      cases y with
      | nil => exact .inl rfl
      | cons p r => have := hy p List.mem_cons_self; exact .inr (by omega)
    have hlt : y.length < 64 := by
      have := nodup_len (n := n - 1) (xs := (y.map (·.2)).map (· - 1)) ?_ ?_
      · simp at this; rcases hy1 with rfl | h
        · simp
        · omega
      · refine List.pairwise_map.mpr (hnd.imp_of_mem ?_)
        intro a b ha hb hne
        obtain ⟨p, hp, rfl⟩ := List.mem_map.mp ha
        obtain ⟨p', hp', rfl⟩ := List.mem_map.mp hb
        have := hy p hp; have := hy p' hp'
        omega
      · intro x hx
        obtain ⟨z, hz, rfl⟩ := List.mem_map.mp hx
        obtain ⟨p, hp, rfl⟩ := List.mem_map.mp hz
        have := hy p hp
        omega
    simp only [sortOk, List.length_map, Bool.and_eq_true, decide_eq_true_eq, List.all_eq_true]
    refine ⟨⟨hlt, ?_⟩, ?_⟩
    · refine List.pairwise_map.mpr ((List.pairwise_map.mp hnd).imp ?_)
      intro a b hne e
      exact hne (by have := congrArg Prod.fst e; simp only at this; omega)
    · intro x hx
      obtain ⟨p, hp, rfl⟩ := List.mem_map.mp hx
      have := hy p hp
      show (p.2 : Int).natAbs < 2 ^ 31 ∧ (p.1 : Int).natAbs < 2 ^ 31
      omega
  have e3 : ((y.map fun p => ((p.2 : Int), (p.1 : Int))).mergeSort pairLe).map pairV = (sortL y).map fl := by
    unfold sortL
    have := List.map_mergeSort (r := hiLe) (s := pairLe) (f := fun p : Nat × Nat => ((p.2 : Int), (p.1 : Int))) (l := y) (fun a _ b _ => by
      simp only [hiLe, pairLe]
      congr 1
      · rw [decide_eq_decide]; omega
      · congr 1
        · rw [decide_eq_decide]; omega
        · rw [decide_eq_decide]; omega)
    rw [← this, List.map_map]
    rfl
  simp only [BltK, bltV, hb, Option.bind_some, e1, e2, if_true, true_and, e3]
theorem tel3_ok {f dn rd n : Nat} {bs : List Nat} {s : PS} {js : List (Nat × Nat)} {l : Loc} (B : Build H f dn rd bs s.lays s.done s.read) (L : Laid n s js) (hn : n ≤ 64) (hz : s.lays.length ≤ 900) (h2 : l.length = 16) (h2v : l[2]? = some (some (.lst f)))
    (hq : ∀ a bs' H' l', NetAt H' a bs' (s.lays.map sortL) → Stay [] H H' → (∀ b ∈ a :: bs', H.length ≤ b) → (a :: bs').Nodup → R (.ret (.lst a)) l' H') :
    wpSs (Calls c) true d none tel3 l R E H := by
  have hsl : sizeLine = 2 ^ 24 := rfl
  obtain ⟨l0, l1, l2, l3, l4, l5, l6, l7, l8, l9, l10, l11, l12, l13, l14, l15, rfl⟩ : ∃ l0 l1 l2 l3 l4 l5 l6 l7 l8 l9 l10 l11 l12 l13 l14 l15, l = [l0, l1, l2, l3, l4, l5, l6, l7, l8, l9, l10, l11, l12, l13, l14, l15] := by
    match l, h2 with
    | [l0, l1, l2, l3, l4, l5, l6, l7, l8, l9, l10, l11, l12, l13, l14, l15], _ => exact ⟨_, _, _, _, _, _, _, _, _, _, _, _, _, _, _, _, rfl⟩
  simp only [List.getElem?_cons_succ, List.getElem?_cons_zero, Option.some.injEq] at h2v
  subst h2v
  unfold tel3
  walk_at "wps"
  refine CompK_of (items := bs.map .lst) (by simp only [srcV, B.F]) rfl (by simp [B.len]; omega) ?_
  refine wpIter_rule (I := fun i acc H' => ∃ cs : List Nat, acc = cs.map .lst ∧ cs.length = i ∧ Stay [] H H' ∧ (∀ (j b : Nat) (y : List (Nat × Nat)), cs[j]? = some b → s.lays[j]? = some y → H'[b]? = some ((sortL y).map pr)) ∧ (∀ b ∈ cs, H.length ≤ b ∧ b < H'.length) ∧ cs.Nodup) ?_ ?_ ⟨[], rfl, rfl, Stay.refl, by simp, by simp, by simp⟩
  · rintro i x acc H' K hx ⟨cs, rfl, hl, st, hcs, hfr, hnd⟩ hK
    rw [List.getElem?_map] at hx
    obtain ⟨b, hb, rfl⟩ := Option.map_eq_some_iff.mp hx
    walk_at "wps"
    have hbl := B.lt hb
    obtain ⟨y, hy⟩ : ∃ y, s.lays[i]? = some y := ⟨_, List.getElem?_eq_getElem hbl.2⟩
    have hby := st.at (B.L i b y hb hy) (by simp)
    have hym := fun p hp => (L.hi i y hy p hp).2.2
    (try simp only [S_nil, S_cons, Then_next, Then_ret, S_set, S_unp, S_put, S_expr, S_ret, S_ite, S_whil, S_loop, IteK_eq, LoopB_one, LoopB_two, E_lit, E_var, E_tup, E_list, E_dict0, E_bin, E_neg, E_not, E_cmp, E_and, E_or, E_idx, E_slice, E_rev, E_call, E_blt, E_meth, E_isi, E_comp, L_nil, L_cons, A_cons, O_cons, C_cons, I_nil, I_cons, VarK_some, NegK_int, NotK_bool, truthP_bool, AndK_nil, AndK_cons, OrK_nil, OrK_cons, CmpR_nil, CmpR_cons, CmpK_lt, CmpK_le, CmpK_gt, CmpK_ge, CmpK_eqi, CmpK_nei, TestK_bool, BinK_addi, BinK_subi, CompS_one, CompS_two, List.getD_eq_getElem?_getD, List.getElem?_cons_zero, List.getElem?_cons_succ, Option.getD_some, Option.getD_none, List.map_cons, List.map_nil, List.cons_append, List.nil_append, List.replicate, List.set_cons_zero, List.set_cons_succ, Nat.sub_self, if_true, if_false, Bool.false_eq_true, Bool.not_true, Bool.not_false, decide_true, decide_false, decide_eq_true_eq, Bool.not_eq_true', true_and, sorted_fl (H := H') (K := CompK (Calls c) true d (.two 14 15) [] (.tup [.var 15, .var 14]) [l0, l1, some (.lst f), l3, l4, l5, l6, l7, l8, l9, l10, l11, l12, some (.lst b), l14, l15] (fun v H => K (cs.map .lst ++ [v]) H)) hby hym hn (L.nd y (List.mem_of_getElem? hy))])
    have hyz := L.wide y (List.mem_of_getElem? hy)
    have hsl2 : (sortL y).length = y.length := (sortL_perm y).length_eq.symm
    refine CompK_of (items := (sortL y).map fl) (by simp only [srcV]; simp) rfl (by simp; omega) ?_
    refine wpIter_rule (I := fun j acc2 H2 => H2 = H' ++ [(sortL y).map fl] ∧ acc2 = ((sortL y).take j).map pr) ?_ ?_ ⟨rfl, by simp⟩
    · rintro j x2 acc2 H2 K2 hx2 ⟨rfl, rfl⟩ hK2
      rw [List.getElem?_map] at hx2
      obtain ⟨p, hp, rfl⟩ := Option.map_eq_some_iff.mp hx2
      unfold fl
      walk_at "wps"
      refine hK2 _ _ (by simp [okV, fl]) ⟨rfl, ?_⟩
      rw [List.take_add_one, hp]
      simp [pr]
    · rintro acc2 H2 ⟨rfl, rfl⟩
      rw [List.length_map, List.take_length]
      have hst2 : Stay [] H (H' ++ [(sortL y).map fl] ++ [(sortL y).map pr]) := st.app.app
      refine hK _ _ (by simp only [okV]; exact hst2.at B.F (by simp)) ⟨cs ++ [(H' ++ [(sortL y).map fl]).length], by simp, by simp [hl], hst2, ?_, ?_, ?_⟩
      · intro j b' y' hj hy'
        by_cases hjl : j < cs.length
        · rw [List.getElem?_append_left hjl] at hj
          exact get_app (get_app (hcs j b' y' hj hy'))
        · have : j = cs.length := by
            have := (List.getElem?_eq_some_iff.mp hj).1
            simp at this; omega
          subst this
          simp only [List.getElem?_concat_length, Option.some.injEq] at hj
          subst hj
          rw [hl, hy] at hy'
          cases hy'
          exact get_new
      · intro b' hb'
        rcases List.mem_append.mp hb' with h | h
        · have := hfr b' h; simp; omega
        · rw [List.mem_singleton.mp h]; have := st.len; simp; omega
      · rw [List.nodup_append]
        refine ⟨hnd, by simp, ?_⟩
        intro a ha b' hb'
        rw [List.mem_singleton.mp hb']
        have := hfr a ha
        simp; omega
  · rintro acc H' ⟨cs, rfl, hl, st, hcs, hfr, hnd⟩
    rw [List.length_map, B.len] at hl
    refine hq _ cs _ _ ⟨get_new, by simp [hl], ?_⟩ st.app ?_ ?_
    · intro i b y' h1 h2
      rw [List.getElem?_map] at h2
      obtain ⟨y, hy, rfl⟩ := Option.map_eq_some_iff.mp h2
      exact get_app (hcs i b y h1 hy)
    · intro b hb
      rcases List.mem_cons.mp hb with rfl | hb
      · exact st.len
      · exact (hfr b hb).1
    · rw [List.nodup_cons]
      exact ⟨fun h => by have := (hfr _ h).2; omega, hnd⟩
end
end Bn
namespace Bn
open PySem
section
variable {c : Cx} {d : Nat} {R : SPost} {E : SX} {H H0 : Hp}
theorem tel2_ok (PP : Has c "_law_place" 5 6 p__law_place) {f dn rd lf n : Nat} {bs : List Nat} {s : PS} {js left : List (Nat × Nat)} {l0 l1 l6 l7 l8 l9 l10 l11 l12 l13 l14 l15 : Option V} (T : TelSt H0 H f dn rd lf bs s left) (L : Laid n s js) (hn : n ≤ 64) (hz : s.lays.length + left.length ≤ 800)
    (hlt : ∀ p ∈ left.reverse, p.1 < p.2 ∧ p.2 < n)
    (hq : ∀ a bs' H' l', NetAt H' a bs' ((s.puts left.reverse).lays.map sortL) → Stay [] H0 H' → (∀ b ∈ a :: bs', H0.length ≤ b) → (a :: bs').Nodup → R (.ret (.lst a)) l' H') :
    wpSs (Calls c) true (d + 1) none tel2 [l0, l1, some (.lst f), some (.lst lf), some (.lst dn), some (.lst rd), l6, l7, l8, l9, l10, l11, l12, l13, l14, l15] R E H := by
  unfold tel2
  walk_at "wps"
  refine Sr_rev (a := lf) (items := left.map pr) (fun K E' h => by walk_at "wps"; exact h) T.hleft ?_
  unfold LoopI
  rw [← List.map_reverse]
  refine wpFor_rule (I := fun i l' H' => ∃ v10 v12 bs', l' = [l0, l1, some (.lst f), some (.lst lf), some (.lst dn), some (.lst rd), l6, l7, l8, l9, v10, l11, v12, l13, l14, l15] ∧ TelSt H0 H' f dn rd lf bs' (s.puts (left.reverse.take i)) left) ?_ ?_ ⟨l10, l12, bs, rfl, T⟩
  · rintro i x l' H' K hx ⟨v10, v12, bs', rfl, T'⟩ hnext hret
    rw [List.getElem?_map] at hx
    obtain ⟨p, hp, rfl⟩ := Option.map_eq_some_iff.mp hx
    unfold pr
    walk_at "wps"
    have hpm := hlt p (List.mem_of_getElem? hp)
    have htk : ∀ p ∈ left.reverse.take i, p.1 < p.2 ∧ p.2 < n := fun p hp => hlt p (List.mem_of_mem_take hp)
    have hlen := puts_len L htk
    refine s_put PP (H0 := H') (bs0 := bs') (X := []) ⟨T'.build, Stay.refl, fun b hb => .inl hb⟩ (L.puts htk) hn (by simp at hlen; omega) hpm.1 hpm.2 rfl fun bs'' H'' K'' st'' new'' => ?_
    have T'' := T'.place K''.build st'' new''
    have e : (s.puts (left.reverse.take i)).put p = s.puts (left.reverse.take (i + 1)) := by
      rw [List.take_add_one, hp, PS.puts_append]; rfl
    rw [e] at T''
    exact hnext _ _ (by simp only [okV]; exact T''.hleft) ⟨some (.int p.2), some (.int p.1), bs'', rfl, T''⟩
  · rintro l' H' ⟨v10, v12, bs', rfl, T'⟩
    rw [List.length_map, List.take_length] at T'
    have hlen := puts_len L hlt
    rw [List.length_reverse] at hlen
    walk_at "wps"
    refine tel3_ok T'.build (L.puts hlt) hn (by omega) rfl rfl fun a cs H'' l'' N st fr nd => hq a cs H'' l'' N (T'.stay.trans st (by simp)) (fun b hb => Nat.le_trans T'.stay.len (fr b hb)) nd
structure GrSt (H : Hp) (f dn rd g : Nat) (bs rs : List Nat) (gs : List (List Nat)) : Prop where
  gr : GrAt H g rs gs
  apart : Apart f dn rd bs (g :: rs)
theorem GrSt.app {f dn rd g : Nat} {bs rs : List Nat} {gs : List (List Nat)} (G : GrSt H f dn rd g bs rs gs) {xs : List V} : GrSt (H ++ [xs]) f dn rd g bs rs gs := ⟨G.gr.app, G.apart⟩
theorem GrSt.place {H' : Hp} {f dn rd g : Nat} {bs bs' rs : List Nat} {gs : List (List Nat)} (G : GrSt H f dn rd g bs rs gs) (st : Stay (f :: dn :: rd :: bs) H H') (hnew : ∀ b ∈ bs', b ∈ bs ∨ H.length ≤ b) : GrSt H' f dn rd g bs' rs gs :=
  ⟨G.gr.stay st G.apart, fun r hr => mem_grow hnew (by
    rcases List.mem_cons.mp hr with rfl | hr
    · exact get_lt G.gr.top
    · exact G.gr.lt r hr) (G.apart r hr)⟩
theorem GrSt.at {f dn rd g i : Nat} {bs rs : List Nat} {gs : List (List Nat)} (G : GrSt H f dn rd g bs rs gs) {y : List Nat} (h : gs[i]? = some y) : ∃ r, rs[i]? = some r ∧ H[r]? = some (y.map nat) ∧ idxV H (.lst g) (.int i) = some (.lst r) := by
  have hi := (List.getElem?_eq_some_iff.mp h).1
  obtain ⟨r, hr⟩ : ∃ r, rs[i]? = some r := ⟨_, List.getElem?_eq_getElem (by rw [G.gr.len]; exact hi)⟩
  exact ⟨r, hr, G.gr.gr i r y hr h, idx_lst G.gr.top (by rw [List.getElem?_map, hr]; rfl)⟩
theorem GrAt.merge {H' : Hp} {g g' i M : Nat} {rs : List Nat} {gs : List (List Nat)} {y : List Nat} (G : GrAt H g rs gs) (hi : i + 1 < gs.length) (hM : H'[M]? = some (y.map nat)) (keep : ∀ (x : Nat) (z : List V), H[x]? = some z → H'[x]? = some z) (top : H'[g']? = some ((rs.take i ++ M :: rs.drop (i + 2)).map V.lst)) :
    GrAt H' g' (rs.take i ++ M :: rs.drop (i + 2)) (gs.take i ++ y :: gs.drop (i + 2)) := by
  have hl := G.len
  refine ⟨top, by simp [hl], fun j r z h1 h2 => ?_⟩
  rcases Nat.lt_trichotomy j i with h | h | h
  · rw [List.getElem?_append_left (by simp; omega), List.getElem?_take, if_pos h] at h1 h2
    exact keep _ _ (G.gr j r z h1 h2)
  · subst h
    rw [List.getElem?_append_right (by simp; omega)] at h1 h2
    rw [show j - (rs.take j).length = 0 by simp; omega] at h1
    rw [show j - (gs.take j).length = 0 by simp; omega] at h2
    cases h1; cases h2
    exact hM
  · rw [List.getElem?_append_right (by simp; omega)] at h1 h2
    rw [show j - (rs.take i).length = (j - i - 1) + 1 by simp; omega, List.getElem?_cons_succ, List.getElem?_drop] at h1
    rw [show j - (gs.take i).length = (j - i - 1) + 1 by simp; omega, List.getElem?_cons_succ, List.getElem?_drop] at h2
    exact keep _ _ (G.gr _ r z h1 h2)
theorem pick3 {cl : Int} {m : Nat} (hcl : 0 ≤ cl) (hm : 2 ≤ m) : ∃ i : Nat, i + 1 < m ∧ idxV (H ++ [[V.int (cl / 3 % ((m : Int) - 1)), V.int 0, V.int ((m : Int) - 2)]]) (.lst H.length) (.int (cl % 3)) = some (.int i) := by
  have h3 : cl % 3 = ((0 : Nat) : Int) ∨ cl % 3 = ((1 : Nat) : Int) ∨ cl % 3 = ((2 : Nat) : Int) := by omega
  rcases h3 with h | h | h <;> rw [h]
  · have a1 : 0 ≤ cl / 3 % ((m : Int) - 1) := Int.emod_nonneg _ (by omega)
    have a2 : cl / 3 % ((m : Int) - 1) < (m : Int) - 1 := Int.emod_lt_of_pos _ (by omega)
    refine ⟨(cl / 3 % ((m : Int) - 1)).toNat, by omega, ?_⟩
    rw [Int.toNat_of_nonneg a1]
    exact idx_lst get_new rfl
  · exact ⟨0, by omega, idx_lst get_new rfl⟩
  · refine ⟨m - 2, by omega, ?_⟩
    rw [show ((m - 2 : Nat) : Int) = (m : Int) - 2 by omega]
    exact idx_lst get_new rfl
theorem tel1_ok (PP : Has c "_law_place" 5 6 p__law_place) {f dn rd lf g n : Nat} {bs rs : List Nat} {s : PS} {left : List (Nat × Nat)} {gs : List (List Nat)} {cl : Int} {l1 l6 l7 l9 l10 l11 l12 l13 l14 l15 : Option V} (hn : n ≤ 64) (hcl : 0 ≤ cl) (T : TelSt H0 H f dn rd lf bs s left) (G : GrSt H f dn rd g bs rs gs) (I : GInv n (n + 3) s left gs)
    (hq : ∀ a bs' H' l' net, Told n net → NetAt H' a bs' net → Stay [] H0 H' → (∀ b ∈ a :: bs', H0.length ≤ b) → (a :: bs').Nodup → R (.ret (.lst a)) l' H') :
    wpSs (Calls c) true (d + 1) none tel1 [some (.int cl), l1, some (.lst f), some (.lst lf), some (.lst dn), some (.lst rd), l6, l7, some (.lst g), l9, l10, l11, l12, l13, l14, l15] R E H := by
  unfold tel1
  walk_at "wps"
  unfold WhilK wpWhile
  refine ⟨fun m l' H' => ∃ cl g bs rs s gs v9 v10 v11, m = gs.length ∧ 0 ≤ cl ∧ l' = [some (.int cl), l1, some (.lst f), some (.lst lf), some (.lst dn), some (.lst rd), l6, l7, some (.lst g), v9, v10, v11, l12, l13, l14, l15] ∧ TelSt H0 H' f dn rd lf bs s left ∧ GrSt H' f dn rd g bs rs gs ∧ GInv n (n + 3) s left gs,
    ⟨gs.length, cl, g, bs, rs, s, gs, l9, l10, l11, rfl, hcl, rfl, T, G, I⟩, ?_⟩
  rintro m l' H' ⟨cl, g, bs, rs, s, gs, v9, v10, v11, rfl, hcl, rfl, T, G, I⟩
  have hlen : rs.length = gs.length := G.gr.len
  unfold wpT
  (try simp only [S_nil, S_cons, Then_next, Then_ret, S_set, S_unp, S_put, S_expr, S_ret, S_ite, S_whil, S_loop, IteK_eq, LoopB_one, LoopB_two, E_lit, E_var, E_tup, E_list, E_dict0, E_bin, E_neg, E_not, E_cmp, E_and, E_or, E_idx, E_slice, E_rev, E_call, E_blt, E_meth, E_isi, E_comp, L_nil, L_cons, A_cons, O_cons, C_cons, I_nil, I_cons, VarK_some, NegK_int, NotK_bool, truthP_bool, AndK_nil, AndK_cons, OrK_nil, OrK_cons, CmpR_nil, CmpR_cons, CmpK_lt, CmpK_le, CmpK_gt, CmpK_ge, CmpK_eqi, CmpK_nei, TestK_bool, BinK_addi, BinK_subi, CompS_one, CompS_two, List.getD_eq_getElem?_getD, List.getElem?_cons_zero, List.getElem?_cons_succ, Option.getD_some, Option.getD_none, List.map_cons, List.map_nil, List.cons_append, List.nil_append, List.replicate, List.set_cons_zero, List.set_cons_succ, Nat.sub_self, if_true, if_false, Bool.false_eq_true, Bool.not_true, Bool.not_false, decide_true, decide_false, decide_eq_true_eq, Bool.not_eq_true', true_and, len_lst G.gr.top, List.length_map, hlen])
  by_cases h1 : (gs.length : Int) > 1
  · simp only [h1, decide_true]
    unfold telW
    (try simp only [S_nil, S_cons, Then_next, Then_ret, S_set, S_unp, S_put, S_expr, S_ret, S_ite, S_whil, S_loop, IteK_eq, LoopB_one, LoopB_two, E_lit, E_var, E_tup, E_list, E_dict0, E_bin, E_neg, E_not, E_cmp, E_and, E_or, E_idx, E_slice, E_rev, E_call, E_blt, E_meth, E_isi, E_comp, L_nil, L_cons, A_cons, O_cons, C_cons, I_nil, I_cons, VarK_some, NegK_int, NotK_bool, truthP_bool, AndK_nil, AndK_cons, OrK_nil, OrK_cons, CmpR_nil, CmpR_cons, CmpK_lt, CmpK_le, CmpK_gt, CmpK_ge, CmpK_eqi, CmpK_nei, TestK_bool, BinK_addi, BinK_subi, CompS_one, CompS_two, List.getD_eq_getElem?_getD, List.getElem?_cons_zero, List.getElem?_cons_succ, Option.getD_some, Option.getD_none, List.map_cons, List.map_nil, List.cons_append, List.nil_append, List.replicate, List.set_cons_zero, List.set_cons_succ, Nat.sub_self, if_true, if_false, Bool.false_eq_true, Bool.not_true, Bool.not_false, decide_true, decide_false, decide_eq_true_eq, Bool.not_eq_true', true_and, mulK (H := H') (a := cl) (b := 16807) (by decide), modK (H := H') (b := 2147483647) (by omega), len_lst G.gr.top, List.length_map, hlen])
    generalize hcell : cl * 16807 % 2147483647 = cl'
    have hcl' : 0 ≤ cl' := by omega
    (try simp only [S_nil, S_cons, Then_next, Then_ret, S_set, S_unp, S_put, S_expr, S_ret, S_ite, S_whil, S_loop, IteK_eq, LoopB_one, LoopB_two, E_lit, E_var, E_tup, E_list, E_dict0, E_bin, E_neg, E_not, E_cmp, E_and, E_or, E_idx, E_slice, E_rev, E_call, E_blt, E_meth, E_isi, E_comp, L_nil, L_cons, A_cons, O_cons, C_cons, I_nil, I_cons, VarK_some, NegK_int, NotK_bool, truthP_bool, AndK_nil, AndK_cons, OrK_nil, OrK_cons, CmpR_nil, CmpR_cons, CmpK_lt, CmpK_le, CmpK_gt, CmpK_ge, CmpK_eqi, CmpK_nei, TestK_bool, BinK_addi, BinK_subi, CompS_one, CompS_two, List.getD_eq_getElem?_getD, List.getElem?_cons_zero, List.getElem?_cons_succ, Option.getD_some, Option.getD_none, List.map_cons, List.map_nil, List.cons_append, List.nil_append, List.replicate, List.set_cons_zero, List.set_cons_succ, Nat.sub_self, if_true, if_false, Bool.false_eq_true, Bool.not_true, Bool.not_false, decide_true, decide_false, decide_eq_true_eq, Bool.not_eq_true', true_and, divK (H := H') (b := 3) (by omega), modK (H := H') (b := (gs.length : Int) - 1) (by omega), len_lst G.gr.top, List.length_map, hlen])
    rw [modK (by omega)]
    obtain ⟨i, hi, hidx⟩ := pick3 (H := H') (m := gs.length) hcl' (by omega)
    refine IdxK_of hidx ?_
    have T1 := T.app (xs := [V.int (cl' / 3 % ((gs.length : Int) - 1)), V.int 0, V.int ((gs.length : Int) - 2)])
    have G1 := G.app (xs := [V.int (cl' / 3 % ((gs.length : Int) - 1)), V.int 0, V.int ((gs.length : Int) - 2)])
    generalize H' ++ [[V.int (cl' / 3 % ((gs.length : Int) - 1)), V.int 0, V.int ((gs.length : Int) - 2)]] = H1 at T1 G1
    obtain ⟨a, ha⟩ : ∃ a, gs[i]? = some a := ⟨_, List.getElem?_eq_getElem (by omega)⟩
    obtain ⟨b, hb⟩ : ∃ b, gs[i + 1]? = some b := ⟨_, List.getElem?_eq_getElem hi⟩
    have hsplit : gs = gs.take i ++ a :: b :: gs.drop (i + 2) := by
      have e1 := List.drop_eq_getElem_cons (l := gs) (i := i) (by omega)
      have e2 := List.drop_eq_getElem_cons (l := gs) (i := i + 1) (by omega)
      rw [List.getElem?_eq_getElem (by omega)] at ha hb
      cases ha; cases hb
      rw [← e2, ← e1, List.take_append_drop]
    have I2 := I
    rw [hsplit] at I2
    obtain ⟨mm, hmm, I3, hlt⟩ := I2.merge
    obtain ⟨js, B0, L, _⟩ := I.ex
    obtain ⟨rb, hrb, hrbH, hrbI⟩ := G1.at hb
    walk_at "wps"
    refine Sr_val (v := .lst rb) (items := b.map nat) (fun K E' h => by walk_at "wps"; exact IdxK_of hrbI h) (by simp only [srcV, hrbH]) ?_
    unfold LoopI
    have hbz : b.length ≤ n := by
      have hmap := hlt
      have hnd : b.Nodup := by
        obtain ⟨_, B1, _, _, C1, _⟩ := I2.ex
        obtain ⟨_, _, _, hnd, _⟩ := merge_ok C1
        exact hnd
      exact nodup_len hnd fun x hx => (hlt (mm, x) (List.mem_map.mpr ⟨x, hx, rfl⟩)).2
    have hlayz := I.lay
    refine wpFor_rule (I := fun k l' H' => ∃ v10 bs', l' = [some (.int cl'), l1, some (.lst f), some (.lst lf), some (.lst dn), some (.lst rd), l6, l7, some (.lst g), some (.int i), v10, v11, l12, l13, l14, l15] ∧ TelSt H0 H' f dn rd lf bs' (s.puts ((b.map fun y => (mm, y)).take k)) left ∧ GrSt H' f dn rd g bs' rs gs) ?_ ?_ ⟨v10, bs, rfl, T1, G1⟩
    · rintro k x l' H2 K hx ⟨v10, bs', rfl, T2, G2⟩ hnext hret
      rw [List.getElem?_map] at hx
      obtain ⟨y, hy, rfl⟩ := Option.map_eq_some_iff.mp hx
      walk_at "wps"
      obtain ⟨ra, hra, hraH, hraI⟩ := G2.at ha
      refine IdxK_of hraI ?_
      walk_at "wps"
      refine IdxK_of (idx_last hraH (by rw [List.getLast?_map, hmm]; rfl)) ?_
      have htk : ∀ p ∈ (b.map fun y => (mm, y)).take k, p.1 < p.2 ∧ p.2 < n := fun p hp => hlt p (List.mem_of_mem_take hp)
      have hpm := hlt (mm, y) (List.mem_map.mpr ⟨y, List.mem_of_getElem? hy, rfl⟩)
      have hl2 := puts_len L htk
      rw [List.length_take, List.length_map] at hl2
      walk_at "wps"
      refine s_put PP (H0 := H2) (bs0 := bs') (X := []) ⟨T2.build, Stay.refl, fun b hb => .inl hb⟩ (L.puts htk) hn (by omega) hpm.1 hpm.2 rfl fun bs'' H'' K'' st'' new'' => ?_
      have T3 := T2.place K''.build st'' new''
      have G3 := G2.place st'' new''
      have e : (s.puts ((b.map fun y => (mm, y)).take k)).put (mm, y) = s.puts ((b.map fun y => (mm, y)).take (k + 1)) := by
        rw [List.take_add_one, List.getElem?_map, hy, PS.puts_append]; rfl
      rw [e] at T3
      obtain ⟨rb', hrb', hrbH', _⟩ := G3.at hb
      rw [hrb] at hrb'; cases hrb'
      exact hnext _ _ (by simp only [okV]; exact hrbH') ⟨_, bs'', rfl, T3, G3⟩
    · rintro l' H2 ⟨v10, bs', rfl, T2, G2⟩
      rw [List.length_map] at T2
      have e0 : (b.map fun y => (mm, y)).take b.length = b.map fun y => (mm, y) := by rw [List.take_of_length_le (by simp)]
      rw [e0] at T2
      obtain ⟨ra, hra, hraH, hraI⟩ := G2.at ha
      obtain ⟨rb', hrb', hrbH', hrbI'⟩ := G2.at hb
      have haz : a.length ≤ n := by
        obtain ⟨_, B1, _, _, C1, _⟩ := I.ex
        have : a.Nodup := by
          have hga : ∀ (gs : List (List Nat)) (s : Nat), GChain B1 s gs → ∀ g ∈ gs, g.Nodup := by
            intro gs
            induction gs with
            | nil => intro _ _ g hg; cases hg
            | cons g r ih =>
              rintro s ⟨_, h2, m, _, h4⟩ g' hg'
              rcases List.mem_cons.mp hg' with rfl | hg'
              · exact lt_nodup h2
              · exact ih _ h4 g' hg'
          exact hga gs 0 C1 a (List.mem_of_getElem? ha)
        exact nodup_len this fun x hx => I.lt a (List.mem_of_getElem? ha) x hx
      walk_at "wps"
      refine IdxK_of hraI ?_
      refine IdxK_of hrbI' ?_
      have hgz : gs.length ≤ n + 3 := by omega
      rw [add_lst hraH hrbH' (by simp; omega)]
      walk_at "wps"
      rw [slice_to (i := i) (get_app G2.gr.top)]
      walk_at "wps"
      have hrz : rs.length ≤ n + 3 := by omega
      have eM : a.map nat ++ b.map nat = (a ++ b).map nat := by simp
      rw [eM]
      have T3 := (T2.app (xs := (a ++ b).map nat)).app (xs := (rs.map V.lst).take i)
      have G3 := (G2.app (xs := (a ++ b).map nat)).app (xs := (rs.map V.lst).take i)
      have hM3 : (H2 ++ [(a ++ b).map nat] ++ [(rs.map V.lst).take i])[H2.length]? = some ((a ++ b).map nat) := get_app get_new
      have hT3 : (H2 ++ [(a ++ b).map nat] ++ [(rs.map V.lst).take i])[(H2 ++ [(a ++ b).map nat]).length]? = some ((rs.map V.lst).take i) := get_new
      have hfreshM : H2.length ∉ f :: dn :: rd :: bs' := fun h => Nat.lt_irrefl _ (T2.build.below _ h)
      generalize hH3 : H2 ++ [(a ++ b).map nat] ++ [(rs.map V.lst).take i] = H3 at *
      generalize hA : (H2 ++ [(a ++ b).map nat]).length = A at *
      generalize hMM : H2.length = M at *
      rw [add_lst (get_app hT3) get_new (by simp; omega)]
      have T4 := (T3.app (xs := [V.lst M])).app (xs := (rs.map V.lst).take i ++ [V.lst M])
      have G4 := (G3.app (xs := [V.lst M])).app (xs := (rs.map V.lst).take i ++ [V.lst M])
      have hM4 : (H3 ++ [[V.lst M]] ++ [(rs.map V.lst).take i ++ [V.lst M]])[M]? = some ((a ++ b).map nat) := get_app (get_app hM3)
      have hS4 : (H3 ++ [[V.lst M]] ++ [(rs.map V.lst).take i ++ [V.lst M]])[(H3 ++ [[V.lst M]]).length]? = some ((rs.map V.lst).take i ++ [V.lst M]) := get_new
      generalize hH4 : H3 ++ [[V.lst M]] ++ [(rs.map V.lst).take i ++ [V.lst M]] = H4 at *
      generalize hB : (H3 ++ [[V.lst M]]).length = B at *
      rw [show ((i : Int) + 2) = ((i + 2 : Nat) : Int) by omega, slice_from G4.gr.top]
      rw [add_lst (get_app hS4) get_new (by simp; omega)]
      have T5 := (T4.app (xs := (rs.map V.lst).drop (i + 2))).app (xs := (rs.map V.lst).take i ++ [V.lst M] ++ (rs.map V.lst).drop (i + 2))
      have G5 := (G4.app (xs := (rs.map V.lst).drop (i + 2))).app (xs := (rs.map V.lst).take i ++ [V.lst M] ++ (rs.map V.lst).drop (i + 2))
      refine ⟨gs.length - 1, by omega, cl', _, bs', rs.take i ++ M :: rs.drop (i + 2), _, gs.take i ++ (a ++ b) :: gs.drop (i + 2), _, _, _, by simp; omega, hcl', rfl, T5, ⟨?_, ?_⟩, I3⟩
      · refine G5.gr.merge hi (get_app (get_app hM4)) (fun _ _ h => h) ?_
        rw [get_new]
        simp
      · intro r hr
        rcases List.mem_cons.mp hr with rfl | hr
        · intro hm
          have := T4.app (xs := (rs.map V.lst).drop (i + 2)) |>.build.below _ hm
          omega
        · rcases List.mem_append.mp hr with hr | hr
          · exact G2.apart r (List.mem_cons_of_mem _ (List.mem_of_mem_take hr))
          · rcases List.mem_cons.mp hr with rfl | hr
            · exact hfreshM
            · exact G2.apart r (List.mem_cons_of_mem _ (List.mem_of_mem_drop hr))
  · simp only [h1, decide_false]
    walk_at "wps"
    obtain ⟨F1, ⟨js, L⟩, F3⟩ := I.fin (by omega) (Nat.le_refl _)
    have := I.lay
    exact tel2_ok PP T L hn (by omega) F3 fun a bs' H' l' N st fr nd => hq a bs' H' l' _ F1 N st fr nd
end
end Bn
namespace Bn
open PySem
section
variable {c : Cx} {d : Nat} {R : SPost} {E : SX} {H H0 : Hp}
theorem tel0_ok (PP : Has c "_law_place" 5 6 p__law_place) {f dn rd lf la n : Nat} {bs : List Nat} {s : PS} {left : List (Nat × Nat)} {act : List Nat} {cl : Int} {l1 l7 l8 l9 l10 l11 l12 l13 l14 l15 : Option V} (hn : n ≤ 64) (hcl : 0 ≤ cl) (T : TelSt H0 H f dn rd lf bs s left) (ha : H[la]? = some (act.map nat)) (I : TurnInv n 3 s left act)
    (hq : ∀ a bs' H' l' net, Told n net → NetAt H' a bs' net → Stay [] H0 H' → (∀ b ∈ a :: bs', H0.length ≤ b) → (a :: bs').Nodup → R (.ret (.lst a)) l' H') :
    wpSs (Calls c) true (d + 1) none tel0 [some (.int cl), l1, some (.lst f), some (.lst lf), some (.lst dn), some (.lst rd), some (.lst la), l7, l8, l9, l10, l11, l12, l13, l14, l15] R E H := by
  have hsl : sizeLine = 2 ^ 24 := rfl
  have hal := I.len
  unfold tel0
  walk_at "wps"
  refine CompK_of (items := act.map nat) (by simp only [srcV, ha]) rfl (by simp; omega) ?_
  refine wpIter_rule (I := fun i acc H' => ∃ rs : List Nat, acc = rs.map .lst ∧ rs.length = i ∧ Stay [] H H' ∧ TelSt H0 H' f dn rd lf bs s left ∧ (∀ (j r x : Nat), rs[j]? = some r → act[j]? = some x → H'[r]? = some ([x].map nat)) ∧ (∀ b ∈ rs, H.length ≤ b)) ?_ ?_ ⟨[], rfl, rfl, Stay.refl, T, by simp, by simp⟩
  · rintro i x acc H' K hx ⟨rs, rfl, hl, st, T', hrs, hfr⟩ hK
    rw [List.getElem?_map] at hx
    obtain ⟨y, hy, rfl⟩ := Option.map_eq_some_iff.mp hx
    walk_at "wps"
    refine hK _ _ (by simp only [okV]; exact st.app.at ha (by simp)) ⟨rs ++ [H'.length], by simp, by simp [hl], st.app, T'.app, ?_, ?_⟩
    · intro j r x hj hx'
      by_cases hjl : j < rs.length
      · rw [List.getElem?_append_left hjl] at hj
        exact get_app (hrs j r x hj hx')
      · have : j = rs.length := by
          have := (List.getElem?_eq_some_iff.mp hj).1
          simp at this; omega
        subst this
        simp only [List.getElem?_concat_length, Option.some.injEq] at hj
        subst hj
        rw [hl, hy] at hx'
        cases hx'
        exact get_new
    · intro b hb
      rcases List.mem_append.mp hb with h | h
      · exact hfr b h
      · rw [List.mem_singleton.mp h]; exact st.len
  · rintro acc H' ⟨rs, rfl, hl, st, T', hrs, hfr⟩
    walk_at "wps"
    rw [List.length_map] at hl
    refine tel1_ok PP hn hcl T'.app (rs := rs) (gs := act.map fun x => [x]) ⟨⟨get_new, by simp [hl], ?_⟩, ?_⟩ (GInv.of I) hq
    · intro i r y h1 h2
      rw [List.getElem?_map] at h2
      obtain ⟨x, hx, rfl⟩ := Option.map_eq_some_iff.mp h2
      exact get_app (hrs i r x h1 hx)
    · intro r hr hm
      rcases List.mem_cons.mp hr with rfl | hr
      · exact Nat.lt_irrefl _ (T'.build.below _ hm)
      · have := hfr r hr
        have := T.build.below r hm
        omega
theorem TurnInv.mono {n t t' : Nat} {s : PS} {left : List (Nat × Nat)} {active : List Nat} (I : TurnInv n t s left active) (h : t ≤ t') : TurnInv n t' s left active := { I with lay := Nat.le_trans I.lay h }
theorem telT_ok (PT : Has c "_law_thinner" 6 8 p__law_thinner) (PP : Has c "_law_place" 5 6 p__law_place) {f dn rd lf la n : Nat} {bs : List Nat} {s : PS} {left : List (Nat × Nat)} {act : List Nat} {cl : Int} {l1 l7 l8 l9 l10 l11 l12 l13 l14 l15 : Option V} (hn : n ≤ 64) (hcl : 0 ≤ cl) (T : TelSt H0 H f dn rd lf bs s left) (ha : H[la]? = some (act.map nat)) (nla : la ∉ f :: dn :: rd :: bs) (hal : la ≠ lf) (I : TurnInv n 0 s left act)
    (hq : ∀ a bs' H' l' net, Told n net → NetAt H' a bs' net → Stay [] H0 H' → (∀ b ∈ a :: bs', H0.length ≤ b) → (a :: bs').Nodup → R (.ret (.lst a)) l' H') :
    wpSs (Calls c) true (d + 2) none telT [some (.int cl), l1, some (.lst f), some (.lst lf), some (.lst dn), some (.lst rd), some (.lst la), l7, l8, l9, l10, l11, l12, l13, l14, l15] R E H := by
  unfold telT
  walk_at "wps"
  obtain ⟨t, ht, ht3⟩ : ∃ t : Nat, cl % 4 = t ∧ t ≤ 3 := ⟨(cl % 4).toNat, by omega, by omega⟩
  refine Sr_val (v := .rng 0 t 1) (items := (List.range t).map nat) (fun K E' h => by (try simp only [S_nil, S_cons, Then_next, Then_ret, S_set, S_unp, S_put, S_expr, S_ret, S_ite, S_whil, S_loop, IteK_eq, LoopB_one, LoopB_two, E_lit, E_var, E_tup, E_list, E_dict0, E_bin, E_neg, E_not, E_cmp, E_and, E_or, E_idx, E_slice, E_rev, E_call, E_blt, E_meth, E_isi, E_comp, L_nil, L_cons, A_cons, O_cons, C_cons, I_nil, I_cons, VarK_some, NegK_int, NotK_bool, truthP_bool, AndK_nil, AndK_cons, OrK_nil, OrK_cons, CmpR_nil, CmpR_cons, CmpK_lt, CmpK_le, CmpK_gt, CmpK_ge, CmpK_eqi, CmpK_nei, TestK_bool, BinK_addi, BinK_subi, CompS_one, CompS_two, List.getD_eq_getElem?_getD, List.getElem?_cons_zero, List.getElem?_cons_succ, Option.getD_some, Option.getD_none, List.map_cons, List.map_nil, List.cons_append, List.nil_append, List.replicate, List.set_cons_zero, List.set_cons_succ, Nat.sub_self, if_true, if_false, Bool.false_eq_true, Bool.not_true, Bool.not_false, decide_true, decide_false, decide_eq_true_eq, Bool.not_eq_true', true_and, modK (H := H) (a := cl) (b := 4) (by omega), ht, range_nat (H := H) (n := t) (by omega)]); exact h) (by simp only [srcV, rangeL_nat]) ?_
  unfold LoopI
  refine wpFor_rule (I := fun i l' H' => ∃ v7 la bs s left act, l' = [some (.int cl), l1, some (.lst f), some (.lst lf), some (.lst dn), some (.lst rd), some (.lst la), v7, l8, l9, l10, l11, l12, l13, l14, l15] ∧ TelSt H0 H' f dn rd lf bs s left ∧ H'[la]? = some (act.map nat) ∧ la ∉ f :: dn :: rd :: bs ∧ la ≠ lf ∧ TurnInv n i s left act) ?_ ?_ ⟨l7, la, bs, s, left, act, rfl, T, ha, nla, hal, I⟩
  · rintro i x l' H' K hx ⟨v7, la, bs, s, left, act, rfl, T, ha, nla, hal, I⟩ hnext hret
    have hit : i < t := by have := (List.getElem?_eq_some_iff.mp hx).1; simpa using this
    rw [List.getElem?_map, List.getElem?_range hit] at hx
    cases hx
    unfold nat
    (try simp only [S_nil, S_cons, Then_next, Then_ret, S_set, S_unp, S_put, S_expr, S_ret, S_ite, S_whil, S_loop, IteK_eq, LoopB_one, LoopB_two, E_lit, E_var, E_tup, E_list, E_dict0, E_bin, E_neg, E_not, E_cmp, E_and, E_or, E_idx, E_slice, E_rev, E_call, E_blt, E_meth, E_isi, E_comp, L_nil, L_cons, A_cons, O_cons, C_cons, I_nil, I_cons, VarK_some, NegK_int, NotK_bool, truthP_bool, AndK_nil, AndK_cons, OrK_nil, OrK_cons, CmpR_nil, CmpR_cons, CmpK_lt, CmpK_le, CmpK_gt, CmpK_ge, CmpK_eqi, CmpK_nei, TestK_bool, BinK_addi, BinK_subi, CompS_one, CompS_two, List.getD_eq_getElem?_getD, List.getElem?_cons_zero, List.getElem?_cons_succ, Option.getD_some, Option.getD_none, List.map_cons, List.map_nil, List.cons_append, List.nil_append, List.replicate, List.set_cons_zero, List.set_cons_succ, Nat.sub_self, if_true, if_false, Bool.false_eq_true, Bool.not_true, Bool.not_false, decide_true, decide_false, decide_eq_true_eq, Bool.not_eq_true', true_and, divK (H := H') (b := 4) (by omega), divK (H := H') (b := 1 + (i : Int)) (by omega)])
    obtain ⟨js, B, L, _⟩ := I.ex
    have hln := I.len
    have hly := I.lay
    have st := I.thin (thinC (cl / 4 / (1 + (i : Int))))
    refine s_thinner PT PP T.build L hn ha T.hleft nla T.nlf hal st.2 (by omega) (by omega) (by omega) rfl fun bs' H'' fw K' => ?_
    exact hnext _ _ trivial ⟨some (.int i), fw, bs', _, _, _, rfl, T.thin K', K'.hfw, K'.nfw, Ne.symm K'.d3, st.1⟩
  · rintro l' H' ⟨v7, la, bs, s, left, act, rfl, T, ha, nla, hal, I⟩
    rw [List.length_map, List.length_range] at I
    walk_at "wps"
    exact tel0_ok (d := d + 1) PP hn hcl T ha (I.mono ht3) hq
end
section
variable {c : Cx} {q : Bool} {d : Nat} {Q : V → Hp → Prop} {E : XPost} {H : Hp}
theorem s_telling (P : Has c "_law_telling" 2 16 p__law_telling) (PT : Has c "_law_thinner" 6 8 p__law_thinner) (PP : Has c "_law_place" 5 6 p__law_place) {cell : Int} {n : Nat} (hn1 : 1 ≤ n) (hn : n ≤ 64) (hc : q = true)
    (hq : ∀ a bs net H', Told n net → NetAt H' a bs net → Stay [] H H' → (∀ b ∈ a :: bs, H.length ≤ b) → (a :: bs).Nodup → Q (.lst a) H') :
    Calls c q (d + 3) "_law_telling" [.int cell, .int n] none Q E H := by
  subst hc
  have hsl : sizeLine = 2 ^ 24 := rfl
  refine P true (d + 2) _ Q E H rfl ?_
  rw [tel_eq]
  (try simp only [S_nil, S_cons, Then_next, Then_ret, S_set, S_unp, S_put, S_expr, S_ret, S_ite, S_whil, S_loop, IteK_eq, LoopB_one, LoopB_two, E_lit, E_var, E_tup, E_list, E_dict0, E_bin, E_neg, E_not, E_cmp, E_and, E_or, E_idx, E_slice, E_rev, E_call, E_blt, E_meth, E_isi, E_comp, L_nil, L_cons, A_cons, O_cons, C_cons, I_nil, I_cons, VarK_some, NegK_int, NotK_bool, truthP_bool, AndK_nil, AndK_cons, OrK_nil, OrK_cons, CmpR_nil, CmpR_cons, CmpK_lt, CmpK_le, CmpK_gt, CmpK_ge, CmpK_eqi, CmpK_nei, TestK_bool, BinK_addi, BinK_subi, CompS_one, CompS_two, List.getD_eq_getElem?_getD, List.getElem?_cons_zero, List.getElem?_cons_succ, Option.getD_some, Option.getD_none, List.map_cons, List.map_nil, List.cons_append, List.nil_append, List.replicate, List.set_cons_zero, List.set_cons_succ, Nat.sub_self, if_true, if_false, Bool.false_eq_true, Bool.not_true, Bool.not_false, decide_true, decide_false, decide_eq_true_eq, Bool.not_eq_true', true_and, mulK (H := H) (a := cell) (b := 48271) (by decide), modK (H := H) (b := 2147483647) (by omega)])
  generalize hcell : cell * 48271 % 2147483647 = cl
  have hcl : 0 ≤ cl := by omega
  (try simp only [S_nil, S_cons, Then_next, Then_ret, S_set, S_unp, S_put, S_expr, S_ret, S_ite, S_whil, S_loop, IteK_eq, LoopB_one, LoopB_two, E_lit, E_var, E_tup, E_list, E_dict0, E_bin, E_neg, E_not, E_cmp, E_and, E_or, E_idx, E_slice, E_rev, E_call, E_blt, E_meth, E_isi, E_comp, L_nil, L_cons, A_cons, O_cons, C_cons, I_nil, I_cons, VarK_some, NegK_int, NotK_bool, truthP_bool, AndK_nil, AndK_cons, OrK_nil, OrK_cons, CmpR_nil, CmpR_cons, CmpK_lt, CmpK_le, CmpK_gt, CmpK_ge, CmpK_eqi, CmpK_nei, TestK_bool, BinK_addi, BinK_subi, CompS_one, CompS_two, List.getD_eq_getElem?_getD, List.getElem?_cons_zero, List.getElem?_cons_succ, Option.getD_some, Option.getD_none, List.map_cons, List.map_nil, List.cons_append, List.nil_append, List.replicate, List.set_cons_zero, List.set_cons_succ, Nat.sub_self, if_true, if_false, Bool.false_eq_true, Bool.not_true, Bool.not_false, decide_true, decide_false, decide_eq_true_eq, Bool.not_eq_true', true_and, mul_zero (H := (H ++ [[]]) ++ [[]] ++ [[V.int 0]]) (a := ((H ++ [[]]) ++ [[]]).length) (n := n) (by simp) (by omega)])
  generalize hH1 : H ++ [[]] ++ [[]] ++ [[V.int 0]] ++ [List.map nat (List.replicate n 0)] = H1
  have h1l : H1.length = H.length + 4 := by rw [← hH1]; simp
  (try simp only [S_nil, S_cons, Then_next, Then_ret, S_set, S_unp, S_put, S_expr, S_ret, S_ite, S_whil, S_loop, IteK_eq, LoopB_one, LoopB_two, E_lit, E_var, E_tup, E_list, E_dict0, E_bin, E_neg, E_not, E_cmp, E_and, E_or, E_idx, E_slice, E_rev, E_call, E_blt, E_meth, E_isi, E_comp, L_nil, L_cons, A_cons, O_cons, C_cons, I_nil, I_cons, VarK_some, NegK_int, NotK_bool, truthP_bool, AndK_nil, AndK_cons, OrK_nil, OrK_cons, CmpR_nil, CmpR_cons, CmpK_lt, CmpK_le, CmpK_gt, CmpK_ge, CmpK_eqi, CmpK_nei, TestK_bool, BinK_addi, BinK_subi, CompS_one, CompS_two, List.getD_eq_getElem?_getD, List.getElem?_cons_zero, List.getElem?_cons_succ, Option.getD_some, Option.getD_none, List.map_cons, List.map_nil, List.cons_append, List.nil_append, List.replicate, List.set_cons_zero, List.set_cons_succ, Nat.sub_self, if_true, if_false, Bool.false_eq_true, Bool.not_true, Bool.not_false, decide_true, decide_false, decide_eq_true_eq, Bool.not_eq_true', true_and, mul_zero (H := H1 ++ [[V.int 0]]) (a := H1.length) (n := n) (by simp) (by omega)])
  generalize hH2 : H1 ++ [[V.int 0]] ++ [List.map nat (List.replicate n 0)] = H2
  have h2l : H2.length = H1.length + 2 := by rw [← hH2]; simp
  (try simp only [S_nil, S_cons, Then_next, Then_ret, S_set, S_unp, S_put, S_expr, S_ret, S_ite, S_whil, S_loop, IteK_eq, LoopB_one, LoopB_two, E_lit, E_var, E_tup, E_list, E_dict0, E_bin, E_neg, E_not, E_cmp, E_and, E_or, E_idx, E_slice, E_rev, E_call, E_blt, E_meth, E_isi, E_comp, L_nil, L_cons, A_cons, O_cons, C_cons, I_nil, I_cons, VarK_some, NegK_int, NotK_bool, truthP_bool, AndK_nil, AndK_cons, OrK_nil, OrK_cons, CmpR_nil, CmpR_cons, CmpK_lt, CmpK_le, CmpK_gt, CmpK_ge, CmpK_eqi, CmpK_nei, TestK_bool, BinK_addi, BinK_subi, CompS_one, CompS_two, List.getD_eq_getElem?_getD, List.getElem?_cons_zero, List.getElem?_cons_succ, Option.getD_some, Option.getD_none, List.map_cons, List.map_nil, List.cons_append, List.nil_append, List.replicate, List.set_cons_zero, List.set_cons_succ, Nat.sub_self, if_true, if_false, Bool.false_eq_true, Bool.not_true, Bool.not_false, decide_true, decide_false, decide_eq_true_eq, Bool.not_eq_true', true_and, range_nat (H := H2) (n := n) (by omega), list_range (H := H2) (n := n) (by omega)])
  have st1 : Stay [] H H1 := by rw [← hH1]; exact Stay.refl.app.app.app.app
  have st2 : Stay [] H1 H2 := by rw [← hH2]; exact Stay.refl.app.app
  have st : Stay [] H H2 := st1.trans st2 (by simp)
  have f1 : H1[H.length]? = some [] := by rw [← hH1]; exact get_app (get_app (get_app get_new))
  have lf1 : H1[H.length + 1]? = some [] := by rw [← hH1]; refine get_app (get_app ?_); simp
  have dn1 : H1[H.length + 3]? = some ((List.replicate n 0).map nat) := by rw [← hH1]; simp
  have rd2 : H2[H1.length + 1]? = some ((List.replicate n 0).map nat) := by rw [← hH2]; simp
  have e1 : (H ++ [[]]).length = H.length + 1 := by simp
  have e2 : (H ++ [[]] ++ [[]] ++ [[V.int 0]]).length = H.length + 3 := by simp
  have e3 : (H1 ++ [[V.int 0]]).length = H1.length + 1 := by simp
  rw [e1, e2, e3]
  have T : TelSt H H2 H.length (H.length + 3) (H1.length + 1) (H.length + 1) [] (PS.init n) [] := {
    build := { F := st2.at f1 (by simp), len := rfl, L := fun i b y hb => by simp at hb, D := st2.at dn1 (by simp), R := rd2, nd := by simp; omega }
    hleft := st2.at lf1 (by simp)
    nlf := by simp; omega
    stay := st
    fresh := by intro b hb; simp at hb; omega }
  exact telT_ok (d := d) PT PP hn hcl T.app get_new (by simp; omega) (by omega) (TurnInv.init n) fun a bs' H' l' net Tn N s2 fr nd => hq a bs' net H' Tn N s2 fr nd
end
end Bn
namespace Bn
open PySem
theorem step_snoc {α : Type} (f : α → α → α) {y : List (Nat × Nat)} {l h : Nat} (hn : ((y ++ [(l, h)]).map (·.2)).Nodup) (σ : Nat → α) : stepL f (y ++ [(l, h)]) σ = fun x => if x = h then f (σ l) (σ h) else stepL f y σ x := by
  funext x
  have hnh : ∀ p ∈ y, p.2 ≠ h := by
    rw [List.map_append, List.nodup_append] at hn
    intro p hp e
    exact hn.2.2 p.2 (List.mem_map.mpr ⟨p, hp, rfl⟩) h (by simp) e
  unfold stepL
  rw [List.find?_append]
  by_cases e : x = h
  · subst e
    have : y.find? (fun p => p.2 == x) = none := by
      rw [List.find?_eq_none]; intro p hp; simpa using hnh p hp
    rw [this, if_pos rfl]
    simp
  · rw [if_neg e]
    cases hf : y.find? (fun p => p.2 == x) with
    | some p => rfl
    | none =>
      have : ([(l, h)] : List (Nat × Nat)).find? (fun p => p.2 == x) = none := by
        simp [Ne.symm e]
      rw [this]; rfl
def rowL (n : Nat) (σ : Nat → List Nat) : List (List Nat) := (List.range n).map σ
theorem rowL_get {n x : Nat} {σ : Nat → List Nat} (h : x < n) : (rowL n σ)[x]? = some (σ x) := by
  unfold rowL; rw [List.getElem?_map, List.getElem?_range h]; rfl
theorem rowL_set {n h : Nat} {σ : Nat → List Nat} {v : List Nat} : (rowL n σ).set h v = rowL n (fun x => if x = h then v else σ x) := by
  apply List.ext_getElem?
  intro i
  rw [List.getElem?_set]
  by_cases hi : i < n
  · rw [rowL_get hi, rowL_get hi]
    by_cases e : h = i
    · subst e; rw [if_pos rfl, if_pos (by simp [rowL, hi]), if_pos rfl]
    · rw [if_neg e, if_neg (Ne.symm e)]
  · have h1 : ∀ τ : Nat → List Nat, (rowL n τ)[i]? = none := fun τ => List.getElem?_eq_none (by simp [rowL]; omega)
    rw [h1, h1]
    split
    · rw [if_neg (by simp [rowL]; omega)]
    · rfl
section
variable {c : Cx} {q : Bool} {d : Nat} {Q : V → Hp → Prop} {E : XPost} {H H0 : Hp}
theorem GrAt.at {g i : Nat} {rs : List Nat} {gs : List (List Nat)} (G : GrAt H g rs gs) {y : List Nat} (h : gs[i]? = some y) : ∃ r, rs[i]? = some r ∧ H[r]? = some (y.map nat) ∧ idxV H (.lst g) (.int i) = some (.lst r) := by
  have hi := (List.getElem?_eq_some_iff.mp h).1
  obtain ⟨r, hr⟩ : ∃ r, rs[i]? = some r := ⟨_, List.getElem?_eq_getElem (by rw [G.len]; exact hi)⟩
  exact ⟨r, hr, G.gr i r y hr h, idx_lst G.top (by rw [List.getElem?_map, hr]; rfl)⟩
theorem GrAt.keep {H' : Hp} {g : Nat} {rs : List Nat} {gs : List (List Nat)} (G : GrAt H g rs gs) (h : ∀ x ∈ g :: rs, H'[x]? = H[x]?) : GrAt H' g rs gs :=
  ⟨by rw [h g List.mem_cons_self]; exact G.top, G.len, fun i r y h1 h2 => by rw [h r (List.mem_cons_of_mem _ (List.mem_of_getElem? h1))]; exact G.gr i r y h1 h2⟩
structure RowSt (n : Nat) (H : Hp) (tg sr : Nat) (rt rr : List Nat) (σ : Nat → List Nat) (y : List (Nat × Nat)) : Prop where
  tgt : GrAt H tg rt (rowL n (stepL (· ++ ·) y σ))
  src : GrAt H sr rr (rowL n σ)
  ap : tg ∉ sr :: (rt ++ rr)
theorem RowSt.step {n tg sr l h : Nat} {rt rr : List Nat} {σ : Nat → List Nat} {y : List (Nat × Nat)} (S : RowSt n H tg sr rt rr σ y) (hn : ((y ++ [(l, h)]).map (·.2)).Nodup) (hl : l < n) (hh : h < n) :
    ∃ a b, idxV H (.lst sr) (.int l) = some (.lst a) ∧ idxV H (.lst sr) (.int h) = some (.lst b) ∧ H[a]? = some ((σ l).map nat) ∧ H[b]? = some ((σ h).map nat) ∧
      putV (H ++ [(σ l).map nat ++ (σ h).map nat]) (.lst tg) (.int h) (.lst H.length) = some ((H ++ [(σ l).map nat ++ (σ h).map nat]).set tg ((rt.set h H.length).map .lst)) ∧
      RowSt n ((H ++ [(σ l).map nat ++ (σ h).map nat]).set tg ((rt.set h H.length).map .lst)) tg sr (rt.set h H.length) rr σ (y ++ [(l, h)]) := by
  obtain ⟨a, _, ha, hia⟩ := S.src.at (rowL_get hl)
  obtain ⟨b, _, hb, hib⟩ := S.src.at (rowL_get hh)
  have hlen : rt.length = n := by rw [S.tgt.len]; simp [rowL]
  have htl := get_lt S.tgt.top
  have hap := S.ap
  simp only [List.mem_cons, List.mem_append, not_or] at hap
  refine ⟨a, b, hia, hib, ha, hb, ?_, ?_⟩
  · have := get_app (xs := (σ l).map nat ++ (σ h).map nat) S.tgt.top
    have hlt : (h : Int) < (rt.length : Int) := by omega
    simp only [putV, this]
    simp [hlt, List.map_set]
  · refine ⟨⟨?_, ?_, ?_⟩, ?_, ?_⟩
    · rw [get_put (get_app S.tgt.top)]
    · rw [List.length_set, hlen]; simp [rowL]
    · intro i r z h1 h2
      rw [step_snoc _ hn, ← rowL_set, List.getElem?_set] at h2
      rw [List.getElem?_set] at h1
      by_cases e : h = i
      · subst e
        rw [if_pos rfl, if_pos (by omega)] at h1
        rw [if_pos rfl, if_pos (by simp [rowL]; omega)] at h2
        cases h1; cases h2
        have : H.length ≠ tg := by omega
        rw [get_set get_new this]
        simp
      · rw [if_neg e] at h1 h2
        have hr := S.tgt.gr i r z h1 h2
        have hne : r ≠ tg := fun e => hap.2.1 (e ▸ List.mem_of_getElem? h1)
        exact get_set (get_app hr) hne
    · refine (S.src.app (xs := (σ l).map nat ++ (σ h).map nat)).keep fun x hx => ?_
      rw [List.getElem?_set_ne]
      rintro rfl
      rcases List.mem_cons.mp hx with e | hx
      · exact hap.1 e
      · exact hap.2.2 hx
    · simp only [List.mem_cons, List.mem_append, not_or]
      refine ⟨hap.1, fun hm => ?_, hap.2.2⟩
      rcases List.mem_or_eq_of_mem_set hm with hm | hm
      · exact hap.2.1 hm
      · omega
theorem NetAt.app {a : Nat} {bs : List Nat} {net : Net} (N : NetAt H a bs net) {xs : List V} : NetAt (H ++ [xs]) a bs net := ⟨get_app N.top, N.len, fun i b y h1 h2 => get_app (N.lay i b y h1 h2)⟩
theorem NetAt.at {a i : Nat} {bs : List Nat} {net : Net} (N : NetAt H a bs net) {y : List (Nat × Nat)} (h : net[i]? = some y) : ∃ b, bs[i]? = some b ∧ H[b]? = some (y.map pr) ∧ idxV H (.lst a) (.int i) = some (.lst b) := by
  have hi := (List.getElem?_eq_some_iff.mp h).1
  obtain ⟨r, hr⟩ : ∃ r, bs[i]? = some r := ⟨_, List.getElem?_eq_getElem (by rw [N.len]; exact hi)⟩
  exact ⟨r, hr, N.lay i r y hr h, idx_lst N.top (by rw [List.getElem?_map, hr]; rfl)⟩
theorem NetAt.lt {a : Nat} {bs : List Nat} {net : Net} (N : NetAt H a bs net) : ∀ b ∈ a :: bs, b < H.length := by
  intro b hb
  rcases List.mem_cons.mp hb with rfl | hb
  · exact get_lt N.top
  · obtain ⟨i, hi, e⟩ := List.mem_iff_getElem.mp hb
    obtain ⟨y, hy⟩ : ∃ y, net[i]? = some y := ⟨_, List.getElem?_eq_getElem (by rw [← N.len]; exact hi)⟩
    exact get_lt (N.lay i b y (by rw [List.getElem?_eq_getElem hi, e]) hy)
theorem NetAt.stay {H' : Hp} {S : List Nat} {a : Nat} {bs : List Nat} {net : Net} (N : NetAt H a bs net) (st : Stay S H H') (h : ∀ b ∈ a :: bs, b ∉ S) : NetAt H' a bs net :=
  ⟨st.at N.top (h a List.mem_cons_self), N.len, fun i b y h1 h2 => st.at (N.lay i b y h1 h2) (h b (List.mem_cons_of_mem _ (List.mem_of_getElem? h1)))⟩
theorem GrAt.stay' {H' : Hp} {S : List Nat} {a : Nat} {bs : List Nat} {gs : List (List Nat)} (N : GrAt H a bs gs) (st : Stay S H H') (h : ∀ b ∈ a :: bs, b ∉ S) : GrAt H' a bs gs :=
  ⟨st.at N.top (h a List.mem_cons_self), N.len, fun i b y h1 h2 => st.at (N.gr i b y h1 h2) (h b (List.mem_cons_of_mem _ (List.mem_of_getElem? h1)))⟩
theorem comp_ones {n i : Nat} {l : Loc} {K : V → Hp → Prop} {kc : Clo} (hn : n < 1000000) (hi : i < l.length) (hc : q = true) (hq : ∀ a rs H', GrAt H' a rs (rowL n fun x => [x]) → Stay [] H H' → (∀ b ∈ a :: rs, H.length ≤ b) → a ∉ rs → K (.lst a) H') :
    CompK (Calls c) q d (.one i) [] (.list [(.var i)]) l K (.rng 0 n 1) H := by
  have hsl : sizeLine = 2 ^ 24 := rfl
  refine CompK_of (items := (List.range n).map nat) (by simp only [srcV, rangeL_nat]) hc (by simp; omega) ?_
  refine wpIter_rule (I := fun i acc H' => ∃ rs : List Nat, acc = rs.map .lst ∧ rs.length = i ∧ Stay [] H H' ∧ (∀ (j r : Nat), rs[j]? = some r → H'[r]? = some ([j].map nat)) ∧ (∀ b ∈ rs, H.length ≤ b ∧ b < H'.length)) ?_ ?_ ⟨[], rfl, rfl, Stay.refl, by simp, by simp⟩
  · rintro i' x acc H' K' hx ⟨rs, rfl, hl, st, hrs, hfr⟩ hK
    have hit : i' < n := by have := (List.getElem?_eq_some_iff.mp hx).1; simpa using this
    rw [List.getElem?_map, List.getElem?_range hit] at hx
    cases hx
    rw [CompS_one]
    simp only [I_nil, if_true, E_list, L_cons, L_nil, E_var]
    have e : (l.set i (some (nat i'))).getD i none = some (nat i') := by simp [List.getD_eq_getElem?_getD, hi]
    rw [e, VarK_some]
    refine hK _ _ trivial ⟨rs ++ [H'.length], by simp, by simp [hl], st.app, ?_, ?_⟩
    · intro j r hj
      by_cases hjl : j < rs.length
      · rw [List.getElem?_append_left hjl] at hj
        exact get_app (hrs j r hj)
      · have : j = rs.length := by
          have := (List.getElem?_eq_some_iff.mp hj).1
          simp at this; omega
        subst this
        simp only [List.getElem?_concat_length, Option.some.injEq] at hj
        subst hj
        rw [hl]
        exact get_new
    · intro b hb
      rcases List.mem_append.mp hb with h | h
      · have := hfr b h; simp; omega
      · rw [List.mem_singleton.mp h]; have := st.len; simp; omega
  · rintro acc H' ⟨rs, rfl, hl, st, hrs, hfr⟩
    simp only [List.length_map, List.length_range] at hl
    refine hq _ rs _ ⟨get_new, by simp [rowL, hl], ?_⟩ st.app ?_ ?_
    · intro i r y h1 h2
      have hi := (List.getElem?_eq_some_iff.mp h1).1
      rw [rowL_get (by omega)] at h2
      cases h2
      exact get_app (hrs i r h1)
    · intro b hb
      rcases List.mem_cons.mp hb with rfl | hb
      · exact st.len
      · exact (hfr b hb).1
    · intro h; have := (hfr _ h).2; omega
end
end Bn
namespace Bn
open PySem
section
variable {c : Cx} {q : Bool} {d : Nat} {Q : V → Hp → Prop} {E : XPost} {H : Hp}
def stN (net : Net) (i : Nat) : Nat → List Nat := runN (· ++ ·) (net.take i) fun x => [x]
theorem stN_zero (net : Net) : stN net 0 = fun x => [x] := rfl
theorem stN_succ {net : Net} {i : Nat} {y : List (Nat × Nat)} (h : net[i]? = some y) : stN net (i + 1) = stepL (· ++ ·) y (stN net i) := by
  unfold stN
  rw [List.take_add_one, h, runN_append]; rfl
theorem stN_all (net : Net) : stN net net.length = rowsN net := by unfold stN rowsN; rw [List.take_length]
theorem stN_len {net : Net} {N : Nat} (h : ∀ x, lenN net x ≤ N) (i x : Nat) : (stN net i x).length ≤ N := by
  have : (rowsN (net.take i) x).length = lenN (net.take i) x := rows_len _ _
  have e : stN net i x = rowsN (net.take i) x := rfl
  rw [e, this]
  exact len_take h i x
theorem layer_take {y : List (Nat × Nat)} {j : Nat} {p : Nat × Nat} (h : y[j]? = some p) : y.take (j + 1) = y.take j ++ [p] := by
  rw [List.take_add_one, h]; rfl
theorem take_nodup {y : List (Nat × Nat)} (h : (y.map (·.2)).Nodup) (j : Nat) : ((y.take j).map (·.2)).Nodup := by
  rw [List.map_take]; exact h.sublist (List.take_sublist _ _)
theorem s_due (P : Has c "_law_due" 2 8 p__law_due) {a n : Nat} {bs : List Nat} {net : Net} {N : Nat} (A : NetAt H a bs net) (hn : n ≤ 64) (hf : Fair n net) (hN : ∀ x, lenN net x ≤ N) (hNz : N ≤ 100000) (hz : net.length ≤ 1000) (hc : q = true)
    (hq : ∀ g rs H', GrAt H' g rs (rowL n (rowsN net)) → Stay [] H H' → (∀ b ∈ g :: rs, H.length ≤ b) → g ∉ rs → Q (.lst g) H') :
    Calls c q (d + 1) "_law_due" [.int n, .lst a] none Q E H := by
  subst hc
  have hsl : sizeLine = 2 ^ 24 := rfl
  refine P true d _ Q E H rfl ?_
  unfold p__law_due
  (try simp only [S_nil, S_cons, Then_next, Then_ret, S_set, S_unp, S_put, S_expr, S_ret, S_ite, S_whil, S_loop, IteK_eq, LoopB_one, LoopB_two, E_lit, E_var, E_tup, E_list, E_dict0, E_bin, E_neg, E_not, E_cmp, E_and, E_or, E_idx, E_slice, E_rev, E_call, E_blt, E_meth, E_isi, E_comp, L_nil, L_cons, A_cons, O_cons, C_cons, I_nil, I_cons, VarK_some, NegK_int, NotK_bool, truthP_bool, AndK_nil, AndK_cons, OrK_nil, OrK_cons, CmpR_nil, CmpR_cons, CmpK_lt, CmpK_le, CmpK_gt, CmpK_ge, CmpK_eqi, CmpK_nei, TestK_bool, BinK_addi, BinK_subi, CompS_one, CompS_two, List.getD_eq_getElem?_getD, List.getElem?_cons_zero, List.getElem?_cons_succ, Option.getD_some, Option.getD_none, List.map_cons, List.map_nil, List.cons_append, List.nil_append, List.replicate, List.set_cons_zero, List.set_cons_succ, Nat.sub_self, if_true, if_false, Bool.false_eq_true, Bool.not_true, Bool.not_false, decide_true, decide_false, decide_eq_true_eq, Bool.not_eq_true', true_and, range_nat (H := H) (n := n) (by omega)])
  refine comp_ones (kc := none) (by omega) (by simp) rfl fun g rs H1 G1 st1 fr1 hg1 => ?_
  walk_at "wps"
  have A1 := A.stay st1 (by simp)
  refine Sr_val (v := .lst a) (items := bs.map .lst) (fun K E' h => by walk_at "wps"; exact h) (by simp only [srcV, A1.top]) ?_
  unfold LoopI
  refine wpFor_rule (I := fun i l' H' => ∃ v3 v4 v5 v6 rs, l' = [some (.int n), some (.lst a), some (.lst g), v3, v4, v5, v6, none] ∧ GrAt H' g rs (rowL n (stN net i)) ∧ Stay [] H H' ∧ (∀ b ∈ rs, H.length ≤ b) ∧ g ∉ rs) ?_ ?_ ⟨none, none, none, none, rs, rfl, G1, st1, fun b hb => fr1 b (List.mem_cons_of_mem _ hb), hg1⟩
  · rintro i x l' H' K hx ⟨v3, v4, v5, v6, rs, rfl, G, st, fr, hg⟩ hnext hret
    rw [List.getElem?_map] at hx
    obtain ⟨b, hb, rfl⟩ := Option.map_eq_some_iff.mp hx
    have A' := A.stay st (by simp)
    obtain ⟨y, hy⟩ : ∃ y, net[i]? = some y := ⟨_, List.getElem?_eq_getElem (by rw [← A.len]; exact (List.getElem?_eq_some_iff.mp hb).1)⟩
    have hfy := hf y (List.mem_of_getElem? hy)
    have hby := A'.lay i b y hb hy
    (try simp only [S_nil, S_cons, Then_next, Then_ret, S_set, S_unp, S_put, S_expr, S_ret, S_ite, S_whil, S_loop, IteK_eq, LoopB_one, LoopB_two, E_lit, E_var, E_tup, E_list, E_dict0, E_bin, E_neg, E_not, E_cmp, E_and, E_or, E_idx, E_slice, E_rev, E_call, E_blt, E_meth, E_isi, E_comp, L_nil, L_cons, A_cons, O_cons, C_cons, I_nil, I_cons, VarK_some, NegK_int, NotK_bool, truthP_bool, AndK_nil, AndK_cons, OrK_nil, OrK_cons, CmpR_nil, CmpR_cons, CmpK_lt, CmpK_le, CmpK_gt, CmpK_ge, CmpK_eqi, CmpK_nei, TestK_bool, BinK_addi, BinK_subi, CompS_one, CompS_two, List.getD_eq_getElem?_getD, List.getElem?_cons_zero, List.getElem?_cons_succ, Option.getD_some, Option.getD_none, List.map_cons, List.map_nil, List.cons_append, List.nil_append, List.replicate, List.set_cons_zero, List.set_cons_succ, Nat.sub_self, if_true, if_false, Bool.false_eq_true, Bool.not_true, Bool.not_false, decide_true, decide_false, decide_eq_true_eq, Bool.not_eq_true', true_and, list_lst G.top])
    refine Sr_val (v := .lst b) (items := y.map pr) (fun K E' h => by walk_at "wps"; exact h) (by simp only [srcV, get_app hby]) ?_
    unfold LoopI
    have hgl := get_lt G.top
    refine wpFor_rule (I := fun j l' H2 => ∃ v5 v6 rt, l' = [some (.int n), some (.lst a), some (.lst g), some (.lst b), some (.lst H'.length), v5, v6, none] ∧ RowSt n H2 g H'.length rt rs (stN net i) (y.take j) ∧ Stay [] H H2 ∧ (∀ b ∈ rt, H.length ≤ b)) ?_ ?_ ⟨v5, v6, rs, rfl, ⟨by simpa [stepL_nil] using G.app, ⟨get_new, G.len, fun i r y h1 h2 => get_app (G.gr i r y h1 h2)⟩, ?_⟩, st.app, fr⟩
    · rintro j x l' H2 K2 hx ⟨v5, v6, rt, rfl, S, st2, fr2⟩ hnext2 hret2
      rw [List.getElem?_map] at hx
      obtain ⟨p, hp, rfl⟩ := Option.map_eq_some_iff.mp hx
      obtain ⟨pl, ph⟩ := p
      have hpm := hfy.1 _ (List.mem_of_getElem? hp)
      have hnd : ((y.take j ++ [(pl, ph)]).map (·.2)).Nodup := by rw [← layer_take hp]; exact take_nodup hfy.2 _
      obtain ⟨ra, rb, i1, i2, i3, i4, i5, S'⟩ := S.step hnd (by omega) hpm.2
      unfold pr
      walk_at "wps"
      refine IdxK_of i1 ?_
      refine IdxK_of i2 ?_
      have z1 := stN_len hN i pl; have z2 := stN_len hN i ph
      rw [add_lst i3 i4 (by simp; omega)]
      refine PutK_of i5 ?_
      have hgf : H.length ≤ g := fr1 g List.mem_cons_self
      have st3 := (st2.app (xs := (stN net i pl).map nat ++ (stN net i ph).map nat)).set (a := g) (xs := (rt.set ph H2.length).map .lst) (.inr hgf)
      refine hnext2 _ _ (by simp only [okV]; exact (A.stay st3 (by simp)).lay i b y hb hy) ⟨_, _, rt.set ph H2.length, rfl, ?_, st3, ?_⟩
      · rw [layer_take hp]; exact S'
      · intro b' hb'
        rcases List.mem_or_eq_of_mem_set hb' with h | h
        · exact fr2 b' h
        · rw [h]; exact st2.len
    · rintro l' H2 ⟨v5, v6, rt, rfl, S, st2, fr2⟩
      walk_at "wps"
      rw [List.length_map, List.take_length] at S
      have S1 := S.tgt
      rw [← stN_succ hy] at S1
      have := S.ap
      simp only [List.mem_cons, List.mem_append, not_or] at this
      exact hnext _ _ (by simp only [okV]; exact (A.stay st2 (by simp)).top) ⟨_, _, _, _, rt, rfl, S1, st2, fr2, this.2.1⟩
    · simp only [List.mem_cons, List.mem_append, not_or]
      exact ⟨by omega, hg, hg⟩
  · rintro l' H' ⟨v3, v4, v5, v6, rs, rfl, G, st, fr, hg⟩
    walk_at "wps"
    rw [List.length_map, A.len, stN_all] at G
    refine hq g rs H' G st ?_ hg
    intro b hb
    rcases List.mem_cons.mp hb with rfl | hb
    · exact fr1 _ List.mem_cons_self
    · exact fr b hb
theorem comp_copies {g i : Nat} {rs : List Nat} {gs : List (List Nat)} {l : Loc} {K : V → Hp → Prop} (G : GrAt H g rs gs) (hn : gs.length < 1000000) (hi : i < l.length) (hc : q = true) (hq : ∀ a ts H', GrAt H' a ts gs → Stay [] H H' → (∀ b ∈ a :: ts, H.length ≤ b) → (a :: ts).Nodup → K (.lst a) H') :
    CompK (Calls c) q d (.one i) [] (.blt .list [(.var i)]) l K (.lst g) H := by
  subst hc
  have hsl : sizeLine = 2 ^ 24 := rfl
  refine CompK_of (items := rs.map .lst) (by simp only [srcV, G.top]) rfl (by simp [G.len]; omega) ?_
  refine wpIter_rule (I := fun i acc H' => ∃ ts : List Nat, acc = ts.map .lst ∧ ts.length = i ∧ Stay [] H H' ∧ (∀ (j r : Nat) (y : List Nat), ts[j]? = some r → gs[j]? = some y → H'[r]? = some (y.map nat)) ∧ (∀ b ∈ ts, H.length ≤ b ∧ b < H'.length) ∧ ts.Nodup) ?_ ?_ ⟨[], rfl, rfl, Stay.refl, by simp, by simp, by simp⟩
  · rintro i' x acc H' K' hx ⟨ts, rfl, hl, st, hrs, hfr, hnd⟩ hK
    rw [List.getElem?_map] at hx
    obtain ⟨b, hb, rfl⟩ := Option.map_eq_some_iff.mp hx
    obtain ⟨y, hy⟩ : ∃ y, gs[i']? = some y := ⟨_, List.getElem?_eq_getElem (by rw [← G.len]; exact (List.getElem?_eq_some_iff.mp hb).1)⟩
    have hby := st.at (G.gr i' b y hb hy) (by simp)
    rw [CompS_one]
    simp only [I_nil, if_true, E_blt, L_cons, L_nil, E_var]
    have e : (l.set i (some (V.lst b))).getD i none = some (V.lst b) := by simp [List.getD_eq_getElem?_getD, hi]
    rw [e, VarK_some, list_lst hby]
    refine hK _ _ (by simp only [okV]; exact st.app.at G.top (by simp)) ⟨ts ++ [H'.length], by simp, by simp [hl], st.app, ?_, ?_, ?_⟩
    · intro j r z hj hz
      by_cases hjl : j < ts.length
      · rw [List.getElem?_append_left hjl] at hj
        exact get_app (hrs j r z hj hz)
      · have : j = ts.length := by
          have := (List.getElem?_eq_some_iff.mp hj).1
          simp at this; omega
        subst this
        simp only [List.getElem?_concat_length, Option.some.injEq] at hj
        subst hj
        rw [hl, hy] at hz
        cases hz
        exact get_new
    · intro b hb
      rcases List.mem_append.mp hb with h | h
      · have := hfr b h; simp; omega
      · rw [List.mem_singleton.mp h]; have := st.len; simp; omega
    · rw [List.nodup_append]
      refine ⟨hnd, by simp, ?_⟩
      intro a ha b' hb'
      rw [List.mem_singleton.mp hb']
      have := hfr a ha
      omega
  · rintro acc H' ⟨ts, rfl, hl, st, hrs, hfr, hnd⟩
    rw [List.length_map] at hl
    refine hq _ ts _ ⟨get_new, by rw [hl, G.len], fun i r y h1 h2 => get_app (hrs i r y h1 h2)⟩ st.app ?_ ?_
    · intro b hb
      rcases List.mem_cons.mp hb with rfl | hb
      · exact st.len
      · exact (hfr b hb).1
    · rw [List.nodup_cons]
      exact ⟨fun h => by have := (hfr _ h).2; omega, hnd⟩
theorem s_rows (P : Has c "rows" 2 8 p_rows) (C : Checks c) {a n : Nat} {bs : List Nat} {net : Net} {N : Nat} (A : NetAt H a bs net) (hn1 : 1 ≤ n) (hn : n ≤ 64) (ho : okNet n net) (hN : ∀ x, lenN net x ≤ N) (hNz : N ≤ 100000) (hc : q = true)
    (hq : ∀ g rs H', GrAt H' g rs (rowL n (rowsN net)) → Stay [] H H' → (∀ b ∈ g :: rs, H.length ≤ b) → (g :: rs).Nodup → Q (.lst g) H') :
    Calls c q (d + 5) "rows" [.int n, .lst a] none Q E H := by
  subst hc
  have hsl : sizeLine = 2 ^ 24 := rfl
  have hf := ho.fair
  have hz := ho.1
  refine P true (d + 4) _ Q E H rfl ?_
  unfold p_rows
  walk_at "wps"
  refine s_need_net C ⟨hn1, hn⟩ A ho rfl ?_
  (try simp only [S_nil, S_cons, Then_next, Then_ret, S_set, S_unp, S_put, S_expr, S_ret, S_ite, S_whil, S_loop, IteK_eq, LoopB_one, LoopB_two, E_lit, E_var, E_tup, E_list, E_dict0, E_bin, E_neg, E_not, E_cmp, E_and, E_or, E_idx, E_slice, E_rev, E_call, E_blt, E_meth, E_isi, E_comp, L_nil, L_cons, A_cons, O_cons, C_cons, I_nil, I_cons, VarK_some, NegK_int, NotK_bool, truthP_bool, AndK_nil, AndK_cons, OrK_nil, OrK_cons, CmpR_nil, CmpR_cons, CmpK_lt, CmpK_le, CmpK_gt, CmpK_ge, CmpK_eqi, CmpK_nei, TestK_bool, BinK_addi, BinK_subi, CompS_one, CompS_two, List.getD_eq_getElem?_getD, List.getElem?_cons_zero, List.getElem?_cons_succ, Option.getD_some, Option.getD_none, List.map_cons, List.map_nil, List.cons_append, List.nil_append, List.replicate, List.set_cons_zero, List.set_cons_succ, Nat.sub_self, if_true, if_false, Bool.false_eq_true, Bool.not_true, Bool.not_false, decide_true, decide_false, decide_eq_true_eq, Bool.not_eq_true', true_and, range_nat (H := H) (n := n) (by omega)])
  refine comp_ones (kc := none) (by omega) (by simp) rfl fun g rs H1 G1 st1 fr1 hg1 => ?_
  walk_at "wps"
  have A1 := A.stay st1 (by simp)
  refine Sr_val (v := .lst a) (items := bs.map .lst) (fun K E' h => by walk_at "wps"; exact h) (by simp only [srcV, A1.top]) ?_
  unfold LoopI
  refine wpFor_rule (I := fun i l' H' => ∃ v3 v4 v5 v6 g rs, l' = [some (.int n), some (.lst a), some (.lst g), v3, v4, v5, v6, none] ∧ GrAt H' g rs (rowL n (stN net i)) ∧ Stay [] H H' ∧ (∀ b ∈ g :: rs, H.length ≤ b) ∧ g ∉ rs) ?_ ?_ ⟨none, none, none, none, g, rs, rfl, G1, st1, fr1, hg1⟩
  · rintro i x l' H' K hx ⟨v3, v4, v5, v6, g, rs, rfl, G, st, fr, hg⟩ hnext hret
    rw [List.getElem?_map] at hx
    obtain ⟨b, hb, rfl⟩ := Option.map_eq_some_iff.mp hx
    have A' := A.stay st (by simp)
    obtain ⟨y, hy⟩ : ∃ y, net[i]? = some y := ⟨_, List.getElem?_eq_getElem (by rw [← A.len]; exact (List.getElem?_eq_some_iff.mp hb).1)⟩
    have hfy := hf y (List.mem_of_getElem? hy)
    have hby := A'.lay i b y hb hy
    (try simp only [S_nil, S_cons, Then_next, Then_ret, S_set, S_unp, S_put, S_expr, S_ret, S_ite, S_whil, S_loop, IteK_eq, LoopB_one, LoopB_two, E_lit, E_var, E_tup, E_list, E_dict0, E_bin, E_neg, E_not, E_cmp, E_and, E_or, E_idx, E_slice, E_rev, E_call, E_blt, E_meth, E_isi, E_comp, L_nil, L_cons, A_cons, O_cons, C_cons, I_nil, I_cons, VarK_some, NegK_int, NotK_bool, truthP_bool, AndK_nil, AndK_cons, OrK_nil, OrK_cons, CmpR_nil, CmpR_cons, CmpK_lt, CmpK_le, CmpK_gt, CmpK_ge, CmpK_eqi, CmpK_nei, TestK_bool, BinK_addi, BinK_subi, CompS_one, CompS_two, List.getD_eq_getElem?_getD, List.getElem?_cons_zero, List.getElem?_cons_succ, Option.getD_some, Option.getD_none, List.map_cons, List.map_nil, List.cons_append, List.nil_append, List.replicate, List.set_cons_zero, List.set_cons_succ, Nat.sub_self, if_true, if_false, Bool.false_eq_true, Bool.not_true, Bool.not_false, decide_true, decide_false, decide_eq_true_eq, Bool.not_eq_true', true_and, list_lst G.top])
    refine Sr_val (v := .lst b) (items := y.map pr) (fun K E' h => by walk_at "wps"; exact h) (by simp only [srcV, get_app hby]) ?_
    unfold LoopI
    have hgl := get_lt G.top
    refine wpFor_rule (I := fun j l' H2 => ∃ v5 v6 rt, l' = [some (.int n), some (.lst a), some (.lst g), some (.lst b), some (.lst H'.length), v5, v6, none] ∧ RowSt n H2 H'.length g rt rs (stN net i) (y.take j) ∧ Stay [] H H2 ∧ (∀ b ∈ rt, H.length ≤ b)) ?_ ?_ ⟨v5, v6, rs, rfl, ⟨by simpa [stepL_nil] using (⟨get_new, G.len, fun i r y h1 h2 => get_app (G.gr i r y h1 h2)⟩ : GrAt (H' ++ [rs.map V.lst]) H'.length rs (rowL n (stN net i))), G.app, ?_⟩, st.app, fun b hb => fr b (List.mem_cons_of_mem _ hb)⟩
    · rintro j x l' H2 K2 hx ⟨v5, v6, rt, rfl, S, st2, fr2⟩ hnext2 hret2
      rw [List.getElem?_map] at hx
      obtain ⟨p, hp, rfl⟩ := Option.map_eq_some_iff.mp hx
      obtain ⟨pl, ph⟩ := p
      have hpm := hfy.1 _ (List.mem_of_getElem? hp)
      have hnd : ((y.take j ++ [(pl, ph)]).map (·.2)).Nodup := by rw [← layer_take hp]; exact take_nodup hfy.2 _
      obtain ⟨ra, rb, i1, i2, i3, i4, i5, S'⟩ := S.step hnd (by omega) hpm.2
      unfold pr
      walk_at "wps"
      refine IdxK_of i1 ?_
      refine IdxK_of i2 ?_
      have z1 := stN_len hN i pl; have z2 := stN_len hN i ph
      rw [add_lst i3 i4 (by simp; omega)]
      refine PutK_of i5 ?_
      have st3 := (st2.app (xs := (stN net i pl).map nat ++ (stN net i ph).map nat)).set (a := H'.length) (xs := (rt.set ph H2.length).map .lst) (.inr st.len)
      refine hnext2 _ _ (by simp only [okV]; exact (A.stay st3 (by simp)).lay i b y hb hy) ⟨_, _, rt.set ph H2.length, rfl, ?_, st3, ?_⟩
      · rw [layer_take hp]; exact S'
      · intro b' hb'
        rcases List.mem_or_eq_of_mem_set hb' with h | h
        · exact fr2 b' h
        · rw [h]; exact st2.len
    · rintro l' H2 ⟨v5, v6, rt, rfl, S, st2, fr2⟩
      walk_at "wps"
      rw [List.length_map, List.take_length] at S
      have S1 := S.tgt
      rw [← stN_succ hy] at S1
      have := S.ap
      simp only [List.mem_cons, List.mem_append, not_or] at this
      refine hnext _ _ (by simp only [okV]; exact (A.stay st2 (by simp)).top) ⟨_, _, _, _, H'.length, rt, rfl, S1, st2, ?_, this.2.1⟩
      intro b' hb'
      rcases List.mem_cons.mp hb' with rfl | hb'
      · exact st.len
      · exact fr2 b' hb'
    · simp only [List.mem_cons, List.mem_append, not_or]
      have := G.lt
      exact ⟨by omega, fun h => Nat.lt_irrefl _ (this _ h), fun h => Nat.lt_irrefl _ (this _ h)⟩
  · rintro l' H' ⟨v3, v4, v5, v6, g, rs, rfl, G, st, fr, hg⟩
    walk_at "wps"
    rw [List.length_map, A.len, stN_all] at G
    refine comp_copies G (by simp [rowL]; omega) (by simp) rfl fun a' ts H'' G' st' fr' nd' => ?_
    exact hq a' ts H'' G' (st.trans st' (by simp)) (fun b hb => Nat.le_trans st.len (fr' b hb)) nd'
end
end Bn
namespace Bn
open PySem
def natL (n : Nat) (σ : Nat → Nat) : List Nat := (List.range n).map σ
theorem natL_get {n x : Nat} {σ : Nat → Nat} (h : x < n) : (natL n σ)[x]? = some (σ x) := by
  unfold natL; rw [List.getElem?_map, List.getElem?_range h]; rfl
theorem natL_set {n h : Nat} {σ : Nat → Nat} {v : Nat} : (natL n σ).set h v = natL n (fun x => if x = h then v else σ x) := by
  apply List.ext_getElem?
  intro i
  rw [List.getElem?_set]
  by_cases hi : i < n
  · rw [natL_get hi, natL_get hi]
    by_cases e : h = i
    · subst e; rw [if_pos rfl, if_pos (by simp [natL, hi]), if_pos rfl]
    · rw [if_neg e, if_neg (Ne.symm e)]
  · have h1 : ∀ τ : Nat → Nat, (natL n τ)[i]? = none := fun τ => List.getElem?_eq_none (by simp [natL]; omega)
    rw [h1, h1]
    split
    · rw [if_neg (by simp [natL]; omega)]
    · rfl
theorem tellN_fail {net : Net} {i : Nat} {y : List (Nat × Nat)} {B : Nat → Nat} (h : tellN (net.take i) id = some B) (hy : net[i]? = some y) (hn : layTell B y = false) : tellN net id = none := by
  rw [split_at hy, List.append_assoc, tellN_append, h]
  show tellN (y :: _) B = none
  unfold tellN
  rw [hn]; rfl
theorem tellN_next {net : Net} {i : Nat} {y : List (Nat × Nat)} {B : Nat → Nat} (h : tellN (net.take i) id = some B) (hy : net[i]? = some y) (hn : layTell B y = true) : tellN (net.take (i + 1)) id = some (stepL (fun l _ => l) y B) := by
  rw [List.take_add_one, hy, tellN_append, h]
  show tellN [y] B = _
  unfold tellN
  rw [hn]; rfl
section
variable {c : Cx} {q : Bool} {d : Nat} {Q : V → Hp → Prop} {E : XPost} {H : Hp}
theorem s_does_tell (P : Has c "does_tell" 2 8 p_does_tell) {a n : Nat} {bs : List Nat} {net : Net} (A : NetAt H a bs net) (hn : n ≤ 64) (hf : Fair n net) (hz : net.length ≤ 1000) (hc : q = true)
    (hq : ∀ H', Stay [] H H' → Q (.bool (doesTell n net)) H') : Calls c q (d + 1) "does_tell" [.int n, .lst a] none Q E H := by
  subst hc
  have hsl : sizeLine = 2 ^ 24 := rfl
  refine P true d _ Q E H rfl ?_
  unfold p_does_tell
  (try simp only [S_nil, S_cons, Then_next, Then_ret, S_set, S_unp, S_put, S_expr, S_ret, S_ite, S_whil, S_loop, IteK_eq, LoopB_one, LoopB_two, E_lit, E_var, E_tup, E_list, E_dict0, E_bin, E_neg, E_not, E_cmp, E_and, E_or, E_idx, E_slice, E_rev, E_call, E_blt, E_meth, E_isi, E_comp, L_nil, L_cons, A_cons, O_cons, C_cons, I_nil, I_cons, VarK_some, NegK_int, NotK_bool, truthP_bool, AndK_nil, AndK_cons, OrK_nil, OrK_cons, CmpR_nil, CmpR_cons, CmpK_lt, CmpK_le, CmpK_gt, CmpK_ge, CmpK_eqi, CmpK_nei, TestK_bool, BinK_addi, BinK_subi, CompS_one, CompS_two, List.getD_eq_getElem?_getD, List.getElem?_cons_zero, List.getElem?_cons_succ, Option.getD_some, Option.getD_none, List.map_cons, List.map_nil, List.cons_append, List.nil_append, List.replicate, List.set_cons_zero, List.set_cons_succ, Nat.sub_self, if_true, if_false, Bool.false_eq_true, Bool.not_true, Bool.not_false, decide_true, decide_false, decide_eq_true_eq, Bool.not_eq_true', true_and, range_nat (H := H) (n := n) (by omega), list_range (H := H) (n := n) (by omega)])
  have A1 : NetAt (H ++ [(List.range n).map nat]) a bs net := A.app
  refine Sr_val (v := .lst a) (items := bs.map .lst) (fun K E' h => by walk_at "wps"; exact h) (by simp only [srcV, A1.top]) ?_
  unfold LoopI
  refine wpFor_rule (I := fun i l' H' => ∃ v3 v4 v5 v6 b B, l' = [some (.int n), some (.lst a), some (.lst b), v3, v4, v5, v6, none] ∧ H'[b]? = some ((natL n B).map nat) ∧ tellN (net.take i) id = some B ∧ Stay [] H H') ?_ ?_ ⟨none, none, none, none, _, id, rfl, by rw [get_new]; simp [natL], rfl, Stay.refl.app⟩
  · rintro i x l' H' K hx ⟨v3, v4, v5, v6, g, B, rfl, hg, ht, st⟩ hnext hret
    rw [List.getElem?_map] at hx
    obtain ⟨b, hb, rfl⟩ := Option.map_eq_some_iff.mp hx
    have A' := A.stay st (by simp)
    obtain ⟨y, hy⟩ : ∃ y, net[i]? = some y := ⟨_, List.getElem?_eq_getElem (by rw [← A.len]; exact (List.getElem?_eq_some_iff.mp hb).1)⟩
    have hfy := hf y (List.mem_of_getElem? hy)
    have hby := A'.lay i b y hb hy
    have hgl := get_lt hg
    (try simp only [S_nil, S_cons, Then_next, Then_ret, S_set, S_unp, S_put, S_expr, S_ret, S_ite, S_whil, S_loop, IteK_eq, LoopB_one, LoopB_two, E_lit, E_var, E_tup, E_list, E_dict0, E_bin, E_neg, E_not, E_cmp, E_and, E_or, E_idx, E_slice, E_rev, E_call, E_blt, E_meth, E_isi, E_comp, L_nil, L_cons, A_cons, O_cons, C_cons, I_nil, I_cons, VarK_some, NegK_int, NotK_bool, truthP_bool, AndK_nil, AndK_cons, OrK_nil, OrK_cons, CmpR_nil, CmpR_cons, CmpK_lt, CmpK_le, CmpK_gt, CmpK_ge, CmpK_eqi, CmpK_nei, TestK_bool, BinK_addi, BinK_subi, CompS_one, CompS_two, List.getD_eq_getElem?_getD, List.getElem?_cons_zero, List.getElem?_cons_succ, Option.getD_some, Option.getD_none, List.map_cons, List.map_nil, List.cons_append, List.nil_append, List.replicate, List.set_cons_zero, List.set_cons_succ, Nat.sub_self, if_true, if_false, Bool.false_eq_true, Bool.not_true, Bool.not_false, decide_true, decide_false, decide_eq_true_eq, Bool.not_eq_true', true_and, list_lst hg])
    refine Sr_val (v := .lst b) (items := y.map pr) (fun K E' h => by walk_at "wps"; exact h) (by simp only [srcV, get_app hby]) ?_
    unfold LoopI
    refine wpFor_rule (I := fun j l' H2 => ∃ v5 v6, l' = [some (.int n), some (.lst a), some (.lst g), some (.lst b), some (.lst H'.length), v5, v6, none] ∧ H2[g]? = some ((natL n B).map nat) ∧ H2[H'.length]? = some ((natL n (stepL (fun l _ => l) (y.take j) B)).map nat) ∧ layTell B (y.take j) = true ∧ Stay [] H H2) ?_ ?_ ⟨v5, v6, rfl, get_app hg, get_new, rfl, st.app⟩
    · rintro j x l' H2 K2 hx ⟨v5, v6, rfl, g1, g2, hl, st2⟩ hnext2 hret2
      rw [List.getElem?_map] at hx
      obtain ⟨p, hp, rfl⟩ := Option.map_eq_some_iff.mp hx
      obtain ⟨pl, ph⟩ := p
      have hpm := hfy.1 _ (List.mem_of_getElem? hp)
      have hnd : ((y.take j ++ [(pl, ph)]).map (·.2)).Nodup := by rw [← layer_take hp]; exact take_nodup hfy.2 _
      unfold pr
      walk_at "wps"
      refine IdxK_of (idx_nat g1 (natL_get hpm.2)) ?_
      walk_at "wps"
      by_cases he : pl + 1 = B ph
      · have : ((pl : Int) + 1) = (B ph : Int) := by omega
        simp only [this, decide_true, Bool.not_true, Bool.false_eq_true, if_false]
        walk_at "wps"
        have hpl : pl < n := by omega
        refine IdxK_of (idx_nat g1 (natL_get hpl)) ?_
        refine PutK_of (put_nat g2 (by simp [natL]; omega)) ?_
        have st3 := st2.set (a := H'.length) (xs := ((natL n (stepL (fun l _ => l) (y.take j) B)).set ph (B pl)).map nat) (.inr st.len)
        refine hnext2 _ _ (by simp only [okV]; exact (A.stay st3 (by simp)).lay i b y hb hy) ⟨_, _, rfl, get_set g1 (by omega), ?_, ?_, st3⟩
        · rw [get_put g2, layer_take hp, step_snoc _ hnd, natL_set]
        · rw [layer_take hp]
          rw [layTell_iff] at hl ⊢
          intro p hp'
          rcases List.mem_append.mp hp' with h | h
          · exact hl p h
          · rw [List.mem_singleton.mp h]; exact he
      · have : ¬ ((pl : Int) + 1) = (B ph : Int) := by omega
        simp only [this, decide_false, Bool.not_false, if_true]
        walk_at "wps"
        refine hret2 _ _ _ (hret _ _ _ ?_)
        have hfail : doesTell n net = false := by
          have hly : layTell B y = false := by
            cases e : layTell B y with
            | false => rfl
            | true => rw [layTell_iff] at e; exact absurd (e _ (List.mem_of_getElem? hp)) he
          unfold doesTell
          rw [tellN_fail ht hy hly]
        have := hq H2 st2
        rw [hfail] at this
        walk_at "wps"
        exact this
    · rintro l' H2 ⟨v5, v6, rfl, g1, g2, hl, st2⟩
      walk_at "wps"
      rw [List.length_map, List.take_length] at g2 hl
      exact hnext _ _ (by simp only [okV]; exact (A.stay st2 (by simp)).top) ⟨_, _, _, _, _, _, rfl, g2, tellN_next ht hy hl, st2⟩
  · rintro l' H' ⟨v3, v4, v5, v6, g, B, rfl, hg, ht, st⟩
    walk_at "wps"
    rw [List.length_map, A.len, List.take_length] at ht
    have e : doesTell n net = (natL n B).all fun x => x == 0 := by
      unfold doesTell natL
      rw [ht, List.all_map]; rfl
    refine CompK_of (items := (natL n B).map nat) (by simp only [srcV, hg]) rfl (by simp [natL]; omega) ?_
    refine wpIter_rule (I := fun j acc H2 => H2 = H' ∧ acc = ((natL n B).take j).map fun x => V.bool (x == 0)) ?_ ?_ ⟨rfl, by simp⟩
    · rintro j x acc H2 K hx ⟨rfl, rfl⟩ hK
      rw [List.getElem?_map] at hx
      obtain ⟨z, hz, rfl⟩ := Option.map_eq_some_iff.mp hx
      unfold nat
      walk_at "wps"
      refine hK _ _ (by simp only [okV]; exact hg) ⟨rfl, ?_⟩
      rw [List.take_add_one, hz]
      simp only [Option.toList_some, List.map_append, List.map_cons, List.map_nil]
      congr 3
      by_cases h0 : z = 0
      · subst h0; rfl
      · have : ¬ ((z : Int) = 0) := by omega
        simp [h0, this]
    · rintro acc H2 ⟨rfl, rfl⟩
      rw [List.length_map, List.take_length]
      have hb : ∀ zs : List Nat, boolsV (zs.map fun x => V.bool (x == 0)) = some (zs.map fun x => x == 0) := by
        intro zs
        induction zs with
        | nil => rfl
        | cons z r ih => simp only [List.map_cons, boolsV] at ih ⊢; rw [ih]; rfl
      refine BltK_of (v := .bool (doesTell n net)) (H' := H2 ++ [(natL n B).map fun x => V.bool (x == 0)]) ?_ rfl ?_
      · simp only [bltV, get_new, Option.bind_some, hb]
        rw [e, List.all_map]; rfl
      · walk_at "wps"
        exact hq _ st.app
theorem s_tells (P : Has c "tells" 2 2 p_tells) (PD : Has c "does_tell" 2 8 p_does_tell) (C : Checks c) {a n : Nat} {bs : List Nat} {net : Net} (A : NetAt H a bs net) (hn1 : 1 ≤ n) (hn : n ≤ 64) (ho : okNet n net) (hc : q = true)
    (hq : ∀ H', Stay [] H H' → Q (.bool (doesTell n net)) H') : Calls c q (d + 5) "tells" [.int n, .lst a] none Q E H := by
  subst hc
  refine P true (d + 4) _ Q E H rfl ?_
  unfold p_tells
  walk_at "wps"
  refine s_need_net C ⟨hn1, hn⟩ A ho rfl ?_
  walk_at "wps"
  have := ho.1
  exact s_does_tell PD A hn ho.fair (by omega) rfl hq
end
end Bn
namespace Bn
open PySem
section
variable {c : Cx} {q : Bool} {d : Nat} {Q : V → Hp → Prop} {E : XPost} {H : Hp}
theorem comp_layers {g i : Nat} {rs : List Nat} {gs : Net} {l : Loc} {K : V → Hp → Prop} (G : NetAt H g rs gs) (hn : gs.length < 1000000) (hi : i < l.length) (hc : q = true) (hq : ∀ a ts H', NetAt H' a ts gs → Stay [] H H' → (∀ b ∈ a :: ts, H.length ≤ b) → (a :: ts).Nodup → K (.lst a) H') :
    CompK (Calls c) q d (.one i) [] (.blt .list [(.var i)]) l K (.lst g) H := by
  subst hc
  have hsl : sizeLine = 2 ^ 24 := rfl
  refine CompK_of (items := rs.map .lst) (by simp only [srcV, G.top]) rfl (by simp [G.len]; omega) ?_
  refine wpIter_rule (I := fun i acc H' => ∃ ts : List Nat, acc = ts.map .lst ∧ ts.length = i ∧ Stay [] H H' ∧ (∀ (j r : Nat) (y : List (Nat × Nat)), ts[j]? = some r → gs[j]? = some y → H'[r]? = some (y.map pr)) ∧ (∀ b ∈ ts, H.length ≤ b ∧ b < H'.length) ∧ ts.Nodup) ?_ ?_ ⟨[], rfl, rfl, Stay.refl, by simp, by simp, by simp⟩
  · rintro i' x acc H' K' hx ⟨ts, rfl, hl, st, hrs, hfr, hnd⟩ hK
    rw [List.getElem?_map] at hx
    obtain ⟨b, hb, rfl⟩ := Option.map_eq_some_iff.mp hx
    obtain ⟨y, hy⟩ : ∃ y, gs[i']? = some y := ⟨_, List.getElem?_eq_getElem (by rw [← G.len]; exact (List.getElem?_eq_some_iff.mp hb).1)⟩
    have hby := st.at (G.lay i' b y hb hy) (by simp)
    rw [CompS_one]
    simp only [I_nil, if_true, E_blt, L_cons, L_nil, E_var]
    have e : (l.set i (some (V.lst b))).getD i none = some (V.lst b) := by simp [List.getD_eq_getElem?_getD, hi]
    rw [e, VarK_some, list_lst hby]
    refine hK _ _ (by simp only [okV]; exact st.app.at G.top (by simp)) ⟨ts ++ [H'.length], by simp, by simp [hl], st.app, ?_, ?_, ?_⟩
    · intro j r z hj hz
      by_cases hjl : j < ts.length
      · rw [List.getElem?_append_left hjl] at hj
        exact get_app (hrs j r z hj hz)
      · have : j = ts.length := by
          have := (List.getElem?_eq_some_iff.mp hj).1
          simp at this; omega
        subst this
        simp only [List.getElem?_concat_length, Option.some.injEq] at hj
        subst hj
        rw [hl, hy] at hz
        cases hz
        exact get_new
    · intro b hb
      rcases List.mem_append.mp hb with h | h
      · have := hfr b h; simp; omega
      · rw [List.mem_singleton.mp h]; have := st.len; simp; omega
    · rw [List.nodup_append]
      refine ⟨hnd, by simp, ?_⟩
      intro a ha b' hb'
      rw [List.mem_singleton.mp hb']
      have := hfr a ha
      omega
  · rintro acc H' ⟨ts, rfl, hl, st, hrs, hfr, hnd⟩
    rw [List.length_map] at hl
    refine hq _ ts _ ⟨get_new, by rw [hl, G.len], fun i r y h1 h2 => get_app (hrs i r y h1 h2)⟩ st.app ?_ ?_
    · intro b hb
      rcases List.mem_cons.mp hb with rfl | hb
      · exact st.len
      · exact (hfr b hb).1
    · rw [List.nodup_cons]
      exact ⟨fun h => by have := (hfr _ h).2; omega, hnd⟩
theorem comp_pure {i : Nat} {elt : Ex} {l : Loc} {sv : V} {items : List V} {g : V → V} {K : V → Hp → Prop} (hs : srcV H sv = some items) (hok : okV sv items H) (hz : items.length < 1000000) (hc : q = true) (he : ∀ x ∈ items, ∀ K' : V → Hp → Prop, K' (g x) H → wpE (Calls c) q d none elt (l.set i (some x)) K' noX H)
    (hq : K (.lst H.length) (H ++ [items.map g])) : CompK (Calls c) q d (.one i) [] elt l K sv H := by
  have hsl : sizeLine = 2 ^ 24 := rfl
  refine CompK_of hs hc (by omega) ?_
  refine wpIter_rule (I := fun j acc H2 => H2 = H ∧ acc = (items.take j).map g) ?_ ?_ ⟨rfl, by simp⟩
  · rintro j x acc H2 K' hx ⟨rfl, rfl⟩ hK
    rw [CompS_one]
    simp only [I_nil, if_true]
    refine he x (List.mem_of_getElem? hx) _ (hK _ _ hok ⟨rfl, ?_⟩)
    rw [List.take_add_one, hx]; simp
  · rintro acc H2 ⟨rfl, rfl⟩
    rw [List.take_length]
    exact hq
theorem comp_pure2 {i j : Nat} {elt : Ex} {l : Loc} {sv : V} {ps : List (V × V)} {g : V × V → V} {K : V → Hp → Prop} (hs : srcV H sv = some (ps.map fun p => .tup [p.1, p.2])) (hok : okV sv (ps.map fun p => .tup [p.1, p.2]) H) (hz : ps.length < 1000000) (hc : q = true) (he : ∀ p ∈ ps, ∀ K' : V → Hp → Prop, K' (g p) H → wpE (Calls c) q d none elt ((l.set i (some p.1)).set j (some p.2)) K' noX H)
    (hq : K (.lst H.length) (H ++ [ps.map g])) : CompK (Calls c) q d (.two i j) [] elt l K sv H := by
  have hsl : sizeLine = 2 ^ 24 := rfl
  refine CompK_of hs hc (by simp; omega) ?_
  refine wpIter_rule (I := fun j acc H2 => H2 = H ∧ acc = (ps.take j).map g) ?_ ?_ ⟨rfl, by simp⟩
  · rintro j x acc H2 K' hx ⟨rfl, rfl⟩ hK
    rw [List.getElem?_map] at hx
    obtain ⟨p, hp, rfl⟩ := Option.map_eq_some_iff.mp hx
    rw [CompS_two]
    simp only [I_nil, if_true]
    refine he p (List.mem_of_getElem? hp) _ (hK _ _ hok ⟨rfl, ?_⟩)
    rw [List.take_add_one, hp]; simp
  · rintro acc H2 ⟨rfl, rfl⟩
    rw [List.length_map, List.take_length]
    exact hq
theorem comp_keep {a i : Nat} {bs : List Nat} {net : Net} {l : Loc} {K : V → Hp → Prop} (N : NetAt H a bs net) (hn : net.length < 1000000) (hi : i < l.length) (hc : q = true)
    (hq : ∀ a' cs H', NetAt H' a' cs (keepNe net) → Stay [] H H' → H.length ≤ a' → K (.lst a') H') :
    CompK (Calls c) q d (.one i) [(.cmp (.var i) [.ne] [(.list [])])] (.var i) l K (.lst a) H := by
  subst hc
  have hsl : sizeLine = 2 ^ 24 := rfl
  refine CompK_of (items := bs.map .lst) (by simp only [srcV, N.top]) rfl (by simp [N.len]; omega) ?_
  refine wpIter_rule (I := fun j acc H' => ∃ cs : List Nat, acc = cs.map .lst ∧ Stay [] H H' ∧ cs.length = (keepNe (net.take j)).length ∧ ∀ (k b : Nat) (y : List (Nat × Nat)), cs[k]? = some b → (keepNe (net.take j))[k]? = some y → H'[b]? = some (y.map pr)) ?_ ?_ ⟨[], rfl, Stay.refl, by simp [keepNe], by simp⟩
  · rintro j x acc H' K' hx ⟨cs, rfl, st, hl, hcs⟩ hK
    rw [List.getElem?_map] at hx
    obtain ⟨b, hb, rfl⟩ := Option.map_eq_some_iff.mp hx
    obtain ⟨y, hy⟩ : ∃ y, net[j]? = some y := ⟨_, List.getElem?_eq_getElem (by rw [← N.len]; exact (List.getElem?_eq_some_iff.mp hb).1)⟩
    have hby := st.at (N.lay j b y hb hy) (by simp)
    rw [CompS_one]
    have e : (l.set i (some (V.lst b))).getD i none = some (V.lst b) := by simp [List.getD_eq_getElem?_getD, hi]
    simp only [I_cons, I_nil, E_cmp, E_var, e, VarK_some, C_cons, E_list, L_nil]
    refine CmpK_of (cmp_ne (eq_layer (get_app hby) (ys := []) (by simp))) ?_
    have hst := st.app (xs := [])
    have hok : okV (.lst a) (bs.map V.lst) (H' ++ [[]]) := by simp only [okV]; exact hst.at N.top (by simp)
    have htk : net.take (j + 1) = net.take j ++ [y] := by rw [List.take_add_one, hy]; rfl
    rw [CmpR_nil]
    rw [TestK_bool]
    by_cases h0 : y = []
    · subst h0
      simp only [decide_true, Bool.not_true, Bool.false_eq_true, if_false]
      refine hK _ _ hok ⟨cs, rfl, hst, ?_, fun k b' z h1 h2 => ?_⟩
      · rw [hl, htk]; simp [keepNe]
      · rw [htk] at h2
        have : keepNe (net.take j ++ [[]]) = keepNe (net.take j) := by simp [keepNe]
        rw [this] at h2
        exact get_app (hcs k b' z h1 h2)
    · simp only [h0, decide_false, Bool.not_false, if_true, I_nil]
      have hk : keepNe (net.take (j + 1)) = keepNe (net.take j) ++ [y] := by rw [htk]; simp [keepNe, h0]
      refine hK _ _ hok ⟨cs ++ [b], by simp, hst, by rw [hk]; simp [hl], fun k b' z h1 h2 => ?_⟩
      rw [hk] at h2
      by_cases hkl : k < cs.length
      · rw [List.getElem?_append_left hkl] at h1
        rw [List.getElem?_append_left (by omega)] at h2
        exact get_app (hcs k b' z h1 h2)
      · have : k = cs.length := by
          have := (List.getElem?_eq_some_iff.mp h1).1
          simp at this; omega
        subst this
        simp only [List.getElem?_concat_length, Option.some.injEq] at h1
        rw [hl] at h2
        simp only [List.getElem?_concat_length, Option.some.injEq] at h2
        subst h1 h2
        exact get_app hby
  · rintro acc H' ⟨cs, rfl, st, hl, hcs⟩
    rw [List.length_map, N.len, List.take_length] at hl hcs
    exact hq _ cs _ ⟨get_new, hl, fun k b y h1 h2 => get_app (hcs k b y h1 h2)⟩ st.app st.len
end
end Bn
namespace Bn
open PySem
def fstV : V → V
  | .tup [a, _] => a
  | v => v
def sndV : V → V
  | .tup [_, b] => b
  | v => v
section
variable {c : Cx} {q : Bool} {d : Nat} {Q : V → Hp → Prop} {E : XPost} {H : Hp}
theorem NetAt.put {a i b : Nat} {bs : List Nat} {net : Net} {y : List (Nat × Nat)} (N : NetAt H a bs net) (hi : i < net.length) (hb : H[b]? = some (y.map pr)) (hab : a ∉ bs) (hne : b ≠ a) :
    putV H (.lst a) (.int i) (.lst b) = some (H.set a ((bs.set i b).map .lst)) ∧ NetAt (H.set a ((bs.set i b).map .lst)) a (bs.set i b) (net.set i y) := by
  have hl := N.len
  refine ⟨?_, ?_, by simp [hl], ?_⟩
  · have hlt : (i : Int) < (bs.length : Int) := by omega
    simp only [putV, N.top]
    simp [hlt, List.map_set]
  · rw [get_put N.top]
  · intro k r z h1 h2
    rw [List.getElem?_set] at h1 h2
    by_cases e : i = k
    · subst e
      rw [if_pos rfl, if_pos (by omega)] at h1
      rw [if_pos rfl, if_pos (by omega)] at h2
      cases h1; cases h2
      exact get_set hb hne
    · rw [if_neg e] at h1 h2
      exact get_set (N.lay k r z h1 h2) (fun e => hab (e ▸ List.mem_of_getElem? h1))
theorem NetAt.snoc {a e : Nat} {bs : List Nat} {net : Net} {y : List (Nat × Nat)} {H' : Hp} {a' : Nat} (N : NetAt H a bs net) (top : H'[a']? = some ((bs ++ [e]).map V.lst)) (keep : ∀ (x : Nat) (z : List V), H[x]? = some z → H'[x]? = some z) (he : H'[e]? = some (y.map pr)) : NetAt H' a' (bs ++ [e]) (net ++ [y]) := by
  have hl := N.len
  refine ⟨top, by simp [hl], fun i b z h1 h2 => ?_⟩
  by_cases hi : i < bs.length
  · rw [List.getElem?_append_left hi] at h1
    rw [List.getElem?_append_left (by omega)] at h2
    exact keep _ _ (N.lay i b z h1 h2)
  · have : i = bs.length := by
      have := (List.getElem?_eq_some_iff.mp h1).1
      simp at this; omega
    subst this
    simp only [List.getElem?_concat_length, Option.some.injEq] at h1
    rw [hl] at h2
    simp only [List.getElem?_concat_length, Option.some.injEq] at h2
    subst h1 h2
    exact he
theorem ints_snd (y : List (Nat × Nat)) : intsV ((y.map pr).map sndV) = some (y.map fun p => (p.2 : Int)) := by
  induction y with
  | nil => rfl
  | cons p r ih => simp only [List.map_cons, pr, sndV, intsV] at ih ⊢; rw [ih]; rfl
theorem idx_pr0 {p : Nat × Nat} : idxV H (pr p) (.int 0) = some (.int p.1) := rfl
theorem idx_pr1 {p : Nat × Nat} : idxV H (pr p) (.int 1) = some (.int p.2) := rfl
theorem s_with (P : Has c "_law_with" 4 7 p__law_with) {a i l h n : Nat} {bs : List Nat} {net : Net} (N : NetAt H a bs net) (hi : i ≤ net.length) (hr : ∀ y ∈ net, rising n 0 y) (hz : net.length ≤ 79) (hlh : l < h) (hhn : h < n) (hn : n ≤ 64) (hc : q = true)
    (hq : ∀ a' cs H', NetAt H' a' cs (withN net i l h) → Stay [] H H' → Q (.lst a') H') : Calls c q (d + 1) "_law_with" [.lst a, .int i, .int l, .int h] none Q E H := by
  subst hc
  have hsl : sizeLine = 2 ^ 24 := rfl
  refine P true d _ Q E H rfl ?_
  unfold p__law_with
  walk_at "wps"
  refine comp_layers N (by omega) (by simp) rfl fun a1 ts H1 N1 st1 fr1 nd1 => ?_
  walk_at "wps"
  have e1 : (H1 ++ [[]] ++ [[V.lst H1.length]])[(H1 ++ [[]]).length]? = some [V.lst H1.length] := get_new
  have hts : ts.length = net.length := N1.len
  rw [add_lst (get_app (get_app N1.top)) e1 (by simp; omega)]
  have em : ts.map V.lst ++ [V.lst H1.length] = (ts ++ [H1.length]).map V.lst := by simp
  rw [em]
  have N2 : NetAt (H1 ++ [[]] ++ [[V.lst H1.length]] ++ [(ts ++ [H1.length]).map V.lst]) (H1 ++ [[]] ++ [[V.lst H1.length]]).length (ts ++ [H1.length]) (net ++ [[]]) :=
    N1.snoc get_new (fun x z hx => get_app (get_app (get_app hx))) (by exact get_app (get_app get_new))
  have st2 : Stay [] H (H1 ++ [[]] ++ [[V.lst H1.length]] ++ [(ts ++ [H1.length]).map V.lst]) := st1.app.app.app
  have ap2 : (H1 ++ [[]] ++ [[V.lst H1.length]]).length ∉ ts ++ [H1.length] := by
    intro hm
    rcases List.mem_append.mp hm with hm | hm
    · have := N1.lt _ (List.mem_cons_of_mem _ hm); simp at this; omega
    · simp at hm
  have hAf : H.length ≤ (H1 ++ [[]] ++ [[V.lst H1.length]]).length := by have := st1.len; simp; omega
  generalize (H1 ++ [[]] ++ [[V.lst H1.length]]).length = A at N2 ap2 hAf
  generalize H1 ++ [[]] ++ [[V.lst H1.length]] ++ [(ts ++ [H1.length]).map V.lst] = H2 at N2 st2
  generalize hcs : ts ++ [H1.length] = cs at N2 ap2
  have hlen2 : (net ++ [[]]).length = net.length + 1 := by simp
  obtain ⟨y, hy⟩ : ∃ y, (net ++ [[]])[i]? = some y := ⟨_, List.getElem?_eq_getElem (by rw [hlen2]; omega)⟩
  obtain ⟨b, hb, hbH, hbI⟩ := N2.at hy
  have hyr : rising n 0 y := rise_add hr y (List.mem_of_getElem? hy)
  have hyf := rising_fair hyr
  have hyz : y.length ≤ 64 := by
    have := nodup_len hyf.2 fun x hx => by
      obtain ⟨p, hp, rfl⟩ := List.mem_map.mp hx
      exact (hyf.1 p hp).2.1
    simp at this; omega
  have hyD : (net ++ [[]]).getD i [] = y := by rw [List.getD_eq_getElem?_getD, hy]; rfl
  walk_at "wps"
  refine IdxK_of hbI ?_
  refine comp_pure (items := y.map pr) (g := sndV) (by simp only [srcV, hbH]) (by simp only [okV]; exact hbH) (by simp; omega) rfl (fun x hx K' hK' => ?_) ?_
  · obtain ⟨p, hp, rfl⟩ := List.mem_map.mp hx
    walk_at "wps"
    exact IdxK_of idx_pr1 hK'
  have hin : cmpV (H2 ++ [(y.map pr).map sndV]) .isIn (.int h) (.lst H2.length) = some (withHas net i h) := by
    simp only [cmpV, get_new, Option.bind_some, ints_snd, Option.map_some, withHas, hyD]
    congr 1
    rw [Bool.eq_iff_iff]
    simp only [decide_eq_true_eq, List.mem_map, List.any_eq_true, beq_iff_eq]
    constructor
    · rintro ⟨p, hp, e⟩; exact ⟨p, hp, by omega⟩
    · rintro ⟨p, hp, e⟩; exact ⟨p, hp, by omega⟩
  refine CmpK_of hin ?_
  walk_at "wps"
  have st3 := st2.app (xs := (y.map pr).map sndV)
  have N3 := N2.app (xs := (y.map pr).map sndV)
  have hbH3 := get_app (xs := (y.map pr).map sndV) hbH
  have hA := N2.lt A List.mem_cons_self
  by_cases hw : withHas net i h = true
  · simp only [hw, if_true]
    walk_at "wps"
    refine comp_keep N3 (by simp; omega) (by simp) rfl fun a' cs' H' N' st' _ => ?_
    walk_at "wps"
    refine hq a' cs' H' ?_ (st3.trans st' (by simp))
    unfold withN
    rw [if_pos hw]; exact N'
  · simp only [hw, if_false]
    walk_at "wps"
    refine IdxK_of (show idxV (H2 ++ [(y.map pr).map sndV]) (.lst A) (.int i) = some (.lst b) from (by obtain ⟨b', h1, _, h3⟩ := N3.at hy; rw [hb] at h1; cases h1; exact h3)) ?_
    refine comp_pure (items := y.map pr) (g := fun v => .tup [sndV v, fstV v]) (by simp only [srcV, hbH3]) (by simp only [okV]; exact hbH3) (by simp; omega) rfl (fun x hx K' hK' => ?_) ?_
    · obtain ⟨p, hp, rfl⟩ := List.mem_map.mp hx
      walk_at "wps"
      refine IdxK_of idx_pr1 ?_
      refine IdxK_of idx_pr0 ?_
      exact hK'
    have ef : (y.map pr).map (fun v => V.tup [sndV v, fstV v]) = y.map fl := by rw [List.map_map]; rfl
    rw [ef]
    walk_at "wps"
    rw [add_lst (get_app get_new) get_new (by simp; omega)]
    have eg : y.map fl ++ [V.tup [V.int h, V.int l]] = (y ++ [(l, h)]).map fl := by simp [fl]
    rw [eg]
    walk_at "wps"
    have st4 := (st3.app (xs := y.map fl)).app (xs := [V.tup [V.int h, V.int l]]) |>.app (xs := (y ++ [(l, h)]).map fl)
    have N4 := (N3.app (xs := y.map fl)).app (xs := [V.tup [V.int h, V.int l]]) |>.app (xs := (y ++ [(l, h)]).map fl)
    have hF4 : (H2 ++ [(y.map pr).map sndV] ++ [y.map fl] ++ [[V.tup [V.int h, V.int l]]] ++ [(y ++ [(l, h)]).map fl])[(H2 ++ [(y.map pr).map sndV] ++ [y.map fl] ++ [[V.tup [V.int h, V.int l]]]).length]? = some ((y ++ [(l, h)]).map fl) := get_new
    generalize (H2 ++ [(y.map pr).map sndV] ++ [y.map fl] ++ [[V.tup [V.int h, V.int l]]]).length = F at hF4
    have hA4 : A < (H2 ++ [(y.map pr).map sndV] ++ [y.map fl] ++ [[V.tup [V.int h, V.int l]]] ++ [(y ++ [(l, h)]).map fl]).length := by simp; omega
    generalize H2 ++ [(y.map pr).map sndV] ++ [y.map fl] ++ [[V.tup [V.int h, V.int l]]] ++ [(y ++ [(l, h)]).map fl] = H4 at st4 N4 hF4 hA4
    have hall : ∀ p ∈ y ++ [(l, h)], p.1 < p.2 ∧ p.2 < n := by
      intro p hp
      rcases List.mem_append.mp hp with hp | hp
      · have := hyf.1 p hp; exact ⟨this.1, this.2.1⟩
      · rw [List.mem_singleton.mp hp]; exact ⟨hlh, hhn⟩
    have hnd : ((y ++ [(l, h)]).map (·.2)).Nodup := by
      rw [List.map_append, List.nodup_append]
      refine ⟨hyf.2, by simp, ?_⟩
      intro x hx z hz
      obtain ⟨p, hp, rfl⟩ := List.mem_map.mp hx
      simp only [List.map_cons, List.map_nil, List.mem_singleton] at hz
      rw [hz]
      intro e
      exact hw (by unfold withHas; rw [hyD]; exact List.any_eq_true.mpr ⟨p, hp, by simpa using e⟩)
    rw [sorted_fl hF4 hall hn hnd]
    have hsl2 : (sortL (y ++ [(l, h)])).length = y.length + 1 := by rw [← (sortL_perm _).length_eq]; simp
    have eps : (sortL (y ++ [(l, h)])).map fl = ((sortL (y ++ [(l, h)])).map fun p => (V.int (p.2 : Int), V.int (p.1 : Int))).map fun p => V.tup [p.1, p.2] := by rw [List.map_map]; rfl
    refine comp_pure2 (ps := (sortL (y ++ [(l, h)])).map fun p => (V.int (p.2 : Int), V.int (p.1 : Int))) (g := fun p => .tup [p.2, p.1]) (by simp only [srcV, get_new]; rw [eps]) (by simp only [okV, get_new]; rw [eps]) (by simp; omega) rfl (fun p hp K' hK' => ?_) ?_
    · walk_at "wps"
      exact hK'
    have ez : ((sortL (y ++ [(l, h)])).map fun p => (V.int (p.2 : Int), V.int (p.1 : Int))).map (fun p => V.tup [p.2, p.1]) = (sortL (y ++ [(l, h)])).map pr := by rw [List.map_map]; rfl
    rw [ez]
    walk_at "wps"
    have N5 := (N4.app (xs := (sortL (y ++ [(l, h)])).map fl)).app (xs := (sortL (y ++ [(l, h)])).map pr)
    have st5 := (st4.app (xs := (sortL (y ++ [(l, h)])).map fl)).app (xs := (sortL (y ++ [(l, h)])).map pr)
    have hb5 : (H4 ++ [(sortL (y ++ [(l, h)])).map fl] ++ [(sortL (y ++ [(l, h)])).map pr])[(H4 ++ [(sortL (y ++ [(l, h)])).map fl]).length]? = some ((sortL (y ++ [(l, h)])).map pr) := get_new
    have hne5 : (H4 ++ [(sortL (y ++ [(l, h)])).map fl]).length ≠ A := by simp; omega
    obtain ⟨p1, N6⟩ := N5.put (i := i) (by rw [hlen2]; omega) hb5 ap2 hne5
    refine PutK_of p1 ?_
    have st6 := st5.set (a := A) (xs := (cs.set i (H4 ++ [(sortL (y ++ [(l, h)])).map fl]).length).map .lst) (.inr hAf)
    walk_at "wps"
    refine comp_keep N6 (by simp; omega) (by simp) rfl fun a' cs' H' N' st' _ => ?_
    walk_at "wps"
    refine hq a' cs' H' ?_ (st6.trans st' (by simp))
    unfold withN
    rw [if_neg hw, hyD]; exact N'
end
end Bn
namespace Bn
open PySem
section
variable {c : Cx} {q : Bool} {d : Nat} {Q : V → Hp → Prop} {E : XPost} {H : Hp}
theorem modN {a b : Nat} {K : V → Hp → Prop} (hb : 0 < b) : BinK .mod (.int a) (.int b) K H = K (.int ((a % b : Nat) : Int)) H := by
  rw [modK (by omega)]; simp
theorem divN {a b : Nat} {K : V → Hp → Prop} (hb : 0 < b) : BinK .div (.int a) (.int b) K H = K (.int ((a / b : Nat) : Int)) H := by
  rw [divK (by omega)]; simp
theorem slice_mid {a i j : Nat} {xs : List V} {K : V → Hp → Prop} (ha : H[a]? = some xs) (hij : i ≤ j) : SliceK (.lst a) (.int i) (.int j) K H = K (.lst H.length) (H ++ [(xs.drop i).take (j - i)]) := by
  have e : ∀ k : Nat, clampI (k : Int) xs.length = min k xs.length := fun k => by unfold clampI; rw [if_neg (by omega)]; simp
  have e2 : (xs.drop (min i xs.length)).take (min j xs.length - min i xs.length) = (xs.drop i).take (j - i) := by
    by_cases h : i ≤ xs.length
    · rw [Nat.min_eq_left h]
      apply List.ext_getElem?
      intro k
      rw [List.getElem?_take, List.getElem?_take, List.getElem?_drop]
      by_cases hk : i + k < xs.length
      · by_cases hj : k < j - i
        · rw [if_pos (by omega), if_pos hj]
        · rw [if_neg (by omega), if_neg hj]
      · rw [List.getElem?_eq_none (by omega)]; split <;> split <;> rfl
    · rw [List.drop_of_length_le (by omega), List.drop_of_length_le (by omega)]; simp
  simp only [SliceK, sliceV, ha, bound?, e, e2]
theorem meth_pop {a k : Nat} {xs : List V} {v : V} (ha : H[a]? = some xs) (hk : xs[k]? = some v) : methV H .pop (.lst a) [.int k] = some (v, H.set a (xs.eraseIdx k)) := by
  have h : (0 : Int) ≤ k := by omega
  simp only [methV, ha, h, if_true, Int.toNat_natCast, hk]
theorem NetAt.pop {a i k b : Nat} {bs : List Nat} {net : Net} {y : List (Nat × Nat)} (N : NetAt H a bs net) (hnd : (a :: bs).Nodup) (hb : bs[i]? = some b) (hy : net[i]? = some y) : NetAt (H.set b ((y.eraseIdx k).map pr)) a bs (net.set i (y.eraseIdx k)) := by
  rw [List.nodup_cons] at hnd
  have hbm := List.mem_of_getElem? hb
  refine ⟨get_set N.top (fun e => hnd.1 (e ▸ hbm)), by rw [List.length_set]; exact N.len, fun j r z h1 h2 => ?_⟩
  rw [List.getElem?_set] at h2
  by_cases e : i = j
  · subst e
    rw [if_pos rfl, if_pos (List.getElem?_eq_some_iff.mp hy).1] at h2
    rw [hb] at h1
    cases h1; cases h2
    exact get_put (N.lay i b y hb hy)
  · rw [if_neg e] at h2
    refine get_set (N.lay j r z h1 h2) fun er => e ?_
    have hi := (List.getElem?_eq_some_iff.mp hb).1
    have hj := (List.getElem?_eq_some_iff.mp h1).1
    rw [List.getElem?_eq_getElem hi] at hb
    rw [List.getElem?_eq_getElem hj] at h1
    cases hb; cases h1
    exact (List.getElem_inj hnd.2).mp er.symm
theorem map_erase {α β : Type} (f : α → β) (xs : List α) (k : Nat) : (xs.map f).eraseIdx k = (xs.eraseIdx k).map f := by
  rw [List.eraseIdx_eq_take_drop_succ, List.eraseIdx_eq_take_drop_succ]; simp [List.map_take, List.map_drop]
theorem NetAt.ofz {a : Nat} {zs : List (Nat × List (Nat × Nat))} (top : H[a]? = some ((zs.map (·.1)).map V.lst)) (h : ∀ p ∈ zs, H[p.1]? = some (p.2.map pr)) : NetAt H a (zs.map (·.1)) (zs.map (·.2)) := by
  refine ⟨top, by simp, fun i b y h1 h2 => ?_⟩
  rw [List.getElem?_map] at h1 h2
  obtain ⟨p, hp, rfl⟩ := Option.map_eq_some_iff.mp h1
  rw [hp] at h2
  cases h2
  exact h p (List.mem_of_getElem? hp)
theorem NetAt.zs {a : Nat} {bs : List Nat} {net : Net} (N : NetAt H a bs net) : ∃ zs : List (Nat × List (Nat × Nat)), zs.map (·.1) = bs ∧ zs.map (·.2) = net ∧ ∀ p ∈ zs, H[p.1]? = some (p.2.map pr) := by
  refine ⟨bs.zip net, List.map_fst_zip (by rw [N.len]; exact Nat.le_refl _), List.map_snd_zip (by rw [N.len]; exact Nat.le_refl _), fun p hp => ?_⟩
  obtain ⟨i, hi, e⟩ := List.mem_iff_getElem.mp hp
  have h1 : (bs.zip net)[i]? = some p := by rw [List.getElem?_eq_getElem hi, e]
  rw [List.getElem?_zip_eq_some] at h1
  exact N.lay i p.1 p.2 h1.1 h1.2
theorem s_bent (P : Has c "_law_bent" 2 8 p__law_bent) (PW : Has c "_law_with" 4 7 p__law_with) {a n N cell : Nat} {bs : List Nat} {net : Net} (A : NetAt H a bs net) (hn : n ≤ 64) (ho : okNet n net) (hz : net.length ≤ 79) (hN : ∀ x, lenN net x ≤ N) (hN1 : 1 ≤ N) (hc : q = true)
    (hq : ∀ a' bs' H' net', NetAt H' a' bs' net' → BentOk n N net' → Stay [] H H' → Q (.lst a') H') : Calls c q (d + 2) "_law_bent" [.lst a, .int cell] none Q E H := by
  subst hc
  have hsl : sizeLine = 2 ^ 24 := rfl
  refine P true (d + 1) _ Q E H rfl ?_
  unfold p__law_bent
  walk_at "wps"
  refine CmpK_of (cmp_eq (eq_net A.app (cs := []) (ys := []) ⟨get_new, rfl, by simp⟩)) ?_
  walk_at "wps"
  have st1 := (Stay.refl (S := []) (H := H)).app (xs := [])
  have A1 := A.app (xs := [])
  by_cases h0 : net = []
  · simp only [h0, decide_true, if_true]
    walk_at "wps"
    refine hq a bs _ net A1 ⟨ho, fun x => ?_⟩ st1
    refine Nat.le_trans (hN x) ?_
    have : N * 1 ≤ 4 * N * N := Nat.mul_le_mul (by omega) hN1
    omega
  · simp only [h0, decide_false, Bool.false_eq_true, if_false]
    have hnl : 0 < net.length := List.length_pos_iff.mpr h0
    have eAt : (cell : Int) / 6 % (net.length : Int) = ((cell / 6 % net.length : Nat) : Int) := by simp
    (try simp only [S_nil, S_cons, Then_next, Then_ret, S_set, S_unp, S_put, S_expr, S_ret, S_ite, S_whil, S_loop, IteK_eq, LoopB_one, LoopB_two, E_lit, E_var, E_tup, E_list, E_dict0, E_bin, E_neg, E_not, E_cmp, E_and, E_or, E_idx, E_slice, E_rev, E_call, E_blt, E_meth, E_isi, E_comp, L_nil, L_cons, A_cons, O_cons, C_cons, I_nil, I_cons, VarK_some, NegK_int, NotK_bool, truthP_bool, AndK_nil, AndK_cons, OrK_nil, OrK_cons, CmpR_nil, CmpR_cons, CmpK_lt, CmpK_le, CmpK_gt, CmpK_ge, CmpK_eqi, CmpK_nei, TestK_bool, BinK_addi, BinK_subi, CompS_one, CompS_two, List.getD_eq_getElem?_getD, List.getElem?_cons_zero, List.getElem?_cons_succ, Option.getD_some, Option.getD_none, List.map_cons, List.map_nil, List.cons_append, List.nil_append, List.replicate, List.set_cons_zero, List.set_cons_succ, Nat.sub_self, if_true, if_false, Bool.false_eq_true, Bool.not_true, Bool.not_false, decide_true, decide_false, decide_eq_true_eq, Bool.not_eq_true', true_and, divK (H := H ++ [[]]) (a := (cell : Int)) (b := 6) (by omega), len_lst A1.top, List.length_map, A.len, modK (H := H ++ [[]]) (a := (cell : Int) / 6) (b := (net.length : Int)) (by omega), eAt, divK (H := H ++ [[]]) (a := (cell : Int)) (b := 60) (by omega)])
    have hat : cell / 6 % net.length < net.length := Nat.mod_lt _ hnl
    generalize cell / 6 % net.length = i at hat
    obtain ⟨y, hy⟩ : ∃ y, net[i]? = some y := ⟨_, List.getElem?_eq_getElem hat⟩
    obtain ⟨b, hb, hbH, hbI⟩ := A1.at hy
    refine IdxK_of hbI ?_
    have hyo := ho.2 y (List.mem_of_getElem? hy)
    have hyl : 0 < y.length := List.length_pos_iff.mpr hyo.1
    have eSp : (cell : Int) / 60 % (y.length : Int) = ((cell / 60 % y.length : Nat) : Int) := by simp
    (try simp only [S_nil, S_cons, Then_next, Then_ret, S_set, S_unp, S_put, S_expr, S_ret, S_ite, S_whil, S_loop, IteK_eq, LoopB_one, LoopB_two, E_lit, E_var, E_tup, E_list, E_dict0, E_bin, E_neg, E_not, E_cmp, E_and, E_or, E_idx, E_slice, E_rev, E_call, E_blt, E_meth, E_isi, E_comp, L_nil, L_cons, A_cons, O_cons, C_cons, I_nil, I_cons, VarK_some, NegK_int, NotK_bool, truthP_bool, AndK_nil, AndK_cons, OrK_nil, OrK_cons, CmpR_nil, CmpR_cons, CmpK_lt, CmpK_le, CmpK_gt, CmpK_ge, CmpK_eqi, CmpK_nei, TestK_bool, BinK_addi, BinK_subi, CompS_one, CompS_two, List.getD_eq_getElem?_getD, List.getElem?_cons_zero, List.getElem?_cons_succ, Option.getD_some, Option.getD_none, List.map_cons, List.map_nil, List.cons_append, List.nil_append, List.replicate, List.set_cons_zero, List.set_cons_succ, Nat.sub_self, if_true, if_false, Bool.false_eq_true, Bool.not_true, Bool.not_false, decide_true, decide_false, decide_eq_true_eq, Bool.not_eq_true', true_and, len_lst hbH, List.length_map, modK (H := H ++ [[]]) (a := (cell : Int) / 60) (b := (y.length : Int)) (by omega), eSp])
    have hsp : cell / 60 % y.length < y.length := Nat.mod_lt _ hyl
    generalize cell / 60 % y.length = k at hsp
    refine IdxK_of hbI ?_
    obtain ⟨p, hp⟩ : ∃ p, y[k]? = some p := ⟨_, List.getElem?_eq_getElem hsp⟩
    obtain ⟨lo, hi⟩ := p
    refine IdxK_of (idx_lst hbH (x := pr (lo, hi)) (by rw [List.getElem?_map, hp]; rfl)) ?_
    have hpm := (rising_fair hyo.2).1 _ (List.mem_of_getElem? hp)
    simp only at hpm
    refine UnpK_of (l' := [some (.lst a), some (.int cell), some (.int i), some (.int k), some (.int lo), some (.int hi), none, none]) rfl ?_
    walk_at "wps"
    refine comp_layers A1 (by omega) (by simp) rfl fun a2 ts H2 A2 st2 fr2 nd2 => ?_
    obtain ⟨b2, hb2, hbH2, hbI2⟩ := A2.at hy
    walk_at "wps"
    refine IdxK_of hbI2 ?_
    (try simp only [S_nil, S_cons, Then_next, Then_ret, S_set, S_unp, S_put, S_expr, S_ret, S_ite, S_whil, S_loop, IteK_eq, LoopB_one, LoopB_two, E_lit, E_var, E_tup, E_list, E_dict0, E_bin, E_neg, E_not, E_cmp, E_and, E_or, E_idx, E_slice, E_rev, E_call, E_blt, E_meth, E_isi, E_comp, L_nil, L_cons, A_cons, O_cons, C_cons, I_nil, I_cons, VarK_some, NegK_int, NotK_bool, truthP_bool, AndK_nil, AndK_cons, OrK_nil, OrK_cons, CmpR_nil, CmpR_cons, CmpK_lt, CmpK_le, CmpK_gt, CmpK_ge, CmpK_eqi, CmpK_nei, TestK_bool, BinK_addi, BinK_subi, CompS_one, CompS_two, List.getD_eq_getElem?_getD, List.getElem?_cons_zero, List.getElem?_cons_succ, Option.getD_some, Option.getD_none, List.map_cons, List.map_nil, List.cons_append, List.nil_append, List.replicate, List.set_cons_zero, List.set_cons_succ, Nat.sub_self, if_true, if_false, Bool.false_eq_true, Bool.not_true, Bool.not_false, decide_true, decide_false, decide_eq_true_eq, Bool.not_eq_true', true_and, MethA_lst (H := H2) (m := .pop) (a := b2) (by decide)])
    refine MethK_of (meth_pop hbH2 (v := pr (lo, hi)) (by rw [List.getElem?_map, hp]; rfl)) ?_
    rw [show (y.map pr).eraseIdx k = (y.eraseIdx k).map pr from map_erase pr y k]
    have A3 := A2.pop (k := k) nd2 hb2 hy
    have hb2f : (H ++ [[]]).length ≤ b2 := fr2 b2 (List.mem_cons_of_mem _ (List.mem_of_getElem? hb2))
    have st3 : Stay [] H (H2.set b2 ((y.eraseIdx k).map pr)) := (st1.trans st2 (by simp)).set (.inr (by simp at hb2f; omega))
    have A3o : NetAt (H2.set b2 ((y.eraseIdx k).map pr)) a bs net := A.stay st3 (by simp)
    generalize H2.set b2 ((y.eraseIdx k).map pr) = H3 at A3 st3 A3o
    walk_at "wps"
    rw [modK (b := 6) (by omega)]
    walk_at "wps"
    by_cases c0 : (cell : Int) % 6 = 0
    · rw [if_pos c0]
      walk_at "wps"
      refine comp_keep A3 (by simp; omega) (by simp) rfl fun a' cs' H' N' st' _ => ?_
      walk_at "wps"
      exact hq a' cs' H' _ N' (bent0 ho hN hy) (st3.trans st' (by simp))
    rw [if_neg c0]
    walk_at "wps"
    rw [modK (b := 6) (by omega)]
    walk_at "wps"
    by_cases c1 : (cell : Int) % 6 = 1
    · rw [if_pos c1]
      have eL : (cell : Int) / 600 % (hi : Int) = ((cell / 600 % hi : Nat) : Int) := by simp
      have hlt : cell / 600 % hi < hi := Nat.mod_lt _ (by omega)
      (try simp only [S_nil, S_cons, Then_next, Then_ret, S_set, S_unp, S_put, S_expr, S_ret, S_ite, S_whil, S_loop, IteK_eq, LoopB_one, LoopB_two, E_lit, E_var, E_tup, E_list, E_dict0, E_bin, E_neg, E_not, E_cmp, E_and, E_or, E_idx, E_slice, E_rev, E_call, E_blt, E_meth, E_isi, E_comp, L_nil, L_cons, A_cons, O_cons, C_cons, I_nil, I_cons, VarK_some, NegK_int, NotK_bool, truthP_bool, AndK_nil, AndK_cons, OrK_nil, OrK_cons, CmpR_nil, CmpR_cons, CmpK_lt, CmpK_le, CmpK_gt, CmpK_ge, CmpK_eqi, CmpK_nei, TestK_bool, BinK_addi, BinK_subi, CompS_one, CompS_two, List.getD_eq_getElem?_getD, List.getElem?_cons_zero, List.getElem?_cons_succ, Option.getD_some, Option.getD_none, List.map_cons, List.map_nil, List.cons_append, List.nil_append, List.replicate, List.set_cons_zero, List.set_cons_succ, Nat.sub_self, if_true, if_false, Bool.false_eq_true, Bool.not_true, Bool.not_false, decide_true, decide_false, decide_eq_true_eq, Bool.not_eq_true', true_and, divK (H := H3) (a := (cell : Int)) (b := 600) (by omega), modK (H := H3) (a := (cell : Int) / 600) (b := (hi : Int)) (by omega), eL])
      refine s_with PW A3 (by simp; omega) (rise_less (ok_rise ho) hy k) (by simpa using hz) hlt hpm.2.1 hn rfl fun a' cs' H' N' st' => ?_
      exact hq a' cs' H' _ N' (bentW ho hz hN hy (by omega) (by omega) hlt hpm.2.1) (st3.trans st' (by simp))
    rw [if_neg c1]
    walk_at "wps"
    rw [modK (b := 6) (by omega)]
    walk_at "wps"
    by_cases c2 : (cell : Int) % 6 = 2
    · rw [if_pos c2]
      walk_at "wps"
      have em : BltK true .max [V.int 0, V.int ((i : Int) - 1)] = fun K H => K (.int ((i - 1 : Nat) : Int)) H := by
        funext K H
        simp only [BltK, bltV, true_and]
        have : (if (0 : Int) < (i : Int) - 1 then (i : Int) - 1 else 0) = ((i - 1 : Nat) : Int) := by split <;> omega
        rw [this]
      rw [em]
      refine s_with PW A3 (by simp; omega) (rise_less (ok_rise ho) hy k) (by simpa using hz) hpm.1 hpm.2.1 hn rfl fun a' cs' H' N' st' => ?_
      exact hq a' cs' H' _ N' (bentW ho hz hN hy (by omega) (by omega) hpm.1 hpm.2.1) (st3.trans st' (by simp))
    rw [if_neg c2]
    walk_at "wps"
    rw [modK (b := 6) (by omega)]
    walk_at "wps"
    by_cases c3 : (cell : Int) % 6 = 3
    · rw [if_pos c3]
      (try simp only [S_nil, S_cons, Then_next, Then_ret, S_set, S_unp, S_put, S_expr, S_ret, S_ite, S_whil, S_loop, IteK_eq, LoopB_one, LoopB_two, E_lit, E_var, E_tup, E_list, E_dict0, E_bin, E_neg, E_not, E_cmp, E_and, E_or, E_idx, E_slice, E_rev, E_call, E_blt, E_meth, E_isi, E_comp, L_nil, L_cons, A_cons, O_cons, C_cons, I_nil, I_cons, VarK_some, NegK_int, NotK_bool, truthP_bool, AndK_nil, AndK_cons, OrK_nil, OrK_cons, CmpR_nil, CmpR_cons, CmpK_lt, CmpK_le, CmpK_gt, CmpK_ge, CmpK_eqi, CmpK_nei, TestK_bool, BinK_addi, BinK_subi, CompS_one, CompS_two, List.getD_eq_getElem?_getD, List.getElem?_cons_zero, List.getElem?_cons_succ, Option.getD_some, Option.getD_none, List.map_cons, List.map_nil, List.cons_append, List.nil_append, List.replicate, List.set_cons_zero, List.set_cons_succ, Nat.sub_self, if_true, if_false, Bool.false_eq_true, Bool.not_true, Bool.not_false, decide_true, decide_false, decide_eq_true_eq, Bool.not_eq_true', true_and, len_lst A3o.top, List.length_map, A.len])
      have em : BltK true .min [V.int (net.length : Int), V.int ((i : Int) + 1)] = fun K H => K (.int ((i + 1 : Nat) : Int)) H := by
        funext K H
        simp only [BltK, bltV, true_and]
        have : (if ((i : Int) + 1) < (net.length : Int) then (i : Int) + 1 else (net.length : Int)) = ((i + 1 : Nat) : Int) := by split <;> omega
        rw [this]
      rw [em]
      refine s_with PW A3 (by simp; omega) (rise_less (ok_rise ho) hy k) (by simpa using hz) hpm.1 hpm.2.1 hn rfl fun a' cs' H' N' st' => ?_
      exact hq a' cs' H' _ N' (bentW ho hz hN hy (by omega) (by omega) hpm.1 hpm.2.1) (st3.trans st' (by simp))
    rw [if_neg c3]
    walk_at "wps"
    rw [modK (b := 6) (by omega)]
    walk_at "wps"
    by_cases c4 : (cell : Int) % 6 = 4
    · rw [if_pos c4]
      have eL : (cell : Int) / 600 % ((net.length : Int) + 1) = ((cell / 600 % (net.length + 1) : Nat) : Int) := by simp
      have hlt : cell / 600 % (net.length + 1) < net.length + 1 := Nat.mod_lt _ (by omega)
      (try simp only [S_nil, S_cons, Then_next, Then_ret, S_set, S_unp, S_put, S_expr, S_ret, S_ite, S_whil, S_loop, IteK_eq, LoopB_one, LoopB_two, E_lit, E_var, E_tup, E_list, E_dict0, E_bin, E_neg, E_not, E_cmp, E_and, E_or, E_idx, E_slice, E_rev, E_call, E_blt, E_meth, E_isi, E_comp, L_nil, L_cons, A_cons, O_cons, C_cons, I_nil, I_cons, VarK_some, NegK_int, NotK_bool, truthP_bool, AndK_nil, AndK_cons, OrK_nil, OrK_cons, CmpR_nil, CmpR_cons, CmpK_lt, CmpK_le, CmpK_gt, CmpK_ge, CmpK_eqi, CmpK_nei, TestK_bool, BinK_addi, BinK_subi, CompS_one, CompS_two, List.getD_eq_getElem?_getD, List.getElem?_cons_zero, List.getElem?_cons_succ, Option.getD_some, Option.getD_none, List.map_cons, List.map_nil, List.cons_append, List.nil_append, List.replicate, List.set_cons_zero, List.set_cons_succ, Nat.sub_self, if_true, if_false, Bool.false_eq_true, Bool.not_true, Bool.not_false, decide_true, decide_false, decide_eq_true_eq, Bool.not_eq_true', true_and, divK (H := H3) (a := (cell : Int)) (b := 600) (by omega), len_lst A3o.top, List.length_map, A.len, modK (H := H3) (a := (cell : Int) / 600) (b := (net.length : Int) + 1) (by omega), eL])
      refine s_with PW A3o (by omega) (ok_rise ho) hz hpm.1 hpm.2.1 hn rfl fun a' cs' H' N' st' => ?_
      exact hq a' cs' H' _ N' (bent4 ho hz hN hpm.1 hpm.2.1) (st3.trans st' (by simp))
    rw [if_neg c4]
    walk_at "wps"
    have hbz : bs.length ≤ 79 := by rw [A.len]; exact hz
    rw [slice_to A3o.top]
    rw [show (i : Int) + 1 = ((i + 1 : Nat) : Int) by omega, show (i : Int) + 2 = ((i + 2 : Nat) : Int) by omega]
    rw [slice_mid (get_app A3o.top) (by omega), show i + 2 - (i + 1) = 1 by omega]
    rw [add_lst (get_app get_new) get_new (by simp; omega)]
    generalize hH4 : H3 ++ [(bs.map V.lst).take i] ++ [((bs.map V.lst).drop (i + 1)).take 1] = H4
    have A4 : NetAt H4 a bs net := by rw [← hH4]; exact A3o.app.app
    have st4 : Stay [] H H4 := by rw [← hH4]; exact st3.app.app
    obtain ⟨b4, hb4, hbH4, hbI4⟩ := (A4.app (xs := (bs.map V.lst).take i ++ ((bs.map V.lst).drop (i + 1)).take 1)).at hy
    refine IdxK_of hbI4 ?_
    rw [add_lst (get_app get_new) get_new (by simp; omega)]
    generalize hH5 : H4 ++ [(bs.map V.lst).take i ++ ((bs.map V.lst).drop (i + 1)).take 1] ++ [[V.lst b4]] = H5
    have A5 : NetAt H5 a bs net := by rw [← hH5]; exact A4.app.app
    have st5 : Stay [] H H5 := by rw [← hH5]; exact st4.app.app
    rw [slice_from (get_app A5.top)]
    rw [add_lst (get_app get_new) get_new (by simp; omega)]
    have A6 := A5.app (xs := (bs.map V.lst).take i ++ ((bs.map V.lst).drop (i + 1)).take 1 ++ [V.lst b4]) |>.app (xs := (bs.map V.lst).drop (i + 2)) |>.app (xs := (bs.map V.lst).take i ++ ((bs.map V.lst).drop (i + 1)).take 1 ++ [V.lst b4] ++ (bs.map V.lst).drop (i + 2))
    have st6 := st5.app (xs := (bs.map V.lst).take i ++ ((bs.map V.lst).drop (i + 1)).take 1 ++ [V.lst b4]) |>.app (xs := (bs.map V.lst).drop (i + 2)) |>.app (xs := (bs.map V.lst).take i ++ ((bs.map V.lst).drop (i + 1)).take 1 ++ [V.lst b4] ++ (bs.map V.lst).drop (i + 2))
    obtain ⟨zs, z1, z2, z3⟩ := A6.zs
    have hzi : H5[b4]? = some (y.map pr) := by rw [← hH5]; exact get_app hbH4
    have hn' : net.take i ++ (net.drop (i + 1)).take 1 ++ [y] ++ net.drop (i + 2) = (zs.take i ++ (zs.drop (i + 1)).take 1 ++ [(b4, y)] ++ zs.drop (i + 2)).map (·.2) := by
      rw [← z2]; simp [List.map_take, List.map_drop]
    walk_at "wps"
    refine hq _ _ _ _ (NetAt.ofz (zs := zs.take i ++ (zs.drop (i + 1)).take 1 ++ [(b4, y)] ++ zs.drop (i + 2)) ?_ ?_) (by rw [← hn']; exact bent5 ho hN hy) st6
    · rw [get_new, ← z1]
      simp [List.map_take, List.map_drop]
    · intro p hp
      simp only [List.mem_append, List.mem_singleton] at hp
      rcases hp with ((hp | hp) | hp) | hp
      · exact z3 p (List.mem_of_mem_take hp)
      · exact z3 p (List.mem_of_mem_drop (List.mem_of_mem_take hp))
      · rw [hp]; exact get_app (get_app (get_app hzi))
      · exact z3 p (List.mem_of_mem_drop hp)
end
end Bn
namespace Bn
open PySem
section
variable {c : Cx} {q : Bool} {d : Nat} {Q : V → Hp → Prop} {E : XPost} {H : Hp}
theorem NetAt.append {a b a' : Nat} {bs cs : List Nat} {x y : Net} {H' : Hp} (N : NetAt H a bs x) (M : NetAt H b cs y) (top : H'[a']? = some ((bs ++ cs).map V.lst)) (keep : ∀ (x : Nat) (z : List V), H[x]? = some z → H'[x]? = some z) : NetAt H' a' (bs ++ cs) (x ++ y) := by
  obtain ⟨zs, z1, z2, z3⟩ := N.zs
  obtain ⟨ws, w1, w2, w3⟩ := M.zs
  have : NetAt H' a' ((zs ++ ws).map (·.1)) ((zs ++ ws).map (·.2)) := by
    refine NetAt.ofz ?_ ?_
    · rw [top, ← z1, ← w1]; simp
    · intro p hp
      rcases List.mem_append.mp hp with hp | hp
      · exact keep _ _ (z3 p hp)
      · exact keep _ _ (w3 p hp)
  rw [List.map_append, List.map_append, z1, z2, w1, w2] at this
  exact this
theorem comp_block {v i j h : Nat} {ls : List Nat} {l : Loc} {K : V → Hp → Prop} (hv : H[v]? = some (ls.map nat)) (hn : ls.length < 1000000) (hi : i < l.length) (hij : j ≠ i) (hj : l.getD j none = some (.int h)) (hc : q = true)
    (hq : ∀ a bs H', NetAt H' a bs (blockN (h, ls)) → Stay [] H H' → H.length ≤ a → K (.lst a) H') :
    CompK (Calls c) q d (.one i) [] (.list [(.tup [(.var i), (.var j)])]) l K (.lst v) H := by
  subst hc
  have hsl : sizeLine = 2 ^ 24 := rfl
  refine CompK_of (items := ls.map nat) (by simp only [srcV, hv]) rfl (by simp; omega) ?_
  refine wpIter_rule (I := fun k acc H' => ∃ zs : List (Nat × List (Nat × Nat)), acc = (zs.map (·.1)).map .lst ∧ Stay [] H H' ∧ zs.map (·.2) = blockN (h, ls.take k) ∧ ∀ p ∈ zs, H'[p.1]? = some (p.2.map pr)) ?_ ?_ ⟨[], rfl, Stay.refl, by simp [blockN], by simp⟩
  · rintro k x acc H' K' hx ⟨zs, rfl, st, hz, hzs⟩ hK
    rw [List.getElem?_map] at hx
    obtain ⟨y, hy, rfl⟩ := Option.map_eq_some_iff.mp hx
    rw [CompS_one]
    have e : (l.set i (some (nat y))).getD i none = some (nat y) := by simp [List.getD_eq_getElem?_getD, hi]
    have e2 : (l.set i (some (nat y))).getD j none = some (.int h) := by
      rw [List.getD_eq_getElem?_getD, List.getElem?_set_ne (Ne.symm hij), ← List.getD_eq_getElem?_getD]; exact hj
    simp only [I_nil, if_true, E_list, E_tup, L_cons, L_nil, E_var, e, e2, VarK_some]
    refine hK _ _ (by simp only [okV]; exact st.app.at hv (by simp)) ⟨zs ++ [(H'.length, [(y, h)])], by simp, st.app, ?_, ?_⟩
    · rw [List.map_append, hz, List.take_add_one, hy]; simp [blockN]
    · intro p hp
      rcases List.mem_append.mp hp with hp | hp
      · exact get_app (hzs p hp)
      · rw [List.mem_singleton.mp hp]; exact get_new
  · rintro acc H' ⟨zs, rfl, st, hz, hzs⟩
    rw [List.length_map, List.take_length] at hz
    refine hq _ (zs.map (·.1)) _ ?_ st.app st.len
    rw [← hz]
    exact NetAt.ofz get_new fun p hp => get_app (hzs p hp)
theorem rev_lst {a : Nat} {xs : List V} {K : V → Hp → Prop} (h : H[a]? = some xs) : RevK (.lst a) K H = K (.lst H.length) (H ++ [xs.reverse]) := by
  simp only [RevK, revV, h]
structure Blocks (n k : Nat) (bl : List (Nat × List Nat)) : Prop where
  len : bl.length = k
  at' : ∀ (i : Nat) (p : Nat × List Nat), bl[i]? = some p → p.1 + i + 1 = n ∧ p.2.length = p.1 ∧ ∀ l ∈ p.2, l < p.1
  tot : (bl.flatMap blockN).length + tri (n - 1 - k) = tri (n - 1)
theorem Blocks.ok {n k : Nat} {bl : List (Nat × List Nat)} (B : Blocks n k bl) (hn : n ≤ 12) : okNet n (bl.flatMap blockN) := by
  refine ⟨by have := B.tot; have := tri_le (n - 1) (by omega); omega, fun y hy => ?_⟩
  obtain ⟨p, hp, hy⟩ := List.mem_flatMap.mp hy
  obtain ⟨l, hl, rfl⟩ := List.mem_map.mp hy
  obtain ⟨i, hi, e⟩ := List.mem_iff_getElem.mp hp
  obtain ⟨h1, h2, h3⟩ := B.at' i p (by rw [List.getElem?_eq_getElem hi, e])
  exact ok_one (h3 l hl) (by omega)
theorem Blocks.long {n k : Nat} {bl : List (Nat × List Nat)} (B : Blocks n k bl) (hn : n ≤ 12) (x : Nat) : lenN (bl.flatMap blockN) x ≤ 12 := by
  have := slow_len (M := 11) (bs := bl) (h := n) (σ := fun _ => 1) (fun i p hp => ⟨(B.at' i p hp).1, (B.at' i p hp).2.2⟩) (fun i p hp => by have := B.at' i p hp; omega) (fun _ _ => rfl) (fun _ => by omega) x
  exact this
theorem s_slow (P : Has c "_law_slow" 2 8 p__law_slow) {n cell : Nat} (hn1 : 1 ≤ n) (hn : n ≤ 12) (hc : q = true)
    (hq : ∀ a bs H' net, NetAt H' a bs net → okNet n net → (∀ x, lenN net x ≤ 12) → Stay [] H H' → Q (.lst a) H') : Calls c q (d + 1) "_law_slow" [.int n, .int cell] none Q E H := by
  subst hc
  have hsl : sizeLine = 2 ^ 24 := rfl
  refine P true d _ Q E H rfl ?_
  unfold p__law_slow
  have en : ((n : Int) - 1) = ((n - 1 : Nat) : Int) := by omega
  (try simp only [S_nil, S_cons, Then_next, Then_ret, S_set, S_unp, S_put, S_expr, S_ret, S_ite, S_whil, S_loop, IteK_eq, LoopB_one, LoopB_two, E_lit, E_var, E_tup, E_list, E_dict0, E_bin, E_neg, E_not, E_cmp, E_and, E_or, E_idx, E_slice, E_rev, E_call, E_blt, E_meth, E_isi, E_comp, L_nil, L_cons, A_cons, O_cons, C_cons, I_nil, I_cons, VarK_some, NegK_int, NotK_bool, truthP_bool, AndK_nil, AndK_cons, OrK_nil, OrK_cons, CmpR_nil, CmpR_cons, CmpK_lt, CmpK_le, CmpK_gt, CmpK_ge, CmpK_eqi, CmpK_nei, TestK_bool, BinK_addi, BinK_subi, CompS_one, CompS_two, List.getD_eq_getElem?_getD, List.getElem?_cons_zero, List.getElem?_cons_succ, Option.getD_some, Option.getD_none, List.map_cons, List.map_nil, List.cons_append, List.nil_append, List.replicate, List.set_cons_zero, List.set_cons_succ, Nat.sub_self, if_true, if_false, Bool.false_eq_true, Bool.not_true, Bool.not_false, decide_true, decide_false, decide_eq_true_eq, Bool.not_eq_true', true_and, en])
  refine Sr_val (v := .rng 0 ((n - 1 : Nat) : Int) 1) (items := (List.range (n - 1)).map nat) (fun K E' h => by (try simp only [S_nil, S_cons, Then_next, Then_ret, S_set, S_unp, S_put, S_expr, S_ret, S_ite, S_whil, S_loop, IteK_eq, LoopB_one, LoopB_two, E_lit, E_var, E_tup, E_list, E_dict0, E_bin, E_neg, E_not, E_cmp, E_and, E_or, E_idx, E_slice, E_rev, E_call, E_blt, E_meth, E_isi, E_comp, L_nil, L_cons, A_cons, O_cons, C_cons, I_nil, I_cons, VarK_some, NegK_int, NotK_bool, truthP_bool, AndK_nil, AndK_cons, OrK_nil, OrK_cons, CmpR_nil, CmpR_cons, CmpK_lt, CmpK_le, CmpK_gt, CmpK_ge, CmpK_eqi, CmpK_nei, TestK_bool, BinK_addi, BinK_subi, CompS_one, CompS_two, List.getD_eq_getElem?_getD, List.getElem?_cons_zero, List.getElem?_cons_succ, Option.getD_some, Option.getD_none, List.map_cons, List.map_nil, List.cons_append, List.nil_append, List.replicate, List.set_cons_zero, List.set_cons_succ, Nat.sub_self, if_true, if_false, Bool.false_eq_true, Bool.not_true, Bool.not_false, decide_true, decide_false, decide_eq_true_eq, Bool.not_eq_true', true_and, en, range_nat (H := H ++ [[]]) (n := n - 1) (by omega)]); exact h) (by simp only [srcV, rangeL_nat]) ?_
  unfold LoopI
  refine wpFor_rule (I := fun k l' H' => ∃ v3 v4 v5 v6 nt bs bl, l' = [some (.int n), some (.int cell), some (.lst nt), v3, v4, v5, v6, none] ∧ NetAt H' nt bs (bl.flatMap blockN) ∧ Blocks n k bl ∧ Stay [] H H') ?_ ?_ ⟨none, none, none, none, H.length, [], [], rfl, ⟨get_new, rfl, by simp⟩, ⟨rfl, by simp, by simp⟩, Stay.refl.app⟩
  · rintro k x l' H' K hx ⟨v3, v4, v5, v6, nt, bs, bl, rfl, N, B, st⟩ hnext hret
    have hk : k < n - 1 := by have := (List.getElem?_eq_some_iff.mp hx).1; simpa using this
    rw [List.getElem?_map, List.getElem?_range hk] at hx
    cases hx
    unfold nat
    have eh : ((n : Int) - 1 - (k : Int)) = ((n - 1 - k : Nat) : Int) := by omega
    (try simp only [S_nil, S_cons, Then_next, Then_ret, S_set, S_unp, S_put, S_expr, S_ret, S_ite, S_whil, S_loop, IteK_eq, LoopB_one, LoopB_two, E_lit, E_var, E_tup, E_list, E_dict0, E_bin, E_neg, E_not, E_cmp, E_and, E_or, E_idx, E_slice, E_rev, E_call, E_blt, E_meth, E_isi, E_comp, L_nil, L_cons, A_cons, O_cons, C_cons, I_nil, I_cons, VarK_some, NegK_int, NotK_bool, truthP_bool, AndK_nil, AndK_cons, OrK_nil, OrK_cons, CmpR_nil, CmpR_cons, CmpK_lt, CmpK_le, CmpK_gt, CmpK_ge, CmpK_eqi, CmpK_nei, TestK_bool, BinK_addi, BinK_subi, CompS_one, CompS_two, List.getD_eq_getElem?_getD, List.getElem?_cons_zero, List.getElem?_cons_succ, Option.getD_some, Option.getD_none, List.map_cons, List.map_nil, List.cons_append, List.nil_append, List.replicate, List.set_cons_zero, List.set_cons_succ, Nat.sub_self, if_true, if_false, Bool.false_eq_true, Bool.not_true, Bool.not_false, decide_true, decide_false, decide_eq_true_eq, Bool.not_eq_true', true_and, eh])
    generalize hh : n - 1 - k = h
    have hh1 : 1 ≤ h := by omega
    (try simp only [S_nil, S_cons, Then_next, Then_ret, S_set, S_unp, S_put, S_expr, S_ret, S_ite, S_whil, S_loop, IteK_eq, LoopB_one, LoopB_two, E_lit, E_var, E_tup, E_list, E_dict0, E_bin, E_neg, E_not, E_cmp, E_and, E_or, E_idx, E_slice, E_rev, E_call, E_blt, E_meth, E_isi, E_comp, L_nil, L_cons, A_cons, O_cons, C_cons, I_nil, I_cons, VarK_some, NegK_int, NotK_bool, truthP_bool, AndK_nil, AndK_cons, OrK_nil, OrK_cons, CmpR_nil, CmpR_cons, CmpK_lt, CmpK_le, CmpK_gt, CmpK_ge, CmpK_eqi, CmpK_nei, TestK_bool, BinK_addi, BinK_subi, CompS_one, CompS_two, List.getD_eq_getElem?_getD, List.getElem?_cons_zero, List.getElem?_cons_succ, Option.getD_some, Option.getD_none, List.map_cons, List.map_nil, List.cons_append, List.nil_append, List.replicate, List.set_cons_zero, List.set_cons_succ, Nat.sub_self, if_true, if_false, Bool.false_eq_true, Bool.not_true, Bool.not_false, decide_true, decide_false, decide_eq_true_eq, Bool.not_eq_true', true_and, range_nat (H := H') (n := h) (by omega), list_range (H := H') (n := h) (by omega)])
    rw [rev_lst get_new]
    walk_at "wps"
    have hrev : ((List.range h).map nat).reverse = ((List.range h).reverse).map nat := by rw [List.map_reverse]
    rw [hrev]
    have fin : ∀ (v5 : Nat) (ls : List Nat) (v6 : Option V) (H2 : Hp), H2[v5]? = some (ls.map nat) → ls.length = h → (∀ x ∈ ls, x < h) → NetAt H2 nt bs (bl.flatMap blockN) → Stay [] H H2 →
        CompK (Calls c) true d (.one 7) [] (.list [(.tup [(.var 7), (.var 4)])]) [some (V.int n), some (V.int cell), some (V.lst nt), some (V.int k), some (V.int h), some (V.lst v5), v6, none] (fun y H_1 => BinK .add (.lst nt) y (fun v H_2 => K .next [some (V.int n), some (V.int cell), some v, some (V.int k), some (V.int h), some (V.lst v5), v6, none] H_2) H_1) (.lst v5) H2 := by
      intro v5 ls v6 H2 hv hl hls N2 st2
      refine comp_block hv (by omega) (by simp) (by decide) rfl rfl fun a' cs H3 N3 st3 _ => ?_
      have N2' := N2.stay st3 (by simp)
      have htot := B.tot
      have ht := tri_le (n - 1) (by omega)
      have hz2 : bs.length ≤ 66 := by rw [N.len]; omega
      have hz3 : cs.length = h := by rw [N3.len]; simp [blockN, hl]
      rw [add_lst N2'.top N3.top (by simp; omega)]
      refine hnext _ _ trivial ⟨_, _, _, _, _, bs ++ cs, bl ++ [(h, ls)], rfl, ?_, ⟨by simp [B.len], ?_, ?_⟩, (st2.trans st3 (by simp)).app⟩
      · rw [List.flatMap_append]
        have : [(h, ls)].flatMap blockN = blockN (h, ls) := by simp
        rw [this]
        exact N2'.append N3 (by rw [get_new]; simp) (fun x z hx => get_app hx)
      · intro i p hp
        by_cases hi : i < bl.length
        · rw [List.getElem?_append_left hi] at hp
          exact B.at' i p hp
        · have : i = bl.length := by
            have := (List.getElem?_eq_some_iff.mp hp).1
            simp at this; omega
          subst this
          simp only [List.getElem?_concat_length, Option.some.injEq] at hp
          subst hp
          have := B.len
          exact ⟨by show h + bl.length + 1 = n; omega, hl, hls⟩
      · rw [List.flatMap_append, List.length_append]
        have e1 : ([(h, ls)].flatMap blockN).length = h := by simp [blockN, hl]
        have e2 : tri (n - 1 - k) = h + tri (n - 1 - (k + 1)) := by
          rw [show n - 1 - k = (n - 1 - (k + 1)) + 1 by omega, tri]; omega
        omega
    have N1 := (N.app (xs := (List.range h).map nat)).app (xs := ((List.range h).reverse).map nat)
    have st1 := (st.app (xs := (List.range h).map nat)).app (xs := ((List.range h).reverse).map nat)
    have hv1 : (H' ++ [(List.range h).map nat] ++ [((List.range h).reverse).map nat])[(H' ++ [(List.range h).map nat]).length]? = some (((List.range h).reverse).map nat) := get_new
    generalize (H' ++ [(List.range h).map nat]).length = v5' at hv1
    generalize H' ++ [(List.range h).map nat] ++ [((List.range h).reverse).map nat] = H1 at N1 st1 hv1
    have plain : CompK (Calls c) true d (.one 7) [] (.list [(.tup [(.var 7), (.var 4)])]) [some (V.int n), some (V.int cell), some (V.lst nt), some (V.int k), some (V.int h), some (V.lst v5'), v6, none] (fun y H_1 => BinK .add (.lst nt) y (fun v H_2 => K .next [some (V.int n), some (V.int cell), some v, some (V.int k), some (V.int h), some (V.lst v5'), v6, none] H_2) H_1) (.lst v5') H1 :=
      fin v5' _ v6 H1 hv1 (by simp) (by simp) N1 st1
    (try simp only [S_nil, S_cons, Then_next, Then_ret, S_set, S_unp, S_put, S_expr, S_ret, S_ite, S_whil, S_loop, IteK_eq, LoopB_one, LoopB_two, E_lit, E_var, E_tup, E_list, E_dict0, E_bin, E_neg, E_not, E_cmp, E_and, E_or, E_idx, E_slice, E_rev, E_call, E_blt, E_meth, E_isi, E_comp, L_nil, L_cons, A_cons, O_cons, C_cons, I_nil, I_cons, VarK_some, NegK_int, NotK_bool, truthP_bool, AndK_nil, AndK_cons, OrK_nil, OrK_cons, CmpR_nil, CmpR_cons, CmpK_lt, CmpK_le, CmpK_gt, CmpK_ge, CmpK_eqi, CmpK_nei, TestK_bool, BinK_addi, BinK_subi, CompS_one, CompS_two, List.getD_eq_getElem?_getD, List.getElem?_cons_zero, List.getElem?_cons_succ, Option.getD_some, Option.getD_none, List.map_cons, List.map_nil, List.cons_append, List.nil_append, List.replicate, List.set_cons_zero, List.set_cons_succ, Nat.sub_self, if_true, if_false, Bool.false_eq_true, Bool.not_true, Bool.not_false, decide_true, decide_false, decide_eq_true_eq, Bool.not_eq_true', true_and, divK (H := H1) (a := (cell : Int)) (b := 1 + (h : Int)) (by omega), modK (H := H1) (a := (cell : Int) / (1 + (h : Int))) (b := 4) (by omega)])
    by_cases c1 : (cell : Int) / (1 + (h : Int)) % 4 = 1
    · simp only [c1, decide_true, if_true]
      walk_at "wps"
      by_cases c2 : (h : Int) > 1
      · simp only [c2, decide_true, if_true]
        walk_at "wps"
        have hm : (h : Int) - 1 = ((h - 1 : Nat) : Int) := by omega
        have hd4 : (4 : Int) + (h : Int) = ((4 + h : Nat) : Int) := by omega
        rw [hm, hd4, divN (by omega), modN (by omega)]
        have hi : cell / (4 + h) % (h - 1) < h - 1 := Nat.mod_lt _ (by omega)
        generalize cell / (4 + h) % (h - 1) = i at hi
        generalize hL : (List.range h).reverse = L at hv1
        have hLl : L.length = h := by rw [← hL]; simp
        have hLm : ∀ x ∈ L, x < h := by rw [← hL]; simp
        obtain ⟨x1, hx1⟩ : ∃ x, L[i + 1]? = some x := ⟨_, List.getElem?_eq_getElem (by omega)⟩
        obtain ⟨x0, hx0⟩ : ∃ x, L[i]? = some x := ⟨_, List.getElem?_eq_getElem (by omega)⟩
        rw [slice_to hv1, BinK_addi]
        rw [show (i : Int) + 1 = ((i + 1 : Nat) : Int) by omega]
        refine IdxK_of (idx_nat (get_app hv1) hx1) ?_
        refine IdxK_of (idx_nat (get_app hv1) hx0) ?_
        rw [add_lst (get_app get_new) get_new (by simp; omega), BinK_addi]
        rw [show (i : Int) + 2 = ((i + 2 : Nat) : Int) by omega]
        rw [slice_from (get_app (get_app (get_app hv1)))]
        rw [add_lst (get_app get_new) get_new (by simp; omega)]
        refine fin _ (L.take i ++ [x1, x0] ++ L.drop (i + 2)) _ _ ?_ ?_ ?_ N1.app.app.app.app.app st1.app.app.app.app.app
        · rw [get_new]; simp [nat, List.map_take, List.map_drop]
        · simp; omega
        · intro x hx
          simp only [List.mem_append, List.mem_cons, List.not_mem_nil, or_false] at hx
          rcases hx with (hx | hx | hx) | hx
          · exact hLm x (List.mem_of_mem_take hx)
          · rw [hx]; exact hLm _ (List.mem_of_getElem? hx1)
          · rw [hx]; exact hLm _ (List.mem_of_getElem? hx0)
          · exact hLm x (List.mem_of_mem_drop hx)
      · simp only [c2, decide_false]
        walk_at "wps"
        exact plain
    · simp only [c1, decide_false]
      walk_at "wps"
      exact plain
  · rintro l' H' ⟨v3, v4, v5, v6, nt, bs, bl, rfl, N, B, st⟩
    walk_at "wps"
    exact hq nt bs H' _ N (B.ok hn) (B.long hn) st
end
end Bn
namespace Bn
open PySem
section
variable {c : Cx} {q : Bool} {d : Nat} {Q : V → Hp → Prop} {E : XPost} {H : Hp}
theorem eq_gr {a b : Nat} {bs cs : List Nat} {xs ys : List (List Nat)} (ha : GrAt H a bs xs) (hb : GrAt H b cs ys) : eqV H (.lst a) (.lst b) = some (decide (xs = ys)) := by
  have key : ∀ {a : Nat} {bs : List Nat} {xs : List (List Nat)}, GrAt H a bs xs → toP 9 H (.lst a) = some (listP (listP natP) xs) := by
    intro a bs xs G
    refine toP_lists G.top (by simp [G.len]) fun i b y h1 h2 => ?_
    rw [List.getElem?_map] at h1
    obtain ⟨b', hb, rfl⟩ := Option.map_eq_some_iff.mp h1
    exact toP_row (G.gr i b' y hb h2)
  exact eqV_of eqP_nat.list.list (key ha) (key hb)
theorem eq_bool {a b : Bool} : eqV H (.bool a) (.bool b) = some (decide (a = b)) := by
  have : eqV H (.bool a) (.bool b) = some (PyData.eqv (.bool a) (.bool b)) := rfl
  rw [this]
  cases a <;> cases b <;> rfl
theorem GrAt.ofz {a : Nat} {zs : List (Nat × List Nat)} (top : H[a]? = some ((zs.map (·.1)).map V.lst)) (h : ∀ p ∈ zs, H[p.1]? = some (p.2.map nat)) : GrAt H a (zs.map (·.1)) (zs.map (·.2)) := by
  refine ⟨top, by simp, fun i b y h1 h2 => ?_⟩
  rw [List.getElem?_map] at h1 h2
  obtain ⟨p, hp, rfl⟩ := Option.map_eq_some_iff.mp h1
  rw [hp] at h2
  cases h2
  exact h p (List.mem_of_getElem? hp)
theorem comp_ranges {n i : Nat} {l : Loc} {K : V → Hp → Prop} (hn : n < 100000) (hi : i < l.length) (hc : q = true) (hq : ∀ a rs H', GrAt H' a rs (rowL n fun x => List.range (x + 1)) → Stay [] H H' → H.length ≤ a → K (.lst a) H') :
    CompK (Calls c) q d (.one i) [] (.blt .list [(.blt .range [(.bin .add (.var i) (.lit (.int 1)))])]) l K (.rng 0 n 1) H := by
  subst hc
  have hsl : sizeLine = 2 ^ 24 := rfl
  refine CompK_of (items := (List.range n).map nat) (by simp only [srcV, rangeL_nat]) rfl (by simp; omega) ?_
  refine wpIter_rule (I := fun k acc H' => ∃ zs : List (Nat × List Nat), acc = (zs.map (·.1)).map .lst ∧ Stay [] H H' ∧ zs.map (·.2) = rowL k (fun x => List.range (x + 1)) ∧ ∀ p ∈ zs, H'[p.1]? = some (p.2.map nat)) ?_ ?_ ⟨[], rfl, Stay.refl, rfl, by simp⟩
  · rintro k x acc H' K' hx ⟨zs, rfl, st, hz, hzs⟩ hK
    have hk : k < n := by have := (List.getElem?_eq_some_iff.mp hx).1; simpa using this
    rw [List.getElem?_map, List.getElem?_range hk] at hx
    cases hx
    rw [CompS_one]
    have e : (l.set i (some (V.int (k : Int)))).getD i none = some (V.int (k : Int)) := by simp [List.getD_eq_getElem?_getD, hi]
    simp only [I_nil, if_true, E_blt, E_bin, E_lit, L_cons, L_nil, E_var, nat]
    rw [e, VarK_some, BinK_addi]
    rw [show (k : Int) + 1 = ((k + 1 : Nat) : Int) by omega, range_nat (by omega), list_range (by omega)]
    refine hK _ _ trivial ⟨zs ++ [(H'.length, List.range (k + 1))], by simp, st.app, ?_, ?_⟩
    · rw [List.map_append, hz]; simp [rowL, List.range_succ]
    · intro p hp
      rcases List.mem_append.mp hp with hp | hp
      · exact get_app (hzs p hp)
      · rw [List.mem_singleton.mp hp]; exact get_new
  · rintro acc H' ⟨zs, rfl, st, hz, hzs⟩
    rw [List.length_map, List.length_range] at hz
    refine hq _ (zs.map (·.1)) _ ?_ st.app st.len
    rw [← hz]
    exact GrAt.ofz get_new fun p hp => get_app (hzs p hp)
def law4b : List St := [.loop (.one 6) (.val (.blt .range [(.var 1)])) [.ite (.cmp (.idx (.var 8) (.var 6)) [.ne] [(.bin .add (.idx (.var 5) (.var 6)) (.list [(.bin .add (.lit (.int 1000)) (.var 6))]))]) [.ret (.lit (.bool false))] []],
  .ret (.and [(.cmp (.call "rows" [(.var 1), (.var 7)]) [.eq] [(.var 5)]), (.cmp (.call "tells" [(.var 1), (.var 7)]) [.eq] [(.var 4)])])]
def law4a : List St := .loop (.one 6) (.val (.blt .range [(.var 1)])) [.ite (.or [(.not (.isi (.idx (.var 8) (.var 6)) .list)), (.not (.blt .all [(.comp (.call "_law_whole" [(.var 10)]) (.one 10) (.idx (.var 8) (.var 6)) [])]))]) [.ret (.lit (.bool false))] [], .expr (.meth .append (.idx (.var 8) (.var 6)) [(.bin .add (.lit (.int 1000)) (.var 6))])] :: law4b
def law4c : List St := [.set 5 (.call "_law_due" [(.var 1), (.var 2)]), .set 4 (.or [(.var 4), (.cmp (.var 5) [.eq] [(.comp (.blt .list [(.blt .range [(.bin .add (.var 10) (.lit (.int 1)))])]) (.one 10) (.blt .range [(.var 1)]) [])])]), .set 7 (.comp (.blt .list [(.var 10)]) (.one 10) (.var 2) []), .set 8 (.call "rows" [(.var 1), (.var 7)]), .set 9 (.call "tells" [(.var 1), (.var 7)]), .ite (.or [(.not (.isi (.var 8) .list)), (.cmp (.var 8) [.ne] [(.var 5)]), (.not (.isi (.var 9) .bool)), (.cmp (.var 9) [.ne] [(.var 4)]), (.cmp (.var 7) [.ne] [(.var 2)])]) [.ret (.lit (.bool false))] []] ++ law4a
def law4d : List St := [.ite (.cmp (.bin .mod (.bin .div (.var 3) (.lit (.int 3))) (.lit (.int 5))) [.eq] [(.lit (.int 1))]) [.set 1 (.bin .add (.lit (.int 1)) (.bin .mod (.var 1) (.lit (.int 12)))), .set 2 (.call "_law_slow" [(.var 1), (.bin .div (.var 3) (.lit (.int 15)))]), .set 4 (.lit (.bool false))] []] ++ law4c
theorem law4_eq : p_law = [.set 1 (.call "_law_lines_by" [(.call "_law_cell_at" [(.var 0), (.lit (.int 0))])]), .set 2 (.call "_law_telling" [(.call "_law_cell_at" [(.var 0), (.lit (.int 1))]), (.var 1)]), .set 3 (.bin .mod (.bin .mul (.call "_law_cell_at" [(.var 0), (.lit (.int 2))]) (.lit (.int 48271))) (.lit (.int 2147483647))), .set 4 (.lit (.bool true)), .ite (.cmp (.bin .mod (.var 3) (.lit (.int 3))) [.gt] [(.lit (.int 0))]) [.set 2 (.call "_law_bent" [(.var 2), (.bin .div (.var 3) (.lit (.int 3)))]), .set 4 (.lit (.bool false))] []] ++ law4d := rfl
end
structure Fns4 (c : Cx) : Prop where
  chk : Checks c
  rows : Has c "rows" 2 8 p_rows
  does : Has c "does_tell" 2 8 p_does_tell
  tells : Has c "tells" 2 2 p_tells
  cell : Has c "_law_cell_at" 2 2 p__law_cell_at
  whole : Has c "_law_whole" 1 1 p__law_whole
  place : Has c "_law_place" 5 6 p__law_place
  thinner : Has c "_law_thinner" 6 8 p__law_thinner
  telling : Has c "_law_telling" 2 16 p__law_telling
  lines : Has c "_law_lines_by" 1 2 p__law_lines_by
  wth : Has c "_law_with" 4 7 p__law_with
  bent : Has c "_law_bent" 2 8 p__law_bent
  slow : Has c "_law_slow" 2 8 p__law_slow
  due : Has c "_law_due" 2 8 p__law_due
  law : Has c "law" 1 11 p_law
section
variable {c : Cx} {d : Nat} {R : SPost} {E : SX} {H : Hp}
def longer (i : Nat) (σ : Nat → List Nat) : Nat → List Nat := fun x => if x < i then σ x ++ [1000 + x] else σ x
theorem law4b_ok (F : Fns4 c) {n N nt hd fd du : Nat} {bs hs fs ds : List Nat} {net : Net} {b : Bool} {l0 l3 l6 l9 l10 : Option V} (hn1 : 1 ≤ n) (hn : n ≤ 64) (ho : okNet n net) (hN : ∀ x, lenN net x ≤ N) (hNz : N ≤ 100000) (hb : doesTell n net = b)
    (A : NetAt H hd hs net) (GF : GrAt H fd fs (rowL n (longer n (rowsN net)))) (GD : GrAt H du ds (rowL n (rowsN net))) (hR : ∀ l' H', R (.ret (.bool true)) l' H') :
    wpSs (Calls c) true (d + 5) none law4b [l0, some (.int n), some (.lst nt), l3, some (.bool b), some (.lst du), l6, some (.lst hd), some (.lst fd), l9, l10] R E H := by
  unfold law4b
  walk_at "wps"
  refine Sr_val (v := .rng 0 n 1) (items := (List.range n).map nat) (fun K E' h => by (try simp only [S_nil, S_cons, Then_next, Then_ret, S_set, S_unp, S_put, S_expr, S_ret, S_ite, S_whil, S_loop, IteK_eq, LoopB_one, LoopB_two, E_lit, E_var, E_tup, E_list, E_dict0, E_bin, E_neg, E_not, E_cmp, E_and, E_or, E_idx, E_slice, E_rev, E_call, E_blt, E_meth, E_isi, E_comp, L_nil, L_cons, A_cons, O_cons, C_cons, I_nil, I_cons, VarK_some, NegK_int, NotK_bool, truthP_bool, AndK_nil, AndK_cons, OrK_nil, OrK_cons, CmpR_nil, CmpR_cons, CmpK_lt, CmpK_le, CmpK_gt, CmpK_ge, CmpK_eqi, CmpK_nei, TestK_bool, BinK_addi, BinK_subi, CompS_one, CompS_two, List.getD_eq_getElem?_getD, List.getElem?_cons_zero, List.getElem?_cons_succ, Option.getD_some, Option.getD_none, List.map_cons, List.map_nil, List.cons_append, List.nil_append, List.replicate, List.set_cons_zero, List.set_cons_succ, Nat.sub_self, if_true, if_false, Bool.false_eq_true, Bool.not_true, Bool.not_false, decide_true, decide_false, decide_eq_true_eq, Bool.not_eq_true', true_and, range_nat (H := H) (n := n) (by omega)]); exact h) (by simp only [srcV, rangeL_nat]) ?_
  unfold LoopI
  refine wpFor_rule (I := fun i l' H' => ∃ v6, l' = [l0, some (.int n), some (.lst nt), l3, some (.bool b), some (.lst du), v6, some (.lst hd), some (.lst fd), l9, l10] ∧ Stay [] H H') ?_ ?_ ⟨l6, rfl, Stay.refl⟩
  · rintro i x l' H' K hx ⟨v6, rfl, st⟩ hnext hret
    have hi : i < n := by have := (List.getElem?_eq_some_iff.mp hx).1; simpa using this
    rw [List.getElem?_map, List.getElem?_range hi] at hx
    cases hx
    unfold nat
    obtain ⟨rf, _, hrf, hif⟩ := (GF.stay' st (by simp)).at (rowL_get hi)
    obtain ⟨rd, _, hrd, hid⟩ := (GD.stay' st (by simp)).at (rowL_get hi)
    have hz := stN_len hN net.length i
    rw [stN_all] at hz
    walk_at "wps"
    refine IdxK_of hif ?_
    refine IdxK_of hid ?_
    rw [add_lst (get_app hrd) get_new (by simp; omega)]
    have e1 : (rowsN net i).map nat ++ [V.int (1000 + (i : Int))] = (rowsN net i ++ [1000 + i]).map nat := by simp [nat]
    rw [e1]
    refine CmpK_of (cmp_ne (eq_row (get_app (get_app hrf)) get_new)) ?_
    have e2 : longer n (rowsN net) i = rowsN net i ++ [1000 + i] := by unfold longer; rw [if_pos hi]
    (try simp only [S_nil, S_cons, Then_next, Then_ret, S_set, S_unp, S_put, S_expr, S_ret, S_ite, S_whil, S_loop, IteK_eq, LoopB_one, LoopB_two, E_lit, E_var, E_tup, E_list, E_dict0, E_bin, E_neg, E_not, E_cmp, E_and, E_or, E_idx, E_slice, E_rev, E_call, E_blt, E_meth, E_isi, E_comp, L_nil, L_cons, A_cons, O_cons, C_cons, I_nil, I_cons, VarK_some, NegK_int, NotK_bool, truthP_bool, AndK_nil, AndK_cons, OrK_nil, OrK_cons, CmpR_nil, CmpR_cons, CmpK_lt, CmpK_le, CmpK_gt, CmpK_ge, CmpK_eqi, CmpK_nei, TestK_bool, BinK_addi, BinK_subi, CompS_one, CompS_two, List.getD_eq_getElem?_getD, List.getElem?_cons_zero, List.getElem?_cons_succ, Option.getD_some, Option.getD_none, List.map_cons, List.map_nil, List.cons_append, List.nil_append, List.replicate, List.set_cons_zero, List.set_cons_succ, Nat.sub_self, if_true, if_false, Bool.false_eq_true, Bool.not_true, Bool.not_false, decide_true, decide_false, decide_eq_true_eq, Bool.not_eq_true', true_and, e2])
    exact hnext _ _ trivial ⟨_, rfl, st.app.app⟩
  · rintro l' H' ⟨v6, rfl, st⟩
    walk_at "wps"
    have A' := A.stay st (by simp)
    have GD' := GD.stay' st (by simp)
    refine s_rows F.rows F.chk A' hn1 hn ho hN hNz rfl fun g rs H2 G2 st2 _ _ => ?_
    walk_at "wps"
    have GD2 := GD'.stay' st2 (by simp)
    refine CmpK_of (cmp_eq (eq_gr G2 GD2)) ?_
    walk_at "wps"
    refine s_tells F.tells F.does F.chk (A'.stay st2 (by simp)) hn1 hn ho rfl fun H3 st3 => ?_
    walk_at "wps"
    refine CmpK_of (cmp_eq eq_bool) ?_
    (try simp only [S_nil, S_cons, Then_next, Then_ret, S_set, S_unp, S_put, S_expr, S_ret, S_ite, S_whil, S_loop, IteK_eq, LoopB_one, LoopB_two, E_lit, E_var, E_tup, E_list, E_dict0, E_bin, E_neg, E_not, E_cmp, E_and, E_or, E_idx, E_slice, E_rev, E_call, E_blt, E_meth, E_isi, E_comp, L_nil, L_cons, A_cons, O_cons, C_cons, I_nil, I_cons, VarK_some, NegK_int, NotK_bool, truthP_bool, AndK_nil, AndK_cons, OrK_nil, OrK_cons, CmpR_nil, CmpR_cons, CmpK_lt, CmpK_le, CmpK_gt, CmpK_ge, CmpK_eqi, CmpK_nei, TestK_bool, BinK_addi, BinK_subi, CompS_one, CompS_two, List.getD_eq_getElem?_getD, List.getElem?_cons_zero, List.getElem?_cons_succ, Option.getD_some, Option.getD_none, List.map_cons, List.map_nil, List.cons_append, List.nil_append, List.replicate, List.set_cons_zero, List.set_cons_succ, Nat.sub_self, if_true, if_false, Bool.false_eq_true, Bool.not_true, Bool.not_false, decide_true, decide_false, decide_eq_true_eq, Bool.not_eq_true', true_and, hb])
    exact hR _ _
theorem law4a_ok (F : Fns4 c) {n N nt hd fd du : Nat} {bs hs fs ds : List Nat} {net : Net} {b : Bool} {l0 l3 l6 l9 l10 : Option V} (hn1 : 1 ≤ n) (hn : n ≤ 64) (ho : okNet n net) (hN : ∀ x, lenN net x ≤ N) (hNz : N ≤ 100000) (hb : doesTell n net = b)
    (A : NetAt H hd hs net) (GF : GrAt H fd fs (rowL n (rowsN net))) (GD : GrAt H du ds (rowL n (rowsN net))) (hfs : (fd :: fs).Nodup) (ap : ∀ x ∈ fs, x ∉ hd :: hs ∧ x ∉ du :: ds) (hR : ∀ l' H', R (.ret (.bool true)) l' H') :
    wpSs (Calls c) true (d + 5) none law4a [l0, some (.int n), some (.lst nt), l3, some (.bool b), some (.lst du), l6, some (.lst hd), some (.lst fd), l9, l10] R E H := by
  have hsl : sizeLine = 2 ^ 24 := rfl
  unfold law4a
  walk_at "wps"
  refine Sr_val (v := .rng 0 n 1) (items := (List.range n).map nat) (fun K E' h => by (try simp only [S_nil, S_cons, Then_next, Then_ret, S_set, S_unp, S_put, S_expr, S_ret, S_ite, S_whil, S_loop, IteK_eq, LoopB_one, LoopB_two, E_lit, E_var, E_tup, E_list, E_dict0, E_bin, E_neg, E_not, E_cmp, E_and, E_or, E_idx, E_slice, E_rev, E_call, E_blt, E_meth, E_isi, E_comp, L_nil, L_cons, A_cons, O_cons, C_cons, I_nil, I_cons, VarK_some, NegK_int, NotK_bool, truthP_bool, AndK_nil, AndK_cons, OrK_nil, OrK_cons, CmpR_nil, CmpR_cons, CmpK_lt, CmpK_le, CmpK_gt, CmpK_ge, CmpK_eqi, CmpK_nei, TestK_bool, BinK_addi, BinK_subi, CompS_one, CompS_two, List.getD_eq_getElem?_getD, List.getElem?_cons_zero, List.getElem?_cons_succ, Option.getD_some, Option.getD_none, List.map_cons, List.map_nil, List.cons_append, List.nil_append, List.replicate, List.set_cons_zero, List.set_cons_succ, Nat.sub_self, if_true, if_false, Bool.false_eq_true, Bool.not_true, Bool.not_false, decide_true, decide_false, decide_eq_true_eq, Bool.not_eq_true', true_and, range_nat (H := H) (n := n) (by omega)]); exact h) (by simp only [srcV, rangeL_nat]) ?_
  unfold LoopI
  refine wpFor_rule (I := fun i l' H' => ∃ v6, l' = [l0, some (.int n), some (.lst nt), l3, some (.bool b), some (.lst du), v6, some (.lst hd), some (.lst fd), l9, l10] ∧ Stay fs H H' ∧ GrAt H' fd fs (rowL n (longer i (rowsN net)))) ?_ ?_ ⟨l6, rfl, Stay.refl, by
    have : longer 0 (rowsN net) = rowsN net := by funext x; unfold longer; simp
    rw [this]; exact GF⟩
  · rintro i x l' H' K hx ⟨v6, rfl, st, G⟩ hnext hret
    have hi : i < n := by have := (List.getElem?_eq_some_iff.mp hx).1; simpa using this
    rw [List.getElem?_map, List.getElem?_range hi] at hx
    cases hx
    unfold nat
    obtain ⟨rf, hrf0, hrf, hif⟩ := G.at (rowL_get hi)
    have e0 : longer i (rowsN net) i = rowsN net i := by unfold longer; rw [if_neg (by omega)]
    rw [e0] at hrf
    have hz := stN_len hN net.length i
    rw [stN_all] at hz
    walk_at "wps"
    refine IdxK_of hif ?_
    (try simp only [S_nil, S_cons, Then_next, Then_ret, S_set, S_unp, S_put, S_expr, S_ret, S_ite, S_whil, S_loop, IteK_eq, LoopB_one, LoopB_two, E_lit, E_var, E_tup, E_list, E_dict0, E_bin, E_neg, E_not, E_cmp, E_and, E_or, E_idx, E_slice, E_rev, E_call, E_blt, E_meth, E_isi, E_comp, L_nil, L_cons, A_cons, O_cons, C_cons, I_nil, I_cons, VarK_some, NegK_int, NotK_bool, truthP_bool, AndK_nil, AndK_cons, OrK_nil, OrK_cons, CmpR_nil, CmpR_cons, CmpK_lt, CmpK_le, CmpK_gt, CmpK_ge, CmpK_eqi, CmpK_nei, TestK_bool, BinK_addi, BinK_subi, CompS_one, CompS_two, List.getD_eq_getElem?_getD, List.getElem?_cons_zero, List.getElem?_cons_succ, Option.getD_some, Option.getD_none, List.map_cons, List.map_nil, List.cons_append, List.nil_append, List.replicate, List.set_cons_zero, List.set_cons_succ, Nat.sub_self, if_true, if_false, Bool.false_eq_true, Bool.not_true, Bool.not_false, decide_true, decide_false, decide_eq_true_eq, Bool.not_eq_true', true_and, isi_lst (H := H') (v := .lst rf) rfl, isLst])
    refine IdxK_of hif ?_
    refine comp_pure (items := (rowsN net i).map nat) (g := fun _ => .bool true) (by simp only [srcV, hrf]) (by simp only [okV]; exact hrf) (by simp; omega) rfl (fun x hx K' hK' => ?_) ?_
    · obtain ⟨y, hy, rfl⟩ := List.mem_map.mp hx
      unfold nat
      walk_at "wps"
      exact s_whole F.whole hK'
    have hbl : ∀ zs : List Nat, boolsV ((zs.map nat).map fun _ => V.bool true) = some (zs.map fun _ => true) := by
      intro zs
      induction zs with
      | nil => rfl
      | cons z r ih => simp only [List.map_cons, boolsV] at ih ⊢; rw [ih]; rfl
    refine BltK_of (v := .bool true) (H' := H' ++ [((rowsN net i).map nat).map fun _ => V.bool true]) ?_ rfl ?_
    · simp only [bltV, get_new, Option.bind_some, hbl]
      simp
    walk_at "wps"
    have G1 := G.app (xs := ((rowsN net i).map nat).map fun _ => V.bool true)
    obtain ⟨rf', hrf0', hrf', hif'⟩ := G1.at (rowL_get hi)
    rw [hrf0] at hrf0'; cases hrf0'
    rw [e0] at hrf'
    refine IdxK_of hif' ?_
    (try simp only [S_nil, S_cons, Then_next, Then_ret, S_set, S_unp, S_put, S_expr, S_ret, S_ite, S_whil, S_loop, IteK_eq, LoopB_one, LoopB_two, E_lit, E_var, E_tup, E_list, E_dict0, E_bin, E_neg, E_not, E_cmp, E_and, E_or, E_idx, E_slice, E_rev, E_call, E_blt, E_meth, E_isi, E_comp, L_nil, L_cons, A_cons, O_cons, C_cons, I_nil, I_cons, VarK_some, NegK_int, NotK_bool, truthP_bool, AndK_nil, AndK_cons, OrK_nil, OrK_cons, CmpR_nil, CmpR_cons, CmpK_lt, CmpK_le, CmpK_gt, CmpK_ge, CmpK_eqi, CmpK_nei, TestK_bool, BinK_addi, BinK_subi, CompS_one, CompS_two, List.getD_eq_getElem?_getD, List.getElem?_cons_zero, List.getElem?_cons_succ, Option.getD_some, Option.getD_none, List.map_cons, List.map_nil, List.cons_append, List.nil_append, List.replicate, List.set_cons_zero, List.set_cons_succ, Nat.sub_self, if_true, if_false, Bool.false_eq_true, Bool.not_true, Bool.not_false, decide_true, decide_false, decide_eq_true_eq, Bool.not_eq_true', true_and, MethA_lst (H := H' ++ [((rowsN net i).map nat).map fun _ => V.bool true]) (m := .append) (a := rf) (by decide)])
    refine MethK_of (meth_append hrf' (by simp; omega)) ?_
    have e1 : (rowsN net i).map nat ++ [V.int (1000 + (i : Int))] = (rowsN net i ++ [1000 + i]).map nat := by simp [nat]
    rw [e1]
    have hrm := List.mem_of_getElem? hrf0
    refine hnext _ _ trivial ⟨_, rfl, st.app.set (.inl hrm), ?_⟩
    rw [List.nodup_cons] at hfs
    have el : rowL n (longer (i + 1) (rowsN net)) = (rowL n (longer i (rowsN net))).set i (rowsN net i ++ [1000 + i]) := by
      rw [rowL_set]
      congr 1
      funext x
      unfold longer
      by_cases ex : x = i
      · subst ex; rw [if_pos (by omega), if_pos rfl]
      · rw [if_neg ex]
        by_cases hx : x < i
        · rw [if_pos hx, if_pos (by omega)]
        · rw [if_neg hx, if_neg (by omega)]
    rw [el]
    refine ⟨get_set G1.top (fun e => hfs.1 (e ▸ hrm)), by rw [List.length_set]; exact G1.len, fun j r z h1 h2 => ?_⟩
    rw [List.getElem?_set] at h2
    by_cases ej : i = j
    · subst ej
      rw [if_pos rfl, if_pos (by simp [rowL]; omega)] at h2
      rw [hrf0] at h1
      cases h1; cases h2
      exact get_put hrf'
    · rw [if_neg ej] at h2
      refine get_set (G1.gr j r z h1 h2) fun er => ej ?_
      have hi1 := (List.getElem?_eq_some_iff.mp hrf0).1
      have hj1 := (List.getElem?_eq_some_iff.mp h1).1
      rw [List.getElem?_eq_getElem hi1] at hrf0
      rw [List.getElem?_eq_getElem hj1] at h1
      cases hrf0; cases h1
      exact (List.getElem_inj hfs.2).mp er.symm
  · rintro l' H' ⟨v6, rfl, st, G⟩
    walk_at "wps"
    rw [List.length_map, List.length_range] at G
    exact law4b_ok F hn1 hn ho hN hNz hb (bs := bs) (A.stay st fun x hx hm => (ap x hm).1 hx) G (GD.stay' st fun x hx hm => (ap x hm).2 hx) hR
theorem law4c_ok (F : Fns4 c) {n N nt : Nat} {bs : List Nat} {net : Net} {g : Bool} {l0 l3 l5 l6 l7 l8 l9 l10 : Option V} (hn1 : 1 ≤ n) (hn : n ≤ 64) (ho : okNet n net) (hN : ∀ x, lenN net x ≤ N) (hNz : N ≤ 100000) (hg : g = true → ∀ x, x < n → rowsN net x = List.range (x + 1))
    (A : NetAt H nt bs net) (hR : ∀ l' H', R (.ret (.bool true)) l' H') :
    wpSs (Calls c) true (d + 5) none law4c [l0, some (.int n), some (.lst nt), l3, some (.bool g), l5, l6, l7, l8, l9, l10] R E H := by
  have hz := ho.1
  unfold law4c
  walk_at "wps"
  refine s_due F.due A hn ho.fair hN hNz (by omega) rfl fun du ds H1 GD st1 fr1 nd1 => ?_
  have A1 := A.stay st1 (by simp)
  walk_at "wps"
  have hW : ∀ b : Bool, (b = true ↔ ∀ x, x < n → rowsN net x = List.range (x + 1)) → doesTell n net = b := by
    intro b hb
    rw [Bool.eq_iff_iff, tell_iff ho.fair, hb]
  have rest : ∀ (b : Bool) (H2 : Hp), doesTell n net = b → Stay [] H1 H2 → wpE (Calls c) true (d + 5) none (.comp (.blt .list [(.var 10)]) (.one 10) (.var 2) []) [l0, some (.int n), some (.lst nt), l3, some (.bool b), some (.lst du), l6, l7, l8, l9, l10]
      (fun v H => Then (Calls c) true (d + 5) none (.set 8 (.call "rows" [(.var 1), (.var 7)]) :: .set 9 (.call "tells" [(.var 1), (.var 7)]) :: .ite (.or [(.not (.isi (.var 8) .list)), (.cmp (.var 8) [.ne] [(.var 5)]), (.not (.isi (.var 9) .bool)), (.cmp (.var 9) [.ne] [(.var 4)]), (.cmp (.var 7) [.ne] [(.var 2)])]) [.ret (.lit (.bool false))] [] :: law4a) R E .next [l0, some (.int n), some (.lst nt), l3, some (.bool b), some (.lst du), l6, some v, l8, l9, l10] H) (fun x H => E x [l0, some (.int n), some (.lst nt), l3, some (.bool b), some (.lst du), l6, l7, l8, l9, l10] H) H2 := by
    intro b H2 hb st2
    have A2 := A1.stay st2 (by simp)
    have GD2 := GD.stay' st2 (by simp)
    walk_at "wps"
    refine comp_layers A2 (by omega) (by simp) rfl fun hd hs H3 A3 st3 fr3 nd3 => ?_
    walk_at "wps"
    have A3n := A2.stay st3 (by simp)
    have GD3 := GD2.stay' st3 (by simp)
    refine s_rows F.rows F.chk A3 hn1 hn ho hN hNz rfl fun fd fs H4 GF st4 fr4 nd4 => ?_
    walk_at "wps"
    refine s_tells F.tells F.does F.chk (A3.stay st4 (by simp)) hn1 hn ho rfl fun H5 st5 => ?_
    have A5 := (A3.stay st4 (by simp)).stay st5 (by simp)
    have A5n := (A3n.stay st4 (by simp)).stay st5 (by simp)
    have GD5 := (GD3.stay' st4 (by simp)).stay' st5 (by simp)
    have GF5 := GF.stay' st5 (by simp)
    (try simp only [S_nil, S_cons, Then_next, Then_ret, S_set, S_unp, S_put, S_expr, S_ret, S_ite, S_whil, S_loop, IteK_eq, LoopB_one, LoopB_two, E_lit, E_var, E_tup, E_list, E_dict0, E_bin, E_neg, E_not, E_cmp, E_and, E_or, E_idx, E_slice, E_rev, E_call, E_blt, E_meth, E_isi, E_comp, L_nil, L_cons, A_cons, O_cons, C_cons, I_nil, I_cons, VarK_some, NegK_int, NotK_bool, truthP_bool, AndK_nil, AndK_cons, OrK_nil, OrK_cons, CmpR_nil, CmpR_cons, CmpK_lt, CmpK_le, CmpK_gt, CmpK_ge, CmpK_eqi, CmpK_nei, TestK_bool, BinK_addi, BinK_subi, CompS_one, CompS_two, List.getD_eq_getElem?_getD, List.getElem?_cons_zero, List.getElem?_cons_succ, Option.getD_some, Option.getD_none, List.map_cons, List.map_nil, List.cons_append, List.nil_append, List.replicate, List.set_cons_zero, List.set_cons_succ, Nat.sub_self, if_true, if_false, Bool.false_eq_true, Bool.not_true, Bool.not_false, decide_true, decide_false, decide_eq_true_eq, Bool.not_eq_true', true_and, isi_lst (H := H5) (v := .lst fd) rfl, isLst])
    refine CmpK_of (cmp_ne (eq_gr GF5 GD5)) ?_
    (try simp only [S_nil, S_cons, Then_next, Then_ret, S_set, S_unp, S_put, S_expr, S_ret, S_ite, S_whil, S_loop, IteK_eq, LoopB_one, LoopB_two, E_lit, E_var, E_tup, E_list, E_dict0, E_bin, E_neg, E_not, E_cmp, E_and, E_or, E_idx, E_slice, E_rev, E_call, E_blt, E_meth, E_isi, E_comp, L_nil, L_cons, A_cons, O_cons, C_cons, I_nil, I_cons, VarK_some, NegK_int, NotK_bool, truthP_bool, AndK_nil, AndK_cons, OrK_nil, OrK_cons, CmpR_nil, CmpR_cons, CmpK_lt, CmpK_le, CmpK_gt, CmpK_ge, CmpK_eqi, CmpK_nei, TestK_bool, BinK_addi, BinK_subi, CompS_one, CompS_two, List.getD_eq_getElem?_getD, List.getElem?_cons_zero, List.getElem?_cons_succ, Option.getD_some, Option.getD_none, List.map_cons, List.map_nil, List.cons_append, List.nil_append, List.replicate, List.set_cons_zero, List.set_cons_succ, Nat.sub_self, if_true, if_false, Bool.false_eq_true, Bool.not_true, Bool.not_false, decide_true, decide_false, decide_eq_true_eq, Bool.not_eq_true', true_and, isi_bool (H := H5) (v := .bool (doesTell n net)) rfl, isBool])
    refine CmpK_of (cmp_ne eq_bool) ?_
    (try simp only [S_nil, S_cons, Then_next, Then_ret, S_set, S_unp, S_put, S_expr, S_ret, S_ite, S_whil, S_loop, IteK_eq, LoopB_one, LoopB_two, E_lit, E_var, E_tup, E_list, E_dict0, E_bin, E_neg, E_not, E_cmp, E_and, E_or, E_idx, E_slice, E_rev, E_call, E_blt, E_meth, E_isi, E_comp, L_nil, L_cons, A_cons, O_cons, C_cons, I_nil, I_cons, VarK_some, NegK_int, NotK_bool, truthP_bool, AndK_nil, AndK_cons, OrK_nil, OrK_cons, CmpR_nil, CmpR_cons, CmpK_lt, CmpK_le, CmpK_gt, CmpK_ge, CmpK_eqi, CmpK_nei, TestK_bool, BinK_addi, BinK_subi, CompS_one, CompS_two, List.getD_eq_getElem?_getD, List.getElem?_cons_zero, List.getElem?_cons_succ, Option.getD_some, Option.getD_none, List.map_cons, List.map_nil, List.cons_append, List.nil_append, List.replicate, List.set_cons_zero, List.set_cons_succ, Nat.sub_self, if_true, if_false, Bool.false_eq_true, Bool.not_true, Bool.not_false, decide_true, decide_false, decide_eq_true_eq, Bool.not_eq_true', true_and, hb])
    refine CmpK_of (cmp_ne (eq_net A5 A5n)) ?_
    walk_at "wps"
    refine law4a_ok F hn1 hn ho hN hNz hb (bs := bs) A5 GF5 GD5 nd4 (fun x hx => ?_) hR
    have hx4 := fr4 x (List.mem_cons_of_mem _ hx)
    constructor
    · intro hm
      have := A3.lt x hm
      omega
    · intro hm
      have hlt : x < H3.length := by
        rcases List.mem_cons.mp hm with rfl | hm
        · exact get_lt GD3.top
        · exact GD3.lt x hm
      omega
  cases g with
  | true =>
    walk_at "wps"
    exact rest true H1 (hW true (by simpa using hg rfl)) Stay.refl
  | false =>
    (try simp only [S_nil, S_cons, Then_next, Then_ret, S_set, S_unp, S_put, S_expr, S_ret, S_ite, S_whil, S_loop, IteK_eq, LoopB_one, LoopB_two, E_lit, E_var, E_tup, E_list, E_dict0, E_bin, E_neg, E_not, E_cmp, E_and, E_or, E_idx, E_slice, E_rev, E_call, E_blt, E_meth, E_isi, E_comp, L_nil, L_cons, A_cons, O_cons, C_cons, I_nil, I_cons, VarK_some, NegK_int, NotK_bool, truthP_bool, AndK_nil, AndK_cons, OrK_nil, OrK_cons, CmpR_nil, CmpR_cons, CmpK_lt, CmpK_le, CmpK_gt, CmpK_ge, CmpK_eqi, CmpK_nei, TestK_bool, BinK_addi, BinK_subi, CompS_one, CompS_two, List.getD_eq_getElem?_getD, List.getElem?_cons_zero, List.getElem?_cons_succ, Option.getD_some, Option.getD_none, List.map_cons, List.map_nil, List.cons_append, List.nil_append, List.replicate, List.set_cons_zero, List.set_cons_succ, Nat.sub_self, if_true, if_false, Bool.false_eq_true, Bool.not_true, Bool.not_false, decide_true, decide_false, decide_eq_true_eq, Bool.not_eq_true', true_and, range_nat (H := H1) (n := n) (by omega)])
    refine comp_ranges (by omega) (by simp) rfl fun rr ts H2 GR st2 _ => ?_
    refine CmpK_of (cmp_eq (eq_gr (GD.stay' st2 (by simp)) GR)) ?_
    walk_at "wps"
    refine rest _ H2 (hW _ ?_) st2
    rw [decide_eq_true_eq]
    unfold rowL
    constructor
    · intro h x hx
      have := congrArg (·[x]?) h
      simp only [List.getElem?_map, List.getElem?_range hx, Option.map_some, Option.some.injEq] at this
      exact this
    · intro h
      exact List.map_congr_left fun x hx => h x (by simpa using hx)
end
end Bn
namespace Bn
open PySem
section
variable {c : Cx} {d : Nat} {R : SPost} {E : SX} {H : Hp}
theorem law4d_ok (F : Fns4 c) {n N nt cell : Nat} {bs : List Nat} {net : Net} {g : Bool} {l0 l5 l6 l7 l8 l9 l10 : Option V} (hn1 : 1 ≤ n) (hn : n ≤ 64) (ho : okNet n net) (hN : ∀ x, lenN net x ≤ N) (hNz : N ≤ 100000) (hg : g = true → ∀ x, x < n → rowsN net x = List.range (x + 1))
    (A : NetAt H nt bs net) (hR : ∀ l' H', R (.ret (.bool true)) l' H') :
    wpSs (Calls c) true (d + 5) none law4d [l0, some (.int n), some (.lst nt), some (.int cell), some (.bool g), l5, l6, l7, l8, l9, l10] R E H := by
  unfold law4d
  (try simp only [S_nil, S_cons, Then_next, Then_ret, S_set, S_unp, S_put, S_expr, S_ret, S_ite, S_whil, S_loop, IteK_eq, LoopB_one, LoopB_two, E_lit, E_var, E_tup, E_list, E_dict0, E_bin, E_neg, E_not, E_cmp, E_and, E_or, E_idx, E_slice, E_rev, E_call, E_blt, E_meth, E_isi, E_comp, L_nil, L_cons, A_cons, O_cons, C_cons, I_nil, I_cons, VarK_some, NegK_int, NotK_bool, truthP_bool, AndK_nil, AndK_cons, OrK_nil, OrK_cons, CmpR_nil, CmpR_cons, CmpK_lt, CmpK_le, CmpK_gt, CmpK_ge, CmpK_eqi, CmpK_nei, TestK_bool, BinK_addi, BinK_subi, CompS_one, CompS_two, List.getD_eq_getElem?_getD, List.getElem?_cons_zero, List.getElem?_cons_succ, Option.getD_some, Option.getD_none, List.map_cons, List.map_nil, List.cons_append, List.nil_append, List.replicate, List.set_cons_zero, List.set_cons_succ, Nat.sub_self, if_true, if_false, Bool.false_eq_true, Bool.not_true, Bool.not_false, decide_true, decide_false, decide_eq_true_eq, Bool.not_eq_true', true_and, divK (H := H) (a := (cell : Int)) (b := 3) (by omega), modK (H := H) (a := (cell : Int) / 3) (b := 5) (by omega)])
  by_cases h : (cell : Int) / 3 % 5 = 1
  · rw [if_pos h]
    have e1 : (1 : Int) + (n : Int) % 12 = ((1 + n % 12 : Nat) : Int) := by omega
    have e2 : (cell : Int) / 15 = ((cell / 15 : Nat) : Int) := by omega
    (try simp only [S_nil, S_cons, Then_next, Then_ret, S_set, S_unp, S_put, S_expr, S_ret, S_ite, S_whil, S_loop, IteK_eq, LoopB_one, LoopB_two, E_lit, E_var, E_tup, E_list, E_dict0, E_bin, E_neg, E_not, E_cmp, E_and, E_or, E_idx, E_slice, E_rev, E_call, E_blt, E_meth, E_isi, E_comp, L_nil, L_cons, A_cons, O_cons, C_cons, I_nil, I_cons, VarK_some, NegK_int, NotK_bool, truthP_bool, AndK_nil, AndK_cons, OrK_nil, OrK_cons, CmpR_nil, CmpR_cons, CmpK_lt, CmpK_le, CmpK_gt, CmpK_ge, CmpK_eqi, CmpK_nei, TestK_bool, BinK_addi, BinK_subi, CompS_one, CompS_two, List.getD_eq_getElem?_getD, List.getElem?_cons_zero, List.getElem?_cons_succ, Option.getD_some, Option.getD_none, List.map_cons, List.map_nil, List.cons_append, List.nil_append, List.replicate, List.set_cons_zero, List.set_cons_succ, Nat.sub_self, if_true, if_false, Bool.false_eq_true, Bool.not_true, Bool.not_false, decide_true, decide_false, decide_eq_true_eq, Bool.not_eq_true', true_and, modK (H := H) (a := (n : Int)) (b := 12) (by omega), e1, divK (H := H) (a := (cell : Int)) (b := 15) (by omega), e2])
    refine s_slow F.slow (by omega) (by omega) rfl fun a' bs' H' net' A' ho' hN' st' => ?_
    walk_at "wps"
    exact law4c_ok F (by omega) (by omega) ho' hN' (by omega) (fun h => by cases h) A' hR
  · rw [if_neg h]
    walk_at "wps"
    exact law4c_ok F hn1 hn ho hN hNz hg A hR
end
section
variable {c : Cx} {d : Nat} {E : XPost} {H : Hp}
theorem law4_ok (F : Fns4 c) {xs : List Int} : Calls c true (d + 10) "law" [.scr xs] none (fun v _ => v = .bool true) E H := by
  refine F.law true (d + 9) _ _ _ _ rfl ?_
  rw [law4_eq]
  walk_at "wps"
  refine s_cell_at F.cell (i := 0) rfl ?_
  refine s_lines_by F.lines ?_
  have hl := linesBy_le (xs.getD 0 0)
  obtain ⟨n, hn⟩ : ∃ n : Nat, linesBy (xs.getD 0 0) = (n : Int) := ⟨(linesBy (xs.getD 0 0)).toNat, by omega⟩
  rw [hn] at hl ⊢
  walk_at "wps"
  refine s_cell_at F.cell (i := 1) rfl ?_
  refine s_telling F.telling F.thinner F.place (by omega) (by omega) rfl fun nt bs net H1 T A st1 fr1 nd1 => ?_
  walk_at "wps"
  refine s_cell_at F.cell (i := 2) rfl ?_
  generalize xs.getD 2 0 = x2
  obtain ⟨cell, hcell⟩ : ∃ cell : Nat, x2 * 48271 % 2147483647 = (cell : Int) := ⟨(x2 * 48271 % 2147483647).toNat, by omega⟩
  (try simp only [S_nil, S_cons, Then_next, Then_ret, S_set, S_unp, S_put, S_expr, S_ret, S_ite, S_whil, S_loop, IteK_eq, LoopB_one, LoopB_two, E_lit, E_var, E_tup, E_list, E_dict0, E_bin, E_neg, E_not, E_cmp, E_and, E_or, E_idx, E_slice, E_rev, E_call, E_blt, E_meth, E_isi, E_comp, L_nil, L_cons, A_cons, O_cons, C_cons, I_nil, I_cons, VarK_some, NegK_int, NotK_bool, truthP_bool, AndK_nil, AndK_cons, OrK_nil, OrK_cons, CmpR_nil, CmpR_cons, CmpK_lt, CmpK_le, CmpK_gt, CmpK_ge, CmpK_eqi, CmpK_nei, TestK_bool, BinK_addi, BinK_subi, CompS_one, CompS_two, List.getD_eq_getElem?_getD, List.getElem?_cons_zero, List.getElem?_cons_succ, Option.getD_some, Option.getD_none, List.map_cons, List.map_nil, List.cons_append, List.nil_append, List.replicate, List.set_cons_zero, List.set_cons_succ, Nat.sub_self, if_true, if_false, Bool.false_eq_true, Bool.not_true, Bool.not_false, decide_true, decide_false, decide_eq_true_eq, Bool.not_eq_true', true_and, mulK (H := H1) (a := x2) (b := 48271) (by decide), modK (H := H1) (b := 2147483647) (by omega), hcell])
  have ho := T.net (by omega)
  have hlen := T.len
  have hN := fine_len ho.fair (by omega) T.whole
  (try simp only [S_nil, S_cons, Then_next, Then_ret, S_set, S_unp, S_put, S_expr, S_ret, S_ite, S_whil, S_loop, IteK_eq, LoopB_one, LoopB_two, E_lit, E_var, E_tup, E_list, E_dict0, E_bin, E_neg, E_not, E_cmp, E_and, E_or, E_idx, E_slice, E_rev, E_call, E_blt, E_meth, E_isi, E_comp, L_nil, L_cons, A_cons, O_cons, C_cons, I_nil, I_cons, VarK_some, NegK_int, NotK_bool, truthP_bool, AndK_nil, AndK_cons, OrK_nil, OrK_cons, CmpR_nil, CmpR_cons, CmpK_lt, CmpK_le, CmpK_gt, CmpK_ge, CmpK_eqi, CmpK_nei, TestK_bool, BinK_addi, BinK_subi, CompS_one, CompS_two, List.getD_eq_getElem?_getD, List.getElem?_cons_zero, List.getElem?_cons_succ, Option.getD_some, Option.getD_none, List.map_cons, List.map_nil, List.cons_append, List.nil_append, List.replicate, List.set_cons_zero, List.set_cons_succ, Nat.sub_self, if_true, if_false, Bool.false_eq_true, Bool.not_true, Bool.not_false, decide_true, decide_false, decide_eq_true_eq, Bool.not_eq_true', true_and, modK (H := H1) (a := (cell : Int)) (b := 3) (by omega)])
  by_cases h : (cell : Int) % 3 > 0
  · rw [if_pos h]
    have e2 : (cell : Int) / 3 = ((cell / 3 : Nat) : Int) := by omega
    (try simp only [S_nil, S_cons, Then_next, Then_ret, S_set, S_unp, S_put, S_expr, S_ret, S_ite, S_whil, S_loop, IteK_eq, LoopB_one, LoopB_two, E_lit, E_var, E_tup, E_list, E_dict0, E_bin, E_neg, E_not, E_cmp, E_and, E_or, E_idx, E_slice, E_rev, E_call, E_blt, E_meth, E_isi, E_comp, L_nil, L_cons, A_cons, O_cons, C_cons, I_nil, I_cons, VarK_some, NegK_int, NotK_bool, truthP_bool, AndK_nil, AndK_cons, OrK_nil, OrK_cons, CmpR_nil, CmpR_cons, CmpK_lt, CmpK_le, CmpK_gt, CmpK_ge, CmpK_eqi, CmpK_nei, TestK_bool, BinK_addi, BinK_subi, CompS_one, CompS_two, List.getD_eq_getElem?_getD, List.getElem?_cons_zero, List.getElem?_cons_succ, Option.getD_some, Option.getD_none, List.map_cons, List.map_nil, List.cons_append, List.nil_append, List.replicate, List.set_cons_zero, List.set_cons_succ, Nat.sub_self, if_true, if_false, Bool.false_eq_true, Bool.not_true, Bool.not_false, decide_true, decide_false, decide_eq_true_eq, Bool.not_eq_true', true_and, divK (H := H1) (a := (cell : Int)) (b := 3) (by omega), e2])
    refine s_bent F.bent F.wth A (by omega) ho (by omega) hN (by omega) rfl fun a' bs' H' net' A' BO st' => ?_
    walk_at "wps"
    refine law4d_ok F (by omega) (by omega) BO.ok BO.len ?_ (fun h => by cases h) A' fun _ _ => rfl
    have : n * n ≤ 32 * 32 := Nat.mul_le_mul (by omega) (by omega)
    rw [Nat.mul_assoc]; omega
  · rw [if_neg h]
    walk_at "wps"
    exact law4d_ok F (by omega) (by omega) ho hN (by omega) (fun _ => T.whole) A fun _ _ => rfl
end
end Bn
open PySem PySem.W PyProof.Rows Bn
set_option maxRecDepth 100000
set_option maxHeartbeats 8000000
open_top hd for PySem.Challenge.rw_uf020024_04
namespace Bn
def fs04 : List Str := ["is_among", "need_lines", "is_joint", "is_layer", "need_net", "rows", "does_tell", "tells", "_law_cell_at", "_law_whole", "_law_place", "_law_thinner", "_law_telling", "_law_lines_by", "_law_with", "_law_bent", "_law_slow", "_law_due", "law"]
def vals04 : List (Str × V) := [("MOST_LINES", .int 64), ("MOST_LAYERS", .int 80), ("MOST_JOINTS", .int 63)]
end Bn
theorem PySem.Challenge.cw_uf020024_04_holds : PySem.Challenge.rw_uf020024_04.Holds := by
  refine hd ?_
  intro w s₀ s₁ mg mb G Y fa o pm cd doc dV kV ho hd hcd hD hmg hg args vals as hpre hlay hrd hwl hlo
  refine Ground.open G ?_
  intro T B D TE TW
  have TA := at_of_top T
  wrow_args hpre hlay hrd hwl hlo
  refine enter_call ?_
  rename_i l _ _ _ _ _ _ _ a vs _ hL _ _ _ hI _ hlen _
  let c : Cx := ⟨Challenge.rw_uf020024_04.row.prog, w, s₁.heap, mg, mb, fun _ _ _ => False⟩
  have O : c.Ok := ⟨T.nolimit, T.g, T.b, T.seer (by decide +kernel), rfl⟩
  have TO : TabOk c (mkTab fs04 vals04) := tab_ok T rfl rfl rfl (by kernel_rfl) (by kernel_rfl) (by kernel_rfl)
  have F : Fns4 c := {
    chk := {
      among := has_at (c := c) TA O TO 0 30 0 (by kernel_rfl)
      lines := has_at (c := c) TA O TO 1 30 0 (by kernel_rfl)
      joint := has_at (c := c) TA O TO 2 30 0 (by kernel_rfl)
      layer := has_at (c := c) TA O TO 3 30 0 (by kernel_rfl)
      net := has_at (c := c) TA O TO 4 30 0 (by kernel_rfl) }
    rows := has_at (c := c) TA O TO 5 30 1 (by kernel_rfl)
    does := has_at (c := c) TA O TO 6 30 1 (by kernel_rfl)
    tells := has_at (c := c) TA O TO 7 30 0 (by kernel_rfl)
    cell := has_at (c := c) TA O TO 8 30 0 (by kernel_rfl)
    whole := has_at (c := c) TA O TO 9 30 0 (by kernel_rfl)
    place := has_at (c := c) TA O TO 10 30 0 (by kernel_rfl)
    thinner := has_at (c := c) TA O TO 11 30 0 (by kernel_rfl)
    telling := has_at (c := c) TA O TO 12 30 3 (by kernel_rfl)
    lines := has_at (c := c) TA O TO 13 30 0 (by kernel_rfl)
    wth := has_at (c := c) TA O TO 14 30 2 (by kernel_rfl)
    bent := has_at (c := c) TA O TO 15 30 1 (by kernel_rfl)
    slow := has_at (c := c) TA O TO 16 30 1 (by kernel_rfl)
    due := has_at (c := c) TA O TO 17 30 1 (by kernel_rfl)
    law := has_at (c := c) TA O TO 18 30 1 (by kernel_rfl) }
  refine law_end (c := c) (d := 500) (vs := vs) (l := l) ⟨by decide, by decide, fun _ => rfl, [], rfl, by simp⟩ rfl hg hmg hL hI (by have : sizeLine = 2 ^ 24 := rfl; omega) ?_ ?_
  · exact law4_ok (d := 490) F
  · intro s' h1 h2 h3
    refine GoodW.toG ⟨.inl ⟨.bool true, .bool true, [], rfl, fun _ => ?_, .bool true, ?_, fun h => ?_⟩, h1, h2, h3⟩
    · first | rfl | kernel_rfl
    · first | rfl | kernel_rfl
    · first | (cases h; done) | exact ⟨List.nodup_nil, by simp⟩
